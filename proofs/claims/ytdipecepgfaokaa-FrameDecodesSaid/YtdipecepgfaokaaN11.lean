/- The walk of frame.Decode where the bytes are no frame. -/
import Derived.Test.YtdipecepgfaokaaN10
namespace Go.Proofs.Ytdipecepgfaokaa
set_option linter.unusedSimpArgs false
set_option linter.unusedVariables false
open Go.RowKit

theorem nb_lt (l : List Nat) (h : Byt l) : nb l < 256 ^ l.length := by
  induction l with
  | nil => simp [nb]
  | cons c l ih =>
    have h1 := ih (fun d hd => h d (List.mem_cons_of_mem _ hd))
    have hc := h c List.mem_cons_self
    rw [nb_cons, List.length_cons, Nat.pow_succ]
    have : c * 256 ^ l.length ≤ 255 * 256 ^ l.length := Nat.mul_le_mul_right _ (by omega)
    omega
theorem nb_lt4 {l : List Nat} (h : Byt l) (hl : l.length ≤ 4) : nb l < 4294967296 :=
  Nat.lt_of_lt_of_le (nb_lt l h) (by have : 256 ^ l.length ≤ 256 ^ 4 := Nat.pow_le_pow_right (by decide) hl; simpa using this)
theorem Blk.setCell_self {w : World} {b i : Nat} {c : Array Value} {t : TypeId} {v : Value} (h : Blk w b c t) (hv : c[i]? = some v) : w.setCell ⟨b, i, none⟩ v = w := by
  have e : c.setIfInBounds i v = c := by
    apply Array.ext
    · simp
    · intro j h1 h2
      rw [Array.getElem_setIfInBounds]
      · split
        · rename_i hij; subst hij; rw [Array.getElem?_eq_getElem h2] at hv; exact (Option.some.inj hv).symm
        · rfl
  have hh : (w.setCell ⟨b, i, none⟩ v).heap = w.heap := by
    apply Array.ext_getElem?; intro k
    by_cases hk : k = b
    · subst hk
      exact (h.setCell_same i v).trans (by rw [e]; exact h.symm)
    · exact heap_setCell_other _ _ _ _ hk
  cases w; simp only [World.setCell] at hh ⊢; rw [hh]
theorem OnlyAt.undrew {g : Nat} {w w' : World} (h : OnlyAt g w.drew w') : OnlyAt g w w' := ⟨h.os, h.tape, h.output, h.size, h.block⟩
theorem ne_words (N C : Nat) (hN : N < 4294967296) (hC : C < 4294967296) : (wrap64 (N : Int) != IntKind.i64.wrap (C : Int)) = decide (N ≠ C) := by
  have e1 : wrap64 (N : Int) = N := by unfold wrap64; omega
  have e2 : IntKind.i64.wrap (C : Int) = C := by rw [wrap_i64_eq]; unfold wrap64; omega
  rw [e1, e2, Bool.eq_iff_iff]
  simp [Int.ofNat_inj]
theorem sum_x (v : Value) (xs : List Nat) (C : Nat) (w : World) (hC : crc xs = C) (h : RdB w v xs) (hx : xs.length ≤ 1000000) :
    Calls Try.prog 17 #[v] w fun e w' => e = .returned (.int .u32 (C : Int)) ∧ Below w.heap.size w w' := by
  subst hC; exact sum_c v xs w h hx
/-- Bytes do not lie in a reader's block. -/
theorem rd_only {g : Nat} {w w' : World} {v u : Value} {l : List Nat} (h : OnlyAt g w w') (B : Blk w g #[u] 63) (R : RdB w v l) (hu : ∀ n, u ≠ .int .u8 n := by intro n h; cases h) : RdB w' v l := by
  obtain ⟨hy, ao, cap, rfl, hc, H⟩ := R
  refine ⟨hy, ao, cap, rfl, hc, fun j hj => ?_⟩
  obtain ⟨b, o, e, hb, hv⟩ := H j hj
  have hne : b ≠ g := by
    rintro rfl
    rw [B.at] at hv
    rcases hoj : o + j with _ | k
    · rw [hoj] at hv; exact hu _ (Option.some.inj hv)
    · rw [hoj, Array.getElem?_eq_none (by simp)] at hv; cases hv
  exact ⟨b, o, e, Nat.lt_of_lt_of_le hb h.size, (World.cell?_of_block (a := ⟨b, o + j, none⟩) (h.block b hb hne)).trans hv⟩
theorem no_u8 (k s bo sq st ds ta tb wh wn x y a b d n : Int) (i : Nat) : (#[.int .i64 k, .int .i64 s, .int .i64 bo, .int .i64 sq, .int .i64 st, .int .i64 ds, .int .i64 ta, .int .i64 tb, .int .i64 wh, .int .i64 wn, .int .i64 x, .int .i64 y, .int .i64 a, .int .i64 b, .int .i64 d] : Array Value)[i]? ≠ some (.int .u8 n) := by
  intro e
  rcases i with _ | _ | _ | _ | _ | _ | _ | _ | _ | _ | _ | _ | _ | _ | _ | i
  all_goals first | (cases e; done) | (simp at e)
/-- Bytes do not lie in a frame's block. -/
theorem rd_only15 {g : Nat} {w w' : World} {v : Value} {l : List Nat} {k s bo sq st ds ta tb wh wn x y a b d : Int} (h : OnlyAt g w w') (B : Blk w g #[.int .i64 k, .int .i64 s, .int .i64 bo, .int .i64 sq, .int .i64 st, .int .i64 ds, .int .i64 ta, .int .i64 tb, .int .i64 wh, .int .i64 wn, .int .i64 x, .int .i64 y, .int .i64 a, .int .i64 b, .int .i64 d] 29) (R : RdB w v l) : RdB w' v l := by
  obtain ⟨hy, ao, cap, rfl, hc, H⟩ := R
  refine ⟨hy, ao, cap, rfl, hc, fun j hj => ?_⟩
  obtain ⟨b, o, e, hb, hv⟩ := H j hj
  have hne : b ≠ g := by
    rintro rfl
    rw [B.at] at hv
    exact no_u8 _ _ _ _ _ _ _ _ _ _ _ _ _ _ _ _ _ hv
  exact ⟨b, o, e, Nat.lt_of_lt_of_le hb h.size, (World.cell?_of_block (a := ⟨b, o + j, none⟩) (h.block b hb hne)).trans hv⟩
theorem take_x (g : Nat) (v : Value) (l : List Nat) (off wd off' : Nat) (z : Int) (he : off' = off + wd) (hz : wrap64 (nAt l off wd) = z) (h0 : 0 < wd) (hw : off' ≤ l.length) (hl : l.length ≤ 1000000) (w : World) (B : Blk w g #[v] 63) (h : RdB w v (l.drop off)) :
    Calls Try.prog 29 #[.pointer (some ⟨g, 0, none⟩), .int .i64 (wd : Int)] w fun e w' => (∃ v', e = .returned (.int .i64 z) ∧ Blk w' g #[v'] 63 ∧ RdB w' v' (l.drop off')) ∧ OnlyAt g w w' := by
  subst hz; exact take_at g v l off wd off' he h0 hw hl w B h
theorem small_x (g : Nat) (v : Value) (l : List Nat) (off off' : Nat) (z : Int) (he : off' = off + 4) (hz : wrap32 (nAt l off 4) = z) (hw : off' ≤ l.length) (hl : l.length ≤ 1000000) (w : World) (B : Blk w g #[v] 63) (h : RdB w v (l.drop off)) :
    Calls Try.prog 30 #[.pointer (some ⟨g, 0, none⟩)] w fun e w' => (∃ v', e = .returned (.int .i64 z) ∧ Blk w' g #[v'] 63 ∧ RdB w' v' (l.drop off')) ∧ OnlyAt g w w' := by
  subst hz; exact small_at g v l off off' he hw hl w B h
abbrev frZ : Value := frC 0 0 0 0 0 0 0 0 0 0 0 0 0 0 0
set_option maxRecDepth 100000 in
set_option maxHeartbeats 4000000 in
theorem decode_short (v : Value) (l : List Nat) (w : World) (h : RdB w v l) (hl : l.length < 80) :
    Calls Try.prog 14 #[v] w fun e w' => e = .returned (.tuple #[frZ, .int .i64 4]) ∧ Below w.heap.size w w' := by
  obtain ⟨ao, cap, rfl⟩ := h.form
  obtain ⟨n, hn⟩ : ∃ n, l.length = n := ⟨_, rfl⟩
  rw [hn] at hl ⊢
  clear hn h
  have hi : (n : Int) < 80 := by omega
  go_enter Try.func14, Try.ntmps14
  go_wp2_with fail
  exact bodyPost_row_t 15 #[.int .i64 0, .int .i64 0, .int .i64 0, .int .i64 0, .int .i64 0, .int .i64 0, .int .i64 0, .int .i64 0, .int .i64 0, .int .i64 0, .int .i64 0, .int .i64 0, .int .i64 0, .int .i64 0, .int .i64 0] (.int .i64 4) rfl rfl rfl rfl Try.underlying29 rfl (by kernel_rfl) (row_of_cells 14 _ rfl (by intro i hi; rcases i with _ | _ | _ | _ | _ | _ | _ | _ | _ | _ | _ | _ | _ | _ | _ | i; (go_simp); (go_simp); (go_simp); (go_simp); (go_simp); (go_simp); (go_simp); (go_simp); (go_simp); (go_simp); (go_simp); (go_simp); (go_simp); (go_simp); (go_simp); exact absurd hi (by omega))) ⟨rfl, (by repeat (first | with_reducible exact Below.refl _ _ | with_reducible exact Below_of_hid (by assumption) | with_reducible refine Below.drew ?_ | with_reducible refine below_drewN ?_ _ | (with_reducible refine Below_putRow ?_ ?hB _ _; case hB => (first | omega | (simp; done) | (simp; omega))) | (with_reducible refine Below.alloc ?_ ?hB _; case hB => (first | omega | (simp; done) | (simp; omega))) | (with_reducible refine Below.setCell ?_ ?hB _; case hB => (first | omega | (simp; done) | (simp; omega))) | (with_reducible refine Below.trans ?_ (Below.mono (by assumption) ?hB); case hB => (first | omega | (simp; done) | (simp; omega)))))⟩
set_option maxRecDepth 100000 in
set_option maxHeartbeats 4000000 in
theorem decode_long (v : Value) (l : List Nat) (w : World) (h : RdB w v l) (hl : 80 < l.length) :
    Calls Try.prog 14 #[v] w fun e w' => e = .returned (.tuple #[frZ, .int .i64 5]) ∧ Below w.heap.size w w' := by
  obtain ⟨ao, cap, rfl⟩ := h.form
  obtain ⟨n, hn⟩ : ∃ n, l.length = n := ⟨_, rfl⟩
  rw [hn] at hl ⊢
  clear hn h
  have hi : ¬ (n : Int) < 80 := by omega
  have hj : (80 : Int) < (n : Int) := by omega
  go_enter Try.func14, Try.ntmps14
  go_wp2_with fail
  exact bodyPost_row_t 15 #[.int .i64 0, .int .i64 0, .int .i64 0, .int .i64 0, .int .i64 0, .int .i64 0, .int .i64 0, .int .i64 0, .int .i64 0, .int .i64 0, .int .i64 0, .int .i64 0, .int .i64 0, .int .i64 0, .int .i64 0] (.int .i64 5) rfl rfl rfl rfl Try.underlying29 rfl (by kernel_rfl) (row_of_cells 14 _ rfl (by intro i hi; rcases i with _ | _ | _ | _ | _ | _ | _ | _ | _ | _ | _ | _ | _ | _ | _ | i; (go_simp); (go_simp); (go_simp); (go_simp); (go_simp); (go_simp); (go_simp); (go_simp); (go_simp); (go_simp); (go_simp); (go_simp); (go_simp); (go_simp); (go_simp); exact absurd hi (by omega))) ⟨rfl, (by repeat (first | with_reducible exact Below.refl _ _ | with_reducible exact Below_of_hid (by assumption) | with_reducible refine Below.drew ?_ | with_reducible refine below_drewN ?_ _ | (with_reducible refine Below_putRow ?_ ?hB _ _; case hB => (first | omega | (simp; done) | (simp; omega))) | (with_reducible refine Below.alloc ?_ ?hB _; case hB => (first | omega | (simp; done) | (simp; omega))) | (with_reducible refine Below.setCell ?_ ?hB _; case hB => (first | omega | (simp; done) | (simp; omega))) | (with_reducible refine Below.trans ?_ (Below.mono (by assumption) ?hB); case hB => (first | omega | (simp; done) | (simp; omega)))))⟩
set_option maxRecDepth 100000 in
set_option maxHeartbeats 4000000 in
theorem decode_magic (v : Value) (l : List Nat) (w : World) (h : RdB w v l) (hl : l.length = 80) (hm : l.take 4 ≠ [97, 108, 105, 49]) :
    Calls Try.prog 14 #[v] w fun e w' => e = .returned (.tuple #[frZ, .int .i64 5]) ∧ Below w.heap.size w w' := by
  obtain ⟨ao, cap, rfl⟩ := h.form
  have hy := h.1
  have hcap : 80 ≤ cap := by obtain ⟨_, _, _, e, hc, _⟩ := h; cases e; omega
  obtain ⟨b, o, rfl, hb, hc0⟩ : ∃ b o, ao = some ⟨b, o, none⟩ ∧ b < w.heap.size ∧ w.cell? ⟨b, o + 0, none⟩ = some (.int .u8 ((l.getD 0 0 : Nat) : Int)) := by
    obtain ⟨_, ao', _, e, _, H⟩ := h; cases e; exact H 0 (by omega)
  have h4 := h.cutL 4 cap (by omega) (by omega)
  rw [hl] at h ⊢
  have hcv := conv_rd (h4.below (w' := w.alloc (Obj.cells #[.int .i64 0, .int .i64 0, .int .i64 0, .int .i64 0, .int .i64 0, .int .i64 0, .int .i64 0, .int .i64 0, .int .i64 0, .int .i64 0, .int .i64 0, .int .i64 0, .int .i64 0, .int .i64 0, .int .i64 0] 29)) ((Below.refl _ _).alloc (Nat.le_refl _) _))
  obtain ⟨M, hM⟩ : ∃ M, M = l.take 4 := ⟨_, rfl⟩
  rw [← hM] at hcv hm
  have hyM : Byt M := by rw [hM]; exact byt_take hy 4
  have hne : ∀ w', Sem.run Try.prog (binOp .neq 9 (strB M) (Value.string { data := #[97, 108, 105, 49] })) w' = .ok (.bool true) w' := fun w' => by
    have := neq_strB M [97, 108, 105, 49] hyM (by intro c hc; simp at hc; omega) 9 w'
    rw [decide_eq_true hm] at this; exact this
  have hgd : ∀ (x y : Operand) (w' : World), Sem.run Try.prog (eqGuard .neq 9 x y (strB M) (Value.string { data := #[97, 108, 105, 49] })) w' = .ok () w' := fun x y w' => eqg_strB .neq 9 x y M [97, 108, 105, 49] w'
  clear hM h4 h hc0 hb
  go_enter Try.func14, Try.ntmps14
  go_wp2_with fail
  exact bodyPost_row_t 15 #[.int .i64 0, .int .i64 0, .int .i64 0, .int .i64 0, .int .i64 0, .int .i64 0, .int .i64 0, .int .i64 0, .int .i64 0, .int .i64 0, .int .i64 0, .int .i64 0, .int .i64 0, .int .i64 0, .int .i64 0] (.int .i64 5) rfl rfl rfl rfl Try.underlying29 rfl (by kernel_rfl) (row_of_cells 14 _ rfl (by intro i hi; rcases i with _ | _ | _ | _ | _ | _ | _ | _ | _ | _ | _ | _ | _ | _ | _ | i; (go_simp); (go_simp); (go_simp); (go_simp); (go_simp); (go_simp); (go_simp); (go_simp); (go_simp); (go_simp); (go_simp); (go_simp); (go_simp); (go_simp); (go_simp); exact absurd hi (by omega))) ⟨rfl, (by repeat (first | with_reducible exact Below.refl _ _ | with_reducible exact Below_of_hid (by assumption) | with_reducible refine Below.drew ?_ | with_reducible refine below_drewN ?_ _ | (with_reducible refine Below_putRow ?_ ?hB _ _; case hB => (first | omega | (simp; done) | (simp; omega))) | (with_reducible refine Below.alloc ?_ ?hB _; case hB => (first | omega | (simp; done) | (simp; omega))) | (with_reducible refine Below.setCell ?_ ?hB _; case hB => (first | omega | (simp; done) | (simp; omega))) | (with_reducible refine Below.trans ?_ (Below.mono (by assumption) ?hB); case hB => (first | omega | (simp; done) | (simp; omega)))))⟩
end Go.Proofs.Ytdipecepgfaokaa
