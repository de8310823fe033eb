/- The walk of golden's ask and most. -/
import Derived.Test.YtplhfngcmjopcaaProg
import Derived.Test.YtplhfngcmjopcaaRow
import Derived.Test.YtplhfngcmjopcaaG0
import Derived.BigRegion
namespace Go.Proofs.Ytplhfngcmjopcaa
open Go.RowKit

/-- w' differs from w only in new blocks, and from block B on in blocks of the two types. -/
def Side (t u : TypeId) (B : Nat) (w w' : World) : Prop :=
  w'.os = w.os ∧ w'.tape = w.tape ∧ w'.output = w.output ∧ w.heap.size ≤ w'.heap.size ∧ ∀ k, k < w.heap.size → (B ≤ k → ∀ cs, ¬ Blk w k cs t ∧ ¬ Blk w k cs u) → w'.heap[k]? = w.heap[k]?
/-- The blocks of a type are as they were. -/
def Keeps (t : TypeId) (w w' : World) : Prop := w.heap.size ≤ w'.heap.size ∧ ∀ k cs, Blk w k cs t → Blk w' k cs t
section
variable {t u : TypeId} {B : Nat} {w w' w'' : World}
theorem Side.refl : Side t u B w w := ⟨rfl, rfl, rfl, Nat.le_refl _, fun _ _ _ => rfl⟩
theorem Side.alloc (h : Side t u B w w') (o : Obj) : Side t u B w (w'.alloc o) :=
  ⟨h.1, h.2.1, h.2.2.1, by have := h.2.2.2.1; simp; omega, fun k hk hn => by rw [Below.heap_alloc w' o k (Nat.lt_of_lt_of_le hk h.2.2.2.1)]; exact h.2.2.2.2 k hk hn⟩
theorem Side.drew (h : Side t u B w w') : Side t u B w w'.drew := h
/-- A turn at a block g: from B on, of one of the two types, or new. -/
theorem Side.turn (h : Side t u B w w') (g : Nat) (hB : B ≤ g) (hg : w.heap.size ≤ g ∨ ∃ cs, Blk w g cs t ∨ Blk w g cs u) (w2 : World) (ho : w2.os = w'.os) (ht : w2.tape = w'.tape) (hp : w2.output = w'.output) (hs : w2.heap.size = w'.heap.size)
    (hk : ∀ k, k ≠ g → w2.heap[k]? = w'.heap[k]?) : Side t u B w w2 :=
  ⟨by rw [ho]; exact h.1, by rw [ht]; exact h.2.1, by rw [hp]; exact h.2.2.1, by rw [hs]; exact h.2.2.2.1, fun k hk2 hn => by
    rw [hk k (fun e => ?_)]
    · exact h.2.2.2.2 k hk2 hn
    · subst e
      rcases hg with hg | ⟨cs, hg | hg⟩
      · omega
      · exact (hn hB cs).1 hg
      · exact (hn hB cs).2 hg⟩
theorem Side.setCell (h : Side t u B w w') (g i : Nat) (v : Value) (hB : B ≤ g) (hg : w.heap.size ≤ g ∨ ∃ cs, Blk w g cs t ∨ Blk w g cs u) : Side t u B w (w'.setCell ⟨g, i, none⟩ v) :=
  h.turn g hB hg _ rfl rfl rfl (by simp) (fun k hk => heap_setCell_other w' ⟨g, i, none⟩ k v hk)
theorem Side.putRow (h : Side t u B w w') (g o : Nat) (cs : Array Value) (hB : B ≤ g) (hg : w.heap.size ≤ g ∨ ∃ cs, Blk w g cs t ∨ Blk w g cs u) : Side t u B w (w'.putRow g o cs) :=
  h.turn g hB hg _ rfl rfl rfl (by simp) (fun k hk => heap_putRow_other g o cs k hk)
theorem Keeps.refl : Keeps t w w := ⟨Nat.le_refl _, fun _ _ h => h⟩
theorem Keeps.trans (h : Keeps t w w') (h' : Keeps t w' w'') : Keeps t w w'' := ⟨Nat.le_trans h.1 h'.1, fun k cs hb => h'.2 k cs (h.2 k cs hb)⟩
theorem Keeps.alloc (h : Keeps t w w') (o : Obj) : Keeps t w (w'.alloc o) := ⟨by have := h.1; simp; omega, fun k cs hb => (h.2 k cs hb).alloc o⟩
theorem Keeps.drew (h : Keeps t w w') : Keeps t w w'.drew := h
end

theorem most_c (n m : Int) (p q : Bool) (w : World) :
    Calls Try.prog 12 #[.agg #[.int .i64 n, .bool p], .agg #[.int .i64 m, .bool q]] w fun e w' => e = .returned (.bool (gm (n, p) (m, q))) ∧ Below w.heap.size w w' := by
  cases q
  · go_enter Try.func12, Try.ntmps12
    go_wp2
    go_ret
    exact ⟨rfl, (by repeat (first | exact Below.refl _ _ | exact Below_of_hid (by assumption) | refine Below.drew ?_ | refine below_drewN ?_ _ | refine Below_putRow ?_ (by first | omega | (simp; done) | (simp; omega) | fail) _ _ | refine Below.alloc ?_ (by first | omega | (simp; done) | (simp; omega) | fail) _ | refine Below.setCell ?_ (by first | omega | (simp; done) | (simp; omega) | fail) _ | refine Below.trans ?_ (Below.mono (by assumption) (by first | omega | (simp; done) | (simp; omega) | fail))))⟩
  · cases p
    · go_enter Try.func12, Try.ntmps12
      go_wp2
      go_ret
      exact ⟨rfl, (by repeat (first | exact Below.refl _ _ | exact Below_of_hid (by assumption) | refine Below.drew ?_ | refine below_drewN ?_ _ | refine Below_putRow ?_ (by first | omega | (simp; done) | (simp; omega) | fail) _ _ | refine Below.alloc ?_ (by first | omega | (simp; done) | (simp; omega) | fail) _ | refine Below.setCell ?_ (by first | omega | (simp; done) | (simp; omega) | fail) _ | refine Below.trans ?_ (Below.mono (by assumption) (by first | omega | (simp; done) | (simp; omega) | fail))))⟩
    · have E : Hid (gm (n, true) (m, true) = decide (n ≤ m)) := rfl
      go_enter Try.func12, Try.ntmps12
      go_wp2
      go_ret
      exact ⟨by rw [E.out]; rfl, (by repeat (first | exact Below.refl _ _ | exact Below_of_hid (by assumption) | refine Below.drew ?_ | refine below_drewN ?_ _ | refine Below_putRow ?_ (by first | omega | (simp; done) | (simp; omega) | fail) _ _ | refine Below.alloc ?_ (by first | omega | (simp; done) | (simp; omega) | fail) _ | refine Below.setCell ?_ (by first | omega | (simp; done) | (simp; omega) | fail) _ | refine Below.trans ?_ (Below.mono (by assumption) (by first | omega | (simp; done) | (simp; omega) | fail))))⟩

theorem Blk.ne {w : World} {b b' : Nat} {c c' : Array Value} {t t' : TypeId} (h : Blk w b c t) (h' : Blk w b' c' t') (hne : t ≠ t') : b ≠ b' := by
  rintro rfl
  unfold Blk at h h'
  rw [h] at h'
  injection h' with h'
  injection h' with _ ht
  exact hne ht
/-- What the walk asks of a block that is known whole. -/
theorem Blk.facts {w : World} {b : Nat} {c : Array Value} {t : TypeId} (h : Blk w b c t) :
    b < w.heap.size ∧ (∀ o, w.cell? ⟨b, o, none⟩ = c[o]?) ∧ (∀ o, w.frozen? ⟨b, o, none⟩ = false) ∧ (∀ n, w.fits b n = decide (n ≤ c.size)) ∧ (∀ o cs, o + cs.size ≤ c.size → ones cs = true → w.put? b o cs = some (w.putRow b o cs)) ∧ w.row? b 0 c.size = some c :=
  ⟨h.lt, h.at, h.frozen, fun n => by unfold World.fits; unfold Blk at h; rw [h]; rfl, fun o cs h1 h2 => h.put? o cs h1 h2, h.row?_all _ rfl⟩

theorem gask_w (V : Int → Int × Bool) (x : Int) (s : GS) : (gask V x s).w = bif better V x s then x else s.w := by unfold gask; cases better V x s <;> rfl
theorem gask_n (V : Int → Int × Bool) (x : Int) (s : GS) : (gask V x s).n = bif better V x s then (V x).1 else s.n := by unfold gask; cases better V x s <;> rfl
theorem gask_ok (V : Int → Int × Bool) (x : Int) (s : GS) : (gask V x s).ok = bif better V x s then true else s.ok := by unfold gask; cases better V x s <;> rfl

set_option maxRecDepth 100000 in
set_option maxHeartbeats 1000000 in
theorem ask_c (fn : FuncId) (caps : Array Value) (g B : Nat) (V : Int → Int × Bool) (n : Int) (p : Bool) (I : List Int → World → Prop) (s : GS) (x : Int) (w : World) (hV : V x = (n, p)) (hfn : ∀ args w, Sem.run Try.prog (callFunc fn args) w = .ok (.enter fn args) w)
    (hS : ∀ l w w', Side 50 52 B w w' → I l w → I l w')
    (hC : ∀ w, I s.asked w → Calls Try.prog fn (#[.int .i64 x] ++ caps) w fun e w' => e = .returned (.tuple #[.int .i64 n, .bool p]) ∧ I (s.asked ++ [x]) w' ∧ Keeps 50 w w' ∧ Keeps 52 w w')
    (hg : Blk w g #[.func (.func fn) #[] caps, .int .i64 s.w, .int .i64 s.n, .bool s.ok] 52) (hB : B ≤ g) (hBw : B ≤ w.heap.size) (hI : I s.asked w) :
    Calls Try.prog 11 #[.pointer (some ⟨g, 0, none⟩), .int .i64 x] w fun e w' => e = .returned (.agg #[.int .i64 n, .bool p]) ∧ I (gask V x s).asked w' ∧
      Blk w' g #[.func (.func fn) #[] caps, .int .i64 (gask V x s).w, .int .i64 (gask V x s).n, .bool (gask V x s).ok] 52 ∧ w.heap.size ≤ w'.heap.size ∧ Keeps 50 w w' := by
  obtain ⟨y0, c0, f0, t0, p0, r0⟩ := hg.facts
  have M : Hid (∀ W, I s.asked W → Calls Try.prog fn (#[.int .i64 x] ++ caps) W fun e w' => e = .returned (.tuple #[.int .i64 n, .bool p]) ∧ I (s.asked ++ [x]) w' ∧ Keeps 50 W w' ∧ Keeps 52 W w') := hC
  have HS := Lib.hid hS
  have HI := Lib.hid hI
  have HG := Lib.hid hg
  have HV := Lib.hid hV
  clear hC hS hI hg hV
  go_enter Try.func11, Try.ntmps11
  go_wp2_with fail
  refine (M.out _ (HS.out _ _ _ (Side.refl.alloc _) HI.out)).mono ?_; rintro e w1 ⟨rfl, hI1, k50, k52⟩
  have HI1 := Lib.hid hI1
  have HB1 := Lib.hid (k50.2 _ _ (Blk.new w _ _))
  have HG1 := Lib.hid (k52.2 _ _ (HG.out.alloc _))
  have K50 := Lib.hid k50
  have K52 := Lib.hid k52
  clear hI1 k50 k52 c0 f0 t0 p0 r0 HI
  obtain ⟨y1, c1, f1, t1, p1, r1⟩ := HG1.out.facts
  obtain ⟨y2, c2, f2, t2, p2, r2⟩ := HB1.out.facts
  have ne1 : ¬ (g = w.heap.size) := by omega
  have ne2 : ¬ (w.heap.size = g) := by omega
  have ne3 : ¬ (g = w1.heap.size) := by omega
  have ne4 : ¬ (w.heap.size = w1.heap.size) := by omega
  obtain ⟨sw, hsw⟩ : ∃ k, k = s.w := ⟨_, rfl⟩
  obtain ⟨sn, hsn⟩ : ∃ k, k = s.n := ⟨_, rfl⟩
  obtain ⟨so, hso⟩ : ∃ k, k = s.ok := ⟨_, rfl⟩
  have GA : Hid (better V x s = (p && (!so || decide (n < sn) || (n == sn && decide (x < sw))))) := by unfold better; rw [HV.out, hsw, hsn, hso]; exact rfl
  simp only [← hsw, ← hsn, ← hso] at c1 r1
  have HW := Lib.hid hsw
  have HN := Lib.hid hsn
  have HO := Lib.hid hso
  clear hsw hsn hso
  cases p
  · have GB : Hid (better V x s = false) := by rw [GA.out]; exact rfl
    clear GA
    go_wp2
    refine bodyPost_row 2 #[.int .i64 n, .bool _] rfl rfl rfl Try.underlying50 rfl (by kernel_rfl) (row_of_cells 1 _ rfl (by intro i hi; rcases i with _ | _ | i; (go_simp); (go_simp); exact absurd hi (by omega))) ⟨rfl, ?_, ?_, ?_, ?_⟩; (focus (rw [gask_len]; exact HS.out _ _ _ (by repeat (first | with_reducible exact Side.refl | with_reducible refine Side.alloc ?_ _ | with_reducible refine Side.drew ?_ | (with_reducible refine Side.setCell (g := g) ?_ _ _ ?hB (.inr ⟨_, .inr HG1.out⟩); case hB => omega) | (with_reducible refine Side.setCell ?_ _ _ _ ?hB (.inr ⟨_, .inl HB1.out⟩); case hB => omega))) HI1.out)); (focus (rw [gask_w, gask_n, gask_ok, GB.out]; apply Blk.of_eq; (focus ((repeat (first | with_reducible exact HG1.out | with_reducible apply Blk.alloc | with_reducible apply Blk.drew | with_reducible apply Blk.setCell_same (b := g) | (with_reducible apply Blk.setCell_other; case hne => (first | omega | (simp; done) | (simp; omega))))))); (focus (first | rfl | (simp [HW.out.symm, HN.out.symm, HO.out.symm, HV.out]; done) | (simp [HW.out.symm, HN.out.symm, HO.out.symm, HV.out]; omega))))); (focus (first | (simp; done) | (simp; omega))); exact ⟨(by first | (simp; done) | (simp; omega)), (fun k cs hb => (by have hk := hb.lt; have hk2 := Blk.ne hb HG.out (by decide); have hb2 := K50.out.2 k cs (hb.alloc _); repeat (first | with_reducible exact hb2 | with_reducible refine Blk.alloc ?_ _ | with_reducible refine Blk.drew ?_ | (with_reducible apply Blk.setCell_other; case hne => (first | omega | (simp; done) | (simp; omega))))))⟩
  · cases so
    · have GB : Hid (better V x s = true) := by rw [GA.out]; exact rfl
      clear GA
      go_wp2_with fail
      go_region
      all_goals go_wp2
      all_goals (refine bodyPost_row 2 #[.int .i64 n, .bool _] rfl rfl rfl Try.underlying50 rfl (by kernel_rfl) (row_of_cells 1 _ rfl (by intro i hi; rcases i with _ | _ | i; (go_simp); (go_simp); exact absurd hi (by omega))) ⟨rfl, ?_, ?_, ?_, ?_⟩; (focus (rw [gask_len]; exact HS.out _ _ _ (by repeat (first | with_reducible exact Side.refl | with_reducible refine Side.alloc ?_ _ | with_reducible refine Side.drew ?_ | (with_reducible refine Side.setCell (g := g) ?_ _ _ ?hB (.inr ⟨_, .inr HG1.out⟩); case hB => omega) | (with_reducible refine Side.setCell ?_ _ _ _ ?hB (.inr ⟨_, .inl HB1.out⟩); case hB => omega))) HI1.out)); (focus (rw [gask_w, gask_n, gask_ok, GB.out]; apply Blk.of_eq; (focus ((repeat (first | with_reducible exact HG1.out | with_reducible apply Blk.alloc | with_reducible apply Blk.drew | with_reducible apply Blk.setCell_same (b := g) | (with_reducible apply Blk.setCell_other; case hne => (first | omega | (simp; done) | (simp; omega))))))); (focus (first | rfl | (simp [HW.out.symm, HN.out.symm, HO.out.symm, HV.out]; done) | (simp [HW.out.symm, HN.out.symm, HO.out.symm, HV.out]; omega))))); (focus (first | (simp; done) | (simp; omega))); exact ⟨(by first | (simp; done) | (simp; omega)), (fun k cs hb => (by have hk := hb.lt; have hk2 := Blk.ne hb HG.out (by decide); have hb2 := K50.out.2 k cs (hb.alloc _); repeat (first | with_reducible exact hb2 | with_reducible refine Blk.alloc ?_ _ | with_reducible refine Blk.drew ?_ | (with_reducible apply Blk.setCell_other; case hne => (first | omega | (simp; done) | (simp; omega))))))⟩)
    · by_cases h1 : n < sn
      · have GB : Hid (better V x s = true) := by show better V x s = _; rw [GA.out]; simp [h1]
        clear GA
        go_wp2_with fail
        go_region
        all_goals go_wp2
        all_goals (refine bodyPost_row 2 #[.int .i64 n, .bool _] rfl rfl rfl Try.underlying50 rfl (by kernel_rfl) (row_of_cells 1 _ rfl (by intro i hi; rcases i with _ | _ | i; (go_simp); (go_simp); exact absurd hi (by omega))) ⟨rfl, ?_, ?_, ?_, ?_⟩; (focus (rw [gask_len]; exact HS.out _ _ _ (by repeat (first | with_reducible exact Side.refl | with_reducible refine Side.alloc ?_ _ | with_reducible refine Side.drew ?_ | (with_reducible refine Side.setCell (g := g) ?_ _ _ ?hB (.inr ⟨_, .inr HG1.out⟩); case hB => omega) | (with_reducible refine Side.setCell ?_ _ _ _ ?hB (.inr ⟨_, .inl HB1.out⟩); case hB => omega))) HI1.out)); (focus (rw [gask_w, gask_n, gask_ok, GB.out]; apply Blk.of_eq; (focus ((repeat (first | with_reducible exact HG1.out | with_reducible apply Blk.alloc | with_reducible apply Blk.drew | with_reducible apply Blk.setCell_same (b := g) | (with_reducible apply Blk.setCell_other; case hne => (first | omega | (simp; done) | (simp; omega))))))); (focus (first | rfl | (simp [HW.out.symm, HN.out.symm, HO.out.symm, HV.out]; done) | (simp [HW.out.symm, HN.out.symm, HO.out.symm, HV.out]; omega))))); (focus (first | (simp; done) | (simp; omega))); exact ⟨(by first | (simp; done) | (simp; omega)), (fun k cs hb => (by have hk := hb.lt; have hk2 := Blk.ne hb HG.out (by decide); have hb2 := K50.out.2 k cs (hb.alloc _); repeat (first | with_reducible exact hb2 | with_reducible refine Blk.alloc ?_ _ | with_reducible refine Blk.drew ?_ | (with_reducible apply Blk.setCell_other; case hne => (first | omega | (simp; done) | (simp; omega))))))⟩)
      · by_cases h2 : n = sn
        · by_cases h3 : x < sw
          · have GB : Hid (better V x s = true) := by show better V x s = _; rw [GA.out]; simp [h2, h3]
            clear GA
            go_wp2_with fail
            go_region
            all_goals go_wp2
            all_goals (refine bodyPost_row 2 #[.int .i64 n, .bool _] rfl rfl rfl Try.underlying50 rfl (by kernel_rfl) (row_of_cells 1 _ rfl (by intro i hi; rcases i with _ | _ | i; (go_simp); (go_simp); exact absurd hi (by omega))) ⟨rfl, ?_, ?_, ?_, ?_⟩; (focus (rw [gask_len]; exact HS.out _ _ _ (by repeat (first | with_reducible exact Side.refl | with_reducible refine Side.alloc ?_ _ | with_reducible refine Side.drew ?_ | (with_reducible refine Side.setCell (g := g) ?_ _ _ ?hB (.inr ⟨_, .inr HG1.out⟩); case hB => omega) | (with_reducible refine Side.setCell ?_ _ _ _ ?hB (.inr ⟨_, .inl HB1.out⟩); case hB => omega))) HI1.out)); (focus (rw [gask_w, gask_n, gask_ok, GB.out]; apply Blk.of_eq; (focus ((repeat (first | with_reducible exact HG1.out | with_reducible apply Blk.alloc | with_reducible apply Blk.drew | with_reducible apply Blk.setCell_same (b := g) | (with_reducible apply Blk.setCell_other; case hne => (first | omega | (simp; done) | (simp; omega))))))); (focus (first | rfl | (simp [HW.out.symm, HN.out.symm, HO.out.symm, HV.out]; done) | (simp [HW.out.symm, HN.out.symm, HO.out.symm, HV.out]; omega))))); (focus (first | (simp; done) | (simp; omega))); exact ⟨(by first | (simp; done) | (simp; omega)), (fun k cs hb => (by have hk := hb.lt; have hk2 := Blk.ne hb HG.out (by decide); have hb2 := K50.out.2 k cs (hb.alloc _); repeat (first | with_reducible exact hb2 | with_reducible refine Blk.alloc ?_ _ | with_reducible refine Blk.drew ?_ | (with_reducible apply Blk.setCell_other; case hne => (first | omega | (simp; done) | (simp; omega))))))⟩)
          · have GB : Hid (better V x s = false) := by show better V x s = _; rw [GA.out]; simp [h2, h3]
            clear GA
            go_wp2
            refine bodyPost_row 2 #[.int .i64 n, .bool _] rfl rfl rfl Try.underlying50 rfl (by kernel_rfl) (row_of_cells 1 _ rfl (by intro i hi; rcases i with _ | _ | i; (go_simp); (go_simp); exact absurd hi (by omega))) ⟨rfl, ?_, ?_, ?_, ?_⟩; (focus (rw [gask_len]; exact HS.out _ _ _ (by repeat (first | with_reducible exact Side.refl | with_reducible refine Side.alloc ?_ _ | with_reducible refine Side.drew ?_ | (with_reducible refine Side.setCell (g := g) ?_ _ _ ?hB (.inr ⟨_, .inr HG1.out⟩); case hB => omega) | (with_reducible refine Side.setCell ?_ _ _ _ ?hB (.inr ⟨_, .inl HB1.out⟩); case hB => omega))) HI1.out)); (focus (rw [gask_w, gask_n, gask_ok, GB.out]; apply Blk.of_eq; (focus ((repeat (first | with_reducible exact HG1.out | with_reducible apply Blk.alloc | with_reducible apply Blk.drew | with_reducible apply Blk.setCell_same (b := g) | (with_reducible apply Blk.setCell_other; case hne => (first | omega | (simp; done) | (simp; omega))))))); (focus (first | rfl | (simp [HW.out.symm, HN.out.symm, HO.out.symm, HV.out]; done) | (simp [HW.out.symm, HN.out.symm, HO.out.symm, HV.out]; omega))))); (focus (first | (simp; done) | (simp; omega))); exact ⟨(by first | (simp; done) | (simp; omega)), (fun k cs hb => (by have hk := hb.lt; have hk2 := Blk.ne hb HG.out (by decide); have hb2 := K50.out.2 k cs (hb.alloc _); repeat (first | with_reducible exact hb2 | with_reducible refine Blk.alloc ?_ _ | with_reducible refine Blk.drew ?_ | (with_reducible apply Blk.setCell_other; case hne => (first | omega | (simp; done) | (simp; omega))))))⟩
        · have GB : Hid (better V x s = false) := by show better V x s = _; rw [GA.out]; simp [h1, h2]
          clear GA
          go_wp2
          refine bodyPost_row 2 #[.int .i64 n, .bool _] rfl rfl rfl Try.underlying50 rfl (by kernel_rfl) (row_of_cells 1 _ rfl (by intro i hi; rcases i with _ | _ | i; (go_simp); (go_simp); exact absurd hi (by omega))) ⟨rfl, ?_, ?_, ?_, ?_⟩; (focus (rw [gask_len]; exact HS.out _ _ _ (by repeat (first | with_reducible exact Side.refl | with_reducible refine Side.alloc ?_ _ | with_reducible refine Side.drew ?_ | (with_reducible refine Side.setCell (g := g) ?_ _ _ ?hB (.inr ⟨_, .inr HG1.out⟩); case hB => omega) | (with_reducible refine Side.setCell ?_ _ _ _ ?hB (.inr ⟨_, .inl HB1.out⟩); case hB => omega))) HI1.out)); (focus (rw [gask_w, gask_n, gask_ok, GB.out]; apply Blk.of_eq; (focus ((repeat (first | with_reducible exact HG1.out | with_reducible apply Blk.alloc | with_reducible apply Blk.drew | with_reducible apply Blk.setCell_same (b := g) | (with_reducible apply Blk.setCell_other; case hne => (first | omega | (simp; done) | (simp; omega))))))); (focus (first | rfl | (simp [HW.out.symm, HN.out.symm, HO.out.symm, HV.out]; done) | (simp [HW.out.symm, HN.out.symm, HO.out.symm, HV.out]; omega))))); (focus (first | (simp; done) | (simp; omega))); exact ⟨(by first | (simp; done) | (simp; omega)), (fun k cs hb => (by have hk := hb.lt; have hk2 := Blk.ne hb HG.out (by decide); have hb2 := K50.out.2 k cs (hb.alloc _); repeat (first | with_reducible exact hb2 | with_reducible refine Blk.alloc ?_ _ | with_reducible refine Blk.drew ?_ | (with_reducible apply Blk.setCell_other; case hne => (first | omega | (simp; done) | (simp; omega))))))⟩
end Go.Proofs.Ytplhfngcmjopcaa
