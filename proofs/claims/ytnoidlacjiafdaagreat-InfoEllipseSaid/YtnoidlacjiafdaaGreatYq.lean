/- The walk of InfoEllipse. -/
import Derived.Test.YtnoidlacjiafdaaGreatY7
import Derived.Test.YtnoidlacjiafdaaGreatRD
import Derived.Test.YtnoidlacjiafdaaGreatRF
import Derived.BigRegion
namespace Go.Proofs.YtnoidlacjiafdaaGreat
set_option linter.unusedSimpArgs false
set_option linter.unusedVariables false
open Go.RowKit

/-- The numbers that are laid already. -/
def sel (z : Nat → WI) (k m : Nat) : WI := if m < k then z m else WI.of 0
set_option maxRecDepth 100000 in
theorem num_idx (A : Nat → Option Addr) (l c : Nat → Nat) (K : Nat → Int) (k : Nat) (hk : k < 7) (w : World) :
    Sem.run Tryz.prog (Instr.index 55 (.agg #[.slice (A 0) (l 0) (c 0), .int .i64 (K 0), .slice (A 1) (l 1) (c 1), .int .i64 (K 1), .slice (A 2) (l 2) (c 2), .int .i64 (K 2), .slice (A 3) (l 3) (c 3), .int .i64 (K 3), .slice (A 4) (l 4) (c 4), .int .i64 (K 4), .slice (A 5) (l 5) (c 5), .int .i64 (K 5), .slice (A 6) (l 6) (c 6), .int .i64 (K 6)]) (.int .i64 k)) w = .ok (.agg #[.slice (A k) (l k) (c k), .int .i64 (K k)]) w := by
  rcases k with _ | _ | _ | _ | _ | _ | _ | k
  all_goals first | rfl | omega
theorem wi_small (x : WI) (h : x.ov = false) (hb : bl x.sz ≤ 100) : ∃ a, x = WI.of a ∧ Sm 100 a := by
  unfold WI.ov at h
  cases hv : x.v with
  | none => rw [hv] at h; cases h
  | some a =>
    have hs : x.sz = a.natAbs := by unfold WI.sz; rw [hv]
    have hl := x.ok a hv
    refine ⟨a, WI.ext' (by rw [hv, WI.of_v hl]), ?_⟩
    have h1 := (bl_le_iff _ _).1 hb
    rw [hs] at h1
    unfold Sm; exact Nat.le_of_lt h1
theorem blk_no (L : List WI) (i : Nat) (n : Int) : (blk L)[i]? ≠ some (.int .u32 n) := by
  intro h
  have hm : Value.int .u32 n ∈ (blk L).toList := by
    rw [← Array.getElem?_toList] at h
    exact List.mem_of_getElem? h
  rw [blk_toList, List.mem_flatMap] at hm
  obtain ⟨x, -, hx⟩ := hm
  obtain ⟨j, hj⟩ := List.mem_iff_getElem?.1 hx
  rw [Array.getElem?_toList, x.cells_eq] at hj
  exact cellsI_nou32 _ _ _ _ _ hj
set_option maxRecDepth 100000 in
set_option maxHeartbeats 16000000 in
theorem infoEllipse_c (A : Nat → Option Addr) (l c : Nat → Nat) (K : Nat → Int) (z : Nat → WI) (w : World) (hz : ∀ k, k < 7 → NumIs w (.agg #[.slice (A k) (l k) (c k), .int .i64 (K k)]) (z k)) :
    Calls Tryz.prog 4 #[.agg #[.slice (A 0) (l 0) (c 0), .int .i64 (K 0), .slice (A 1) (l 1) (c 1), .int .i64 (K 1), .slice (A 2) (l 2) (c 2), .int .i64 (K 2), .slice (A 3) (l 3) (c 3), .int .i64 (K 3), .slice (A 4) (l 4) (c 4), .int .i64 (K 4), .slice (A 5) (l 5) (c 5), .int .i64 (K 5), .slice (A 6) (l 6) (c 6), .int .i64 (K 6)]] w fun e w' => e = .returned (.bool true) ∧ Below w.heap.size w w' := by
  have HZ := Lib.hid hz
  clear hz
  go_enter Tryz.func4, Tryz.ntmps4
  go_upto_region 3 with fail
  obtain ⟨u0, hu0⟩ : ∃ u, u = ((w.alloc (Obj.cells #[.slice (A 0) (l 0) (c 0), .int .i64 (K 0), .slice (A 1) (l 1) (c 1), .int .i64 (K 1), .slice (A 2) (l 2) (c 2), .int .i64 (K 2), .slice (A 3) (l 3) (c 3), .int .i64 (K 3), .slice (A 4) (l 4) (c 4), .int .i64 (K 4), .slice (A 5) (l 5) (c 5), .int .i64 (K 5), .slice (A 6) (l 6) (c 6), .int .i64 (K 6)] 42)).alloc (Obj.cells (blk [WI.of 0, WI.of 0, WI.of 0, WI.of 0, WI.of 0, WI.of 0, WI.of 0]) 49)).alloc (Obj.cells #[.bool false, .bool false, .slice none 0 0, .bool false, .bool false, .slice none 0 0, .bool false, .bool false, .slice none 0 0, .bool false, .bool false, .slice none 0 0, .bool false, .bool false, .slice none 0 0, .bool false, .bool false, .slice none 0 0, .bool false, .bool false, .slice none 0 0] 54) := ⟨_, rfl⟩
  rw [← hu0]
  have HB : Hid (Below w.heap.size w u0) := by rw [hu0]; show Below w.heap.size w _; exact below_byR
  have X0 : Hid (Blk u0 (w.heap.size) #[.slice (A 0) (l 0) (c 0), .int .i64 (K 0), .slice (A 1) (l 1) (c 1), .int .i64 (K 1), .slice (A 2) (l 2) (c 2), .int .i64 (K 2), .slice (A 3) (l 3) (c 3), .int .i64 (K 3), .slice (A 4) (l 4) (c 4), .int .i64 (K 4), .slice (A 5) (l 5) (c 5), .int .i64 (K 5), .slice (A 6) (l 6) (c 6), .int .i64 (K 6)] 42) := by rw [hu0]; exact ((Blk.new _ _ _).alloc _).alloc _
  have HI : Hid (Blk u0 (w.heap.size + 1) (blk [sel z 0 0, sel z 0 1, sel z 0 2, sel z 0 3, sel z 0 4, sel z 0 5, sel z 0 6]) 49) := by rw [hu0]; exact (Blk.new' _ _ _ (by simp)).alloc _
  have HJ : Hid (Blk u0 (w.heap.size + 1 + 1) #[.bool false, .bool false, .slice none 0 0, .bool false, .bool false, .slice none 0 0, .bool false, .bool false, .slice none 0 0, .bool false, .bool false, .slice none 0 0, .bool false, .bool false, .slice none 0 0, .bool false, .bool false, .slice none 0 0, .bool false, .bool false, .slice none 0 0] 54) := by rw [hu0]; exact Blk.new' _ _ _ (by simp)
  clear hu0
  have q0 := X0.out.cell (i := 0) (v := .slice (A 0) (l 0) (c 0)) rfl
  have q1 := X0.out.cell (i := 1) (v := .int .i64 (K 0)) rfl
  have q2 := X0.out.cell (i := 2) (v := .slice (A 1) (l 1) (c 1)) rfl
  have q3 := X0.out.cell (i := 3) (v := .int .i64 (K 1)) rfl
  have q4 := X0.out.cell (i := 4) (v := .slice (A 2) (l 2) (c 2)) rfl
  have q5 := X0.out.cell (i := 5) (v := .int .i64 (K 2)) rfl
  have q6 := X0.out.cell (i := 6) (v := .slice (A 3) (l 3) (c 3)) rfl
  have q7 := X0.out.cell (i := 7) (v := .int .i64 (K 3)) rfl
  have q8 := X0.out.cell (i := 8) (v := .slice (A 4) (l 4) (c 4)) rfl
  have q9 := X0.out.cell (i := 9) (v := .int .i64 (K 4)) rfl
  have q10 := X0.out.cell (i := 10) (v := .slice (A 5) (l 5) (c 5)) rfl
  have q11 := X0.out.cell (i := 11) (v := .int .i64 (K 5)) rfl
  have q12 := X0.out.cell (i := 12) (v := .slice (A 6) (l 6) (c 6)) rfl
  have q13 := X0.out.cell (i := 13) (v := .int .i64 (K 6)) rfl
  have rl := X0.out.lt
  go_wp2_with fail
  clear rl X0 q0 q1 q2 q3 q4 q5 q6 q7 q8 q9 q10 q11 q12 q13
  go_loopw [28] (fun t28 wr => ∃ (k : Nat) (n0 o0 : Bool) (B0 : Option Addr) (e0 f0 : Nat) (n1 o1 : Bool) (B1 : Option Addr) (e1 f1 : Nat) (n2 o2 : Bool) (B2 : Option Addr) (e2 f2 : Nat) (n3 o3 : Bool) (B3 : Option Addr) (e3 f3 : Nat) (n4 o4 : Bool) (B4 : Option Addr) (e4 f4 : Nat) (n5 o5 : Bool) (B5 : Option Addr) (e5 f5 : Nat) (n6 o6 : Bool) (B6 : Option Addr) (e6 f6 : Nat), k ≤ 7 ∧ t28 = .int .i64 k ∧ Hid (Blk wr (w.heap.size + 1) (blk [sel z k 0, sel z k 1, sel z k 2, sel z k 3, sel z k 4, sel z k 5, sel z k 6]) 49) ∧ Hid (Blk wr (w.heap.size + 1 + 1) #[.bool n0, .bool o0, .slice B0 e0 f0, .bool n1, .bool o1, .slice B1 e1 f1, .bool n2, .bool o2, .slice B2 e2 f2, .bool n3, .bool o3, .slice B3 e3 f3, .bool n4, .bool o4, .slice B4 e4 f4, .bool n5, .bool o5, .slice B5 e5 f5, .bool n6, .bool o6, .slice B6 e6 f6] 54) ∧ Hid (BigIs wr (.agg #[.bool n0, .bool o0, .slice B0 e0 f0]) (sel z k 0)) ∧ Hid (BigIs wr (.agg #[.bool n1, .bool o1, .slice B1 e1 f1]) (sel z k 1)) ∧ Hid (BigIs wr (.agg #[.bool n2, .bool o2, .slice B2 e2 f2]) (sel z k 2)) ∧ Hid (BigIs wr (.agg #[.bool n3, .bool o3, .slice B3 e3 f3]) (sel z k 3)) ∧ Hid (BigIs wr (.agg #[.bool n4, .bool o4, .slice B4 e4 f4]) (sel z k 4)) ∧ Hid (BigIs wr (.agg #[.bool n5, .bool o5, .slice B5 e5 f5]) (sel z k 5)) ∧ Hid (BigIs wr (.agg #[.bool n6, .bool o6, .slice B6 e6 f6]) (sel z k 6)) ∧ Hid (∀ m, m < k → (z m).ov = false ∧ bl (z m).sz ≤ 100) ∧ Hid (Below w.heap.size w wr)) (fun t28 _ => 7 - (intOf t28).toNat)
  case atStart => exact ⟨0, false, false, none, 0, 0, false, false, none, 0, 0, false, false, none, 0, 0, false, false, none, 0, 0, false, false, none, 0, 0, false, false, none, 0, 0, false, false, none, 0, 0, by omega, rfl, HI, HJ, Lib.hid (zeroBig _), Lib.hid (zeroBig _), Lib.hid (zeroBig _), Lib.hid (zeroBig _), Lib.hid (zeroBig _), Lib.hid (zeroBig _), Lib.hid (zeroBig _), Lib.hid (fun m h => absurd h (Nat.not_lt_zero m)), HB⟩
  case round =>
    clear HI HJ HB
    obtain ⟨k, n0, o0, B0, e0, f0, n1, o1, B1, e1, f1, n2, o2, B2, e2, f2, n3, o3, B3, e3, f3, n4, o4, B4, e4, f4, n5, o5, B5, e5, f5, n6, o6, B6, e6, f6, hk, rfl, HI, HJ, C0, C1, C2, C3, C4, C5, C6, HS, HB⟩ := hrel
    by_cases hlt : k < 7
    · have ix := fun w => num_idx A l c K k hlt w
      have hk1 : (k : Int) < 7 := by omega
      have hk0 : (0 : Int) ≤ k := by omega
      go_wp2_with fail
      clear ix
      obtain ⟨x0, hx⟩ : ∃ u, u = wr.alloc (Obj.cells #[.slice (A k) (l k) (c k), .int .i64 (K k)] 40) := ⟨_, rfl⟩
      rw [← hx]
      have hb : Below wr.heap.size wr x0 := by rw [hx]; exact (Below.refl _ _).alloc (Nat.le_refl _) _
      clear hx
      replace HI := Lib.hid (HI.out.keep hb)
      replace HJ := Lib.hid (HJ.out.keep hb)
      replace C0 := Lib.hid (C0.out.below hb)
      replace C1 := Lib.hid (C1.out.below hb)
      replace C2 := Lib.hid (C2.out.below hb)
      replace C3 := Lib.hid (C3.out.below hb)
      replace C4 := Lib.hid (C4.out.below hb)
      replace C5 := Lib.hid (C5.out.below hb)
      replace C6 := Lib.hid (C6.out.below hb)
      replace HB := Lib.hid (HB.out.trans (hb.mono HB.out.size))
      clear hb
      refine Calls.mono (lawOf_r _ (z k) _ ((HZ.out k hlt).below HB.out)) ?_
      rintro e x1 ⟨⟨b, rfl, hq⟩, hb⟩
      replace HI := Lib.hid (HI.out.keep hb)
      replace HJ := Lib.hid (HJ.out.keep hb)
      replace C0 := Lib.hid (C0.out.below hb)
      replace C1 := Lib.hid (C1.out.below hb)
      replace C2 := Lib.hid (C2.out.below hb)
      replace C3 := Lib.hid (C3.out.below hb)
      replace C4 := Lib.hid (C4.out.below hb)
      replace C5 := Lib.hid (C5.out.below hb)
      replace C6 := Lib.hid (C6.out.below hb)
      replace HB := Lib.hid (HB.out.trans (hb.mono HB.out.size))
      clear hb
      obtain ⟨nB, oB, BB, eB, fB, rfl, hB⟩ := hq.lettered
      have CB := Lib.hid hB
      clear hq hB
      go_upto_region 7 with fail
      obtain ⟨x2, hx⟩ : ∃ u, u = (x1.alloc (Obj.cells (z k).cells 47)).alloc (Obj.cells #[.bool nB, .bool oB, .slice BB eB fB] 52) := ⟨_, rfl⟩
      rw [← hx]
      obtain ⟨g, hg⟩ : ∃ g, g = x1.heap.size := ⟨_, rfl⟩
      rw [← hg]
      have gi : w.heap.size + 1 + 1 < g := by rw [hg]; exact HJ.out.lt
      have hb : Below x1.heap.size x1 x2 := by rw [hx]; exact ((Below.refl _ _).alloc (Nat.le_refl _) _).alloc (by simp) _
      have GA : Hid (Blk x2 g (z k).cells 47) := by rw [hx, hg]; exact (Blk.new _ _ _).alloc _
      have GB : Hid (Blk x2 (g + 1) #[.bool nB, .bool oB, .slice BB eB fB] 52) := by rw [hx, hg]; exact Blk.new' _ _ _ (by simp)
      replace CB := Lib.hid (CB.out.below hb)
      clear hx hg
      replace HI := Lib.hid (HI.out.keep hb)
      replace HJ := Lib.hid (HJ.out.keep hb)
      replace C0 := Lib.hid (C0.out.below hb)
      replace C1 := Lib.hid (C1.out.below hb)
      replace C2 := Lib.hid (C2.out.below hb)
      replace C3 := Lib.hid (C3.out.below hb)
      replace C4 := Lib.hid (C4.out.below hb)
      replace C5 := Lib.hid (C5.out.below hb)
      replace C6 := Lib.hid (C6.out.below hb)
      replace HB := Lib.hid (HB.out.trans (hb.mono HB.out.size))
      clear hb
      have q0 := GB.out.cell (i := 0) (v := .bool nB) rfl
      have q1 := GB.out.cell (i := 1) (v := .bool oB) rfl
      have q2 := GB.out.cell (i := 2) (v := .slice BB eB fB) rfl
      have rl := GB.out.lt
      cases oB with
      | true =>
        go_wp2_with fail
        refine Calls.mono (awake6_c _) ?_
        rintro e x9 ⟨rfl, hb⟩
        replace HB := Lib.hid (HB.out.trans (hb.mono HB.out.size))
        clear hb
        go_wp2_with fail
        go_ret
        exact ⟨rfl, HB.out⟩
      | false =>
        go_wp2_with fail
        clear q0 q1 q2 rl
        refine Calls.mono (bitsB_r _ (z k) _ CB.out) ?_
        rintro e x3 ⟨rfl, hb⟩
        replace CB := Lib.hid (CB.out.below hb)
        replace HI := Lib.hid (HI.out.keep hb)
        replace HJ := Lib.hid (HJ.out.keep hb)
        replace GA := Lib.hid (GA.out.keep hb)
        replace GB := Lib.hid (GB.out.keep hb)
        replace C0 := Lib.hid (C0.out.below hb)
        replace C1 := Lib.hid (C1.out.below hb)
        replace C2 := Lib.hid (C2.out.below hb)
        replace C3 := Lib.hid (C3.out.below hb)
        replace C4 := Lib.hid (C4.out.below hb)
        replace C5 := Lib.hid (C5.out.below hb)
        replace C6 := Lib.hid (C6.out.below hb)
        replace HB := Lib.hid (HB.out.trans (hb.mono HB.out.size))
        clear hb
        have ho : (z k).ov = false := (BigIs.flags CB.out).2.symm
        obtain ⟨bb, hbb⟩ : ∃ b, bl (z k).sz = b := ⟨_, rfl⟩
        rw [hbb]
        by_cases hbt : 100 < bb
        · have h1 : (100 : Int) < (bb : Int) := by omega
          go_wp2_with fail
          refine Calls.mono (awake6_c _) ?_
          rintro e x9 ⟨rfl, hb⟩
          replace HB := Lib.hid (HB.out.trans (hb.mono HB.out.size))
          clear hb
          go_wp2_with fail
          go_ret
          exact ⟨rfl, HB.out⟩
        · have h1 : ¬ (100 : Int) < (bb : Int) := by omega
          have HS2 : Hid (∀ m, m < k + 1 → (z m).ov = false ∧ bl (z m).sz ≤ 100) := Lib.hid (fun m hm => by
            rcases (show m < k ∨ m = k by omega) with h | rfl
            · exact HS.out m h
            · exact ⟨ho, by omega⟩)
          clear HS ho hbb
          have r0 := GA.out.row?_all 18 (by simp)
          have q0 := GB.out.cell (i := 0) (v := .bool nB) rfl
          have q1 := GB.out.cell (i := 1) (v := .bool false) rfl
          have q2 := GB.out.cell (i := 2) (v := .slice BB eB fB) rfl
          have rl := GB.out.lt
          have rl2 := GA.out.lt
          have fz := fun i => HJ.out.frozen i
          have m1 : ¬ g = w.heap.size := by omega
          have m2 : ¬ g = w.heap.size + 1 := by omega
          have m3 : ¬ g + 1 = w.heap.size + 1 := by omega
          have m4 : ¬ g + 1 = w.heap.size + 1 + 1 := by omega
          have m5 : ¬ g = w.heap.size + 1 + 1 := by omega
          rcases (by omega : k = 0 ∨ k = 1 ∨ k = 2 ∨ k = 3 ∨ k = 4 ∨ k = 5 ∨ k = 6) with rfl | rfl | rfl | rfl | rfl | rfl | rfl
          · have hp := HI.out.put? 0 (z 0).cells (by simp) (by simp)
            have j0 := HJ.out.cell (i := 0) (v := .bool n0) rfl
            have j1 := HJ.out.cell (i := 1) (v := .bool o0) rfl
            have j2 := HJ.out.cell (i := 2) (v := .slice B0 e0 f0) rfl
            go_wp2_with fail
            go_region
            go_wp2_with fail
            clear hp m1 m2 m3 m4 m5 r0 q0 q1 q2 rl rl2 fz j0 j1 j2
            obtain ⟨v1, hv⟩ : ∃ v, v = x3.putRow (w.heap.size + 1) 0 (z 0).cells := ⟨_, rfl⟩
            rw [← hv]
            have ho : OnlyAt (w.heap.size + 1) x3 v1 := by rw [hv]; exact OnlyAt.refl.putRow _ _
            replace C0 := Lib.hid (C0.out.only ho HI.out (blk_no _))
            replace C1 := Lib.hid (C1.out.only ho HI.out (blk_no _))
            replace C2 := Lib.hid (C2.out.only ho HI.out (blk_no _))
            replace C3 := Lib.hid (C3.out.only ho HI.out (blk_no _))
            replace C4 := Lib.hid (C4.out.only ho HI.out (blk_no _))
            replace C5 := Lib.hid (C5.out.only ho HI.out (blk_no _))
            replace C6 := Lib.hid (C6.out.only ho HI.out (blk_no _))
            replace CB := Lib.hid (CB.out.only ho HI.out (blk_no _))
            replace HJ := Lib.hid (ho.blk HJ.out (by omega))
            replace HB := Lib.hid (OnlyAt.below ho HB.out (Nat.le_refl _) (by omega))
            replace HI : Hid (Blk v1 (w.heap.size + 1) (blk [sel z 1 0, sel z 1 1, sel z 1 2, sel z 1 3, sel z 1 4, sel z 1 5, sel z 1 6]) 49) := by rw [hv]; exact (HI.out.putRow_same _ _).of_eq ((blk_splice _ 0 (z 0) (by simp)).trans rfl)
            clear ho hv
            obtain ⟨v2, hv⟩ : ∃ v, v = ((v1.setCell ⟨w.heap.size + 1 + 1, 0, none⟩ (.bool nB)).setCell ⟨w.heap.size + 1 + 1, 1, none⟩ (.bool false)).setCell ⟨w.heap.size + 1 + 1, 2, none⟩ (.slice BB eB fB) := ⟨_, rfl⟩
            rw [← hv]
            have ho : OnlyAt (w.heap.size + 1 + 1) v1 v2 := by rw [hv]; exact ((OnlyAt.refl.setCell _ _).setCell _ _).setCell _ _
            replace C0 := Lib.hid (C0.out.only ho HJ.out (info_no _ _ _ _ _ _ _ _ _ _ _ _ _ _ _ _ _ _ _ _ _ _ _ _ _ _ _ _ _ _ _ _ _ _ _))
            replace C1 := Lib.hid (C1.out.only ho HJ.out (info_no _ _ _ _ _ _ _ _ _ _ _ _ _ _ _ _ _ _ _ _ _ _ _ _ _ _ _ _ _ _ _ _ _ _ _))
            replace C2 := Lib.hid (C2.out.only ho HJ.out (info_no _ _ _ _ _ _ _ _ _ _ _ _ _ _ _ _ _ _ _ _ _ _ _ _ _ _ _ _ _ _ _ _ _ _ _))
            replace C3 := Lib.hid (C3.out.only ho HJ.out (info_no _ _ _ _ _ _ _ _ _ _ _ _ _ _ _ _ _ _ _ _ _ _ _ _ _ _ _ _ _ _ _ _ _ _ _))
            replace C4 := Lib.hid (C4.out.only ho HJ.out (info_no _ _ _ _ _ _ _ _ _ _ _ _ _ _ _ _ _ _ _ _ _ _ _ _ _ _ _ _ _ _ _ _ _ _ _))
            replace C5 := Lib.hid (C5.out.only ho HJ.out (info_no _ _ _ _ _ _ _ _ _ _ _ _ _ _ _ _ _ _ _ _ _ _ _ _ _ _ _ _ _ _ _ _ _ _ _))
            replace C6 := Lib.hid (C6.out.only ho HJ.out (info_no _ _ _ _ _ _ _ _ _ _ _ _ _ _ _ _ _ _ _ _ _ _ _ _ _ _ _ _ _ _ _ _ _ _ _))
            replace CB := Lib.hid (CB.out.only ho HJ.out (info_no _ _ _ _ _ _ _ _ _ _ _ _ _ _ _ _ _ _ _ _ _ _ _ _ _ _ _ _ _ _ _ _ _ _ _))
            replace HI := Lib.hid (ho.blk HI.out (by omega))
            replace HB := Lib.hid (OnlyAt.below ho HB.out (Nat.le_refl _) (by omega))
            replace HJ : Hid (Blk v2 (w.heap.size + 1 + 1) #[.bool nB, .bool false, .slice BB eB fB, .bool n1, .bool o1, .slice B1 e1 f1, .bool n2, .bool o2, .slice B2 e2 f2, .bool n3, .bool o3, .slice B3 e3 f3, .bool n4, .bool o4, .slice B4 e4 f4, .bool n5, .bool o5, .slice B5 e5 f5, .bool n6, .bool o6, .slice B6 e6 f6] 54) := by rw [hv]; exact (((HJ.out.setCell_same 0 _).setCell_same 1 _).setCell_same 2 _).of_eq rfl
            clear ho hv
            refine ⟨⟨1, nB, false, BB, eB, fB, n1, o1, B1, e1, f1, n2, o2, B2, e2, f2, n3, o3, B3, e3, f3, n4, o4, B4, e4, f4, n5, o5, B5, e5, f5, n6, o6, B6, e6, f6, by omega, by go_num, HI, HJ, CB, C1, C2, C3, C4, C5, C6, HS2, Lib.hid HB.out.drew⟩, by simp [intOf]⟩
          · have hp := HI.out.put? 18 (z 1).cells (by simp) (by simp)
            have j0 := HJ.out.cell (i := 3) (v := .bool n1) rfl
            have j1 := HJ.out.cell (i := 4) (v := .bool o1) rfl
            have j2 := HJ.out.cell (i := 5) (v := .slice B1 e1 f1) rfl
            go_wp2_with fail
            go_region
            go_wp2_with fail
            clear hp m1 m2 m3 m4 m5 r0 q0 q1 q2 rl rl2 fz j0 j1 j2
            obtain ⟨v1, hv⟩ : ∃ v, v = x3.putRow (w.heap.size + 1) 18 (z 1).cells := ⟨_, rfl⟩
            rw [← hv]
            have ho : OnlyAt (w.heap.size + 1) x3 v1 := by rw [hv]; exact OnlyAt.refl.putRow _ _
            replace C0 := Lib.hid (C0.out.only ho HI.out (blk_no _))
            replace C1 := Lib.hid (C1.out.only ho HI.out (blk_no _))
            replace C2 := Lib.hid (C2.out.only ho HI.out (blk_no _))
            replace C3 := Lib.hid (C3.out.only ho HI.out (blk_no _))
            replace C4 := Lib.hid (C4.out.only ho HI.out (blk_no _))
            replace C5 := Lib.hid (C5.out.only ho HI.out (blk_no _))
            replace C6 := Lib.hid (C6.out.only ho HI.out (blk_no _))
            replace CB := Lib.hid (CB.out.only ho HI.out (blk_no _))
            replace HJ := Lib.hid (ho.blk HJ.out (by omega))
            replace HB := Lib.hid (OnlyAt.below ho HB.out (Nat.le_refl _) (by omega))
            replace HI : Hid (Blk v1 (w.heap.size + 1) (blk [sel z 2 0, sel z 2 1, sel z 2 2, sel z 2 3, sel z 2 4, sel z 2 5, sel z 2 6]) 49) := by rw [hv]; exact (HI.out.putRow_same _ _).of_eq ((blk_splice _ 1 (z 1) (by simp)).trans rfl)
            clear ho hv
            obtain ⟨v2, hv⟩ : ∃ v, v = ((v1.setCell ⟨w.heap.size + 1 + 1, 3, none⟩ (.bool nB)).setCell ⟨w.heap.size + 1 + 1, 4, none⟩ (.bool false)).setCell ⟨w.heap.size + 1 + 1, 5, none⟩ (.slice BB eB fB) := ⟨_, rfl⟩
            rw [← hv]
            have ho : OnlyAt (w.heap.size + 1 + 1) v1 v2 := by rw [hv]; exact ((OnlyAt.refl.setCell _ _).setCell _ _).setCell _ _
            replace C0 := Lib.hid (C0.out.only ho HJ.out (info_no _ _ _ _ _ _ _ _ _ _ _ _ _ _ _ _ _ _ _ _ _ _ _ _ _ _ _ _ _ _ _ _ _ _ _))
            replace C1 := Lib.hid (C1.out.only ho HJ.out (info_no _ _ _ _ _ _ _ _ _ _ _ _ _ _ _ _ _ _ _ _ _ _ _ _ _ _ _ _ _ _ _ _ _ _ _))
            replace C2 := Lib.hid (C2.out.only ho HJ.out (info_no _ _ _ _ _ _ _ _ _ _ _ _ _ _ _ _ _ _ _ _ _ _ _ _ _ _ _ _ _ _ _ _ _ _ _))
            replace C3 := Lib.hid (C3.out.only ho HJ.out (info_no _ _ _ _ _ _ _ _ _ _ _ _ _ _ _ _ _ _ _ _ _ _ _ _ _ _ _ _ _ _ _ _ _ _ _))
            replace C4 := Lib.hid (C4.out.only ho HJ.out (info_no _ _ _ _ _ _ _ _ _ _ _ _ _ _ _ _ _ _ _ _ _ _ _ _ _ _ _ _ _ _ _ _ _ _ _))
            replace C5 := Lib.hid (C5.out.only ho HJ.out (info_no _ _ _ _ _ _ _ _ _ _ _ _ _ _ _ _ _ _ _ _ _ _ _ _ _ _ _ _ _ _ _ _ _ _ _))
            replace C6 := Lib.hid (C6.out.only ho HJ.out (info_no _ _ _ _ _ _ _ _ _ _ _ _ _ _ _ _ _ _ _ _ _ _ _ _ _ _ _ _ _ _ _ _ _ _ _))
            replace CB := Lib.hid (CB.out.only ho HJ.out (info_no _ _ _ _ _ _ _ _ _ _ _ _ _ _ _ _ _ _ _ _ _ _ _ _ _ _ _ _ _ _ _ _ _ _ _))
            replace HI := Lib.hid (ho.blk HI.out (by omega))
            replace HB := Lib.hid (OnlyAt.below ho HB.out (Nat.le_refl _) (by omega))
            replace HJ : Hid (Blk v2 (w.heap.size + 1 + 1) #[.bool n0, .bool o0, .slice B0 e0 f0, .bool nB, .bool false, .slice BB eB fB, .bool n2, .bool o2, .slice B2 e2 f2, .bool n3, .bool o3, .slice B3 e3 f3, .bool n4, .bool o4, .slice B4 e4 f4, .bool n5, .bool o5, .slice B5 e5 f5, .bool n6, .bool o6, .slice B6 e6 f6] 54) := by rw [hv]; exact (((HJ.out.setCell_same 3 _).setCell_same 4 _).setCell_same 5 _).of_eq rfl
            clear ho hv
            refine ⟨⟨2, n0, o0, B0, e0, f0, nB, false, BB, eB, fB, n2, o2, B2, e2, f2, n3, o3, B3, e3, f3, n4, o4, B4, e4, f4, n5, o5, B5, e5, f5, n6, o6, B6, e6, f6, by omega, by go_num, HI, HJ, C0, CB, C2, C3, C4, C5, C6, HS2, Lib.hid HB.out.drew⟩, by simp [intOf]⟩
          · have hp := HI.out.put? 36 (z 2).cells (by simp) (by simp)
            have j0 := HJ.out.cell (i := 6) (v := .bool n2) rfl
            have j1 := HJ.out.cell (i := 7) (v := .bool o2) rfl
            have j2 := HJ.out.cell (i := 8) (v := .slice B2 e2 f2) rfl
            go_wp2_with fail
            go_region
            go_wp2_with fail
            clear hp m1 m2 m3 m4 m5 r0 q0 q1 q2 rl rl2 fz j0 j1 j2
            obtain ⟨v1, hv⟩ : ∃ v, v = x3.putRow (w.heap.size + 1) 36 (z 2).cells := ⟨_, rfl⟩
            rw [← hv]
            have ho : OnlyAt (w.heap.size + 1) x3 v1 := by rw [hv]; exact OnlyAt.refl.putRow _ _
            replace C0 := Lib.hid (C0.out.only ho HI.out (blk_no _))
            replace C1 := Lib.hid (C1.out.only ho HI.out (blk_no _))
            replace C2 := Lib.hid (C2.out.only ho HI.out (blk_no _))
            replace C3 := Lib.hid (C3.out.only ho HI.out (blk_no _))
            replace C4 := Lib.hid (C4.out.only ho HI.out (blk_no _))
            replace C5 := Lib.hid (C5.out.only ho HI.out (blk_no _))
            replace C6 := Lib.hid (C6.out.only ho HI.out (blk_no _))
            replace CB := Lib.hid (CB.out.only ho HI.out (blk_no _))
            replace HJ := Lib.hid (ho.blk HJ.out (by omega))
            replace HB := Lib.hid (OnlyAt.below ho HB.out (Nat.le_refl _) (by omega))
            replace HI : Hid (Blk v1 (w.heap.size + 1) (blk [sel z 3 0, sel z 3 1, sel z 3 2, sel z 3 3, sel z 3 4, sel z 3 5, sel z 3 6]) 49) := by rw [hv]; exact (HI.out.putRow_same _ _).of_eq ((blk_splice _ 2 (z 2) (by simp)).trans rfl)
            clear ho hv
            obtain ⟨v2, hv⟩ : ∃ v, v = ((v1.setCell ⟨w.heap.size + 1 + 1, 6, none⟩ (.bool nB)).setCell ⟨w.heap.size + 1 + 1, 7, none⟩ (.bool false)).setCell ⟨w.heap.size + 1 + 1, 8, none⟩ (.slice BB eB fB) := ⟨_, rfl⟩
            rw [← hv]
            have ho : OnlyAt (w.heap.size + 1 + 1) v1 v2 := by rw [hv]; exact ((OnlyAt.refl.setCell _ _).setCell _ _).setCell _ _
            replace C0 := Lib.hid (C0.out.only ho HJ.out (info_no _ _ _ _ _ _ _ _ _ _ _ _ _ _ _ _ _ _ _ _ _ _ _ _ _ _ _ _ _ _ _ _ _ _ _))
            replace C1 := Lib.hid (C1.out.only ho HJ.out (info_no _ _ _ _ _ _ _ _ _ _ _ _ _ _ _ _ _ _ _ _ _ _ _ _ _ _ _ _ _ _ _ _ _ _ _))
            replace C2 := Lib.hid (C2.out.only ho HJ.out (info_no _ _ _ _ _ _ _ _ _ _ _ _ _ _ _ _ _ _ _ _ _ _ _ _ _ _ _ _ _ _ _ _ _ _ _))
            replace C3 := Lib.hid (C3.out.only ho HJ.out (info_no _ _ _ _ _ _ _ _ _ _ _ _ _ _ _ _ _ _ _ _ _ _ _ _ _ _ _ _ _ _ _ _ _ _ _))
            replace C4 := Lib.hid (C4.out.only ho HJ.out (info_no _ _ _ _ _ _ _ _ _ _ _ _ _ _ _ _ _ _ _ _ _ _ _ _ _ _ _ _ _ _ _ _ _ _ _))
            replace C5 := Lib.hid (C5.out.only ho HJ.out (info_no _ _ _ _ _ _ _ _ _ _ _ _ _ _ _ _ _ _ _ _ _ _ _ _ _ _ _ _ _ _ _ _ _ _ _))
            replace C6 := Lib.hid (C6.out.only ho HJ.out (info_no _ _ _ _ _ _ _ _ _ _ _ _ _ _ _ _ _ _ _ _ _ _ _ _ _ _ _ _ _ _ _ _ _ _ _))
            replace CB := Lib.hid (CB.out.only ho HJ.out (info_no _ _ _ _ _ _ _ _ _ _ _ _ _ _ _ _ _ _ _ _ _ _ _ _ _ _ _ _ _ _ _ _ _ _ _))
            replace HI := Lib.hid (ho.blk HI.out (by omega))
            replace HB := Lib.hid (OnlyAt.below ho HB.out (Nat.le_refl _) (by omega))
            replace HJ : Hid (Blk v2 (w.heap.size + 1 + 1) #[.bool n0, .bool o0, .slice B0 e0 f0, .bool n1, .bool o1, .slice B1 e1 f1, .bool nB, .bool false, .slice BB eB fB, .bool n3, .bool o3, .slice B3 e3 f3, .bool n4, .bool o4, .slice B4 e4 f4, .bool n5, .bool o5, .slice B5 e5 f5, .bool n6, .bool o6, .slice B6 e6 f6] 54) := by rw [hv]; exact (((HJ.out.setCell_same 6 _).setCell_same 7 _).setCell_same 8 _).of_eq rfl
            clear ho hv
            refine ⟨⟨3, n0, o0, B0, e0, f0, n1, o1, B1, e1, f1, nB, false, BB, eB, fB, n3, o3, B3, e3, f3, n4, o4, B4, e4, f4, n5, o5, B5, e5, f5, n6, o6, B6, e6, f6, by omega, by go_num, HI, HJ, C0, C1, CB, C3, C4, C5, C6, HS2, Lib.hid HB.out.drew⟩, by simp [intOf]⟩
          · have hp := HI.out.put? 54 (z 3).cells (by simp) (by simp)
            have j0 := HJ.out.cell (i := 9) (v := .bool n3) rfl
            have j1 := HJ.out.cell (i := 10) (v := .bool o3) rfl
            have j2 := HJ.out.cell (i := 11) (v := .slice B3 e3 f3) rfl
            go_wp2_with fail
            go_region
            go_wp2_with fail
            clear hp m1 m2 m3 m4 m5 r0 q0 q1 q2 rl rl2 fz j0 j1 j2
            obtain ⟨v1, hv⟩ : ∃ v, v = x3.putRow (w.heap.size + 1) 54 (z 3).cells := ⟨_, rfl⟩
            rw [← hv]
            have ho : OnlyAt (w.heap.size + 1) x3 v1 := by rw [hv]; exact OnlyAt.refl.putRow _ _
            replace C0 := Lib.hid (C0.out.only ho HI.out (blk_no _))
            replace C1 := Lib.hid (C1.out.only ho HI.out (blk_no _))
            replace C2 := Lib.hid (C2.out.only ho HI.out (blk_no _))
            replace C3 := Lib.hid (C3.out.only ho HI.out (blk_no _))
            replace C4 := Lib.hid (C4.out.only ho HI.out (blk_no _))
            replace C5 := Lib.hid (C5.out.only ho HI.out (blk_no _))
            replace C6 := Lib.hid (C6.out.only ho HI.out (blk_no _))
            replace CB := Lib.hid (CB.out.only ho HI.out (blk_no _))
            replace HJ := Lib.hid (ho.blk HJ.out (by omega))
            replace HB := Lib.hid (OnlyAt.below ho HB.out (Nat.le_refl _) (by omega))
            replace HI : Hid (Blk v1 (w.heap.size + 1) (blk [sel z 4 0, sel z 4 1, sel z 4 2, sel z 4 3, sel z 4 4, sel z 4 5, sel z 4 6]) 49) := by rw [hv]; exact (HI.out.putRow_same _ _).of_eq ((blk_splice _ 3 (z 3) (by simp)).trans rfl)
            clear ho hv
            obtain ⟨v2, hv⟩ : ∃ v, v = ((v1.setCell ⟨w.heap.size + 1 + 1, 9, none⟩ (.bool nB)).setCell ⟨w.heap.size + 1 + 1, 10, none⟩ (.bool false)).setCell ⟨w.heap.size + 1 + 1, 11, none⟩ (.slice BB eB fB) := ⟨_, rfl⟩
            rw [← hv]
            have ho : OnlyAt (w.heap.size + 1 + 1) v1 v2 := by rw [hv]; exact ((OnlyAt.refl.setCell _ _).setCell _ _).setCell _ _
            replace C0 := Lib.hid (C0.out.only ho HJ.out (info_no _ _ _ _ _ _ _ _ _ _ _ _ _ _ _ _ _ _ _ _ _ _ _ _ _ _ _ _ _ _ _ _ _ _ _))
            replace C1 := Lib.hid (C1.out.only ho HJ.out (info_no _ _ _ _ _ _ _ _ _ _ _ _ _ _ _ _ _ _ _ _ _ _ _ _ _ _ _ _ _ _ _ _ _ _ _))
            replace C2 := Lib.hid (C2.out.only ho HJ.out (info_no _ _ _ _ _ _ _ _ _ _ _ _ _ _ _ _ _ _ _ _ _ _ _ _ _ _ _ _ _ _ _ _ _ _ _))
            replace C3 := Lib.hid (C3.out.only ho HJ.out (info_no _ _ _ _ _ _ _ _ _ _ _ _ _ _ _ _ _ _ _ _ _ _ _ _ _ _ _ _ _ _ _ _ _ _ _))
            replace C4 := Lib.hid (C4.out.only ho HJ.out (info_no _ _ _ _ _ _ _ _ _ _ _ _ _ _ _ _ _ _ _ _ _ _ _ _ _ _ _ _ _ _ _ _ _ _ _))
            replace C5 := Lib.hid (C5.out.only ho HJ.out (info_no _ _ _ _ _ _ _ _ _ _ _ _ _ _ _ _ _ _ _ _ _ _ _ _ _ _ _ _ _ _ _ _ _ _ _))
            replace C6 := Lib.hid (C6.out.only ho HJ.out (info_no _ _ _ _ _ _ _ _ _ _ _ _ _ _ _ _ _ _ _ _ _ _ _ _ _ _ _ _ _ _ _ _ _ _ _))
            replace CB := Lib.hid (CB.out.only ho HJ.out (info_no _ _ _ _ _ _ _ _ _ _ _ _ _ _ _ _ _ _ _ _ _ _ _ _ _ _ _ _ _ _ _ _ _ _ _))
            replace HI := Lib.hid (ho.blk HI.out (by omega))
            replace HB := Lib.hid (OnlyAt.below ho HB.out (Nat.le_refl _) (by omega))
            replace HJ : Hid (Blk v2 (w.heap.size + 1 + 1) #[.bool n0, .bool o0, .slice B0 e0 f0, .bool n1, .bool o1, .slice B1 e1 f1, .bool n2, .bool o2, .slice B2 e2 f2, .bool nB, .bool false, .slice BB eB fB, .bool n4, .bool o4, .slice B4 e4 f4, .bool n5, .bool o5, .slice B5 e5 f5, .bool n6, .bool o6, .slice B6 e6 f6] 54) := by rw [hv]; exact (((HJ.out.setCell_same 9 _).setCell_same 10 _).setCell_same 11 _).of_eq rfl
            clear ho hv
            refine ⟨⟨4, n0, o0, B0, e0, f0, n1, o1, B1, e1, f1, n2, o2, B2, e2, f2, nB, false, BB, eB, fB, n4, o4, B4, e4, f4, n5, o5, B5, e5, f5, n6, o6, B6, e6, f6, by omega, by go_num, HI, HJ, C0, C1, C2, CB, C4, C5, C6, HS2, Lib.hid HB.out.drew⟩, by simp [intOf]⟩
          · have hp := HI.out.put? 72 (z 4).cells (by simp) (by simp)
            have j0 := HJ.out.cell (i := 12) (v := .bool n4) rfl
            have j1 := HJ.out.cell (i := 13) (v := .bool o4) rfl
            have j2 := HJ.out.cell (i := 14) (v := .slice B4 e4 f4) rfl
            go_wp2_with fail
            go_region
            go_wp2_with fail
            clear hp m1 m2 m3 m4 m5 r0 q0 q1 q2 rl rl2 fz j0 j1 j2
            obtain ⟨v1, hv⟩ : ∃ v, v = x3.putRow (w.heap.size + 1) 72 (z 4).cells := ⟨_, rfl⟩
            rw [← hv]
            have ho : OnlyAt (w.heap.size + 1) x3 v1 := by rw [hv]; exact OnlyAt.refl.putRow _ _
            replace C0 := Lib.hid (C0.out.only ho HI.out (blk_no _))
            replace C1 := Lib.hid (C1.out.only ho HI.out (blk_no _))
            replace C2 := Lib.hid (C2.out.only ho HI.out (blk_no _))
            replace C3 := Lib.hid (C3.out.only ho HI.out (blk_no _))
            replace C4 := Lib.hid (C4.out.only ho HI.out (blk_no _))
            replace C5 := Lib.hid (C5.out.only ho HI.out (blk_no _))
            replace C6 := Lib.hid (C6.out.only ho HI.out (blk_no _))
            replace CB := Lib.hid (CB.out.only ho HI.out (blk_no _))
            replace HJ := Lib.hid (ho.blk HJ.out (by omega))
            replace HB := Lib.hid (OnlyAt.below ho HB.out (Nat.le_refl _) (by omega))
            replace HI : Hid (Blk v1 (w.heap.size + 1) (blk [sel z 5 0, sel z 5 1, sel z 5 2, sel z 5 3, sel z 5 4, sel z 5 5, sel z 5 6]) 49) := by rw [hv]; exact (HI.out.putRow_same _ _).of_eq ((blk_splice _ 4 (z 4) (by simp)).trans rfl)
            clear ho hv
            obtain ⟨v2, hv⟩ : ∃ v, v = ((v1.setCell ⟨w.heap.size + 1 + 1, 12, none⟩ (.bool nB)).setCell ⟨w.heap.size + 1 + 1, 13, none⟩ (.bool false)).setCell ⟨w.heap.size + 1 + 1, 14, none⟩ (.slice BB eB fB) := ⟨_, rfl⟩
            rw [← hv]
            have ho : OnlyAt (w.heap.size + 1 + 1) v1 v2 := by rw [hv]; exact ((OnlyAt.refl.setCell _ _).setCell _ _).setCell _ _
            replace C0 := Lib.hid (C0.out.only ho HJ.out (info_no _ _ _ _ _ _ _ _ _ _ _ _ _ _ _ _ _ _ _ _ _ _ _ _ _ _ _ _ _ _ _ _ _ _ _))
            replace C1 := Lib.hid (C1.out.only ho HJ.out (info_no _ _ _ _ _ _ _ _ _ _ _ _ _ _ _ _ _ _ _ _ _ _ _ _ _ _ _ _ _ _ _ _ _ _ _))
            replace C2 := Lib.hid (C2.out.only ho HJ.out (info_no _ _ _ _ _ _ _ _ _ _ _ _ _ _ _ _ _ _ _ _ _ _ _ _ _ _ _ _ _ _ _ _ _ _ _))
            replace C3 := Lib.hid (C3.out.only ho HJ.out (info_no _ _ _ _ _ _ _ _ _ _ _ _ _ _ _ _ _ _ _ _ _ _ _ _ _ _ _ _ _ _ _ _ _ _ _))
            replace C4 := Lib.hid (C4.out.only ho HJ.out (info_no _ _ _ _ _ _ _ _ _ _ _ _ _ _ _ _ _ _ _ _ _ _ _ _ _ _ _ _ _ _ _ _ _ _ _))
            replace C5 := Lib.hid (C5.out.only ho HJ.out (info_no _ _ _ _ _ _ _ _ _ _ _ _ _ _ _ _ _ _ _ _ _ _ _ _ _ _ _ _ _ _ _ _ _ _ _))
            replace C6 := Lib.hid (C6.out.only ho HJ.out (info_no _ _ _ _ _ _ _ _ _ _ _ _ _ _ _ _ _ _ _ _ _ _ _ _ _ _ _ _ _ _ _ _ _ _ _))
            replace CB := Lib.hid (CB.out.only ho HJ.out (info_no _ _ _ _ _ _ _ _ _ _ _ _ _ _ _ _ _ _ _ _ _ _ _ _ _ _ _ _ _ _ _ _ _ _ _))
            replace HI := Lib.hid (ho.blk HI.out (by omega))
            replace HB := Lib.hid (OnlyAt.below ho HB.out (Nat.le_refl _) (by omega))
            replace HJ : Hid (Blk v2 (w.heap.size + 1 + 1) #[.bool n0, .bool o0, .slice B0 e0 f0, .bool n1, .bool o1, .slice B1 e1 f1, .bool n2, .bool o2, .slice B2 e2 f2, .bool n3, .bool o3, .slice B3 e3 f3, .bool nB, .bool false, .slice BB eB fB, .bool n5, .bool o5, .slice B5 e5 f5, .bool n6, .bool o6, .slice B6 e6 f6] 54) := by rw [hv]; exact (((HJ.out.setCell_same 12 _).setCell_same 13 _).setCell_same 14 _).of_eq rfl
            clear ho hv
            refine ⟨⟨5, n0, o0, B0, e0, f0, n1, o1, B1, e1, f1, n2, o2, B2, e2, f2, n3, o3, B3, e3, f3, nB, false, BB, eB, fB, n5, o5, B5, e5, f5, n6, o6, B6, e6, f6, by omega, by go_num, HI, HJ, C0, C1, C2, C3, CB, C5, C6, HS2, Lib.hid HB.out.drew⟩, by simp [intOf]⟩
          · have hp := HI.out.put? 90 (z 5).cells (by simp) (by simp)
            have j0 := HJ.out.cell (i := 15) (v := .bool n5) rfl
            have j1 := HJ.out.cell (i := 16) (v := .bool o5) rfl
            have j2 := HJ.out.cell (i := 17) (v := .slice B5 e5 f5) rfl
            go_wp2_with fail
            go_region
            go_wp2_with fail
            clear hp m1 m2 m3 m4 m5 r0 q0 q1 q2 rl rl2 fz j0 j1 j2
            obtain ⟨v1, hv⟩ : ∃ v, v = x3.putRow (w.heap.size + 1) 90 (z 5).cells := ⟨_, rfl⟩
            rw [← hv]
            have ho : OnlyAt (w.heap.size + 1) x3 v1 := by rw [hv]; exact OnlyAt.refl.putRow _ _
            replace C0 := Lib.hid (C0.out.only ho HI.out (blk_no _))
            replace C1 := Lib.hid (C1.out.only ho HI.out (blk_no _))
            replace C2 := Lib.hid (C2.out.only ho HI.out (blk_no _))
            replace C3 := Lib.hid (C3.out.only ho HI.out (blk_no _))
            replace C4 := Lib.hid (C4.out.only ho HI.out (blk_no _))
            replace C5 := Lib.hid (C5.out.only ho HI.out (blk_no _))
            replace C6 := Lib.hid (C6.out.only ho HI.out (blk_no _))
            replace CB := Lib.hid (CB.out.only ho HI.out (blk_no _))
            replace HJ := Lib.hid (ho.blk HJ.out (by omega))
            replace HB := Lib.hid (OnlyAt.below ho HB.out (Nat.le_refl _) (by omega))
            replace HI : Hid (Blk v1 (w.heap.size + 1) (blk [sel z 6 0, sel z 6 1, sel z 6 2, sel z 6 3, sel z 6 4, sel z 6 5, sel z 6 6]) 49) := by rw [hv]; exact (HI.out.putRow_same _ _).of_eq ((blk_splice _ 5 (z 5) (by simp)).trans rfl)
            clear ho hv
            obtain ⟨v2, hv⟩ : ∃ v, v = ((v1.setCell ⟨w.heap.size + 1 + 1, 15, none⟩ (.bool nB)).setCell ⟨w.heap.size + 1 + 1, 16, none⟩ (.bool false)).setCell ⟨w.heap.size + 1 + 1, 17, none⟩ (.slice BB eB fB) := ⟨_, rfl⟩
            rw [← hv]
            have ho : OnlyAt (w.heap.size + 1 + 1) v1 v2 := by rw [hv]; exact ((OnlyAt.refl.setCell _ _).setCell _ _).setCell _ _
            replace C0 := Lib.hid (C0.out.only ho HJ.out (info_no _ _ _ _ _ _ _ _ _ _ _ _ _ _ _ _ _ _ _ _ _ _ _ _ _ _ _ _ _ _ _ _ _ _ _))
            replace C1 := Lib.hid (C1.out.only ho HJ.out (info_no _ _ _ _ _ _ _ _ _ _ _ _ _ _ _ _ _ _ _ _ _ _ _ _ _ _ _ _ _ _ _ _ _ _ _))
            replace C2 := Lib.hid (C2.out.only ho HJ.out (info_no _ _ _ _ _ _ _ _ _ _ _ _ _ _ _ _ _ _ _ _ _ _ _ _ _ _ _ _ _ _ _ _ _ _ _))
            replace C3 := Lib.hid (C3.out.only ho HJ.out (info_no _ _ _ _ _ _ _ _ _ _ _ _ _ _ _ _ _ _ _ _ _ _ _ _ _ _ _ _ _ _ _ _ _ _ _))
            replace C4 := Lib.hid (C4.out.only ho HJ.out (info_no _ _ _ _ _ _ _ _ _ _ _ _ _ _ _ _ _ _ _ _ _ _ _ _ _ _ _ _ _ _ _ _ _ _ _))
            replace C5 := Lib.hid (C5.out.only ho HJ.out (info_no _ _ _ _ _ _ _ _ _ _ _ _ _ _ _ _ _ _ _ _ _ _ _ _ _ _ _ _ _ _ _ _ _ _ _))
            replace C6 := Lib.hid (C6.out.only ho HJ.out (info_no _ _ _ _ _ _ _ _ _ _ _ _ _ _ _ _ _ _ _ _ _ _ _ _ _ _ _ _ _ _ _ _ _ _ _))
            replace CB := Lib.hid (CB.out.only ho HJ.out (info_no _ _ _ _ _ _ _ _ _ _ _ _ _ _ _ _ _ _ _ _ _ _ _ _ _ _ _ _ _ _ _ _ _ _ _))
            replace HI := Lib.hid (ho.blk HI.out (by omega))
            replace HB := Lib.hid (OnlyAt.below ho HB.out (Nat.le_refl _) (by omega))
            replace HJ : Hid (Blk v2 (w.heap.size + 1 + 1) #[.bool n0, .bool o0, .slice B0 e0 f0, .bool n1, .bool o1, .slice B1 e1 f1, .bool n2, .bool o2, .slice B2 e2 f2, .bool n3, .bool o3, .slice B3 e3 f3, .bool n4, .bool o4, .slice B4 e4 f4, .bool nB, .bool false, .slice BB eB fB, .bool n6, .bool o6, .slice B6 e6 f6] 54) := by rw [hv]; exact (((HJ.out.setCell_same 15 _).setCell_same 16 _).setCell_same 17 _).of_eq rfl
            clear ho hv
            refine ⟨⟨6, n0, o0, B0, e0, f0, n1, o1, B1, e1, f1, n2, o2, B2, e2, f2, n3, o3, B3, e3, f3, n4, o4, B4, e4, f4, nB, false, BB, eB, fB, n6, o6, B6, e6, f6, by omega, by go_num, HI, HJ, C0, C1, C2, C3, C4, CB, C6, HS2, Lib.hid HB.out.drew⟩, by simp [intOf]⟩
          · have hp := HI.out.put? 108 (z 6).cells (by simp) (by simp)
            have j0 := HJ.out.cell (i := 18) (v := .bool n6) rfl
            have j1 := HJ.out.cell (i := 19) (v := .bool o6) rfl
            have j2 := HJ.out.cell (i := 20) (v := .slice B6 e6 f6) rfl
            go_wp2_with fail
            go_region
            go_wp2_with fail
            clear hp m1 m2 m3 m4 m5 r0 q0 q1 q2 rl rl2 fz j0 j1 j2
            obtain ⟨v1, hv⟩ : ∃ v, v = x3.putRow (w.heap.size + 1) 108 (z 6).cells := ⟨_, rfl⟩
            rw [← hv]
            have ho : OnlyAt (w.heap.size + 1) x3 v1 := by rw [hv]; exact OnlyAt.refl.putRow _ _
            replace C0 := Lib.hid (C0.out.only ho HI.out (blk_no _))
            replace C1 := Lib.hid (C1.out.only ho HI.out (blk_no _))
            replace C2 := Lib.hid (C2.out.only ho HI.out (blk_no _))
            replace C3 := Lib.hid (C3.out.only ho HI.out (blk_no _))
            replace C4 := Lib.hid (C4.out.only ho HI.out (blk_no _))
            replace C5 := Lib.hid (C5.out.only ho HI.out (blk_no _))
            replace C6 := Lib.hid (C6.out.only ho HI.out (blk_no _))
            replace CB := Lib.hid (CB.out.only ho HI.out (blk_no _))
            replace HJ := Lib.hid (ho.blk HJ.out (by omega))
            replace HB := Lib.hid (OnlyAt.below ho HB.out (Nat.le_refl _) (by omega))
            replace HI : Hid (Blk v1 (w.heap.size + 1) (blk [sel z 7 0, sel z 7 1, sel z 7 2, sel z 7 3, sel z 7 4, sel z 7 5, sel z 7 6]) 49) := by rw [hv]; exact (HI.out.putRow_same _ _).of_eq ((blk_splice _ 6 (z 6) (by simp)).trans rfl)
            clear ho hv
            obtain ⟨v2, hv⟩ : ∃ v, v = ((v1.setCell ⟨w.heap.size + 1 + 1, 18, none⟩ (.bool nB)).setCell ⟨w.heap.size + 1 + 1, 19, none⟩ (.bool false)).setCell ⟨w.heap.size + 1 + 1, 20, none⟩ (.slice BB eB fB) := ⟨_, rfl⟩
            rw [← hv]
            have ho : OnlyAt (w.heap.size + 1 + 1) v1 v2 := by rw [hv]; exact ((OnlyAt.refl.setCell _ _).setCell _ _).setCell _ _
            replace C0 := Lib.hid (C0.out.only ho HJ.out (info_no _ _ _ _ _ _ _ _ _ _ _ _ _ _ _ _ _ _ _ _ _ _ _ _ _ _ _ _ _ _ _ _ _ _ _))
            replace C1 := Lib.hid (C1.out.only ho HJ.out (info_no _ _ _ _ _ _ _ _ _ _ _ _ _ _ _ _ _ _ _ _ _ _ _ _ _ _ _ _ _ _ _ _ _ _ _))
            replace C2 := Lib.hid (C2.out.only ho HJ.out (info_no _ _ _ _ _ _ _ _ _ _ _ _ _ _ _ _ _ _ _ _ _ _ _ _ _ _ _ _ _ _ _ _ _ _ _))
            replace C3 := Lib.hid (C3.out.only ho HJ.out (info_no _ _ _ _ _ _ _ _ _ _ _ _ _ _ _ _ _ _ _ _ _ _ _ _ _ _ _ _ _ _ _ _ _ _ _))
            replace C4 := Lib.hid (C4.out.only ho HJ.out (info_no _ _ _ _ _ _ _ _ _ _ _ _ _ _ _ _ _ _ _ _ _ _ _ _ _ _ _ _ _ _ _ _ _ _ _))
            replace C5 := Lib.hid (C5.out.only ho HJ.out (info_no _ _ _ _ _ _ _ _ _ _ _ _ _ _ _ _ _ _ _ _ _ _ _ _ _ _ _ _ _ _ _ _ _ _ _))
            replace C6 := Lib.hid (C6.out.only ho HJ.out (info_no _ _ _ _ _ _ _ _ _ _ _ _ _ _ _ _ _ _ _ _ _ _ _ _ _ _ _ _ _ _ _ _ _ _ _))
            replace CB := Lib.hid (CB.out.only ho HJ.out (info_no _ _ _ _ _ _ _ _ _ _ _ _ _ _ _ _ _ _ _ _ _ _ _ _ _ _ _ _ _ _ _ _ _ _ _))
            replace HI := Lib.hid (ho.blk HI.out (by omega))
            replace HB := Lib.hid (OnlyAt.below ho HB.out (Nat.le_refl _) (by omega))
            replace HJ : Hid (Blk v2 (w.heap.size + 1 + 1) #[.bool n0, .bool o0, .slice B0 e0 f0, .bool n1, .bool o1, .slice B1 e1 f1, .bool n2, .bool o2, .slice B2 e2 f2, .bool n3, .bool o3, .slice B3 e3 f3, .bool n4, .bool o4, .slice B4 e4 f4, .bool n5, .bool o5, .slice B5 e5 f5, .bool nB, .bool false, .slice BB eB fB] 54) := by rw [hv]; exact (((HJ.out.setCell_same 18 _).setCell_same 19 _).setCell_same 20 _).of_eq rfl
            clear ho hv
            refine ⟨⟨7, n0, o0, B0, e0, f0, n1, o1, B1, e1, f1, n2, o2, B2, e2, f2, n3, o3, B3, e3, f3, n4, o4, B4, e4, f4, n5, o5, B5, e5, f5, nB, false, BB, eB, fB, by omega, by go_num, HI, HJ, C0, C1, C2, C3, C4, C5, CB, HS2, Lib.hid HB.out.drew⟩, by simp [intOf]⟩
    · have hk2 : ¬ (k : Int) < 7 := by omega
      obtain rfl : k = 7 := by omega
      clear hk
      obtain ⟨a0, E0, s0⟩ := wi_small (z 0) (HS.out 0 (by omega)).1 (HS.out 0 (by omega)).2
      obtain ⟨a1, E1, s1⟩ := wi_small (z 1) (HS.out 1 (by omega)).1 (HS.out 1 (by omega)).2
      obtain ⟨a2, E2, s2⟩ := wi_small (z 2) (HS.out 2 (by omega)).1 (HS.out 2 (by omega)).2
      obtain ⟨a3, E3, s3⟩ := wi_small (z 3) (HS.out 3 (by omega)).1 (HS.out 3 (by omega)).2
      obtain ⟨a4, E4, s4⟩ := wi_small (z 4) (HS.out 4 (by omega)).1 (HS.out 4 (by omega)).2
      obtain ⟨a5, E5, s5⟩ := wi_small (z 5) (HS.out 5 (by omega)).1 (HS.out 5 (by omega)).2
      obtain ⟨a6, E6, s6⟩ := wi_small (z 6) (HS.out 6 (by omega)).1 (HS.out 6 (by omega)).2
      have hs : Iq.Sml 205 ⟨a0, a1, a2, a3, a4, a5, a6⟩ := ⟨s0.mono (by decide), s1.mono (by decide), s2.mono (by decide), s3.mono (by decide), s4.mono (by decide), s5.mono (by decide), s6.mono (by decide)⟩
      have HS5 := Lib.hid hs
      obtain ⟨⟨fx, fy, fa, fb, fd⟩, fk, hF⟩ : ∃ o k, ellI ⟨a0, a1, a2, a3, a4, a5, a6⟩ = (o, k) := ⟨_, _, rfl⟩
      have HF := Lib.hid hF
      obtain ⟨P, hP⟩ : ∃ c : Array Value, blk (Iq.ws ⟨a0, a1, a2, a3, a4, a5, a6⟩) = c := ⟨_, rfl⟩
      have hPn : P.size = 126 := by rw [← hP]; simp [Iq.ws]
      have N1 : Hid (∀ w, Calls Tryz.prog 15 #[.agg P] w fun r w' => r = .returned (.tuple #[elC fx fy fa fb fd, .int .i64 fk]) ∧ Below w.heap.size w w') := Lib.hid (fun w => by rw [← hP]; exact ell_v _ hs _ _ hF w)
      replace HI : Hid (Blk wr (w.heap.size + 1) P 49) := by
        show Blk _ _ _ _
        refine HI.out.of_eq ?_
        rw [← hP]; show blk [z 0, z 1, z 2, z 3, z 4, z 5, z 6] = _
        rw [E0, E1, E2, E3, E4, E5, E6]; rfl
      obtain ⟨D, hD⟩ : ∃ c : Array Value, #[.bool n0, .bool o0, .slice B0 e0 f0, .bool n1, .bool o1, .slice B1 e1 f1, .bool n2, .bool o2, .slice B2 e2 f2, .bool n3, .bool o3, .slice B3 e3 f3, .bool n4, .bool o4, .slice B4 e4 f4, .bool n5, .bool o5, .slice B5 e5 f5, .bool n6, .bool o6, .slice B6 e6 f6] = c := ⟨_, rfl⟩
      have hDn : D.size = 21 := by rw [← hD]; rfl
      have HQ : Hid (InfoQ wr (.agg D) ⟨a0, a1, a2, a3, a4, a5, a6⟩) := by
        show InfoIs _ _ _ _ _ _ _ _ _
        rw [← hD]
        refine ⟨_, _, _, _, _, _, _, _, _, _, _, _, _, _, _, _, _, _, _, _, _, _, _, _, _, _, _, _, _, _, _, _, _, _, _, rfl, ?_, ?_, ?_, ?_, ?_, ?_, ?_⟩
        · have h := C0.out; rw [show sel z 7 0 = z 0 from rfl, E0] at h; exact h
        · have h := C1.out; rw [show sel z 7 1 = z 1 from rfl, E1] at h; exact h
        · have h := C2.out; rw [show sel z 7 2 = z 2 from rfl, E2] at h; exact h
        · have h := C3.out; rw [show sel z 7 3 = z 3 from rfl, E3] at h; exact h
        · have h := C4.out; rw [show sel z 7 4 = z 4 from rfl, E4] at h; exact h
        · have h := C5.out; rw [show sel z 7 5 = z 5 from rfl, E5] at h; exact h
        · have h := C6.out; rw [show sel z 7 6 = z 6 from rfl, E6] at h; exact h
      rw [hD] at HJ
      clear hD hP hs hF HS HZ C0 E0 s0 C1 E1 s1 C2 E2 s2 C3 E3 s3 C4 E4 s4 C5 E5 s5 C6 E6 s6
      have rw1 := HI.out.row?_all 126 hPn
      have rl1 := HI.out.lt
      go_wp2_with fail
      clear rw1 rl1
      refine Calls.mono (N1.out _) ?_
      rintro e y1 ⟨rfl, hb⟩
      replace HJ := Lib.hid (HJ.out.keep hb)
      replace HQ := Lib.hid (HQ.out.below hb)
      replace HB := Lib.hid (HB.out.trans (hb.mono HB.out.size))
      clear hb
      go_upto_region 25 with fail
      obtain ⟨y2, hu⟩ : ∃ u, u = y1.alloc (Obj.cells #[.int .i64 fx, .int .i64 fy, .int .i64 fa, .int .i64 fb, .int .i64 fd] 27) := ⟨_, rfl⟩
      rw [← hu]
      obtain ⟨gR1, hg⟩ : ∃ g, y1.heap.size = g := ⟨_, rfl⟩
      have hb : Below y1.heap.size y1 y2 := by rw [hu]; exact (Below.refl _ _).alloc (Nat.le_refl _) _
      replace HJ := Lib.hid (HJ.out.keep hb)
      replace HQ := Lib.hid (HQ.out.below hb)
      replace HB := Lib.hid (HB.out.trans (hb.mono HB.out.size))
      clear hb
      have R1 : Hid (Blk y2 gR1 #[.int .i64 fx, .int .i64 fy, .int .i64 fa, .int .i64 fb, .int .i64 fd] 27) := by rw [hu, ← hg]; exact Blk.new _ _ _
      rw [hg]
      clear hu hg
      have rw1 := HJ.out.row?_all 21 hDn
      have rl1 := HJ.out.lt
      go_wp2_with fail
      clear rw1 rl1
      refine Calls.mono (rell_v HS5 HF HQ.out) ?_
      rintro e y3 ⟨rfl, hb⟩
      replace R1 := Lib.hid (R1.out.keep hb)
      replace HQ := Lib.hid (HQ.out.below hb)
      replace HB := Lib.hid (HB.out.trans (hb.mono HB.out.size))
      clear hb
      go_upto_region 26 with fail
      obtain ⟨y4, hu⟩ : ∃ u, u = y3.alloc (Obj.cells #[.int .i64 fx, .int .i64 fy, .int .i64 fa, .int .i64 fb, .int .i64 fd] 27) := ⟨_, rfl⟩
      rw [← hu]
      obtain ⟨gR2, hg⟩ : ∃ g, y3.heap.size = g := ⟨_, rfl⟩
      have hb : Below y3.heap.size y3 y4 := by rw [hu]; exact (Below.refl _ _).alloc (Nat.le_refl _) _
      replace R1 := Lib.hid (R1.out.keep hb)
      replace HQ := Lib.hid (HQ.out.below hb)
      replace HB := Lib.hid (HB.out.trans (hb.mono HB.out.size))
      clear hb
      have R2 : Hid (Blk y4 gR2 #[.int .i64 fx, .int .i64 fy, .int .i64 fa, .int .i64 fb, .int .i64 fd] 27) := by rw [hu, ← hg]; exact Blk.new _ _ _
      rw [hg]
      clear hu hg
      have qR1_0 := R1.out.cell (i := 0) (v := .int .i64 fx) rfl
      have qR1_1 := R1.out.cell (i := 1) (v := .int .i64 fy) rfl
      have qR1_2 := R1.out.cell (i := 2) (v := .int .i64 fa) rfl
      have qR1_3 := R1.out.cell (i := 3) (v := .int .i64 fb) rfl
      have qR1_4 := R1.out.cell (i := 4) (v := .int .i64 fd) rfl
      have rlR1 := R1.out.lt
      have qR2_0 := R2.out.cell (i := 0) (v := .int .i64 fx) rfl
      have qR2_1 := R2.out.cell (i := 1) (v := .int .i64 fy) rfl
      have qR2_2 := R2.out.cell (i := 2) (v := .int .i64 fa) rfl
      have qR2_3 := R2.out.cell (i := 3) (v := .int .i64 fb) rfl
      have qR2_4 := R2.out.cell (i := 4) (v := .int .i64 fd) rfl
      have rlR2 := R2.out.lt
      go_wp2_with fail
      refine Calls.mono (awake6_c _) ?_
      rintro e x9 ⟨rfl, hb⟩
      replace HB := Lib.hid (HB.out.trans (hb.mono HB.out.size))
      clear hb
      go_wp2_with fail
      go_ret
      exact ⟨rfl, HB.out⟩
end Go.Proofs.YtnoidlacjiafdaaGreat
