/- The walk of GoldenFinds. -/
import Derived.Test.YtplhfngcmjopcaaGF3
import Derived.Laws.EntriesVeiled
import Derived.Maps.OwnSet
namespace Go.Proofs.Ytplhfngcmjopcaa
open Go.RowKit

theorem atRange (n : Int) : 1 ≤ wrap64 (1 + wrap64 ((IntKind.u64.wrap n).tmod 33)) ∧ wrap64 (1 + wrap64 ((IntKind.u64.wrap n).tmod 33)) ≤ 33 := by
  have h0 : 0 ≤ IntKind.u64.wrap n := by rw [IntKind.wrap_u64]; omega
  have h1 := Int.tmod_lt_of_pos (IntKind.u64.wrap n) (show (0 : Int) < 33 by decide)
  have h2 := Int.tmod_nonneg 33 h0
  unfold wrap64
  omega

set_option maxRecDepth 100000 in
set_option maxHeartbeats 2000000 in
theorem goldenFinds_c (n : Int) (A : Option Addr) (len cap : Nat) (T : Nat → Int) (w : World) (hT : StepsAt w A len T) (hlen : len ≤ 9223372036854775807) :
    Calls Try.prog 4 #[.int .i64 n, .slice A len cap] w fun e w' => e = .returned (.bool true) ∧ Below w.heap.size w w' := by
  have HT := Lib.hid hT
  clear hT
  obtain ⟨at', hat⟩ : ∃ k, wrap64 (1 + wrap64 ((IntKind.u64.wrap n).tmod 33)) = k := ⟨_, rfl⟩
  have ha : 1 ≤ at' ∧ at' ≤ 33 := by rw [← hat]; exact atRange n
  obtain ⟨V, hV⟩ : ∃ V, V = valV T len at' := ⟨_, rfl⟩
  have M : Hid (∀ W, W.heap.size = w.heap.size + 5 → Fnd w (w.heap.size + 1 + 1 + 1 + 1) (w.heap.size + 1 + 1 + 1) (w.heap.size + 1 + 1) w.heap.size (w.heap.size + 1) A len cap at' [] W → Calls Try.prog 5 #[.func (.func 10) #[] #[.pointer (some ⟨w.heap.size + 1 + 1 + 1 + 1, 0, none⟩), .pointer (some ⟨w.heap.size + 1 + 1, 0, none⟩)]] W fun e w' =>
      e = .returned (.tuple #[.int .i64 (gfin V).w, .int .i64 (gfin V).n, .bool (gfin V).ok]) ∧ Fnd w (w.heap.size + 1 + 1 + 1 + 1) (w.heap.size + 1 + 1 + 1) (w.heap.size + 1 + 1) w.heap.size (w.heap.size + 1) A len cap at' (gfin V).asked w' ∧ W.heap.size ≤ w'.heap.size) := by
    intro W hW hA
    rw [hV]
    exact best_c 10 _ (valV T len at') (fun l W => Fnd w _ _ _ _ _ A len cap at' l W) W (by intro args w; rfl)
      (fun _ _ _ hs h => fnd_side h hs (by omega))
      (fun l x w1 hl h0 h1 h => fcl_c w _ _ _ _ _ A len cap T at' l x w1 HT.out hlen ha hl h0 h1 h) hA
  have hL : (gfin V).asked.length = 7 := by have := (giter_ok V 6 (by decide)).2.2; exact this
  have hF : (gfin V).w = at' ∧ (gfin V).n = 0 ∧ (gfin V).ok = true ∧ (gfin V).asked.Nodup := by rw [hV]; exact finds T len at' ha.1 ha.2
  clear hV
  generalize gfin V = s at *
  obtain ⟨l, sw, sn, so⟩ := s
  simp only at hL hF M
  obtain ⟨rfl, rfl, rfl, hnd⟩ := hF
  have HL := Lib.hid hL
  have HN := Lib.hid hnd
  clear hnd hL
  have hmm := @run_makeMap Try.prog
  go_enter Try.func4, Try.ntmps4
  go_wp2_with fail
  refine (M.out _ (by simp) ⟨?_, by omega, Blk.new' _ _ _ (by simp), ((Blk.new' _ _ _ (by simp)).alloc _).alloc _, ((((Blk.new w _ _).alloc _).alloc _).alloc _).alloc _, (((Blk.new' _ _ _ (by simp)).alloc _).alloc _).alloc _, ?_⟩).mono ?_
  · exact (((((Below.refl _ _).alloc (Nat.le_refl _) _).alloc (by simp) _).alloc (by simp; omega) _).alloc (by simp; omega) _).alloc (by simp; omega) _
  · have hmade := World.ownsMap_made (H := Unit) (((w.alloc (Obj.cells #[.int .i64 sw] 3)).alloc (Obj.cells #[.slice A len cap] 43)).alloc (Obj.cells #[.func (.func 9) #[] #[.pointer (some ⟨w.heap.size, 0, none⟩), .pointer (some ⟨w.heap.size + 1, 0, none⟩)]] 45)) Try.prog 3 (plainElem (H := Unit) Try.prog 3)
    have := hmade.alloc (.cells #[.map (some (w.heap.size + 1 + 1 + 1))] 46)
    simpa [DL, DLr] using this
  rintro e w1 ⟨rfl, ⟨hb1, -, hm1, -, ht1, -, hown1⟩, hz1⟩
  simp at hz1
  obtain ⟨y0, c0, f0, -, -, -⟩ := hm1.facts
  obtain ⟨y1, c1, f1, -, -, -⟩ := ht1.facts
  obtain ⟨es, clock, -, -, hle, hD⟩ := id hown1
  have hlm := fun ty => hown1.len Try.underlying46 ty
  obtain ⟨N, hN⟩ : ∃ N, N = Maps.size (DL l) := ⟨_, rfl⟩
  have hlen8 : ¬ (8 : Int) < (N : Int) := by
    have h1 : N = es.size := by rw [hN, hD]; show List.length _ = _; rw [length_sorted]; simp
    have := HL.out
    have h3 : es.size ≤ l.length := hle
    omega
  rw [← hN] at hlm
  clear hD hN
  have HB1 := Lib.hid hb1
  have HO1 := Lib.hid hown1
  clear hb1 hm1 ht1 hown1 hle M
  go_wp2_with (at_range; refine wpList_range_own _ rfl _ 46 rfl 3 3 lawInt Try.underlying46 _ (w.heap.size + 1 + 1 + 1) _ _ rfl HO1.out ?_; intro w2 hrg hgr hsz)
  go_frame
  have HB2 := Lib.hid (Below.grown (Nat.le_refl _) HB1.out hgr (fun g hg => by cases hg))
  clear hgr hlm c0 f0 c1 f1
  go_loopw [11] (fun _ wr => (∃ left cnt, wr.ranges Try.prog 3 (plainElem (H := Unit) Try.prog 3) (w.heap.size + 1 + 1 + 1) w1.heap.size l.length (DL l) left cnt) ∧ Below w.heap.size w wr) (fun _ wr => wr.rangeLeft (w.heap.size + 1 + 1 + 1) w1.heap.size)
  case atStart => exact ⟨⟨_, _, hrg⟩, HB2.out⟩
  case round =>
    obtain ⟨⟨left, cnt, hrg⟩, hbr⟩ := hrel
    have HBR := Lib.hid hbr
    have HRG := Lib.hid hrg
    clear hrg hbr
    go_wp2_with (at_next; refine wpList_next_ranges_ii _ rfl _ rfl 3 3 .i64 .i64 lawInt Try.underlying3 Try.underlying3 (w.heap.size + 1 + 1 + 1) w1.heap.size _ _ _ _ rfl HRG.out ?_ ?_)
    · intro _ _
      go_wp2_with fail
      refine (awake7_c _).mono ?_
      rintro e w4 ⟨rfl, hb4⟩
      go_wp2_with fail
      go_ret
      exact ⟨rfl, HBR.out.trans (hb4.mono HBR.out.size)⟩
    · intro x c w3 cnt3 _ _ _ hlx hrg3 hlt hgr3 hsz3 hen
      obtain rfl : c = 1 := DL_one l HN.out x c hlx
      have HB3 := Lib.hid (Below.grown (Nat.le_refl _) HBR.out hgr3 (fun g hg => by cases hg; omega))
      have HRG3 := Lib.hid hrg3
      clear hrg3 hgr3 hlx
      go_wp2_with fail
      go_roundw
      case rel => exact ⟨⟨_, _, HRG3.out⟩, HB3.out⟩
      case measure => rw [HRG3.out.left_eq, HRG.out.left_eq]; exact hlt
end Go.Proofs.Ytplhfngcmjopcaa
