/- The frame of the row on an inequality's seven numbers that came in. -/
import Derived.Test.YtnoidlacjiafdaaGreatRows
import Derived.Test.YtnoidlacjiafdaaGreatFr
import Derived.Test.YtnoidlacjiafdaaGreatRD
import Derived.Deep.Slices
import Derived.Deep.Fields
import Derived.ChangeSame
namespace Go.Proofs.YtnoidlacjiafdaaGreat
set_option linter.unusedSimpArgs false
set_option linter.unusedVariables false
open Go.ChangeShapes Go.WideShapes Go.ChangeAt Go.RowKit Go.Deep
set_option maxRecDepth 100000

theorem own : ownKnob Tryz.prog.godebug = none := by kernel_rfl
theorem laidOut : laidOutB Tryz.prog = true := by kernel_rfl
theorem addr_add (b o k : Nat) : (⟨b, o, none⟩ : Addr).add k = ⟨b, o + k, none⟩ := by
  unfold Addr.add
  by_cases h : k = 0
  · subst h; rfl
  · rw [if_neg h]
theorem k_of {n : Int} (h : IntKind.i64.min ≤ n ∧ n ≤ IntKind.i64.max) : IntKind.i64.has n := h
/-- A number's two cells. -/
theorem num_two {H : Type} {enc : TypeId × Value → H} {W : World} {spare : Nat → Bool} {held : Bool} {fuel : Nat} {x0 : Value} {K : Int} {x : DataW H × List MemPlace} (bK : IntKind.i64.has K)
    (hf : DataW.trod enc Tryz.prog W 0 spare held fuel 40 [x0, .int .i64 K] = some x) : ∃ A l c z, x0 = .slice A l c ∧ NumIs W (.agg #[.slice A l c, .int .i64 K]) z := by
  obtain ⟨y0, y1, n, -, -, ht0, -⟩ := trod_struct2 Tryz.underlying40 hf
  have e0 : Tryz.prog.cellsOf 38 = 1 := by kernel_rfl
  simp [e0] at ht0
  rcases open_slice Tryz.underlying38 ht0 with ⟨h0, -⟩ | ⟨a, len, cap, m, n, D, Pl, hcs, hb, hl, hm, hmm, hx, hi⟩
  · simp at h0
    subst h0
    exact ⟨_, _, _, _, rfl, _, _, _, fun _ => 0, _, rfl, (has_i64 bK).1, Nat.zero_le _, fun i hi => absurd hi (Nat.not_lt_zero i), rfl⟩
  · simp at hcs
    subst hcs
    have hC : Tryz.prog.cellsOf 2 = 1 := by kernel_rfl
    have hlm : len ≤ m := by rw [hmm]; split <;> omega
    have key : ∀ i, i < len → ∃ x, W.cell? (a.add i) = some (.int .i64 x) ∧ -9223372036854775808 ≤ x ∧ x ≤ 9223372036854775807 := by
      intro i hil
      obtain ⟨cs', hc, ht'⟩ := hi i (by omega)
      rw [hC] at hc
      obtain ⟨_, hcl, hat⟩ := World.cells?_some hc
      obtain ⟨x, hx0, hx1, hx2⟩ := DataW.trod_int Tryz.underlying2 ht'
      have c0 := hat 0 (by omega)
      rw [hx0, Nat.mul_one] at c0
      exact ⟨x, c0, (by have hw := hx2; unfold Lit.wf at hw; simp at hw; exact has_i64 (k_of hw))⟩
    have hT : ∀ i, ∃ q : Int, i < len → W.cell? (a.add i) = some (.int .i64 q) ∧ -9223372036854775808 ≤ q ∧ q ≤ 9223372036854775807 := by
      intro i
      by_cases h : i < len
      · obtain ⟨x, h1⟩ := key i h
        exact ⟨x, fun _ => h1⟩
      · exact ⟨0, fun h' => absurd h' h⟩
    obtain ⟨T, hT'⟩ : ∃ T : Nat → Int, ∀ i, i < len → W.cell? (a.add i) = some (.int .i64 (T i)) ∧ -9223372036854775808 ≤ T i ∧ T i ≤ 9223372036854775807 :=
      ⟨fun i => Classical.choose (hT i), fun i hi => Classical.choose_spec (hT i) hi⟩
    refine ⟨_, _, _, _, rfl, _, _, _, T, _, rfl, (has_i64 bK).1, Nat.le_trans hl hm, ?_, rfl⟩
    intro i hi
    have h1 := hT' i hi
    obtain ⟨b, o, sp⟩ := a
    have hsp : sp = none := by
      obtain ⟨x, k1, -⟩ := key 0 (by omega)
      cases sp with
      | none => rfl
      | some k =>
        unfold World.cell? at k1
        simp [Addr.add] at k1
        split at k1 <;> simp at k1
    subst hsp
    rw [addr_add] at h1
    exact ⟨b, o, rfl, block_lt_of_cell h1.1, h1.1, h1.2⟩
/-- Seven numbers that came in. -/
theorem open_raw {H : Type} {enc : TypeId × Value → H} {W : World} {base : Nat} {spare : Nat → Bool} {held : Bool} {v : Value} {d : DataW H} {p : List MemPlace} (hv : Value.okWide Tryz.prog W .any base 42 v)
    (h : DataW.Trod enc Tryz.prog W 0 spare held 42 v d p) :
    ∃ (A : Nat → Option Addr) (l c : Nat → Nat) (K : Nat → Int) (z : Nat → WI), v = .agg #[.slice (A 0) (l 0) (c 0), .int .i64 (K 0), .slice (A 1) (l 1) (c 1), .int .i64 (K 1), .slice (A 2) (l 2) (c 2), .int .i64 (K 2), .slice (A 3) (l 3) (c 3), .int .i64 (K 3), .slice (A 4) (l 4) (c 4), .int .i64 (K 4), .slice (A 5) (l 5) (c 5), .int .i64 (K 5), .slice (A 6) (l 6) (c 6), .int .i64 (K 6)] ∧
      ∀ k, k < 7 → NumIs W (.agg #[.slice (A k) (l k) (c k), .int .i64 (K k)]) (z k) := by
  obtain ⟨cs, rfl, hs, hc⟩ := okWide_cells Tryz.underlying42 (ts := [38, 3, 38, 3, 38, 3, 38, 3, 38, 3, 38, 3, 38, 3]) (by kernel_rfl) (by kernel_rfl) hv
  obtain ⟨x0, h0, -⟩ := hc 0 _ rfl
  obtain ⟨y0, g0, j0⟩ := hc 1 _ rfl
  obtain ⟨K0, rfl, b0⟩ := cell_int Tryz.underlying3 j0
  obtain ⟨x1, h1, -⟩ := hc 2 _ rfl
  obtain ⟨y1, g1, j1⟩ := hc 3 _ rfl
  obtain ⟨K1, rfl, b1⟩ := cell_int Tryz.underlying3 j1
  obtain ⟨x2, h2, -⟩ := hc 4 _ rfl
  obtain ⟨y2, g2, j2⟩ := hc 5 _ rfl
  obtain ⟨K2, rfl, b2⟩ := cell_int Tryz.underlying3 j2
  obtain ⟨x3, h3, -⟩ := hc 6 _ rfl
  obtain ⟨y3, g3, j3⟩ := hc 7 _ rfl
  obtain ⟨K3, rfl, b3⟩ := cell_int Tryz.underlying3 j3
  obtain ⟨x4, h4, -⟩ := hc 8 _ rfl
  obtain ⟨y4, g4, j4⟩ := hc 9 _ rfl
  obtain ⟨K4, rfl, b4⟩ := cell_int Tryz.underlying3 j4
  obtain ⟨x5, h5, -⟩ := hc 10 _ rfl
  obtain ⟨y5, g5, j5⟩ := hc 11 _ rfl
  obtain ⟨K5, rfl, b5⟩ := cell_int Tryz.underlying3 j5
  obtain ⟨x6, h6, -⟩ := hc 12 _ rfl
  obtain ⟨y6, g6, j6⟩ := hc 13 _ rfl
  obtain ⟨K6, rfl, b6⟩ := cell_int Tryz.underlying3 j6
  have hcs : cs = #[x0, .int .i64 K0, x1, .int .i64 K1, x2, .int .i64 K2, x3, .int .i64 K3, x4, .int .i64 K4, x5, .int .i64 K5, x6, .int .i64 K6] := by
    apply Array.ext_getElem?
    intro i
    rcases i with _ | _ | _ | _ | _ | _ | _ | _ | _ | _ | _ | _ | _ | _ | i
    all_goals first | assumption | skip
    rw [Array.getElem?_eq_none (by simp at hs; omega), Array.getElem?_eq_none (by simp)]
  subst hcs
  obtain ⟨fuel, hf⟩ := h
  obtain ⟨xs, n, _, -, -, hlen, hk⟩ := DataW.trod_struct Tryz.underlying42 hf
  have e2 : Tryz.prog.cellsOf 40 = 2 := by kernel_rfl
  match xs, hlen with
  | [u0, u1, u2, u3, u4, u5, u6], _ =>
    have t0 := hk 0 _ rfl
    have t1 := hk 1 _ rfl
    have t2 := hk 2 _ rfl
    have t3 := hk 3 _ rfl
    have t4 := hk 4 _ rfl
    have t5 := hk 5 _ rfl
    have t6 := hk 6 _ rfl
    simp [Value.cells, e2] at t0 t1 t2 t3 t4 t5 t6
    obtain ⟨A0, l0, c0, z0, rfl, n0⟩ := num_two b0 t0
    obtain ⟨A1, l1, c1, z1, rfl, n1⟩ := num_two b1 t1
    obtain ⟨A2, l2, c2, z2, rfl, n2⟩ := num_two b2 t2
    obtain ⟨A3, l3, c3, z3, rfl, n3⟩ := num_two b3 t3
    obtain ⟨A4, l4, c4, z4, rfl, n4⟩ := num_two b4 t4
    obtain ⟨A5, l5, c5, z5, rfl, n5⟩ := num_two b5 t5
    obtain ⟨A6, l6, c6, z6, rfl, n6⟩ := num_two b6 t6
    refine ⟨fun k => [A0, A1, A2, A3, A4, A5, A6].getD k none, fun k => [l0, l1, l2, l3, l4, l5, l6].getD k 0, fun k => [c0, c1, c2, c3, c4, c5, c6].getD k 0, fun k => [K0, K1, K2, K3, K4, K5, K6].getD k 0, fun k => [z0, z1, z2, z3, z4, z5, z6].getD k WI.over, rfl, ?_⟩
    intro k hk7
    rcases k with _ | _ | _ | _ | _ | _ | _ | k
    · exact n0
    · exact n1
    · exact n2
    · exact n3
    · exact n4
    · exact n5
    · exact n6
    · omega
end Go.Proofs.YtnoidlacjiafdaaGreat
