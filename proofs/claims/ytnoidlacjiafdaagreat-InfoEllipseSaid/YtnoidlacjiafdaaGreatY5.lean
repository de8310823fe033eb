/- Info.over of the document, where nothing is over. -/
import Derived.Test.YtnoidlacjiafdaaGreatY4
import Derived.Test.YtnoidlacjiafdaaGreatRs
namespace Go.Proofs.YtnoidlacjiafdaaGreat
set_option linter.unusedSimpArgs false
set_option linter.unusedVariables false
open Go.RowKit

@[go_sem ↓] theorem exec_bldA7 {P : Program} (ρ : Operand → Value) (dst : Option Tmp) (ty : TypeId) (pos : String) (af : Array Edge) (gd : Option (Nat × Bool)) (a b c d e f g : Operand) (w : World) :
    (execOp ρ ⟨dst, .build 157 #[(0, a), (1, b), (2, c), (3, d), (4, e), (5, f), (6, g)], ty, pos, af, gd⟩).run P w = (bldI P 157 #[(0, ρ a), (1, ρ b), (2, ρ c), (3, ρ d), (4, ρ e), (5, ρ f), (6, ρ g)] w).andThen fun v w' => .ok (.value v) w' := by
  simp only [execOp, bldI, Sem.run_bind, Sem.run_pure, List.map_toArray, List.map_cons, List.map_nil]
set_option maxRecDepth 100000 in
theorem bldA7_run (n0 o0 : Bool) (A0 : Option Addr) (l0 k0 : Nat) (n1 o1 : Bool) (A1 : Option Addr) (l1 k1 : Nat) (n2 o2 : Bool) (A2 : Option Addr) (l2 k2 : Nat) (n3 o3 : Bool) (A3 : Option Addr) (l3 k3 : Nat) (n4 o4 : Bool) (A4 : Option Addr) (l4 k4 : Nat) (n5 o5 : Bool) (A5 : Option Addr) (l5 k5 : Nat) (n6 o6 : Bool) (A6 : Option Addr) (l6 k6 : Nat) (w : World) : bldI Tryz.prog 157 #[(0, (.agg #[.bool n0, .bool o0, .slice A0 l0 k0])), (1, (.agg #[.bool n1, .bool o1, .slice A1 l1 k1])), (2, (.agg #[.bool n2, .bool o2, .slice A2 l2 k2])), (3, (.agg #[.bool n3, .bool o3, .slice A3 l3 k3])), (4, (.agg #[.bool n4, .bool o4, .slice A4 l4 k4])), (5, (.agg #[.bool n5, .bool o5, .slice A5 l5 k5])), (6, (.agg #[.bool n6, .bool o6, .slice A6 l6 k6]))] w = .ok (.agg #[.bool n0, .bool o0, .slice A0 l0 k0, .bool n1, .bool o1, .slice A1 l1 k1, .bool n2, .bool o2, .slice A2 l2 k2, .bool n3, .bool o3, .slice A3 l3 k3, .bool n4, .bool o4, .slice A4 l4 k4, .bool n5, .bool o5, .slice A5 l5 k5, .bool n6, .bool o6, .slice A6 l6 k6]) w := by kernel_rfl
set_option maxRecDepth 100000 in
theorem big_at_0 (n0 o0 : Bool) (A0 : Option Addr) (l0 k0 : Nat) (n1 o1 : Bool) (A1 : Option Addr) (l1 k1 : Nat) (n2 o2 : Bool) (A2 : Option Addr) (l2 k2 : Nat) (n3 o3 : Bool) (A3 : Option Addr) (l3 k3 : Nat) (n4 o4 : Bool) (A4 : Option Addr) (l4 k4 : Nat) (n5 o5 : Bool) (A5 : Option Addr) (l5 k5 : Nat) (n6 o6 : Bool) (A6 : Option Addr) (l6 k6 : Nat) (w : World) : Sem.run Tryz.prog (Instr.index 157 (.agg #[.bool n0, .bool o0, .slice A0 l0 k0, .bool n1, .bool o1, .slice A1 l1 k1, .bool n2, .bool o2, .slice A2 l2 k2, .bool n3, .bool o3, .slice A3 l3 k3, .bool n4, .bool o4, .slice A4 l4 k4, .bool n5, .bool o5, .slice A5 l5 k5, .bool n6, .bool o6, .slice A6 l6 k6]) (.int .i64 ((0 : Nat) : Int))) w = .ok (.agg #[.bool n0, .bool o0, .slice A0 l0 k0]) w := by rfl
set_option maxRecDepth 100000 in
theorem big_at_1 (n0 o0 : Bool) (A0 : Option Addr) (l0 k0 : Nat) (n1 o1 : Bool) (A1 : Option Addr) (l1 k1 : Nat) (n2 o2 : Bool) (A2 : Option Addr) (l2 k2 : Nat) (n3 o3 : Bool) (A3 : Option Addr) (l3 k3 : Nat) (n4 o4 : Bool) (A4 : Option Addr) (l4 k4 : Nat) (n5 o5 : Bool) (A5 : Option Addr) (l5 k5 : Nat) (n6 o6 : Bool) (A6 : Option Addr) (l6 k6 : Nat) (w : World) : Sem.run Tryz.prog (Instr.index 157 (.agg #[.bool n0, .bool o0, .slice A0 l0 k0, .bool n1, .bool o1, .slice A1 l1 k1, .bool n2, .bool o2, .slice A2 l2 k2, .bool n3, .bool o3, .slice A3 l3 k3, .bool n4, .bool o4, .slice A4 l4 k4, .bool n5, .bool o5, .slice A5 l5 k5, .bool n6, .bool o6, .slice A6 l6 k6]) (.int .i64 ((1 : Nat) : Int))) w = .ok (.agg #[.bool n1, .bool o1, .slice A1 l1 k1]) w := by rfl
set_option maxRecDepth 100000 in
theorem big_at_2 (n0 o0 : Bool) (A0 : Option Addr) (l0 k0 : Nat) (n1 o1 : Bool) (A1 : Option Addr) (l1 k1 : Nat) (n2 o2 : Bool) (A2 : Option Addr) (l2 k2 : Nat) (n3 o3 : Bool) (A3 : Option Addr) (l3 k3 : Nat) (n4 o4 : Bool) (A4 : Option Addr) (l4 k4 : Nat) (n5 o5 : Bool) (A5 : Option Addr) (l5 k5 : Nat) (n6 o6 : Bool) (A6 : Option Addr) (l6 k6 : Nat) (w : World) : Sem.run Tryz.prog (Instr.index 157 (.agg #[.bool n0, .bool o0, .slice A0 l0 k0, .bool n1, .bool o1, .slice A1 l1 k1, .bool n2, .bool o2, .slice A2 l2 k2, .bool n3, .bool o3, .slice A3 l3 k3, .bool n4, .bool o4, .slice A4 l4 k4, .bool n5, .bool o5, .slice A5 l5 k5, .bool n6, .bool o6, .slice A6 l6 k6]) (.int .i64 ((2 : Nat) : Int))) w = .ok (.agg #[.bool n2, .bool o2, .slice A2 l2 k2]) w := by rfl
set_option maxRecDepth 100000 in
theorem big_at_3 (n0 o0 : Bool) (A0 : Option Addr) (l0 k0 : Nat) (n1 o1 : Bool) (A1 : Option Addr) (l1 k1 : Nat) (n2 o2 : Bool) (A2 : Option Addr) (l2 k2 : Nat) (n3 o3 : Bool) (A3 : Option Addr) (l3 k3 : Nat) (n4 o4 : Bool) (A4 : Option Addr) (l4 k4 : Nat) (n5 o5 : Bool) (A5 : Option Addr) (l5 k5 : Nat) (n6 o6 : Bool) (A6 : Option Addr) (l6 k6 : Nat) (w : World) : Sem.run Tryz.prog (Instr.index 157 (.agg #[.bool n0, .bool o0, .slice A0 l0 k0, .bool n1, .bool o1, .slice A1 l1 k1, .bool n2, .bool o2, .slice A2 l2 k2, .bool n3, .bool o3, .slice A3 l3 k3, .bool n4, .bool o4, .slice A4 l4 k4, .bool n5, .bool o5, .slice A5 l5 k5, .bool n6, .bool o6, .slice A6 l6 k6]) (.int .i64 ((3 : Nat) : Int))) w = .ok (.agg #[.bool n3, .bool o3, .slice A3 l3 k3]) w := by rfl
set_option maxRecDepth 100000 in
theorem big_at_4 (n0 o0 : Bool) (A0 : Option Addr) (l0 k0 : Nat) (n1 o1 : Bool) (A1 : Option Addr) (l1 k1 : Nat) (n2 o2 : Bool) (A2 : Option Addr) (l2 k2 : Nat) (n3 o3 : Bool) (A3 : Option Addr) (l3 k3 : Nat) (n4 o4 : Bool) (A4 : Option Addr) (l4 k4 : Nat) (n5 o5 : Bool) (A5 : Option Addr) (l5 k5 : Nat) (n6 o6 : Bool) (A6 : Option Addr) (l6 k6 : Nat) (w : World) : Sem.run Tryz.prog (Instr.index 157 (.agg #[.bool n0, .bool o0, .slice A0 l0 k0, .bool n1, .bool o1, .slice A1 l1 k1, .bool n2, .bool o2, .slice A2 l2 k2, .bool n3, .bool o3, .slice A3 l3 k3, .bool n4, .bool o4, .slice A4 l4 k4, .bool n5, .bool o5, .slice A5 l5 k5, .bool n6, .bool o6, .slice A6 l6 k6]) (.int .i64 ((4 : Nat) : Int))) w = .ok (.agg #[.bool n4, .bool o4, .slice A4 l4 k4]) w := by rfl
set_option maxRecDepth 100000 in
theorem big_at_5 (n0 o0 : Bool) (A0 : Option Addr) (l0 k0 : Nat) (n1 o1 : Bool) (A1 : Option Addr) (l1 k1 : Nat) (n2 o2 : Bool) (A2 : Option Addr) (l2 k2 : Nat) (n3 o3 : Bool) (A3 : Option Addr) (l3 k3 : Nat) (n4 o4 : Bool) (A4 : Option Addr) (l4 k4 : Nat) (n5 o5 : Bool) (A5 : Option Addr) (l5 k5 : Nat) (n6 o6 : Bool) (A6 : Option Addr) (l6 k6 : Nat) (w : World) : Sem.run Tryz.prog (Instr.index 157 (.agg #[.bool n0, .bool o0, .slice A0 l0 k0, .bool n1, .bool o1, .slice A1 l1 k1, .bool n2, .bool o2, .slice A2 l2 k2, .bool n3, .bool o3, .slice A3 l3 k3, .bool n4, .bool o4, .slice A4 l4 k4, .bool n5, .bool o5, .slice A5 l5 k5, .bool n6, .bool o6, .slice A6 l6 k6]) (.int .i64 ((5 : Nat) : Int))) w = .ok (.agg #[.bool n5, .bool o5, .slice A5 l5 k5]) w := by rfl
set_option maxRecDepth 100000 in
theorem big_at_6 (n0 o0 : Bool) (A0 : Option Addr) (l0 k0 : Nat) (n1 o1 : Bool) (A1 : Option Addr) (l1 k1 : Nat) (n2 o2 : Bool) (A2 : Option Addr) (l2 k2 : Nat) (n3 o3 : Bool) (A3 : Option Addr) (l3 k3 : Nat) (n4 o4 : Bool) (A4 : Option Addr) (l4 k4 : Nat) (n5 o5 : Bool) (A5 : Option Addr) (l5 k5 : Nat) (n6 o6 : Bool) (A6 : Option Addr) (l6 k6 : Nat) (w : World) : Sem.run Tryz.prog (Instr.index 157 (.agg #[.bool n0, .bool o0, .slice A0 l0 k0, .bool n1, .bool o1, .slice A1 l1 k1, .bool n2, .bool o2, .slice A2 l2 k2, .bool n3, .bool o3, .slice A3 l3 k3, .bool n4, .bool o4, .slice A4 l4 k4, .bool n5, .bool o5, .slice A5 l5 k5, .bool n6, .bool o6, .slice A6 l6 k6]) (.int .i64 ((6 : Nat) : Int))) w = .ok (.agg #[.bool n6, .bool o6, .slice A6 l6 k6]) w := by rfl
theorem overB_all {x0 x1 x2 x3 x4 x5 x6 : WI} (h : overB [x0, x1, x2, x3, x4, x5, x6] = false) : x0.ov = false ∧ x1.ov = false ∧ x2.ov = false ∧ x3.ov = false ∧ x4.ov = false ∧ x5.ov = false ∧ x6.ov = false := by
  simpa [overB] using h
set_option maxRecDepth 100000 in
set_option maxHeartbeats 4000000 in
theorem rover_c (u : Value) (x0 x1 x2 x3 x4 x5 x6 : WI) (w : World) (hall : overB [x0, x1, x2, x3, x4, x5, x6] = false) (hi : InfoIs w u x0 x1 x2 x3 x4 x5 x6) :
    Calls Tryz.prog 61 #[u] w fun e w' => e = .returned (.bool false) ∧ Below w.heap.size w w' := by
  obtain ⟨v0, v1, v2, v3, v4, v5, v6⟩ := overB_all hall
  clear hall
  obtain ⟨n0, o0, A0, l0, k0, n1, o1, A1, l1, k1, n2, o2, A2, l2, k2, n3, o3, A3, l3, k3, n4, o4, A4, l4, k4, n5, o5, A5, l5, k5, n6, o6, A6, l6, k6, rfl, h0, h1, h2, h3, h4, h5, h6⟩ := hi
  have C0 := Lib.hid h0
  have C1 := Lib.hid h1
  have C2 := Lib.hid h2
  have C3 := Lib.hid h3
  have C4 := Lib.hid h4
  have C5 := Lib.hid h5
  have C6 := Lib.hid h6
  clear h0 h1 h2 h3 h4 h5 h6
  obtain ⟨-, f0⟩ := C0.out.flags
  rw [v0] at f0
  subst f0
  clear v0 C0
  obtain ⟨-, f1⟩ := C1.out.flags
  rw [v1] at f1
  subst f1
  clear v1 C1
  obtain ⟨-, f2⟩ := C2.out.flags
  rw [v2] at f2
  subst f2
  clear v2 C2
  obtain ⟨-, f3⟩ := C3.out.flags
  rw [v3] at f3
  subst f3
  clear v3 C3
  obtain ⟨-, f4⟩ := C4.out.flags
  rw [v4] at f4
  subst f4
  clear v4 C4
  obtain ⟨-, f5⟩ := C5.out.flags
  rw [v5] at f5
  subst f5
  clear v5 C5
  obtain ⟨-, f6⟩ := C6.out.flags
  rw [v6] at f6
  subst f6
  clear v6 C6
  obtain ⟨IC, hIC⟩ : ∃ c : Array Value, #[.bool n0, .bool false, .slice A0 l0 k0, .bool n1, .bool false, .slice A1 l1 k1, .bool n2, .bool false, .slice A2 l2 k2, .bool n3, .bool false, .slice A3 l3 k3, .bool n4, .bool false, .slice A4 l4 k4, .bool n5, .bool false, .slice A5 l5 k5, .bool n6, .bool false, .slice A6 l6 k6] = c := ⟨_, rfl⟩
  have hbl : ∀ w, bldI Tryz.prog 157 #[(0, .agg #[.bool n0, .bool false, .slice A0 l0 k0]), (1, .agg #[.bool n1, .bool false, .slice A1 l1 k1]), (2, .agg #[.bool n2, .bool false, .slice A2 l2 k2]), (3, .agg #[.bool n3, .bool false, .slice A3 l3 k3]), (4, .agg #[.bool n4, .bool false, .slice A4 l4 k4]), (5, .agg #[.bool n5, .bool false, .slice A5 l5 k5]), (6, .agg #[.bool n6, .bool false, .slice A6 l6 k6])] w = .ok (.agg IC) w := fun w => by rw [← hIC]; with_reducible exact bldA7_run n0 false A0 l0 k0 n1 false A1 l1 k1 n2 false A2 l2 k2 n3 false A3 l3 k3 n4 false A4 l4 k4 n5 false A5 l5 k5 n6 false A6 l6 k6 w
  have hix : Hid (∀ k : Nat, k < 7 → ∃ n A l c, ∀ w, Sem.run Tryz.prog (Instr.index 157 (.agg IC) (.int .i64 k)) w = .ok (.agg #[.bool n, .bool false, .slice A l c]) w) := by
    intro k hk
    rw [← hIC]
    rcases Nat.lt_or_ge k 1 with hk0 | hk0
    · obtain rfl : k = 0 := by omega
      exact ⟨n0, A0, l0, k0, fun w => big_at_0 n0 false A0 l0 k0 n1 false A1 l1 k1 n2 false A2 l2 k2 n3 false A3 l3 k3 n4 false A4 l4 k4 n5 false A5 l5 k5 n6 false A6 l6 k6 w⟩
    rcases Nat.lt_or_ge k 2 with hk1 | hk1
    · obtain rfl : k = 1 := by omega
      exact ⟨n1, A1, l1, k1, fun w => big_at_1 n0 false A0 l0 k0 n1 false A1 l1 k1 n2 false A2 l2 k2 n3 false A3 l3 k3 n4 false A4 l4 k4 n5 false A5 l5 k5 n6 false A6 l6 k6 w⟩
    rcases Nat.lt_or_ge k 3 with hk2 | hk2
    · obtain rfl : k = 2 := by omega
      exact ⟨n2, A2, l2, k2, fun w => big_at_2 n0 false A0 l0 k0 n1 false A1 l1 k1 n2 false A2 l2 k2 n3 false A3 l3 k3 n4 false A4 l4 k4 n5 false A5 l5 k5 n6 false A6 l6 k6 w⟩
    rcases Nat.lt_or_ge k 4 with hk3 | hk3
    · obtain rfl : k = 3 := by omega
      exact ⟨n3, A3, l3, k3, fun w => big_at_3 n0 false A0 l0 k0 n1 false A1 l1 k1 n2 false A2 l2 k2 n3 false A3 l3 k3 n4 false A4 l4 k4 n5 false A5 l5 k5 n6 false A6 l6 k6 w⟩
    rcases Nat.lt_or_ge k 5 with hk4 | hk4
    · obtain rfl : k = 4 := by omega
      exact ⟨n4, A4, l4, k4, fun w => big_at_4 n0 false A0 l0 k0 n1 false A1 l1 k1 n2 false A2 l2 k2 n3 false A3 l3 k3 n4 false A4 l4 k4 n5 false A5 l5 k5 n6 false A6 l6 k6 w⟩
    rcases Nat.lt_or_ge k 6 with hk5 | hk5
    · obtain rfl : k = 5 := by omega
      exact ⟨n5, A5, l5, k5, fun w => big_at_5 n0 false A0 l0 k0 n1 false A1 l1 k1 n2 false A2 l2 k2 n3 false A3 l3 k3 n4 false A4 l4 k4 n5 false A5 l5 k5 n6 false A6 l6 k6 w⟩
    rcases Nat.lt_or_ge k 7 with hk6 | hk6
    · obtain rfl : k = 6 := by omega
      exact ⟨n6, A6, l6, k6, fun w => big_at_6 n0 false A0 l0 k0 n1 false A1 l1 k1 n2 false A2 l2 k2 n3 false A3 l3 k3 n4 false A4 l4 k4 n5 false A5 l5 k5 n6 false A6 l6 k6 w⟩
    omega
  clear hIC
  have B0 := Blk.new w #[.bool n0, .bool false, .slice A0 l0 k0, .bool n1, .bool false, .slice A1 l1 k1, .bool n2, .bool false, .slice A2 l2 k2, .bool n3, .bool false, .slice A3 l3 k3, .bool n4, .bool false, .slice A4 l4 k4, .bool n5, .bool false, .slice A5 l5 k5, .bool n6, .bool false, .slice A6 l6 k6] 54
  have q0 := B0.cell (i := 0) (v := .bool n0) rfl
  have q1 := B0.cell (i := 1) (v := .bool false) rfl
  have q2 := B0.cell (i := 2) (v := .slice A0 l0 k0) rfl
  have q3 := B0.cell (i := 3) (v := .bool n1) rfl
  have q4 := B0.cell (i := 4) (v := .bool false) rfl
  have q5 := B0.cell (i := 5) (v := .slice A1 l1 k1) rfl
  have q6 := B0.cell (i := 6) (v := .bool n2) rfl
  have q7 := B0.cell (i := 7) (v := .bool false) rfl
  have q8 := B0.cell (i := 8) (v := .slice A2 l2 k2) rfl
  have q9 := B0.cell (i := 9) (v := .bool n3) rfl
  have q10 := B0.cell (i := 10) (v := .bool false) rfl
  have q11 := B0.cell (i := 11) (v := .slice A3 l3 k3) rfl
  have q12 := B0.cell (i := 12) (v := .bool n4) rfl
  have q13 := B0.cell (i := 13) (v := .bool false) rfl
  have q14 := B0.cell (i := 14) (v := .slice A4 l4 k4) rfl
  have q15 := B0.cell (i := 15) (v := .bool n5) rfl
  have q16 := B0.cell (i := 16) (v := .bool false) rfl
  have q17 := B0.cell (i := 17) (v := .slice A5 l5 k5) rfl
  have q18 := B0.cell (i := 18) (v := .bool n6) rfl
  have q19 := B0.cell (i := 19) (v := .bool false) rfl
  have q20 := B0.cell (i := 20) (v := .slice A6 l6 k6) rfl
  clear B0
  go_enter Tryz.func61, Tryz.ntmps61
  go_wp2_with fail
  clear hbl q0 q1 q2 q3 q4 q5 q6 q7 q8 q9 q10 q11 q12 q13 q14 q15 q16 q17 q18 q19 q20
  go_loopw [20] (fun i wr => ∃ k : Nat, k ≤ 7 ∧ i = .int .i64 k ∧ Hid (Below w.heap.size w wr)) (fun i _ => 7 - (intOf i).toNat)
  case atStart => exact ⟨0, by omega, rfl, Lib.hid ((Below.refl _ _).alloc (Nat.le_refl _) _)⟩
  case round =>
    obtain ⟨k, hk, rfl, HC⟩ := hrel
    have hb := HC.out
    by_cases hlt : k < 7
    · obtain ⟨nn, AA, ll, cc, hx⟩ := hix.out k hlt
      have hk1 : (k : Int) < 7 := by omega
      have hk0 : (0 : Int) ≤ k := by omega
      go_wp2_with fail
      refine ⟨⟨k + 1, by omega, by go_num, ?_⟩, by simp [intOf]; omega⟩
      exact Lib.hid (hb.alloc hb.size _)
    · have hk2 : ¬ (k : Int) < 7 := by omega
      go_wp2_with fail
      go_ret
      exact ⟨rfl, HC.out⟩
end Go.Proofs.YtnoidlacjiafdaaGreat
