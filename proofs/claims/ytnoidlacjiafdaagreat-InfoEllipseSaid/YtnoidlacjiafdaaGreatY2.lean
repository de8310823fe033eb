/- The document's inequalities by letters; Of. -/
import Derived.Test.YtnoidlacjiafdaaGreatY1
import Derived.Test.YtnoidlacjiafdaaGreatX0
import Derived.Test.YtnoidlacjiafdaaGreatRE
import Derived.Test.YtnoidlacjiafdaaGreatIA
namespace Go.Proofs.YtnoidlacjiafdaaGreat
set_option linter.unusedSimpArgs false
set_option linter.unusedVariables false
set_option linter.unusedSimpArgs false
open Go.RowKit

theorem info_no (n0 o0 : Bool) (A0 : Option Addr) (l0 k0 : Nat) (n1 o1 : Bool) (A1 : Option Addr) (l1 k1 : Nat) (n2 o2 : Bool) (A2 : Option Addr) (l2 k2 : Nat) (n3 o3 : Bool) (A3 : Option Addr) (l3 k3 : Nat) (n4 o4 : Bool) (A4 : Option Addr) (l4 k4 : Nat) (n5 o5 : Bool) (A5 : Option Addr) (l5 k5 : Nat) (n6 o6 : Bool) (A6 : Option Addr) (l6 k6 : Nat) : ∀ (i : Nat) (m : Int), (#[.bool n0, .bool o0, .slice A0 l0 k0, .bool n1, .bool o1, .slice A1 l1 k1, .bool n2, .bool o2, .slice A2 l2 k2, .bool n3, .bool o3, .slice A3 l3 k3, .bool n4, .bool o4, .slice A4 l4 k4, .bool n5, .bool o5, .slice A5 l5 k5, .bool n6, .bool o6, .slice A6 l6 k6] : Array Value)[i]? ≠ some (.int .u32 m) := by
  intro i m e
  rcases i with _ | _ | _ | _ | _ | _ | _ | _ | _ | _ | _ | _ | _ | _ | _ | _ | _ | _ | _ | _ | _ | i
  · cases e
  · cases e
  · cases e
  · cases e
  · cases e
  · cases e
  · cases e
  · cases e
  · cases e
  · cases e
  · cases e
  · cases e
  · cases e
  · cases e
  · cases e
  · cases e
  · cases e
  · cases e
  · cases e
  · cases e
  · cases e
  · simp at e
/-- An Info is these numbers. -/
def InfoIs (w : World) (v : Value) (x0 x1 x2 x3 x4 x5 x6 : WI) : Prop := ∃ n0 o0 A0 l0 k0 n1 o1 A1 l1 k1 n2 o2 A2 l2 k2 n3 o3 A3 l3 k3 n4 o4 A4 l4 k4 n5 o5 A5 l5 k5 n6 o6 A6 l6 k6, v = .agg #[.bool n0, .bool o0, .slice A0 l0 k0, .bool n1, .bool o1, .slice A1 l1 k1, .bool n2, .bool o2, .slice A2 l2 k2, .bool n3, .bool o3, .slice A3 l3 k3, .bool n4, .bool o4, .slice A4 l4 k4, .bool n5, .bool o5, .slice A5 l5 k5, .bool n6, .bool o6, .slice A6 l6 k6] ∧ BigIs w (.agg #[.bool n0, .bool o0, .slice A0 l0 k0]) x0 ∧ BigIs w (.agg #[.bool n1, .bool o1, .slice A1 l1 k1]) x1 ∧ BigIs w (.agg #[.bool n2, .bool o2, .slice A2 l2 k2]) x2 ∧ BigIs w (.agg #[.bool n3, .bool o3, .slice A3 l3 k3]) x3 ∧ BigIs w (.agg #[.bool n4, .bool o4, .slice A4 l4 k4]) x4 ∧ BigIs w (.agg #[.bool n5, .bool o5, .slice A5 l5 k5]) x5 ∧ BigIs w (.agg #[.bool n6, .bool o6, .slice A6 l6 k6]) x6
theorem InfoIs.below {w w' : World} {v : Value} {x0 x1 x2 x3 x4 x5 x6 : WI} (h : InfoIs w v x0 x1 x2 x3 x4 x5 x6) (hb : Below w.heap.size w w') : InfoIs w' v x0 x1 x2 x3 x4 x5 x6 := by
  obtain ⟨n0, o0, A0, l0, k0, n1, o1, A1, l1, k1, n2, o2, A2, l2, k2, n3, o3, A3, l3, k3, n4, o4, A4, l4, k4, n5, o5, A5, l5, k5, n6, o6, A6, l6, k6, rfl, h0, h1, h2, h3, h4, h5, h6⟩ := h
  exact ⟨_, _, _, _, _, _, _, _, _, _, _, _, _, _, _, _, _, _, _, _, _, _, _, _, _, _, _, _, _, _, _, _, _, _, _, rfl, h0.below hb, h1.below hb, h2.below hb, h3.below hb, h4.below hb, h5.below hb, h6.below hb⟩
def InfoQ (w : World) (v : Value) (i : Iq) : Prop := InfoIs w v (WI.of i.A) (WI.of i.B) (WI.of i.D) (WI.of i.U) (WI.of i.V) (WI.of i.Z) (WI.of i.N)
theorem InfoQ.below {w w' : World} {v : Value} {i : Iq} (h : InfoQ w v i) (hb : Below w.heap.size w w') : InfoQ w' v i := InfoIs.below h hb
theorem zeroBig (w : World) : BigIs w (.agg #[.bool false, .bool false, .slice none 0 0]) (WI.of 0) := by
  have h : (WI.of 0).v = some 0 := WI.of_v (by rw [show (0 : Int).natAbs = 0 from rfl]; exact lim_pos)
  have h1 : (WI.of 0).ng = false := by unfold WI.ng; rw [h]; rfl
  have h2 : (WI.of 0).ov = false := by unfold WI.ov; rw [h]; rfl
  have h3 : (WI.of 0).sz = 0 := by unfold WI.sz; rw [h]; rfl
  refine ⟨.slice none 0 0, by rw [h1, h2], ?_⟩
  rw [h3, dg_zero]; exact Rd.nil _
/-- What an Info is built to; the walk's rules do not open it. -/
def bldI (P : Program) (t : TypeId) (parts : Array (Nat × Value)) (w : World) : Result Value := (Instr.build t parts).run P w
@[go_sem ↓] theorem exec_bldI0 {P : Program} (ρ : Operand → Value) (dst : Option Tmp) (ty : TypeId) (pos : String) (af : Array Edge) (gd : Option (Nat × Bool)) (w : World) :
    (execOp ρ ⟨dst, .build 54 #[], ty, pos, af, gd⟩).run P w = (bldI P 54 #[] w).andThen fun v w' => .ok (.value v) w' := by
  simp only [execOp, bldI, Sem.run_bind, Sem.run_pure, List.map_toArray, List.map_cons, List.map_nil]
@[go_sem ↓] theorem exec_bldI7 {P : Program} (ρ : Operand → Value) (dst : Option Tmp) (ty : TypeId) (pos : String) (af : Array Edge) (gd : Option (Nat × Bool)) (a b c d e f g : Operand) (w : World) :
    (execOp ρ ⟨dst, .build 54 #[(0, a), (1, b), (2, c), (3, d), (4, e), (5, f), (6, g)], ty, pos, af, gd⟩).run P w = (bldI P 54 #[(0, ρ a), (1, ρ b), (2, ρ c), (3, ρ d), (4, ρ e), (5, ρ f), (6, ρ g)] w).andThen fun v w' => .ok (.value v) w' := by
  simp only [execOp, bldI, Sem.run_bind, Sem.run_pure, List.map_toArray, List.map_cons, List.map_nil]
theorem Blk.over {w : World} {g : Nat} {c d : Array Value} {t : TypeId} (h : Blk w g c t) (hs : c.size = d.size) : Blk (w.putRow g 0 d) g d t := by
  have := h.putRow_same 0 d; rw [splice_all _ _ hs.symm] at this; exact this
theorem OnlyAt.putRow {w w' : World} {g : Nat} (h : OnlyAt g w w') (o : Nat) (cs : Array Value) : OnlyAt g w (w'.putRow g o cs) :=
  ⟨h.os, h.tape, h.output, by rw [size_putRow]; exact h.size, fun k hk hne => by rw [heap_putRow_other _ _ _ _ hne]; exact h.block k hk hne⟩
end Go.Proofs.YtnoidlacjiafdaaGreat
