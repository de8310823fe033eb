/- Frames as data; the walks of frame.node, in, rest. -/
import Derived.Test.YtdipecepgfaokaaN3
import Derived.Test.YtdipecepgfaokaaE1
namespace Go.Proofs.Ytdipecepgfaokaa
set_option linter.unusedSimpArgs false
set_option linter.unusedVariables false
open Go.RowKit

/-- A frame. -/
structure FrD where
  kind : Int
  src : Int
  boot : Int
  seq : Int
  stamp : Int
  dst : Int
  t1 : Int
  t2 : Int
  who : Int
  when : Int
  x : Int
  y : Int
  a : Int
  b : Int
  d : Int
deriving DecidableEq
abbrev frC (k s bo sq st ds ta tb wh wn x y a b d : Int) : Value := .agg #[.int .i64 k, .int .i64 s, .int .i64 bo, .int .i64 sq, .int .i64 st, .int .i64 ds, .int .i64 ta, .int .i64 tb, .int .i64 wh, .int .i64 wn, .int .i64 x, .int .i64 y, .int .i64 a, .int .i64 b, .int .i64 d]
abbrev frV (f : FrD) : Value := frC f.kind f.src f.boot f.seq f.stamp f.dst f.t1 f.t2 f.who f.when f.x f.y f.a f.b f.d
def FrD.el (f : FrD) : El := ⟨f.x, f.y, f.a, f.b, f.d⟩
def nodeB (n : Int) : Bool := decide (0 ≤ n) && decide (n < 64)
def inFB (n m : Int) : Bool := decide (0 ≤ n) && decide (n ≤ m)
def restF (f : FrD) : FrD × Bool :=
  if f.kind = 1 ∨ f.kind = 7 then (f, true)
  else if f.kind = 2 then ({ f with dst := 0 }, nodeB f.dst && decide (f.dst ≠ f.src))
  else if f.kind = 3 then ({ f with dst := 0, t1 := 0 }, nodeB f.dst && (decide (f.dst ≠ f.src) && inFB f.t1 4294967295))
  else if f.kind = 4 then ({ f with dst := 0, t1 := 0, t2 := 0, when := 0 }, nodeB f.dst && (decide (f.dst ≠ f.src) && (inFB f.t1 70368744177664 && (inFB f.t2 70368744177664 && inFB f.when 4294967295))))
  else if f.kind = 5 then ({ f with x := 0, y := 0, a := 0, b := 0, d := 0 }, f.el.may)
  else if f.kind = 6 then ({ f with who := 0, when := 0, x := 0, y := 0, a := 0, b := 0, d := 0 }, nodeB f.who && (decide (f.who ≠ f.src) && (inFB f.when f.stamp && f.el.may)))
  else (f, false)
set_option maxHeartbeats 400000 in
theorem node_v (n : Int) (k : Bool) (h : nodeB n = k) (w : World) : Calls Try.prog 20 #[.int .i64 n] w fun e w' => e = .returned (.bool k) ∧ w' = w := by
  subst h
  have E : nodeB n = (decide (0 ≤ n) && decide (n < 64)) := rfl
  by_cases h1 : 0 ≤ n
  · have EV : Hid (nodeB n = decide (n < 64)) := by show _ = _; rw [E]; simp [h1]
    clear E
    go_enter Try.func20, Try.ntmps20
    go_wp2
    go_ret
    exact ⟨by rw [EV.out]; rfl, rfl⟩
  · have EV : Hid (nodeB n = false) := by show _ = _; rw [E]; simp [h1]
    clear E
    go_enter Try.func20, Try.ntmps20
    go_wp2
    go_ret
    exact ⟨by rw [EV.out]; rfl, rfl⟩
set_option maxHeartbeats 400000 in
theorem in_v (n m : Int) (k : Bool) (h : inFB n m = k) (w : World) : Calls Try.prog 21 #[.int .i64 n, .int .i64 m] w fun e w' => e = .returned (.bool k) ∧ w' = w := by
  subst h
  have E : inFB n m = (decide (0 ≤ n) && decide (n ≤ m)) := rfl
  by_cases h1 : 0 ≤ n
  · have EV : Hid (inFB n m = decide (n ≤ m)) := by show _ = _; rw [E]; simp [h1]
    clear E
    go_enter Try.func21, Try.ntmps21
    go_wp2
    go_ret
    exact ⟨by rw [EV.out]; rfl, rfl⟩
  · have EV : Hid (inFB n m = false) := by show _ = _; rw [E]; simp [h1]
    clear E
    go_enter Try.func21, Try.ntmps21
    go_wp2
    go_ret
    exact ⟨by rw [EV.out]; rfl, rfl⟩
@[go_sem ↓] theorem lcf_15 (P : Program) (w : World) (b o : Nat) : (loadCellsFrom ⟨b, o, none⟩ 0 15 #[]).run P w = rowResA (w.row? b o 15) w (lcf P b o 15 w) := lcf_row? w b o 15
theorem ones15 (k s bo sq st ds ta tb wh wn x y a b d : Int) : ones #[.int .i64 k, .int .i64 s, .int .i64 bo, .int .i64 sq, .int .i64 st, .int .i64 ds, .int .i64 ta, .int .i64 tb, .int .i64 wh, .int .i64 wn, .int .i64 x, .int .i64 y, .int .i64 a, .int .i64 b, .int .i64 d] = true := by
  unfold ones
  simp [Array.all_eq_true_iff_forall_mem, Value.oneCell']
/-- The world gets a name. -/
theorem name_calls {P : Program} {f : FuncId} {args : Array Value} {W : World} {K : Ending → World → Prop} (h : ∀ u, u = W → Calls P f args u K) : Calls P f args W K := h W rfl
theorem name_wp {P : Program} {c : Code} {Q : Exit → Act → World → Prop} {a : Act} {W : World} (h : ∀ u, u = W → Code.wp P c Q a u) : Code.wp P c Q a W := h W rfl
theorem ellmay_n (x y a b d : Int) (m : Bool) (h : El.may ⟨x, y, a, b, d⟩ = m) (w : World) :
    Calls Try.prog 34 #[elC x y a b d] w fun e w' => e = .returned (.bool m) ∧ Below w.heap.size w w' := by
  rw [← h]; exact ellmay_c x y a b d w
end Go.Proofs.Ytdipecepgfaokaa
