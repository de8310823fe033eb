/- Slices of points, of a filter's calls. No program in sight. -/
import Derived.Test.YtfohihjeemmedaaBA
namespace Go.Proofs.Ytfohihjeemmedaa
open Go.RowKit

/-- The cells of a slice of points. -/
def PtsAt (w : World) (A : Option Addr) (len : Nat) (T : Nat → Int × Int) : Prop :=
  ∀ i : Nat, i < len → ∃ b o, A = some ⟨b, o, none⟩ ∧ b < w.heap.size ∧ w.cell? ⟨b, o + i * 2, none⟩ = some (.int .i64 (T i).1) ∧ w.cell? ⟨b, o + i * 2 + 1, none⟩ = some (.int .i64 (T i).2)
structure CallT where
  n : Int
  x : Int
  y : Int
  a : Int
  b : Int
  d : Int
  p : Int
  q : Int
  r : Int
  l : Int
  g : Int
def CallT.cs (t : CallT) : List Value := [.int .i64 t.n, .int .i64 t.x, .int .i64 t.y, .int .i64 t.a, .int .i64 t.b, .int .i64 t.d, .int .i64 t.p, .int .i64 t.q, .int .i64 t.r, .int .i64 t.l, .int .i64 t.g]
/-- The cells of a slice of calls. -/
def CallsAt (w : World) (A : Option Addr) (len : Nat) (T : Nat → CallT) : Prop :=
  ∀ i : Nat, i < len → ∃ b o, A = some ⟨b, o, none⟩ ∧ b < w.heap.size ∧ ∀ j v, (T i).cs[j]? = some v → w.cell? ⟨b, o + i * 11 + j, none⟩ = some v
end Go.Proofs.Ytfohihjeemmedaa
