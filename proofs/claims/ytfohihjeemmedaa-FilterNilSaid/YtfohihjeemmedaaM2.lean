/- The walks of package mat: Add, Adj. -/
import Derived.Test.YtfohihjeemmedaaM1
namespace Go.Proofs.Ytfohihjeemmedaa
open Go.RowKit

/-- mat.Adj. -/
def adjV (a b d : Int) : Value := if mayB a b d then symV d (-b) a else symV 0 0 0
set_option maxHeartbeats 400000 in
theorem adj_c (a b d : Int) (w : World) :
    Calls Try.prog 78 #[symV a b d] w fun e w' => e = .returned (adjV a b d) ∧ Below w.heap.size w w' := by
  have E : Hid (adjV a b d = if mayB a b d then symV d (-b) a else symV 0 0 0) := rfl
  cases hm : mayB a b d with
  | true =>
    have hw : IntKind.i64.wrap (-b) = -b := by have := (mayB_iff a b d).1 hm; rw [IntKind.wrap_i64]; omega
    go_enter Try.func78, Try.ntmps78
    go_wp2_with fail
    refine (may_c _ _ _ _).mono ?_; rintro e w1 ⟨rfl, hb1⟩; rw [hm]; have z_w1 := hb1.size; (try simp at z_w1); obtain ⟨y_w1_0_0, c_w1_0_0, f_w1_0_0, r_w1_0_0, t_w1_0_0, p_w1_0_0⟩ := bk hb1 (w.heap.size) (by first | omega | (simp; done) | (simp; omega) | fail); obtain ⟨y_w1_0_1, c_w1_0_1, f_w1_0_1, r_w1_0_1, t_w1_0_1, p_w1_0_1⟩ := bk hb1 (w.heap.size + 1) (by first | omega | (simp; done) | (simp; omega) | fail)
    go_wp2
    exact bodyPost_row 3 #[.int .i64 d, .int .i64 (-b), .int .i64 a] rfl rfl rfl Try.underlying25 rfl (by kernel_rfl) (row_of_cells 2 _ rfl (by intro i hi; rcases i with _ | _ | _ | i; (go_simp); (go_simp); (go_simp); exact absurd hi (by omega))) ⟨by rw [E.out, hm]; rfl, (by repeat (first | exact Below.refl _ _ | exact Below_of_hid (by assumption) | refine Below.drew ?_ | refine below_drewN ?_ _ | refine Below_putRow ?_ (by first | omega | (simp; done) | (simp; omega) | fail) _ _ | refine Below.alloc ?_ (by first | omega | (simp; done) | (simp; omega) | fail) _ | refine Below.setCell ?_ (by first | omega | (simp; done) | (simp; omega) | fail) _ | refine Below.trans ?_ (Below.mono (by assumption) (by first | omega | (simp; done) | (simp; omega) | fail))))⟩
  | false =>
    go_enter Try.func78, Try.ntmps78
    go_wp2_with fail
    refine (may_c _ _ _ _).mono ?_; rintro e w1 ⟨rfl, hb1⟩; rw [hm]; have z_w1 := hb1.size; (try simp at z_w1); obtain ⟨y_w1_0_0, c_w1_0_0, f_w1_0_0, r_w1_0_0, t_w1_0_0, p_w1_0_0⟩ := bk hb1 (w.heap.size) (by first | omega | (simp; done) | (simp; omega) | fail); obtain ⟨y_w1_0_1, c_w1_0_1, f_w1_0_1, r_w1_0_1, t_w1_0_1, p_w1_0_1⟩ := bk hb1 (w.heap.size + 1) (by first | omega | (simp; done) | (simp; omega) | fail)
    go_wp2
    exact bodyPost_row 3 #[.int .i64 0, .int .i64 0, .int .i64 0] rfl rfl rfl Try.underlying25 rfl (by kernel_rfl) (row_of_cells 2 _ rfl (by intro i hi; rcases i with _ | _ | _ | i; (go_simp); (go_simp); (go_simp); exact absurd hi (by omega))) ⟨by rw [E.out, hm]; rfl, (by repeat (first | exact Below.refl _ _ | exact Below_of_hid (by assumption) | refine Below.drew ?_ | refine below_drewN ?_ _ | refine Below_putRow ?_ (by first | omega | (simp; done) | (simp; omega) | fail) _ _ | refine Below.alloc ?_ (by first | omega | (simp; done) | (simp; omega) | fail) _ | refine Below.setCell ?_ (by first | omega | (simp; done) | (simp; omega) | fail) _ | refine Below.trans ?_ (Below.mono (by assumption) (by first | omega | (simp; done) | (simp; omega) | fail))))⟩
/-- The end of a walk whose results are a row of cells and a slot. -/
theorem bodyPost_row_tmp {P : Program} {fn : Func} {R : Ending → World → Prop} {a : Act} {w : World} {p u : Tmp} {ty : TypeId} {g : Nat} (n : Nat) (cs : Array Value) (v : Value) {d : TypeDesc}
    (h : fn.results = #[.cell p ty, .tmp u]) (hde : a.defers = []) (hp : a.tmps.getD p undef = .pointer (some ⟨g, 0, none⟩)) (hv : a.tmps.getD u undef = v)
    (hu : P.underlying ty = some d) (hd : d.isRow = true) (hi : (P.info? ty).map (·.size) = some n) (hg : w.row? g 0 n = some cs) (hR : R (.returned (.tuple #[.agg cs, v])) w) :
    bodyPost P fn R .ret a w := by
  refine bodyPost_ret (v := .tuple #[.agg cs, v]) ?_ hde hR
  rw [results_cell_tmp h, hp, hv]
  simp [asAddr, Result.andThen, run_loadVar_row? w g 0 n ty cs d hu hd hi hg]

/-- mat.Add. -/
def addV (a b d a' b' d' : Int) : Value × Int :=
  if mayB a b d && mayB a' b' d' then (if mayB (a + a') (b + b') (d + d') then (symV (a + a') (b + b') (d + d'), 0) else (symV 0 0 0, 2)) else (symV 0 0 0, 1)
end Go.Proofs.Ytfohihjeemmedaa
