/- Rows of cells (structs, arrays) read and written whole, as rules for the walk. No program in sight. -/
import Derived.Test.YtfohihjeemmedaaMem
import Derived.Deep.MidRow
import Derived.Deep.QuietTactic
import Derived.StillTailTactics
namespace Go.Proofs.Ytfohihjeemmedaa
open Go.RowKit

/-- The cells cs laid over c from o on. -/
def splice (c : Array Value) (o : Nat) (cs : Array Value) : Array Value := (c.toList.take o ++ cs.toList ++ c.toList.drop (o + cs.size)).toArray
/-- Each is the value of one cell. -/
def ones (cs : Array Value) : Bool := cs.all (·.oneCell')
end Go.Proofs.Ytfohihjeemmedaa
namespace Go
/-- n cells of block b from o on, if they are there. -/
def World.row? (w : World) (b o n : Nat) : Option (Array Value) :=
  match w.heap[b]? with
  | some (.cells c _ _) => if o + n ≤ c.size then some (c.extract o (o + n)) else none
  | _ => none
/-- The cells cs laid into block b from o on. -/
def World.putRow (w : World) (b o : Nat) (cs : Array Value) : World :=
  { w with heap := w.heap.modify b fun
      | .cells c t fr => .cells (Proofs.Ytfohihjeemmedaa.splice c o cs) t fr
      | ob => ob }
/-- The same, where it may be done. -/
def World.put? (w : World) (b o : Nat) (cs : Array Value) : Option World :=
  match w.heap[b]? with
  | some (.cells c _ (0, 0)) => if o + cs.size ≤ c.size && Proofs.Ytfohihjeemmedaa.ones cs then some (w.putRow b o cs) else none
  | _ => none
/-- Block b is one of cells, at least n, that may be written. -/
def World.fits (w : World) (b n : Nat) : Bool :=
  match w.heap[b]? with
  | some (.cells c _ (0, 0)) => decide (n ≤ c.size)
  | _ => false
end Go
namespace Go.Proofs.Ytfohihjeemmedaa
open Go.RowKit

@[simp] theorem splice_all (c cs : Array Value) (h : cs.size = c.size) : splice c 0 cs = cs := by
  unfold splice
  have : c.toList.drop (0 + cs.size) = [] := List.drop_eq_nil_of_le (by simp [h])
  rw [this]; simp
@[simp] theorem splice_size (c : Array Value) (o : Nat) (cs : Array Value) (h : o + cs.size ≤ c.size) : (splice c o cs).size = c.size := by
  simp [splice]; omega

/-- What a load of a row comes to. -/
def rowRes (r : Option (Array Value)) (w : World) (f : Result Value) : Result Value :=
  match r with
  | some cs => .ok (.agg cs) w
  | none => f
@[go_sem] theorem rowRes_some (cs : Array Value) (w : World) (f : Result Value) : rowRes (some cs) w f = .ok (.agg cs) w := rfl
/-- What a store of a row comes to. -/
def putRes (r : Option World) (f : Result Unit) : Result Unit :=
  match r with
  | some w => .ok () w
  | none => f
@[go_sem] theorem putRes_some (w : World) (f : Result Unit) : putRes (some w) f = .ok () w := rfl

section
variable {P : Program}
theorem setRow_putRow (w : World) (b o : Nat) (c cs : Array Value) (t : TypeId) (fr : Nat × Nat) (h : w.heap[b]? = some (.cells c t fr)) : w.setRow b (splice c o cs) = w.putRow b o cs := by
  unfold World.setRow World.putRow
  congr 1
  apply Array.ext_getElem?
  intro i
  rw [Array.getElem?_modify, Array.getElem?_modify]
  by_cases hi : b = i
  · subst hi; simp [h]
  · simp [hi]
theorem run_loadVar_row? (w : World) (b o n : Nat) (ty : TypeId) (cs : Array Value) (d : TypeDesc) (hu : P.underlying ty = some d) (hd : d.isRow = true) (hi : (P.info? ty).map (·.size) = some n) (h : w.row? b o n = some cs) :
    (loadVar ty ⟨b, o, none⟩).run P w = .ok (.agg cs) w := by
  unfold World.row? at h
  split at h
  · rename_i c t fr hb
    split at h
    · rename_i hle
      cases h
      have hr := World.rangeAt_of_block hb o n
      have hs : ((c.extract o (o + n)).toList).length = n := by simp; omega
      have := run_loadVar_mid (P := P) w b o ty (c.extract o (o + n)).toList d hr hu hd (by rw [hs]; exact hi)
      rwa [Array.toArray_toList] at this
    · cases h
  · cases h
theorem loadAt_row? (w : World) (b o n : Nat) (ty : TypeId) (d : TypeDesc) (hu : P.underlying ty = some d) (hd : d.isRow = true) (hi : (P.info? ty).map (·.size) = some n) :
    (Instr.loadAt ty (.pointer (some ⟨b, o, none⟩))).run P w = rowRes (w.row? b o n) w ((loadVar ty ⟨b, o, none⟩).run P w) := by
  have hl : (Instr.loadAt ty (.pointer (some ⟨b, o, none⟩))).run P w = (loadVar ty ⟨b, o, none⟩).run P w := by
    simp only [Instr.loadAt, Instr.sureAddr, Sem.run_bind, Sem.run_pure, Result.andThen_ok]
  rw [hl]
  cases h : w.row? b o n with
  | none => rfl
  | some cs => exact run_loadVar_row? w b o n ty cs d hu hd hi h
theorem storeAt_put? (w : World) (b o n : Nat) (ty : TypeId) (cs : Array Value) (hi : (P.info? ty).map (·.size) = some n) :
    (Instr.storeAt ty (.pointer (some ⟨b, o, none⟩)) (.agg cs)).run P w = putRes (if cs.size = n then w.put? b o cs else none) ((storeVar ty ⟨b, o, none⟩ (.agg cs)).run P w) := by
  have hl : (Instr.storeAt ty (.pointer (some ⟨b, o, none⟩)) (.agg cs)).run P w = (storeVar ty ⟨b, o, none⟩ (.agg cs)).run P w := by
    simp only [Instr.storeAt, Instr.sureAddr, Sem.run_bind, Sem.run_pure, Result.andThen_ok]
  rw [hl]
  by_cases hn : cs.size = n
  · rw [if_pos hn]
    unfold World.put?
    split
    · rename_i c t hb
      split
      · rename_i hc
        rw [Bool.and_eq_true, decide_eq_true_eq] at hc
        have hst := run_storeCells_at P b o t cs.toList 0 c w hb (by simpa using hc.1) (fun v hv => (Array.all_eq_true_iff_forall_mem.1 hc.2) v (by simpa using hv))
        cases hq : P.info? ty with
        | none => simp [hq] at hi
        | some i =>
          have hs : cs.size = i.size := by simp [hq] at hi; omega
          simp only [storeVar, sizeOf, typeInfo, Sem.run_bind, Value.cells]
          simp only [Nat.add_zero, Array.length_toList] at hst
          simp [hq, hs, hst, putRes]
          have := setRow_putRow w b o c cs t (0, 0) hb
          unfold splice at this
          rw [← hs]
          simpa using this
      · rfl
    · rfl
  · rw [if_neg hn]; rfl
end

/-- What the loading of n cells comes to; the walk's rules do not open it. -/
def lcf (P : Program) (b o n : Nat) (w : World) : Result (Array Value) := (loadCellsFrom ⟨b, o, none⟩ 0 n #[]).run P w
def scf (P : Program) (b o : Nat) (cs : Array Value) (w : World) : Result Unit := (storeCells ⟨b, o, none⟩ cs.toList).run P w
def rowResA (r : Option (Array Value)) (w : World) (f : Result (Array Value)) : Result (Array Value) :=
  match r with
  | some cs => .ok cs w
  | none => f
@[go_sem] theorem rowResA_some (cs : Array Value) (w : World) (f : Result (Array Value)) : rowResA (some cs) w f = .ok cs w := rfl
theorem lcf_row? {P : Program} (w : World) (b o n : Nat) : (loadCellsFrom ⟨b, o, none⟩ 0 n #[]).run P w = rowResA (w.row? b o n) w (lcf P b o n w) := by
  cases h : w.row? b o n with
  | none => rfl
  | some cs =>
    unfold World.row? at h
    split at h
    · rename_i c t fr hb
      split at h
      · cases h
        have hr := World.rangeAt_of_block hb o n
        have hs : ((c.extract o (o + n)).toList).length = n := by simp; omega
        have := run_loadCells_list (P := P) w ⟨b, o, none⟩ (c.extract o (o + n)).toList (fun j v hv => by rw [Addr.add_mid]; exact hr j v hv)
        rw [hs, Array.toArray_toList] at this
        exact this
      · cases h
    · cases h
theorem scf_put? {P : Program} (w : World) (b o : Nat) (cs : Array Value) : (storeCells ⟨b, o, none⟩ cs.toList).run P w = putRes (w.put? b o cs) (scf P b o cs w) := by
  cases h : w.put? b o cs with
  | none => rfl
  | some w' =>
    unfold World.put? at h
    split at h
    · rename_i c t hb
      split at h
      · rename_i hc
        rw [Bool.and_eq_true, decide_eq_true_eq] at hc
        have hst := run_storeCells_at P b o t cs.toList 0 c w hb (by simpa using hc.1) (fun v hv => (Array.all_eq_true_iff_forall_mem.1 hc.2) v (by simpa using hv))
        have := setRow_putRow w b o c cs t (0, 0) hb
        unfold splice at this
        simp only [Nat.add_zero, Array.length_toList, this] at hst
        cases h; exact hst
      · cases h
    · cases h
@[go_sem ↓] theorem lcf_16 (P : Program) (w : World) (b o : Nat) : (loadCellsFrom ⟨b, o, none⟩ 0 16 #[]).run P w = rowResA (w.row? b o 16) w (lcf P b o 16 w) := lcf_row? w b o 16
@[go_sem ↓] theorem lcf_18 (P : Program) (w : World) (b o : Nat) : (loadCellsFrom ⟨b, o, none⟩ 0 18 #[]).run P w = rowResA (w.row? b o 18) w (lcf P b o 18 w) := lcf_row? w b o 18
@[go_sem] theorem scf_run (P : Program) (w : World) (b o : Nat) (cs : Array Value) : (storeCells ⟨b, o, none⟩ cs.toList).run P w = putRes (w.put? b o cs) (scf P b o cs w) := scf_put? w b o cs

/-! ### Block numbers -/
@[go_sem] theorem neA1 (n : Nat) : (n = n + 1) = False := eq_false (by omega)
@[go_sem] theorem neB1 (n : Nat) : (n + 1 = n) = False := eq_false (by omega)
@[go_sem] theorem ltA1 (n : Nat) : (n < n + 1) = True := eq_true (by omega)
@[go_sem] theorem neA2 (n : Nat) : (n = n + 1 + 1) = False := eq_false (by omega)
@[go_sem] theorem neB2 (n : Nat) : (n + 1 + 1 = n) = False := eq_false (by omega)
@[go_sem] theorem ltA2 (n : Nat) : (n < n + 1 + 1) = True := eq_true (by omega)
@[go_sem] theorem neA3 (n : Nat) : (n = n + 1 + 1 + 1) = False := eq_false (by omega)
@[go_sem] theorem neB3 (n : Nat) : (n + 1 + 1 + 1 = n) = False := eq_false (by omega)
@[go_sem] theorem ltA3 (n : Nat) : (n < n + 1 + 1 + 1) = True := eq_true (by omega)
@[go_sem] theorem neA4 (n : Nat) : (n = n + 1 + 1 + 1 + 1) = False := eq_false (by omega)
@[go_sem] theorem neB4 (n : Nat) : (n + 1 + 1 + 1 + 1 = n) = False := eq_false (by omega)
@[go_sem] theorem ltA4 (n : Nat) : (n < n + 1 + 1 + 1 + 1) = True := eq_true (by omega)
@[go_sem] theorem neA5 (n : Nat) : (n = n + 1 + 1 + 1 + 1 + 1) = False := eq_false (by omega)
@[go_sem] theorem neB5 (n : Nat) : (n + 1 + 1 + 1 + 1 + 1 = n) = False := eq_false (by omega)
@[go_sem] theorem ltA5 (n : Nat) : (n < n + 1 + 1 + 1 + 1 + 1) = True := eq_true (by omega)
@[go_sem] theorem neA6 (n : Nat) : (n = n + 1 + 1 + 1 + 1 + 1 + 1) = False := eq_false (by omega)
@[go_sem] theorem neB6 (n : Nat) : (n + 1 + 1 + 1 + 1 + 1 + 1 = n) = False := eq_false (by omega)
@[go_sem] theorem ltA6 (n : Nat) : (n < n + 1 + 1 + 1 + 1 + 1 + 1) = True := eq_true (by omega)
@[go_sem] theorem neA7 (n : Nat) : (n = n + 1 + 1 + 1 + 1 + 1 + 1 + 1) = False := eq_false (by omega)
@[go_sem] theorem neB7 (n : Nat) : (n + 1 + 1 + 1 + 1 + 1 + 1 + 1 = n) = False := eq_false (by omega)
@[go_sem] theorem ltA7 (n : Nat) : (n < n + 1 + 1 + 1 + 1 + 1 + 1 + 1) = True := eq_true (by omega)
@[go_sem] theorem neA8 (n : Nat) : (n = n + 1 + 1 + 1 + 1 + 1 + 1 + 1 + 1) = False := eq_false (by omega)
@[go_sem] theorem neB8 (n : Nat) : (n + 1 + 1 + 1 + 1 + 1 + 1 + 1 + 1 = n) = False := eq_false (by omega)
@[go_sem] theorem ltA8 (n : Nat) : (n < n + 1 + 1 + 1 + 1 + 1 + 1 + 1 + 1) = True := eq_true (by omega)

/-! ### Rules on worlds -/
section
variable {w : World}
@[go_sem] theorem row?_alloc_at (c : Array Value) (t : TypeId) (b o n : Nat) (hb : b = w.heap.size) (hn : o + n ≤ c.size) : (w.alloc (.cells c t)).row? b o n = some (c.extract o (o + n)) := by
  subst hb
  unfold World.row?
  rw [heap_alloc_new]
  simp [hn]
@[go_sem] theorem row?_alloc_past (ob : Obj) (b o n : Nat) (hb : b < w.heap.size) : (w.alloc ob).row? b o n = w.row? b o n := by
  unfold World.row?; rw [Below.heap_alloc w ob b hb]
@[go_sem] theorem row?_drew (b o n : Nat) : w.drew.row? b o n = w.row? b o n := rfl
@[go_sem] theorem row?_drewN (k b o n : Nat) : (w.drewN k).row? b o n = w.row? b o n := rfl
@[go_sem] theorem put?_drew (b o : Nat) (cs : Array Value) : w.drew.put? b o cs = (w.put? b o cs).map World.drew := by
  unfold World.put? World.drew World.putRow
  simp only
  cases h : w.heap[b]? with
  | none => rfl
  | some ob =>
    cases ob with
    | cells c t fr =>
      obtain ⟨lo, hi⟩ := fr
      rcases lo with _ | lo <;> rcases hi with _ | hi <;> simp only [Option.map_none]
      split <;> rfl
    | _ => rfl
@[go_sem] theorem put?_alloc_at (c : Array Value) (t : TypeId) (b o : Nat) (cs : Array Value) (hb : b = w.heap.size) (hn : o + cs.size ≤ c.size) (h1 : ones cs = true) :
    (w.alloc (.cells c t)).put? b o cs = some (w.alloc (.cells (splice c o cs) t)) := by
  subst hb
  unfold World.put?
  rw [heap_alloc_new]
  simp only [hn, h1, decide_true, Bool.and_self, if_true]
  rw [← setRow_putRow _ _ o c cs t (0, 0) (heap_alloc_new w _)]
  congr 1
  simp only [World.setRow, World.alloc]
  congr 1
  apply Array.ext_getElem?
  intro i
  rw [Array.getElem?_modify]
  by_cases h : w.heap.size = i
  · subst h; simp
  · have h' : ¬ i = w.heap.size := fun e => h e.symm
    simp [h, h', Array.getElem?_push]
theorem putRow_alloc_past (ob : Obj) (b o : Nat) (cs : Array Value) (hb : b < w.heap.size) : (w.alloc ob).putRow b o cs = (w.putRow b o cs).alloc ob := by
  simp only [World.putRow, World.alloc]
  congr 1
  apply Array.ext_getElem?
  intro k
  simp only [Array.getElem?_modify, Array.getElem?_push, Array.size_modify]
  by_cases hk : k = w.heap.size
  · subst hk; simp [Nat.ne_of_lt hb]
  · simp [hk]
@[go_sem] theorem put?_alloc_past (ob : Obj) (b o : Nat) (cs : Array Value) (hb : b < w.heap.size) : (w.alloc ob).put? b o cs = (w.put? b o cs).map (·.alloc ob) := by
  unfold World.put?; rw [Below.heap_alloc w ob b hb]
  rw [putRow_alloc_past ob b o cs hb]
  cases h : w.heap[b]? with
  | none => rfl
  | some ob' =>
    cases ob' with
    | cells c t fr =>
      obtain ⟨lo, hi⟩ := fr
      rcases lo with _ | lo <;> rcases hi with _ | hi <;> simp only [Option.map_none]
      split <;> rfl
    | _ => rfl
end
/-! ### Facts on worlds that are variables -/
theorem Blk.row? {w : World} {b : Nat} {c : Array Value} {t : TypeId} (h : Blk w b c t) (o n : Nat) (hn : o + n ≤ c.size) : w.row? b o n = some (c.extract o (o + n)) := by
  unfold World.row?; unfold Blk at h; rw [h]; simp [hn]
theorem Blk.row?_all {w : World} {b : Nat} {c : Array Value} {t : TypeId} (h : Blk w b c t) (n : Nat) (hn : c.size = n) : w.row? b 0 n = some c := by
  rw [h.row? 0 n (by omega)]; simp [← hn]
theorem Blk.put? {w : World} {b : Nat} {c : Array Value} {t : TypeId} (h : Blk w b c t) (o : Nat) (cs : Array Value) (hn : o + cs.size ≤ c.size) (h1 : ones cs = true) : w.put? b o cs = some (w.putRow b o cs) := by
  unfold World.put?; unfold Blk at h; rw [h]; simp [hn, h1]
theorem Blk.putRow_same {w : World} {b : Nat} {c : Array Value} {t : TypeId} (h : Blk w b c t) (o : Nat) (cs : Array Value) : Blk (w.putRow b o cs) b (splice c o cs) t := by
  rw [← setRow_putRow w b o c cs t (0, 0) h]; exact h.setRow_same _
theorem Blk.putRow_other {w : World} {b : Nat} {c : Array Value} {t : TypeId} (h : Blk w b c t) {g : Nat} (hne : b ≠ g) (o : Nat) (cs : Array Value) : Blk (w.putRow g o cs) b c t := by
  unfold Blk World.putRow; unfold Blk at h
  simp only [Array.getElem?_modify]
  rw [if_neg (Ne.symm hne)]; exact h
theorem Below_putRow {B : Nat} {a w : World} (h : Below B a w) {g : Nat} (hg : B ≤ g) (o : Nat) (cs : Array Value) : Below B a (w.putRow g o cs) :=
  h.trans ⟨rfl, rfl, rfl, by simp [World.putRow], fun k hk => by
    simp only [World.putRow, Array.getElem?_modify]; rw [if_neg (by omega)]⟩
theorem Below.row? {B : Nat} {w w' : World} (h : Below B w w') (b o n : Nat) (hb : b < B) : w'.row? b o n = w.row? b o n := by
  unfold World.row?; rw [h.block b hb]
theorem Below.put? {B : Nat} {w w' : World} (h : Below B w w') (b o : Nat) (cs : Array Value) (hb : b < B) (hp : (w.put? b o cs).isSome = true) : w'.put? b o cs = some (w'.putRow b o cs) := by
  unfold World.put? at *; rw [h.block b hb]
  revert hp
  split
  · split
    · intro _; rfl
    · intro h; cases h
  · intro h; cases h
/-- One result, a row of cells. -/
theorem results_row? {P : Program} {fn : Func} {p : Tmp} {ty : TypeId} (h : fn.results = #[.cell p ty]) (tmps : Array Value) (w : World) (g n : Nat) (cs : Array Value) (d : TypeDesc)
    (hp : tmps.getD p undef = .pointer (some ⟨g, 0, none⟩)) (hg : w.row? g 0 n = some cs)
    (hu : P.underlying ty = some d) (hd : d.isRow = true) (hi : (P.info? ty).map (·.size) = some n) :
    (results fn tmps).run P w = .ok (.agg cs) w := by
  have := run_loadVar_row? (P := P) w g 0 n ty cs d hu hd hi hg
  have hp' : tmps[p]?.getD undef = .pointer (some ⟨g, 0, none⟩) := by simpa using hp
  simp [results, h, hp', asAddr, this]
/-- A region that draws its order, but for its tail, is walked in the order of the text. (The world behind the draw as 'drew'.) -/
theorem still_tail {P : Program} {id : Nat} {Q : Exit → Act → World → Prop} {a : Act} {w : World} {l : List Oper} (n : Nat) (hm : P.follows .mixedOrders = true) (hB : Region.lexTailB .any l.toArray n = true)
    (h : wpStill P l.toArray w.drew (fun a' => wpList P l.toArray Q (l.drop n) a' w.drew) (l.take n) a) : (Code.region id l.toArray true).wp P Q a w :=
  wp_region_still_tail n hm hB h
theorem foldl_set (l : List Value) : ∀ (k o : Nat) (c : Array Value) (i : Nat), ((l.zipIdx k).foldl (fun cs x => cs.setIfInBounds (o + x.2) x.1) c)[i]? = if o + k ≤ i ∧ i < o + k + l.length ∧ i < c.size then l[i - (o + k)]? else c[i]? := by
  induction l with
  | nil => intro k o c i; rw [if_neg (by simp; omega)]; rfl
  | cons v l ih =>
    intro k o c i
    rw [List.zipIdx_cons, List.foldl_cons, ih (k + 1) o]
    simp only [Array.size_setIfInBounds, List.length_cons, Array.getElem?_setIfInBounds]
    by_cases h1 : o + k = i
    · subst h1
      rw [if_neg (by omega)]
      by_cases h2 : o + k < c.size
      · simp [h2]
      · simp [h2]
    · by_cases h2 : o + (k + 1) ≤ i ∧ i < o + (k + 1) + l.length ∧ i < c.size
      · rw [if_pos h2, if_pos (by omega)]
        rw [show i - (o + k) = (i - (o + (k + 1))) + 1 by omega, List.getElem?_cons_succ]
      · rw [if_neg h2, if_neg h1, if_neg (by omega)]
theorem foldl_set_size (l : List Value) : ∀ (k o : Nat) (c : Array Value), ((l.zipIdx k).foldl (fun cs x => cs.setIfInBounds (o + x.2) x.1) c).size = c.size := by
  induction l with
  | nil => intro k o c; rfl
  | cons v l ih => intro k o c; rw [List.zipIdx_cons, List.foldl_cons, ih]; simp
/-- A row laid cell by cell. -/
theorem foldl_splice (c v : Array Value) (o : Nat) (h : o + v.size ≤ c.size) : v.zipIdx.foldl (fun cs x => cs.setIfInBounds (o + x.2) x.1) c = splice c o v := by
  rw [← Array.foldl_toList, Array.toList_zipIdx]
  apply Array.ext
  · rw [foldl_set_size, splice_size _ _ _ h]
  · intro i h1 h2
    have e := foldl_set v.toList 0 o c i
    rw [Array.getElem?_eq_getElem h1] at e
    rw [foldl_set_size] at h1
    have e2 : (splice c o v)[i]? = some ((splice c o v)[i]) := Array.getElem?_eq_getElem h2
    have : (splice c o v)[i]? = if o + 0 ≤ i ∧ i < o + 0 + v.toList.length ∧ i < c.size then v.toList[i - (o + 0)]? else c[i]? := by
      unfold splice
      simp only [List.getElem?_toArray, List.getElem?_append, List.length_append, List.length_take, Array.length_toList, Nat.add_zero]
      have hm : min o c.size = o := by omega
      rw [hm]
      by_cases a1 : i < o
      · rw [if_pos (by omega), if_pos a1, if_neg (by omega), List.getElem?_take_of_lt a1, Array.getElem?_toList]
      · by_cases a2 : i < o + v.size
        · rw [if_pos a2, if_neg a1, if_pos (by omega)]
        · rw [if_neg a2, if_neg (by omega), List.getElem?_drop, Array.getElem?_toList]
          congr 1; omega
    rw [← this, e2] at e
    exact Option.some.inj e
/-- The end of a walk whose one result is a row of cells. -/
theorem bodyPost_row {P : Program} {fn : Func} {R : Ending → World → Prop} {a : Act} {w : World} {p : Tmp} {ty : TypeId} {g : Nat} (n : Nat) (cs : Array Value) {d : TypeDesc}
    (h : fn.results = #[.cell p ty]) (hde : a.defers = []) (hp : a.tmps.getD p undef = .pointer (some ⟨g, 0, none⟩))
    (hu : P.underlying ty = some d) (hd : d.isRow = true) (hi : (P.info? ty).map (·.size) = some n) (hg : w.row? g 0 n = some cs) (hR : R (.returned (.agg cs)) w) :
    bodyPost P fn R .ret a w := bodyPost_ret (results_row? h a.tmps w g n cs d hp hg hu hd hi) hde hR
@[simp] theorem size_putRow (w : World) (b o : Nat) (cs : Array Value) : (w.putRow b o cs).heap.size = w.heap.size := by simp [World.putRow]
theorem Below_of_hid {B : Nat} {a b : World} (h : Hid (Below B a b)) : Below B a b := h
theorem put?_fits {w : World} {b o : Nat} {cs : Array Value} (h : w.fits b (o + cs.size) = true) (h1 : ones cs = true) : w.put? b o cs = some (w.putRow b o cs) := by
  unfold World.fits at h; unfold World.put?
  split at h
  · rename_i c t hb
    rw [h, h1]; rfl
  · cases h
section
variable {w : World}
@[go_sem] theorem fits_alloc_at (c : Array Value) (t : TypeId) (b n : Nat) (hb : b = w.heap.size) : (w.alloc (.cells c t)).fits b n = decide (n ≤ c.size) := by
  subst hb; unfold World.fits; rw [heap_alloc_new]; rfl
@[go_sem] theorem fits_alloc_past (ob : Obj) (b n : Nat) (hb : b < w.heap.size) : (w.alloc ob).fits b n = w.fits b n := by
  unfold World.fits; rw [Below.heap_alloc w ob b hb]
@[go_sem] theorem fits_drew (b n : Nat) : w.drew.fits b n = w.fits b n := rfl
@[go_sem] theorem fits_drewN (k b n : Nat) : (w.drewN k).fits b n = w.fits b n := rfl
theorem heap_putRow_other (g o : Nat) (cs : Array Value) (b : Nat) (h : b ≠ g) : (w.putRow g o cs).heap[b]? = w.heap[b]? := by
  simp only [World.putRow, Array.getElem?_modify]; rw [if_neg (Ne.symm h)]
@[go_sem] theorem fits_putRow (g o : Nat) (cs : Array Value) (b n : Nat) (h : b ≠ g) : (w.putRow g o cs).fits b n = w.fits b n := by
  unfold World.fits; rw [heap_putRow_other g o cs b h]
@[go_sem] theorem row?_putRow_other (g o : Nat) (cs : Array Value) (b o' n : Nat) (h : b ≠ g) : (w.putRow g o cs).row? b o' n = w.row? b o' n := by
  unfold World.row?; rw [heap_putRow_other g o cs b h]
@[go_sem] theorem cell?_putRow_other (g o : Nat) (cs : Array Value) (b o' : Nat) (h : b ≠ g) : (w.putRow g o cs).cell? ⟨b, o', none⟩ = w.cell? ⟨b, o', none⟩ := by
  unfold World.cell?; simp only; rw [heap_putRow_other g o cs b h]
@[go_sem] theorem frozen?_putRow_other (g o : Nat) (cs : Array Value) (b o' : Nat) (h : b ≠ g) : (w.putRow g o cs).frozen? ⟨b, o', none⟩ = w.frozen? ⟨b, o', none⟩ := by
  unfold World.frozen?; simp only; rw [heap_putRow_other g o cs b h]
@[go_sem] theorem putRow_drew (g o : Nat) (cs : Array Value) : w.drew.putRow g o cs = (w.putRow g o cs).drew := rfl
end
theorem Below.fits {B : Nat} {w w' : World} (h : Below B w w') (b n : Nat) (hb : b < B) : w'.fits b n = w.fits b n := by
  unfold World.fits; rw [h.block b hb]
/-- What a call that only makes blocks leaves of a block that was there. -/
theorem bk {W w1 : World} (hb : Below W.heap.size W w1) (b : Nat) (h : b < W.heap.size) :
    b < w1.heap.size ∧ (∀ o, w1.cell? ⟨b, o, none⟩ = W.cell? ⟨b, o, none⟩) ∧ (∀ o, w1.frozen? ⟨b, o, none⟩ = W.frozen? ⟨b, o, none⟩) ∧ (∀ o n, w1.row? b o n = W.row? b o n) ∧ (∀ n, w1.fits b n = W.fits b n) ∧
      (∀ o cs, W.fits b (o + cs.size) = true → ones cs = true → w1.put? b o cs = some (w1.putRow b o cs)) :=
  ⟨Nat.lt_of_lt_of_le h hb.size, fun o => hb.cell (p := ⟨b, o, none⟩) h, fun o => hb.frozen (p := ⟨b, o, none⟩) h, fun o n => Below.row? hb b o n h, fun n => Below.fits hb b n h,
    fun _ _ h1 h2 => put?_fits (by rw [Below.fits hb b _ h]; exact h1) h2⟩
theorem row?_putRow_same {w : World} {b : Nat} (o : Nat) (cs : Array Value) (h : w.put? b o cs = some (w.putRow b o cs)) : (w.putRow b o cs).row? b o cs.size = some cs := by
  unfold World.put? at h
  split at h
  · rename_i c t hb
    split at h
    · rename_i hc
      rw [Bool.and_eq_true, decide_eq_true_eq] at hc
      have hblk : Blk w b c t := hb
      have := (hblk.putRow_same o cs).row? o cs.size (by rw [splice_size _ _ _ hc.1]; exact hc.1)
      rw [this]
      congr 1
      have hl : (c.toList.take o).length = o := by rw [List.length_take, Array.length_toList]; omega
      apply Array.ext'
      simp only [splice, Array.toList_extract, List.extract_eq_take_drop]
      rw [show o + cs.size - o = cs.toList.length by simp, List.append_assoc, List.drop_left' hl, List.take_left]
    · cases h
  · cases h
@[go_sem] theorem row?_putRow_all {w : World} {b n : Nat} {cs : Array Value} (h : w.fits b cs.size = true) (h1 : ones cs = true) (hs : cs.size = n) : (w.putRow b 0 cs).row? b 0 n = some cs := by
  subst hs; exact row?_putRow_same 0 cs (put?_fits (by rw [Nat.zero_add]; exact h) h1)
theorem row_put {w : World} {b n : Nat} {cs : Array Value} (h : w.put? b 0 cs = some (w.putRow b 0 cs)) (hs : cs.size = n) : (w.putRow b 0 cs).row? b 0 n = some cs := by
  subst hs; exact row?_putRow_same 0 cs h

theorem block_of_cell {w : World} {b i : Nat} {v : Value} (h : w.cell? ⟨b, i, none⟩ = some v) : ∃ c t fr, w.heap[b]? = some (.cells c t fr) := by
  unfold World.cell? at h
  cases hb : w.heap[b]? with
  | none => simp [hb] at h
  | some o =>
    cases o with
    | cells c t fr => exact ⟨c, t, fr, rfl⟩
    | _ => simp [hb] at h
/-- A row by its cells. -/
theorem row_of_cells {w : World} {b : Nat} (n : Nat) (cs : Array Value) (hs : cs.size = n + 1) (h : ∀ i, i < n + 1 → w.cell? ⟨b, i, none⟩ = cs[i]?) : w.row? b 0 (n + 1) = some cs := by
  have hv : ∀ i (hi : i < n + 1), w.cell? ⟨b, i, none⟩ = some (cs[i]'(by omega)) := fun i hi => by rw [h i hi, Array.getElem?_eq_getElem]
  obtain ⟨c, t, fr, hb⟩ := block_of_cell (hv 0 (by omega))
  have hc : ∀ i (hi : i < n + 1), c[i]? = some (cs[i]'(by omega)) := fun i hi => by rw [← hv i hi, cell_of_row w b i c t fr hb]
  have hsz : n + 1 ≤ c.size := by
    rcases Nat.lt_or_ge n c.size with h' | h'
    · exact h'
    · have := hc n (by omega); rw [Array.getElem?_eq_none h'] at this; cases this
  unfold World.row?
  simp only [hb]
  rw [if_pos (by omega)]
  congr 1
  apply Array.ext
  · simp [hs]; omega
  · intro i h1 h2
    have := hc i (by omega)
    rw [Array.getElem?_eq_getElem (by omega)] at this
    simpa using Option.some.inj this

end Go.Proofs.Ytfohihjeemmedaa
