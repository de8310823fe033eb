/- A region that draws its order, makes blocks of its own among reads and calls, and ends in a tail whose order is forced: ONE walk, in the order of the text, serves every order. No program in sight. -/
import Derived.StillTail
import Derived.Deep.Quiet
import Derived.Below
import Derived.Tactics
import Derived.BigQuiet
import Derived.Lib.Hide
namespace Go.Proofs.Ytdipecepgfaokaa
set_option linter.unusedSimpArgs false
set_option linter.unusedVariables false
open Go.RowKit

/-- What an operation makes: a block, and the value that points to it. -/
structure Fresh where
  obj : Obj
  ptr : Nat → Value
/-- A world that the region may pass: what was there stands, and the blocks N (by the operations' numbers) are there. -/
structure Inw (w0 : World) (fr : Nat → Option Fresh) (g : Nat → Nat) (N : List Nat) where
  w : World
  low : Below w0.heap.size w0 w
  has : ∀ j ∈ N, ∀ f, fr j = some f → w0.heap.size ≤ g j ∧ w.heap[g j]? = some f.obj
theorem heap_lt {w : World} {b : Nat} {o : Obj} (h : w.heap[b]? = some o) : b < w.heap.size := (Array.getElem?_eq_some_iff.1 h).1
theorem Inw.step {w0 : World} {fr : Nat → Option Fresh} {g : Nat → Nat} {N : List Nat} (p : Inw w0 fr g N) {w' : World} (h : Below p.w.heap.size p.w w') : ∃ p' : Inw w0 fr g N, w' = p'.w := by
  refine ⟨⟨w', ⟨h.os.trans p.low.os, h.tape.trans p.low.tape, h.output.trans p.low.output, Nat.le_trans p.low.size h.size, fun k hk => ?_⟩, fun j hj f hf => ?_⟩, rfl⟩
  · rw [h.block k (Nat.lt_of_lt_of_le hk p.low.size)]; exact p.low.block k hk
  · have := p.has j hj f hf
    exact ⟨this.1, by rw [h.block _ (heap_lt this.2)]; exact this.2⟩
theorem calls_in {P : Program} {f : FuncId} {args : Array Value} {w0 : World} {fr : Nat → Option Fresh} {g : Nat → Nat} {N : List Nat} {p : Inw w0 fr g N} {v : Value}
    (h : Calls P f args p.w fun e w' => e = .returned v ∧ Below p.w.heap.size p.w w') : Calls P f args p.w fun e w'' => e = .returned v ∧ ∃ p' : Inw w0 fr g N, w'' = p'.w :=
  h.mono fun _ _ ⟨he, hb⟩ => ⟨he, p.step hb⟩
/-- What stands where an operation lays its value. -/
def dstVal (dst : Option Tmp) (a : Act) : Value := match dst with | some d => a.tmps.getD d undef | none => undef
/-- THE WALK, in the order of the text. -/
def lexF (P : Program) (ops : Array Oper) (w0 : World) (fr : Nat → Option Fresh) (needs : Nat → List Nat) (vals : List Value) (g : Nat → Nat) (Q : Act → Prop) : List Oper → Nat → Act → Prop
  | [], _, a => Q a
  | o :: rest, k, a =>
    match fr k with
    | some f => Region.wanted o (yielded ops a.tmps) = true ∧ (∀ w, (execOp a.eval o).run P w = .ok (.value (f.ptr w.heap.size)) (w.alloc f.obj)) ∧ lexF P ops w0 fr needs vals g Q rest (k + 1) (a.put o.dst (f.ptr (g k)))
    | none => wpQuiet P ops (fun w' => ∃ p : Inw w0 fr g (needs k), w' = p.w) (fun a' => dstVal o.dst a' = vals.getD k undef ∧ lexF P ops w0 fr needs vals g Q rest (k + 1) a') [o] a
section
variable {P : Program} {ops : Array Oper} {w0 : World} {fr : Nat → Option Fresh} {needs : Nat → List Nat} {vals : List Value} {g : Nat → Nat} {Q : Act → Prop}

theorem lexF_nil {k : Nat} {a : Act} (h : Q a) : lexF P ops w0 fr needs vals g Q [] k a := h
theorem lexF_quiet {o : Oper} {rest : List Oper} {k : Nat} {a : Act} (hk : fr k = none)
    (h : wpQuiet P ops (fun w' => ∃ p : Inw w0 fr g (needs k), w' = p.w) (fun a' => dstVal o.dst a' = vals.getD k undef ∧ lexF P ops w0 fr needs vals g Q rest (k + 1) a') [o] a) :
    lexF P ops w0 fr needs vals g Q (o :: rest) k a := by
  unfold lexF; rw [hk]; exact h
theorem lexF_fresh {o : Oper} {rest : List Oper} {k : Nat} {a : Act} (f : Fresh) (hk : fr k = some f) (hw : Region.wanted o (yielded ops a.tmps) = true)
    (hr : ∀ w, (execOp a.eval o).run P w = .ok (.value (f.ptr w.heap.size)) (w.alloc f.obj)) (h : lexF P ops w0 fr needs vals g Q rest (k + 1) (a.put o.dst (f.ptr (g k)))) :
    lexF P ops w0 fr needs vals g Q (o :: rest) k a := by
  unfold lexF; rw [hk]; exact ⟨hw, hr, h⟩
/-- The value that operation k lays. -/
def valAt (fr : Nat → Option Fresh) (vals : List Value) (g : Nat → Nat) (k : Nat) : Value := match fr k with | some f => f.ptr (g k) | none => vals.getD k undef
/-- The frame once the first operations have come up. -/
def actAt (fr : Nat → Option Fresh) (vals : List Value) (g : Nat → Nat) : List Oper → Nat → Act → Act
  | [], _, a => a
  | o :: rest, k, a => actAt fr vals g rest (k + 1) (a.put o.dst (valAt fr vals g k))
theorem put_dstVal (a : Act) (dst : Option Tmp) (v u : Value) (h : dstVal dst (a.put dst v) = u) : a.put dst v = a.put dst u := by
  cases dst with
  | none => rfl
  | some d =>
    simp only [dstVal, Act.put] at h ⊢
    by_cases hd : d < a.tmps.size
    · simp [hd] at h; rw [h]
    · congr 1
      apply Array.ext_getElem?
      intro i
      by_cases hi : d = i
      · subst hi; simp [hd]
      · simp [hi]
theorem lexF_steps : ∀ (l : List Oper) (k : Nat) (a : Act), lexF P ops w0 fr needs vals g Q l k a →
    Q (actAt fr vals g l k a) ∧ ∀ j o, l[j]? = some o →
      match fr (k + j) with
      | some f => Region.wanted o (yielded ops (actAt fr vals g (l.take j) k a).tmps) = true ∧ ∀ w, (execOp (actAt fr vals g (l.take j) k a).eval o).run P w = .ok (.value (f.ptr w.heap.size)) (w.alloc f.obj)
      | none => ∃ v, (actAt fr vals g (l.take j) k a).put o.dst v = (actAt fr vals g (l.take j) k a).put o.dst (valAt fr vals g (k + j)) ∧ YieldsIn P ops (fun w' => ∃ p : Inw w0 fr g (needs (k + j)), w' = p.w) o v (actAt fr vals g (l.take j) k a)
  | [], k, a, h => ⟨h, fun j o ho => by simp at ho⟩
  | o :: l, k, a, h => by
    unfold lexF at h
    cases hf : fr k with
    | some f =>
      rw [hf] at h
      obtain ⟨hw, hr, h⟩ := h
      have hv : valAt fr vals g k = f.ptr (g k) := by unfold valAt; rw [hf]
      obtain ⟨h1, h2⟩ := lexF_steps l (k + 1) _ h
      refine ⟨by unfold actAt; rw [hv]; exact h1, fun j o' ho' => ?_⟩
      rcases j with _ | j
      · obtain rfl : o = o' := by simpa using ho'
        simp only [Nat.add_zero, hf, List.take_zero, actAt]
        exact ⟨hw, hr⟩
      · have := h2 j o' (by simpa using ho')
        rw [show k + 1 + j = k + (j + 1) by omega] at this
        simp only [List.take_succ_cons, actAt, hv]
        exact this
    | none =>
      rw [hf] at h
      simp only [wpQuiet] at h
      have key : ∃ v, YieldsIn P ops (fun w' => ∃ p : Inw w0 fr g (needs k), w' = p.w) o v a ∧ dstVal o.dst (a.put o.dst v) = vals.getD k undef ∧ lexF P ops w0 fr needs vals g Q l (k + 1) (a.put o.dst v) := by
        by_cases hw : Region.wanted o (yielded ops a.tmps) = true
        · rw [if_pos hw] at h
          obtain ⟨v, h1, h2, h3⟩ := h
          exact ⟨v, .inl ⟨hw, h1⟩, h2, h3⟩
        · rw [if_neg hw] at h
          exact ⟨undef, .inr ⟨by simpa using hw, rfl⟩, h⟩
      obtain ⟨v, hy, hd, hl⟩ := key
      have hv : valAt fr vals g k = vals.getD k undef := by unfold valAt; rw [hf]
      have he := put_dstVal a o.dst v _ hd
      rw [← hv] at he
      rw [he] at hl
      obtain ⟨h1, h2⟩ := lexF_steps l (k + 1) _ hl
      refine ⟨by unfold actAt; exact h1, fun j o' ho' => ?_⟩
      rcases j with _ | j
      · obtain rfl : o = o' := by simpa using ho'
        simp only [Nat.add_zero, hf, List.take_zero, actAt]
        exact ⟨v, he, hy⟩
      · have := h2 j o' (by simpa using ho')
        rw [show k + 1 + j = k + (j + 1) by omega] at this
        simp only [List.take_succ_cons, actAt]
        exact this
/-! ### What stands in the slots -/
/-- The frame a is a0 but for the slots of those of the first n operations that are listed. -/
structure Holds (ops : Array Oper) (fr : Nat → Option Fresh) (vals : List Value) (g : Nat → Nat) (n : Nat) (a0 : Act) (L : Nat → Prop) (a : Act) : Prop where
  defers : a.defers = a0.defers
  size : a.tmps.size = a0.tmps.size
  done : ∀ k o d, k < n → ops[k]? = some o → L k → o.dst = some d → d < a0.tmps.size → a.tmps[d]? = some (valAt fr vals g k)
  rest : ∀ d, (∀ k o, k < n → ops[k]? = some o → L k → o.dst ≠ some d) → a.tmps[d]? = a0.tmps[d]?
/-- No two of the first n lay into one slot. -/
def dstsB (ops : Array Oper) (n : Nat) : Bool :=
  (List.range n).all fun i => (List.range i).all fun j => match ops[i]?, ops[j]? with
    | some x, some y => x.dst.isNone || x.dst != y.dst
    | _, _ => true
theorem dstsB_spec {n : Nat} (h : dstsB ops n = true) {i j : Nat} {x y : Oper} (hi : i < n) (hj : j < n) (hne : i ≠ j) (hx : ops[i]? = some x) (hy : ops[j]? = some y) {d : Tmp} (h1 : x.dst = some d) (h2 : y.dst = some d) : False := by
  rcases Nat.lt_or_ge j i with hlt | hge
  · have := List.all_eq_true.1 (List.all_eq_true.1 h i (List.mem_range.2 hi)) j (List.mem_range.2 hlt)
    simp [hx, hy, h1, h2] at this
  · have hlt : i < j := by omega
    have := List.all_eq_true.1 (List.all_eq_true.1 h j (List.mem_range.2 hj)) i (List.mem_range.2 hlt)
    simp [hx, hy, h1, h2] at this
theorem Holds.put {n : Nat} {a0 a : Act} {L L' : Nat → Prop} (h : Holds ops fr vals g n a0 L a) (hB : dstsB ops n = true) {i : Nat} {o : Oper} (hi : i < n) (ho : ops[i]? = some o) (hL : ∀ k, L' k ↔ (L k ∨ k = i)) (hn : ¬ L i) :
    Holds ops fr vals g n a0 L' (a.put o.dst (valAt fr vals g i)) := by
  refine ⟨?_, ?_, ?_, ?_⟩
  · cases o.dst <;> exact h.defers
  · cases hd : o.dst with
    | none => exact h.size
    | some d => simp only [Act.put, Array.size_setIfInBounds]; exact h.size
  · intro k x d hk hx hLk hd hlt
    by_cases hki : k = i
    · subst hki
      obtain rfl : o = x := Option.some.inj (ho.symm.trans hx)
      rw [hd]; simp only [Act.put]
      rw [Array.getElem?_setIfInBounds_self_of_lt (by rw [h.size]; exact hlt)]
    · have hLk' : L k := by rcases (hL k).1 hLk with h' | h'; exact h'; exact absurd h' hki
      have := h.done k x d hk hx hLk' hd hlt
      cases hod : o.dst with
      | none => exact this
      | some d' =>
        have hne : d' ≠ d := fun e => dstsB_spec hB hk hi hki hx ho hd (by rw [hod, e])
        simp only [Act.put]; rw [Array.getElem?_setIfInBounds_ne hne]; exact this
  · intro d hd
    have h1 := h.rest d fun k x hk hx hLk => hd k x hk hx ((hL k).2 (.inl hLk))
    cases hod : o.dst with
    | none => exact h1
    | some d' =>
      have hne : d' ≠ d := fun e => hd i o hi ho ((hL i).2 (.inr rfl)) (by rw [hod, e])
      simp only [Act.put]; rw [Array.getElem?_setIfInBounds_ne hne]; exact h1
theorem Holds.nil {n : Nat} {a0 : Act} {L : Nat → Prop} (hL : ∀ k, k < n → ¬ L k) : Holds ops fr vals g n a0 L a0 :=
  ⟨rfl, rfl, fun k _ _ hk _ hLk _ _ => absurd hLk (hL k hk), fun _ _ => rfl⟩
theorem Holds.congr {n : Nat} {a0 a : Act} {L L' : Nat → Prop} (h : Holds ops fr vals g n a0 L a) (hL : ∀ k, k < n → (L' k ↔ L k)) : Holds ops fr vals g n a0 L' a :=
  ⟨h.defers, h.size, fun k o d hk ho hLk hd hlt => h.done k o d hk ho ((hL k hk).1 hLk) hd hlt, fun d hd => h.rest d fun k o hk ho hLk => hd k o hk ho ((hL k hk).2 hLk)⟩
/-- The blocks' numbers turned where nothing listed leans on them. -/
theorem Holds.turn {n : Nat} {a0 a : Act} {L : Nat → Prop} {g' : Nat → Nat} (h : Holds ops fr vals g n a0 L a) (hg : ∀ k, k < n → L k → g' k = g k) : Holds ops fr vals g' n a0 L a :=
  ⟨h.defers, h.size, fun k o d hk ho hLk hd hlt => by
    rw [h.done k o d hk ho hLk hd hlt]; unfold valAt; rw [hg k hk hLk], h.rest⟩
theorem holds_actAt {n : Nat} {a0 : Act} (hB : dstsB ops n = true) : ∀ (l : List Oper) (k : Nat) (a : Act), (∀ j, j < l.length → l[j]? = ops[k + j]?) → k + l.length ≤ n → Holds ops fr vals g n a0 (fun j => j < k) a →
    Holds ops fr vals g n a0 (fun j => j < k + l.length) (actAt fr vals g l k a)
  | [], k, a, _, _, h => h
  | o :: l, k, a, hl, hn, h => by
    have h0 : ops[k]? = some o := by simpa using (hl 0 (by simp)).symm
    simp only [List.length_cons] at hn
    have h1 : Holds ops fr vals g n a0 (fun j => j < k + 1) (a.put o.dst (valAt fr vals g k)) := h.put hB (by omega) h0 (fun j => by omega) (by omega)
    have h2 := holds_actAt hB l (k + 1) _ (fun j hj => by
      have := hl (j + 1) (by simp; omega)
      rw [show k + 1 + j = k + (j + 1) by omega]; simpa using this) (by omega) h1
    unfold actAt
    exact h2.congr fun j _ => by simp only [List.length_cons]; omega
theorem Holds.same {n : Nat} {a0 a a' : Act} {L : Nat → Prop} (h : Holds ops fr vals g n a0 L a) (h' : Holds ops fr vals g n a0 L a') : a = a' := by
  have hd := h.defers.trans h'.defers.symm
  have ht : a.tmps = a'.tmps := by
    apply Array.ext_getElem?
    intro d
    by_cases hex : ∃ k o, k < n ∧ ops[k]? = some o ∧ L k ∧ o.dst = some d
    · obtain ⟨k, o, hk, ho, hL, hod⟩ := hex
      by_cases hlt : d < a0.tmps.size
      · rw [h.done k o d hk ho hL hod hlt, h'.done k o d hk ho hL hod hlt]
      · have n1 : a.tmps.size ≤ d := by rw [h.size]; exact Nat.le_of_not_lt hlt
        have n2 : a'.tmps.size ≤ d := by rw [h'.size]; exact Nat.le_of_not_lt hlt
        rw [Array.getElem?_eq_none n1, Array.getElem?_eq_none n2]
    · have hno : ∀ k o, k < n → ops[k]? = some o → L k → o.dst ≠ some d := fun k o hk ho hL hod => hex ⟨k, o, hk, ho, hL, hod⟩
      rw [h.rest d hno, h'.rest d hno]
  obtain ⟨t, df⟩ := a
  obtain ⟨t', df'⟩ := a'
  simp only at ht hd
  rw [ht, hd]
/-- Two frames that stand alike in what an operation looks at. -/
theorem Holds.alike {n : Nat} {a0 a a' : Act} {L L' : Nat → Prop} (h : Holds ops fr vals g n a0 L a) (h' : Holds ops fr vals g n a0 L' a') {o : Oper}
    (hl : ∀ d, d ∈ o.looksAt ops → ∀ k x, k < n → ops[k]? = some x → x.dst = some d → (L k ∧ L' k)) : ∀ d, d ∈ o.looksAt ops → a.tmps[d]? = a'.tmps[d]? := by
  intro d hd
  by_cases hex : ∃ k x, k < n ∧ ops[k]? = some x ∧ x.dst = some d
  · obtain ⟨k, x, hk, hx, hxd⟩ := hex
    obtain ⟨l1, l2⟩ := hl d hd k x hk hx hxd
    by_cases hlt : d < a0.tmps.size
    · rw [h.done k x d hk hx l1 hxd hlt, h'.done k x d hk hx l2 hxd hlt]
    · have n1 : a.tmps.size ≤ d := by rw [h.size]; exact Nat.le_of_not_lt hlt
      have n2 : a'.tmps.size ≤ d := by rw [h'.size]; exact Nat.le_of_not_lt hlt
      rw [Array.getElem?_eq_none n1, Array.getElem?_eq_none n2]
  · rw [h.rest d fun k x hk hx _ hxd => hex ⟨k, x, hk, hx, hxd⟩, h'.rest d fun k x hk hx _ hxd => hex ⟨k, x, hk, hx, hxd⟩]
theorem exec_alike {o : Oper} (hs : ∀ cs b, o.op ≠ .select cs b) {a a' : Act} (h : ∀ d, d ∈ o.looksAt ops → a.tmps[d]? = a'.tmps[d]?) : execOp a.eval o = execOp a'.eval o :=
  execOp_congr o hs fun x hx => by
    cases x with
    | tmp t =>
      have := h t (List.mem_append_left _ (List.mem_filterMap.2 ⟨.tmp t, by simpa using hx, rfl⟩))
      simp [Act.eval, this]
    | _ => rfl
theorem wanted_alike {o : Oper} {a a' : Act} (h : ∀ d, d ∈ o.looksAt ops → a.tmps[d]? = a'.tmps[d]?) : Region.wanted o (yielded ops a.tmps) = Region.wanted o (yielded ops a'.tmps) := by
  unfold Region.wanted
  cases hg : o.guard with
  | none => rfl
  | some gw =>
    obtain ⟨k, want⟩ := gw
    have hy : yielded ops a.tmps k = yielded ops a'.tmps k := by
      unfold yielded
      cases ht : (ops[k]?).bind (·.dst) with
      | none => rfl
      | some t =>
        have := h t (by simp [Oper.looksAt, hg, ht])
        simp [this]
    simp only [hy]
/-! ### Any order -/
/-- Whatever an operation of the first n looks at was laid by one that it waits for; what it needs, too; and it waits for earlier ones alone. -/
def waitsB (ops : Array Oper) (needs : Nat → List Nat) (n : Nat) : Bool :=
  (List.range n).all fun k => match ops[k]? with
    | none => false
    | some o => (o.looksAt ops).all (fun d => (List.range n).all fun j => match ops[j]? with
        | some x => x.dst != some d || Region.waitsFor .any ops k j
        | none => true) && (needs k).all (fun j => Region.waitsFor .any ops k j) && o.after.all (fun e => !Region.binds .any e || decide (e.on < k))
/-- What is listed once the first n have come up. -/
def firstN (n m : Nat) : Array Bool := ((List.range m).map fun k => decide (k < n)).toArray
def freshB (ops : Array Oper) (needs : Nat → List Nat) (n : Nat) : Bool :=
  Region.noSelect ops && decide (n < ops.size) && Region.sinkB .any ops n && Region.chainB .any ops n && dstsB ops n && waitsB ops needs n && Region.seqB .any ops (ops.size - n) n (firstN n ops.size)
theorem waitsB_spec {n : Nat} (h : waitsB ops needs n = true) {k : Nat} {o : Oper} (hk : k < n) (ho : ops[k]? = some o) :
    (∀ d ∈ o.looksAt ops, ∀ j x, j < n → ops[j]? = some x → x.dst = some d → Region.waitsFor .any ops k j = true) ∧ (∀ j ∈ needs k, Region.waitsFor .any ops k j = true) ∧ (∀ e ∈ o.after, Region.binds .any e = true → e.on < k) := by
  have := List.all_eq_true.1 h k (List.mem_range.2 hk)
  simp only [ho, Bool.and_eq_true] at this
  obtain ⟨⟨h1, h2⟩, h3⟩ := this
  refine ⟨fun d hd j x hj hx hxd => ?_, fun j hj => List.all_eq_true.1 h2 j hj, fun e he hb => ?_⟩
  · have := List.all_eq_true.1 (List.all_eq_true.1 h1 d hd) j (List.mem_range.2 hj)
    simp only [hx, hxd, bne_self_eq_false, Bool.false_or] at this
    exact this
  · have := Array.all_eq_true_iff_forall_mem.1 h3 e he
    simpa [hb] using this
/-- What is known on the way. -/
structure Way (ops : Array Oper) (w0 : World) (fr : Nat → Option Fresh) (vals : List Value) (n : Nat) (a0 : Act) (listed : Array Bool) (g : Nat → Nat) (a : Act) (w : World) : Prop where
  head : HeadInv .any ops n listed
  low : Below w0.heap.size w0 w
  has : ∀ k f, k < n → listed.getD k false = true → fr k = some f → w0.heap.size ≤ g k ∧ w.heap[g k]? = some f.obj
  diff : ∀ k k', k < n → k' < n → listed.getD k false = true → listed.getD k' false = true → (fr k).isSome = true → (fr k').isSome = true → k ≠ k' → g k ≠ g k'
  frame : Holds ops fr vals g n a0 (fun k => listed.getD k false = true) a
theorem below_alloc {B : Nat} {a w : World} (h : Below B a w) (hB : B ≤ w.heap.size) (o : Obj) : Below B a (w.alloc o) := h.alloc hB o
theorem getD_set_iff {listed : Array Bool} {i k : Nat} (hi : i < listed.size) : (listed.setIfInBounds i true).getD k false = true ↔ (listed.getD k false = true ∨ k = i) := by
  by_cases h : i = k
  · subst h; simp [hi]
  · rw [getD_set_ne false h]
    constructor
    · exact .inl
    · rintro (h1 | h1)
      · exact h1
      · exact absurd h1.symm h
theorem way_step {n : Nat} {a0 : Act} {listed : Array Bool} {g : Nat → Nat} {a : Act} {w : World} (hB : freshB ops needs n = true) {l : List Oper} (hl : l = ops.toList.take n)
    (H : ∀ g (N : Nat → List Nat), (∀ k, ∀ j ∈ needs k, j ∈ N k) → lexF P ops w0 fr N vals g (fun _ => True) l 0 a0) (h : Way ops w0 fr vals n a0 listed g a w) {i : Nat} (hi : i < n) (hr : i ∈ Region.ready .any ops listed) {Q' : Exit → Act → World → Prop} {K : Act → World → Prop}
    (hK : ∀ g' a' w', Way ops w0 fr vals n a0 (listed.setIfInBounds i true) g' a' w' → K a' w') : wpOp P ops Q' i K a w := by
  simp only [freshB, Bool.and_eq_true, decide_eq_true_eq] at hB
  obtain ⟨⟨⟨⟨⟨⟨hsel, hn⟩, hsink⟩, hchain⟩, hdst⟩, hwait⟩, hseq⟩ := hB
  obtain ⟨hun, o, ho, hall⟩ := mem_ready.1 hr
  have hlo : l[i]? = some o := by
    rw [hl]; simp [hi, ho]
  have hisz : i < listed.size := by rw [h.head.size]; omega
  have hunl : ¬ listed.getD i false = true := by
    rw [getD_both hun]; simp
  obtain ⟨wt1, wt2, wt3⟩ := waitsB_spec hwait hi ho
  have dep : ∀ j, Region.waitsFor .any ops i j = true → listed.getD j false = true ∧ j < i := by
    intro j hj
    obtain ⟨o', ho', e, he, hb, hon⟩ := Region.waitsFor_spec hj
    have : o' = o := Option.some.inj (ho'.symm.trans ho)
    subst this
    rw [← hon]
    exact ⟨hall e he hb, wt3 e he hb⟩
  have hA : ∀ g, Holds ops fr vals g n a0 (fun k => k < i) (actAt fr vals g (l.take i) 0 a0) := by
    intro g
    have hlen : (l.take i).length = i := by rw [hl]; simp; omega
    have := holds_actAt (vals := vals) (fr := fr) (g := g) (a0 := a0) hdst (l.take i) 0 a0 (fun j hj => by
      rw [hlen] at hj
      rw [hl]; simp [hj, show j < n by omega]) (by omega) (Holds.nil fun k _ => by omega)
    rw [hlen] at this
    exact this.congr fun j _ => by omega
  have hsl := Region.noSelect_spec hsel
  have alike := h.frame.alike (hA g) (o := o) (fun d hd k x hk hx hxd => dep k (wt1 d hd k x hk hx hxd))
  have ex := exec_alike (hsl i o · · ho) alike
  have wn := wanted_alike alike
  have steps := (lexF_steps l 0 a0 (H g (fun k => needs k ++ (List.range n).filter fun j => listed.getD j false) (fun k j hj => List.mem_append_left _ hj))).2 i o hlo
  rw [Nat.zero_add] at steps
  unfold wpOp
  simp only [ho]
  cases hf : fr i with
  | some f =>
    rw [hf] at steps
    obtain ⟨hw, hrun⟩ := steps
    rw [wn, if_pos hw]
    refine .inl ?_
    unfold Oper.wp
    rw [ex, hrun w]
    simp only [Oper.upon]
    have hold : ∀ k, k < n → listed.getD k false = true → (if k = i then w.heap.size else g k) = g k := fun k _ hk => by
      rw [if_neg]; intro e; subst e; exact hunl hk
    refine hK (fun k => if k = i then w.heap.size else g k) _ _ ⟨h.head.set hr hi, below_alloc h.low (by have := h.low.size; omega) _, ?_, ?_, ?_⟩
    · intro k f' hk hlk hfk
      rcases (getD_set_iff hisz).1 hlk with h1 | h1
      · have := h.has k f' hk h1 hfk
        simp only [hold k hk h1]
        exact ⟨this.1, by rw [Below.heap_alloc w f.obj _ (heap_lt this.2)]; exact this.2⟩
      · subst h1
        simp only [if_true]
        rw [hf] at hfk
        cases hfk
        exact ⟨h.low.size, heap_alloc_new w _⟩
    · intro k k' hk hk' hlk hlk' hs hs' hne
      rcases (getD_set_iff hisz).1 hlk with h1 | h1 <;> rcases (getD_set_iff hisz).1 hlk' with h2 | h2
      · simp only [hold k hk h1, hold k' hk' h2]
        exact h.diff k k' hk hk' h1 h2 hs hs' hne
      · subst h2
        simp only [hold k hk h1, if_true]
        obtain ⟨f', hf'⟩ := Option.isSome_iff_exists.1 hs
        have := heap_lt (h.has k f' hk h1 hf').2
        omega
      · subst h1
        simp only [hold k' hk' h2, if_true]
        obtain ⟨f', hf'⟩ := Option.isSome_iff_exists.1 hs'
        have := heap_lt (h.has k' f' hk' h2 hf').2
        omega
      · exact absurd (h1.trans h2.symm) hne
    · have hturn := h.frame.turn (g' := fun k => if k = i then w.heap.size else g k) (fun k hk hlk => hold k hk hlk)
      have := hturn.put (L' := fun k => (listed.setIfInBounds i true).getD k false = true) hdst hi ho (fun k => getD_set_iff hisz) hunl
      have hv : valAt fr vals (fun k => if k = i then w.heap.size else g k) i = f.ptr w.heap.size := by unfold valAt; rw [hf]; simp
      rwa [hv] at this
  | none =>
    rw [hf] at steps
    obtain ⟨v, hput, hy⟩ := steps
    have hC : ∃ p : Inw w0 fr g (needs i ++ (List.range n).filter fun j => listed.getD j false), w = p.w := ⟨⟨w, h.low, fun j hj f hfj => by
      rcases List.mem_append.1 hj with hj | hj
      · have := dep j (wt2 j hj)
        exact h.has j f (by omega) this.1 hfj
      · have := List.mem_filter.1 hj
        exact h.has j f (List.mem_range.1 this.1) this.2 hfj⟩, rfl⟩
    have nxt : ∀ p : Inw w0 fr g (needs i ++ (List.range n).filter fun j => listed.getD j false), K (a.put o.dst v) p.w := by
      intro p
      have he : a.put o.dst v = a.put o.dst (valAt fr vals g i) := by
        cases hod : o.dst with
        | none => rfl
        | some d =>
          by_cases hd : d < a0.tmps.size
          · have e1 : ((actAt fr vals g (l.take i) 0 a0).put o.dst v).tmps[d]? = ((actAt fr vals g (l.take i) 0 a0).put o.dst (valAt fr vals g i)).tmps[d]? := by rw [hput]
            have hs : d < (actAt fr vals g (l.take i) 0 a0).tmps.size := by rw [(hA g).size]; exact hd
            rw [hod] at e1
            simp only [Act.put] at e1
            rw [Array.getElem?_setIfInBounds_self_of_lt hs, Array.getElem?_setIfInBounds_self_of_lt hs] at e1
            rw [Option.some.inj e1]
          · have hs : ¬ d < a.tmps.size := by rw [h.frame.size]; exact hd
            simp only [Act.put]
            congr 1
            apply Array.ext_getElem?
            intro j
            by_cases hj : d = j
            · subst hj; simp [hs]
            · rw [Array.getElem?_setIfInBounds_ne hj, Array.getElem?_setIfInBounds_ne hj]
      rw [he]
      refine hK g _ _ ⟨h.head.set hr hi, p.low, ?_, ?_, ?_⟩
      · intro k f' hk hlk hfk
        rcases (getD_set_iff hisz).1 hlk with h1 | h1
        · exact p.has k (List.mem_append_right _ (List.mem_filter.2 ⟨List.mem_range.2 hk, h1⟩)) f' hfk
        · subst h1; rw [hf] at hfk; cases hfk
      · intro k k' hk hk' hlk hlk' hs hs' hne
        rcases (getD_set_iff hisz).1 hlk with h1 | h1
        · rcases (getD_set_iff hisz).1 hlk' with h2 | h2
          · exact h.diff k k' hk hk' h1 h2 hs hs' hne
          · subst h2; rw [hf] at hs'; cases hs'
        · subst h1; rw [hf] at hs; cases hs
      · exact h.frame.put (L' := fun k => (listed.setIfInBounds i true).getD k false = true) hdst hi ho (fun k => getD_set_iff hisz) hunl
    rcases hy with ⟨hw, hq⟩ | ⟨hw, rfl⟩
    · rw [wn, if_pos hw]
      refine .inl ?_
      have h3 := hq w hC
      unfold Oper.quietAt at h3
      unfold Oper.wp
      rw [ex]
      generalize (execOp (actAt fr vals g (l.take i) 0 a0).eval o).run P w = r at *
      cases r with
      | ok m w' =>
        cases m <;> simp only [Oper.quietUpon] at h3 <;> simp only [Oper.upon]
        case value u =>
          obtain ⟨e1, e2⟩ := h3
          obtain ⟨p, hp⟩ := hC
          rw [e1, e2, hp]; exact nxt p
        case skip =>
          obtain ⟨e1, e2⟩ := h3
          obtain ⟨p, hp⟩ := hC
          rw [e1, ← e2, hp]; exact nxt p
        case enter f args =>
          obtain ⟨e1, hc⟩ := h3
          rw [e1]
          exact hc.mono fun e w'' ⟨he, p, hp⟩ => by subst he; subst hp; exact nxt p
      | halt x w' => simp only [Oper.quietUpon] at h3
    · rw [wn, hw]
      simp only [Bool.false_eq_true, if_false]
      obtain ⟨p, hp⟩ := hC
      have := nxt p
      rwa [← hp] at this
theorem firstN_of {n : Nat} {listed : Array Bool} (inv : HeadInv .any ops n listed) (_hn : n < ops.size) (hall : ∀ k, k < n → listed.getD k false = true) : listed = firstN n ops.size := by
  apply Array.ext_getElem?
  intro k
  have hs : (firstN n ops.size).size = ops.size := by simp [firstN]
  by_cases hk : k < ops.size
  · have e1 : (firstN n ops.size)[k]? = some (decide (k < n)) := by simp [firstN, hk]
    rw [e1]
    have hks : k < listed.size := by rw [inv.size]; exact hk
    by_cases hkn : k < n
    · have := hall k hkn
      simp [hks] at this
      simp [hks, this, hkn]
    · have := inv.tail k (by omega) hk
      simp [hks] at this
      simp [hks, this, hkn]
  · rw [Array.getElem?_eq_none (by rw [inv.size]; omega), Array.getElem?_eq_none (by rw [hs]; omega)]
/-- How many of the first n are not listed. -/
def left (n : Nat) (listed : Array Bool) : Nat := ((List.range n).filter fun k => !listed.getD k false).length
theorem left_set {n i : Nat} {listed : Array Bool} (hi : i < n) (his : i < listed.size) (hun : listed.getD i false = false) : left n listed = left n (listed.setIfInBounds i true) + 1 := by
  unfold left
  induction n with
  | zero => omega
  | succ n ih =>
    rw [List.range_succ, List.filter_append, List.filter_append, List.length_append, List.length_append]
    by_cases hin : i = n
    · subst hin
      have e1 : (List.range i).filter (fun k => !listed.getD k false) = (List.range i).filter (fun k => !(listed.setIfInBounds i true).getD k false) := by
        apply List.filter_congr
        intro k hk
        have := List.mem_range.1 hk
        rw [getD_set_ne false (by omega)]
      rw [e1]
      have e2 : (listed.setIfInBounds i true).getD i false = true := (getD_set_iff his).2 (.inr rfl)
      simp only [List.filter_cons, List.filter_nil, hun, e2]
      rfl
    · rw [ih (by omega)]
      have e3 : (listed.setIfInBounds i true).getD n false = listed.getD n false := getD_set_ne false hin
      simp only [List.filter_cons, List.filter_nil, e3]
      omega
theorem any_way {n : Nat} {a0 : Act} {l : List Oper} (hB : freshB ops needs n = true) (hl : l = ops.toList.take n) (H : ∀ g (N : Nat → List Nat), (∀ k, ∀ j ∈ needs k, j ∈ N k) → lexF P ops w0 fr N vals g (fun _ => True) l 0 a0) {Q' : Exit → Act → World → Prop}
    (fin : ∀ g w, Below w0.heap.size w0 w → (∀ k f, k < n → fr k = some f → w0.heap.size ≤ g k ∧ w.heap[g k]? = some f.obj) → (∀ k k', k < n → k' < n → (fr k).isSome = true → (fr k').isSome = true → k ≠ k' → g k ≠ g k') →
      wpList P ops Q' (ops.toList.drop n) (actAt fr vals g l 0 a0) w) :
    ∀ (m : Nat) (listed : Array Bool) (g : Nat → Nat) (a : Act) (w : World), left n listed = m → Way ops w0 fr vals n a0 listed g a w → wpAny P .any ops Q' (m + (ops.size - n)) listed a w := by
  have hB0 := hB
  simp only [freshB, Bool.and_eq_true, decide_eq_true_eq] at hB
  obtain ⟨⟨⟨⟨⟨⟨hsel, hn⟩, hsink⟩, hchain⟩, hdst⟩, hwait⟩, hseq⟩ := hB
  intro m
  induction m with
  | zero =>
    intro listed g a w hm h
    have hall : ∀ k, k < n → listed.getD k false = true := by
      intro k hk
      cases hc : listed.getD k false with
      | true => rfl
      | false =>
        have hmem : k ∈ (List.range n).filter fun k => !listed.getD k false := List.mem_filter.2 ⟨List.mem_range.2 hk, by simp only [hc]; rfl⟩
        have : ((List.range n).filter fun k => !listed.getD k false) = [] := List.length_eq_zero_iff.1 hm
        rw [this] at hmem; cases hmem
    have hlist := firstN_of h.head hn hall
    have hlen : l.length = n := by rw [hl]; simp; omega
    have hA : Holds ops fr vals g n a0 (fun k => k < n) (actAt fr vals g l 0 a0) := by
      have := holds_actAt (vals := vals) (fr := fr) (g := g) (a0 := a0) hdst l 0 a0 (fun j hj => by rw [hlen] at hj; rw [hl]; simp [hj]) (by omega) (Holds.nil fun k _ => by omega)
      rw [hlen] at this
      exact this.congr fun j _ => by omega
    have hae : a = actAt fr vals g l 0 a0 := (h.frame.congr (L' := fun k => k < n) fun k hk => ⟨fun _ => hall k hk, fun _ => hk⟩).same hA
    rw [hlist, hae]
    have := fin g w h.low (fun k f hk hf => h.has k f hk (hall k hk) hf) (fun k k' hk hk' hs hs' hne => h.diff k k' hk hk' (hall k hk) (hall k' hk') hs hs' hne)
    have hdl : (ops.toList.drop n).length = ops.size - n := by simp
    have hw := wpAny_of_seq (md := .any) (Q' := Q') (ops.toList.drop n) n (firstN n ops.size) (actAt fr vals g l 0 a0) w (fun j => by simp [List.getElem?_drop]) (by rw [hdl]; exact hseq) this
    rw [hdl] at hw
    rwa [Nat.zero_add]
  | succ m ih =>
    intro listed g a w hm h
    obtain ⟨i0, hi0, hun0⟩ : ∃ i, i < n ∧ listed.getD i false = false := by
      have hne : ((List.range n).filter fun k => !listed.getD k false) ≠ [] := by
        intro e
        have : left n listed = 0 := by unfold left; rw [e]; rfl
        omega
      obtain ⟨x, hx⟩ := List.exists_mem_of_ne_nil _ hne
      have := List.mem_filter.1 hx
      exact ⟨x, List.mem_range.1 this.1, by simpa using this.2⟩
    have hun0' := getD_in (by rw [h.head.size]; omega) hun0
    have notail := tail_waits hsink hchain hn h.head _ i0 rfl hi0 hun0'
    -- the least that is not listed may come up
    have hex : ∃ i, i < n ∧ i ∈ Region.ready .any ops listed := by
      have : ∀ d i, i = d → i < n → listed.getD i false = false → ∃ i, i < n ∧ i ∈ Region.ready .any ops listed := by
        intro d
        induction d using Nat.strongRecOn with
        | _ d ihd =>
          intro i hid hin hui
          have hio : i < ops.size := by omega
          have ho : ops[i]? = some (ops[i]) := Array.getElem?_eq_getElem hio
          by_cases hdeps : ∀ e ∈ (ops[i]).after, Region.binds .any e = true → listed.getD e.on false = true
          · exact ⟨i, hin, mem_ready.2 ⟨getD_in (by rw [h.head.size]; omega) hui, _, ho, hdeps⟩⟩
          · have hc : ∃ e, e ∈ (ops[i]).after ∧ Region.binds .any e = true ∧ listed.getD e.on false = false := by
              apply Classical.byContradiction
              intro hno
              exact hdeps fun e he hb => by
                cases hc : listed.getD e.on false with
                | true => rfl
                | false => exact absurd ⟨e, he, hb, hc⟩ hno
            obtain ⟨e, he, hb, hue⟩ := hc
            have hlt := (waitsB_spec hwait hin ho).2.2 e he hb
            exact ihd e.on (by omega) e.on rfl (by omega) hue
      exact this i0 i0 rfl hi0 hun0
    obtain ⟨i1, hi1, hr1⟩ := hex
    rw [show m + 1 + (ops.size - n) = (m + (ops.size - n)) + 1 by omega]
    refine ⟨fun h0 => (by rw [h0] at hr1; cases hr1), fun i hi => ?_⟩
    have hin : i < n := by
      rcases Nat.lt_or_ge i n with h' | h'
      · exact h'
      · exact absurd hi (notail i h')
    have hui := getD_both (mem_ready.1 hi).1
    refine way_step hB0 hl H h hin hi fun g' a' w' h' => ih _ g' a' w' ?_ h'
    have := left_set hin (by rw [h.head.size]; omega) hui
    omega
theorem lexF_true : ∀ (l : List Oper) (k : Nat) (a : Act), lexF P ops w0 fr needs vals g Q l k a → lexF P ops w0 fr needs vals g (fun _ => True) l k a
  | [], _, _, _ => trivial
  | o :: l, k, a, h => by
    unfold lexF at h ⊢
    cases hf : fr k with
    | some f => rw [hf] at h; exact ⟨h.1, h.2.1, lexF_true l _ _ h.2.2⟩
    | none =>
      rw [hf] at h
      simp only [wpQuiet] at h ⊢
      by_cases hw : Region.wanted o (yielded ops a.tmps) = true
      · rw [if_pos hw] at h ⊢
        obtain ⟨v, h1, h2, h3⟩ := h
        exact ⟨v, h1, h2, lexF_true l _ _ h3⟩
      · rw [if_neg hw] at h ⊢
        exact ⟨h.1, lexF_true l _ _ h.2⟩
/-- **ONE WALK SERVES EVERY ORDER**: the first n operations read, call or make blocks; the rest comes in one forced order behind them. -/
theorem wp_region_fresh {id : Nat} {Q' : Exit → Act → World → Prop} {a : Act} {w : World} {l : List Oper} (n : Nat) (fr : Nat → Option Fresh) (needs : Nat → List Nat) (vals : List Value) (hm : P.follows .mixedOrders = true) (hB : freshB l.toArray needs n = true)
    (H : ∀ g (N : Nat → List Nat), (∀ k, ∀ j ∈ needs k, j ∈ N k) → lexF P l.toArray w.drew fr N vals g (fun a' => ∀ w', Below w.heap.size w w' → (∀ k f, k < n → fr k = some f → w.heap.size ≤ g k ∧ w'.heap[g k]? = some f.obj) →
      (∀ k k', k < n → k' < n → (fr k).isSome = true → (fr k').isSome = true → k ≠ k' → g k ≠ g k') → wpList P l.toArray Q' (l.drop n) a' w') (l.take n) 0 a) : (Code.region id l.toArray true).wp P Q' a w := by
  have hB0 := hB
  simp only [freshB, Bool.and_eq_true, decide_eq_true_eq] at hB
  obtain ⟨⟨⟨⟨⟨⟨hsel, hn⟩, hsink⟩, hchain⟩, hdst⟩, hwait⟩, hseq⟩ := hB
  refine wp_region_any hm ?_
  have hn' : n < l.length := by simpa using hn
  have := any_way (P := P) (ops := l.toArray) (w0 := w.drew) (fr := fr) (vals := vals) (a0 := a) (l := l.take n) (Q' := Q') hB0 rfl (fun g N hN => lexF_true _ _ _ (H g N hN)) (fun g w' hb hh hd => by
    have := (lexF_steps _ 0 _ (H g needs (fun _ _ h => h))).1 w' ⟨hb.os, hb.tape, hb.output, hb.size, hb.block⟩ hh hd
    exact this) n (Array.replicate l.toArray.size false) (fun _ => 0) a w.drew ?_ ⟨⟨by simp, fun j oj _ hl => (by rw [getD_replicate_false] at hl; cases hl), fun t _ ht => getD_in (by simpa using ht) (getD_replicate_false _ _)⟩,
      Below.refl _ _, fun k f _ hk => (by rw [getD_replicate_false] at hk; cases hk), fun k k' _ _ hk => (by rw [getD_replicate_false] at hk; cases hk), Holds.nil fun k _ hk => (by rw [getD_replicate_false] at hk; cases hk)⟩
  · rw [show n + (l.toArray.size - n) = l.toArray.size by simp; omega] at this
    exact this
  · unfold left
    rw [List.filter_eq_self.2 (fun k _ => by rw [getD_replicate_false]; rfl)]
    simp
end

theorem ex_list {p : List Value → Prop} (h : ∃ v, ∃ l, p (v :: l)) : ∃ l, p l := by
  obtain ⟨v, l, h⟩ := h; exact ⟨v :: l, h⟩
theorem wp_region_fresh' {P : Program} {id : Nat} {Q' : Exit → Act → World → Prop} {a : Act} {w : World} {l : List Oper} (n : Nat) (fr : Nat → Option Fresh) (needs : Nat → List Nat) (hm : P.follows .mixedOrders = true) (hB : freshB l.toArray needs n = true)
    (H : ∃ vals : List Value, ∀ g (N : Nat → List Nat), (∀ k, ∀ j ∈ needs k, j ∈ N k) → lexF P l.toArray w.drew fr N vals g (fun a' => ∀ w', Below w.heap.size w w' → (∀ k f, k < n → fr k = some f → w.heap.size ≤ g k ∧ w'.heap[g k]? = some f.obj) →
      (∀ k k', k < n → k' < n → (fr k).isSome = true → (fr k').isSome = true → k ≠ k' → g k ≠ g k') → wpList P l.toArray Q' (l.drop n) a' w') (l.take n) 0 a) : (Code.region id l.toArray true).wp P Q' a w := by
  obtain ⟨vals, H⟩ := H
  exact wp_region_fresh n fr needs vals hm hB H
/-- A cell of an old block, in every world that the region may pass. -/
theorem inw_cell {w : World} {a : Addr} {v : Value} (h : w.cell? a = some v) {fr : Nat → Option Fresh} {g : Nat → Nat} {N : List Nat} (p : Inw w.drew fr g N) : p.w.cell? a = some v := by
  have hb : Below w.heap.size w p.w := ⟨p.low.os, p.low.tape, p.low.output, p.low.size, p.low.block⟩
  rw [hb.cell (block_lt_of_cell h)]; exact h
end Go.Proofs.Ytdipecepgfaokaa
