/- The walks of package sum: Table, With, Sum; of put, the program's and the document's. -/
import Derived.Test.YtdipecepgfaokaaN1
import Derived.Test.YtdipecepgfaokaaRA
import Derived.Test.YtdipecepgfaokaaBN
namespace Go.Proofs.Ytdipecepgfaokaa
set_option linter.unusedSimpArgs false
set_option linter.unusedVariables false
open Go.RowKit

theorem new1 (w : World) (x : Value) (t : TypeId) : ∀ (j : Nat) (u : Value), [x][j]? = some u → (w.alloc (Obj.cells #[x] t)).cell? ((⟨w.heap.size, 0, none⟩ : Addr).add j) = some u := by
  intro j u hj
  match j, hj with
  | 0, hj => simp at hj; subst hj; simp [Addr.add]
theorem one1 (x : Value) (h : x.oneCell' = true) : ∀ u ∈ [x], u.oneCell' = true := by
  intro u hu; simp at hu; subst hu; exact h
theorem infoU8 : (Try.prog.info? 5).map (fun i => (i.zero, i.size, i.bytes)) = some (some (.int .u8 0), 1, 1) := by kernel_rfl
/-- A slice of the call's own that reads as these bytes. -/
def OwnR (w : World) (B : Nat) (v : Value) (xs : List Nat) : Prop :=
  Byt xs ∧ w.ownsRow B 5 1 v xs.length (xs.map fun (c : Nat) => Value.int .u8 (c : Int))
/-- A full slice that reads as these bytes: there is no room behind them. -/
def FullB (w : World) (v : Value) (xs : List Nat) : Prop :=
  Byt xs ∧ ∃ g, v = .slice (some ⟨g, 0, none⟩) xs.length xs.length ∧ g < w.heap.size ∧ ∀ j, j < xs.length → w.cell? ⟨g, j, none⟩ = some (.int .u8 ((xs.getD j 0 : Nat) : Int))
/-- What may be appended to. -/
def OwnB (w : World) (B : Nat) (v : Value) (xs : List Nat) : Prop := OwnR w B v xs ∨ FullB w v xs
theorem OwnR.rd {w : World} {B : Nat} {v : Value} {xs : List Nat} (h : OwnR w B v xs) : RdB w v xs := by
  obtain ⟨hy, hl, ⟨rfl, h0⟩ | ⟨g, cap, cur, rfl, hB, hg, hc, hm, hs, ht⟩⟩ := h
  · exact ⟨hy, ⟨none, 0, by rw [h0], by omega, fun j hj => absurd hj (by omega)⟩⟩
  · have own : w.ownsRow B 5 1 (.slice (some ⟨g, 0, none⟩) xs.length cap) xs.length (xs.map fun (c : Nat) => Value.int .u8 (c : Int)) := ⟨hl, .inr ⟨g, cap, cur, rfl, hB, hg, hc, hm, hs, ht⟩⟩
    refine ⟨hy, some ⟨g, 0, none⟩, cap, rfl, hc, fun j hj => ⟨g, 0, rfl, (Array.getElem?_eq_some_iff.1 hg).1, ?_⟩⟩
    rw [Nat.zero_add, own.cellAt j (by omega), List.getElem?_map, List.getElem?_eq_getElem hj, List.getD_eq_getElem?_getD, List.getElem?_eq_getElem hj]; rfl
theorem FullB.rd {w : World} {v : Value} {xs : List Nat} (h : FullB w v xs) : RdB w v xs := by
  obtain ⟨hy, g, rfl, hg, H⟩ := h
  exact ⟨hy, some ⟨g, 0, none⟩, xs.length, rfl, Nat.le_refl _, fun j hj => ⟨g, 0, rfl, hg, by rw [Nat.zero_add]; exact H j hj⟩⟩
theorem OwnB.rd {w : World} {B : Nat} {v : Value} {xs : List Nat} (h : OwnB w B v xs) : RdB w v xs := h.elim OwnR.rd FullB.rd
theorem OwnR.mono {w : World} {B B' : Nat} {v : Value} {xs : List Nat} (h : OwnR w B v xs) (hb : B' ≤ B) : OwnR w B' v xs := by
  obtain ⟨hy, hl, h | ⟨g, cap, cur, e, hB, r⟩⟩ := h
  · exact ⟨hy, hl, .inl h⟩
  · exact ⟨hy, hl, .inr ⟨g, cap, cur, e, Nat.le_trans hb hB, r⟩⟩
theorem OwnR.keep {w w' : World} {B : Nat} {v : Value} {xs : List Nat} (h : OwnR w B v xs) (hb : Below w.heap.size w w') : OwnR w' B v xs := by
  obtain ⟨hy, hl, h | ⟨g, cap, cur, e, hB, hg, r⟩⟩ := h
  · exact ⟨hy, hl, .inl h⟩
  · exact ⟨hy, hl, .inr ⟨g, cap, cur, e, hB, (hb.block g (Array.getElem?_eq_some_iff.1 hg).1).trans hg, r⟩⟩
theorem FullB.keep {w w' : World} {v : Value} {xs : List Nat} (h : FullB w v xs) (hb : Below w.heap.size w w') : FullB w' v xs := by
  obtain ⟨hy, g, rfl, hg, H⟩ := h
  exact ⟨hy, g, rfl, Nat.lt_of_lt_of_le hg hb.size, fun j hj => (hb.cell (p := ⟨g, j, none⟩) hg).trans (H j hj)⟩
theorem OwnB.keep {w w' : World} {B : Nat} {v : Value} {xs : List Nat} (h : OwnB w B v xs) (hb : Below w.heap.size w w') : OwnB w' B v xs := h.imp (·.keep hb) (·.keep hb)
theorem OwnB.mono {w : World} {B B' : Nat} {v : Value} {xs : List Nat} (h : OwnB w B v xs) (hb : B' ≤ B) : OwnB w B' v xs := h.imp (·.mono hb) id
theorem RdB.form {w : World} {v : Value} {xs : List Nat} (h : RdB w v xs) : ∃ ao cap, v = .slice ao xs.length cap := by
  obtain ⟨_, ao, cap, e, _⟩ := h; exact ⟨ao, cap, e⟩
theorem byt_append {x y : List Nat} (hx : Byt x) (hy : Byt y) : Byt (x ++ y) := fun a ha => (List.mem_append.1 ha).elim (hx a) (hy a)
theorem bytes_one (ys : List Nat) : ∀ u ∈ ys.map (fun (c : Nat) => Value.int .u8 (c : Int)), u.oneCell' = true := by
  intro u hu; obtain ⟨c, _, rfl⟩ := List.mem_map.1 hu; rfl
/-- Bytes behind a full slice: a new row. -/
theorem append_full {w : World} {v : Value} {xs : List Nat} (h : FullB w v xs) (hx : xs.length ≤ 2000000) (ad : Addr) (c : Nat) (ys : List Nat) (hy : Byt ys) (hpos : 0 < ys.length) (hl : ys.length ≤ 1000000)
    (hnews : ∀ j u, (ys.map fun (c : Nat) => Value.int .u8 (c : Int))[j]? = some u → w.cell? (ad.add j) = some u) :
    ∃ v' w', (Builtin.append_ #[30, 30] 30 #[v, .slice (some ad) ys.length c]).run Try.prog w = .ok v' w' ∧ OwnR w' w.heap.size v' (xs ++ ys) ∧ Below w.heap.size w w' := by
  obtain ⟨i0, hi, hz0, hz1, hz2⟩ := info_parts infoU8
  obtain ⟨hyx, g, rfl, hg, H⟩ := h
  have hr := run_append_grow (P := Try.prog) w 30 30 5 i0 (.int .u8 0) Try.underlying30 hi hz0 ⟨g, 0, none⟩ xs.length xs.length (xs.map fun (c : Nat) => Value.int .u8 (c : Int)) (by rw [hz1]; simp)
    (fun j u hj => by
      rw [List.getElem?_map] at hj
      by_cases hjl : j < xs.length
      · rw [List.getElem?_eq_getElem hjl] at hj
        obtain rfl := Option.some.inj hj
        rw [Addr.add_lit, Nat.zero_add, H j hjl, List.getD_eq_getElem?_getD, List.getElem?_eq_getElem hjl]; rfl
      · rw [List.getElem?_eq_none (by omega)] at hj; cases hj)
    ad ys.length c (ys.map fun (c : Nat) => Value.int .u8 (c : Int)) (by rw [hz1]; simp) hnews (by omega) (by omega) (growslice_fits (by omega) (by rw [hz2]; omega))
  have hge := grownCap_ge w (xs.length + ys.length) xs.length 5
  have hcm := grownCap_le_maxLen w (xs.length + ys.length) xs.length 5 (by unfold maxLen; omega)
  refine ⟨_, _, hr, ⟨byt_append hyx hy, by simp, .inr ⟨w.heap.size, _, _, by rw [List.length_append], Nat.le_refl _, heap_alloc_new w.drew _, by rw [List.length_append]; exact hge, hcm, ?_, ?_⟩⟩, (Below.refl _ _).drew.alloc (Nat.le_refl _) _⟩
  · simp only [Array.size_append, List.size_toArray, size_zeroCells, List.length_map]
    rw [show (Value.int IntKind.u8 0).cells.size = 1 from rfl]; omega
  · simp only [Array.toList_append, List.map_append]
    rw [show (xs ++ ys).length * 1 = ((xs.map fun (c : Nat) => Value.int .u8 (c : Int)) ++ (ys.map fun (c : Nat) => Value.int .u8 (c : Int))).length by simp]
    exact List.take_left
/-- Bytes behind a row of the call's own. -/
theorem append_own {w : World} {B : Nat} {v : Value} {xs : List Nat} (h : OwnR w B v xs) (hB : B ≤ w.heap.size) (hx : xs.length ≤ 2000000) (ad : Addr) (c : Nat) (ys : List Nat) (hy : Byt ys) (hl : ys.length ≤ 1000000)
    (hnews : ∀ j u, (ys.map fun (c : Nat) => Value.int .u8 (c : Int))[j]? = some u → w.cell? (ad.add j) = some u) :
    ∃ v' w', (Builtin.append_ #[30, 30] 30 #[v, .slice (some ad) ys.length c]).run Try.prog w = .ok v' w' ∧ OwnR w' B v' (xs ++ ys) ∧ Below B w w' := by
  obtain ⟨i0, hi, hz0, hz1, hz2⟩ := info_parts infoU8
  obtain ⟨v', w', hr, ho, hg, -⟩ := run_append_own (P := Try.prog) w B 30 30 5 i0 (.int .u8 0) 1 1 Try.underlying30 hi hz0 hz1 hz2 rfl (by decide) v xs.length _ h.2 ad ys.length c (ys.map fun (c : Nat) => Value.int .u8 (c : Int)) (by simp) hnews (bytes_one ys) (by unfold maxLen; omega) (by omega) hB
  exact ⟨v', w', hr, ⟨byt_append h.1 hy, by rw [List.length_append, List.map_append]; exact ho⟩, (Below.refl _ _).grown hg hB (fun g hg' => (h.2.lt g hg').1)⟩
theorem append_bytes {w : World} {B : Nat} {v : Value} {xs : List Nat} (h : OwnB w B v xs) (hB : B ≤ w.heap.size) (hx : xs.length ≤ 2000000) (ad : Addr) (c : Nat) (ys : List Nat) (hy : Byt ys) (hpos : 0 < ys.length) (hl : ys.length ≤ 1000000)
    (hnews : ∀ j u, (ys.map fun (c : Nat) => Value.int .u8 (c : Int))[j]? = some u → w.cell? (ad.add j) = some u) :
    ∃ v' w', (Builtin.append_ #[30, 30] 30 #[v, .slice (some ad) ys.length c]).run Try.prog w = .ok v' w' ∧ OwnR w' B v' (xs ++ ys) ∧ Below B w w' := by
  rcases h with h | h
  · exact append_own h hB hx ad c ys hy hl hnews
  · obtain ⟨v', w', hr, ho, hb⟩ := append_full h hx ad c ys hy hpos hl hnews
    exact ⟨v', w', hr, ho.mono hB, hb.mono hB⟩
/-- append, by the equation of its run. -/
theorem wpList_append_run {P : Program} {w : World} {ops : Array Oper} {rest : List Oper} {o : Oper} {a : Act} {Q : Exit → Act → World → Prop} (hgd : o.guard = none) (s x : Operand) (t : TypeId)
    (ho : o.op = .call { callee := .builtin .append, args := #[s, x], argTypes := #[t, t] }) {sv xv v' : Value} {w' : World} (hr : (Builtin.append_ #[t, t] o.type #[sv, xv]).run P w = .ok v' w')
    (hs : a.eval s = sv) (hx : a.eval x = xv) (h : wpList P ops Q rest (a.put o.dst v') w') : wpList P ops Q (o :: rest) a w :=
  wpList_plain hgd fun _ hK => by
    unfold Oper.wp execOp
    simp only [ho, resolve, invoke, builtin, Sem.run_bind, Sem.run_pure, Result.andThen_ok, List.map_toArray, List.map_cons, List.map_nil, hs, hx, hr]
    exact hK _ _ h
theorem OwnB.alloc {w : World} {B : Nat} {v : Value} {xs : List Nat} (h : OwnB w B v xs) (o : Obj) : OwnB (w.alloc o) B v xs := h.keep ((Below.refl _ _).alloc (Nat.le_refl _) o)
theorem OwnB.form {w : World} {B : Nat} {v : Value} {xs : List Nat} (h : OwnB w B v xs) : ∃ ao cap, v = .slice ao xs.length cap := h.rd.form
theorem new1b (w : World) (c : Nat) (t : TypeId) : ∀ (j : Nat) (u : Value), ([c].map fun (c : Nat) => Value.int .u8 (c : Int))[j]? = some u → (w.alloc (Obj.cells #[.int .u8 (c : Int)] t)).cell? ((⟨w.heap.size, 0, none⟩ : Addr).add j) = some u := new1 w _ t
theorem ownH_drew {w : World} {B : Nat} {v : Value} {xs : List Nat} (h : Hid (OwnB w B v xs)) : Hid (OwnB w.drew B v xs) := h.out.keep (Below.refl _ _).drew
theorem ownH_drewN {w : World} {B k : Nat} {v : Value} {xs : List Nat} (h : Hid (OwnB w B v xs)) : Hid (OwnB (w.drewN k) B v xs) := h
/-- The table. -/
def TabIs (w : World) (v : Value) : Prop :=
  ∃ g cap, v = .slice (some ⟨g, 0, none⟩) 256 cap ∧ g < w.heap.size ∧ ∀ i, i < 256 → w.cell? ⟨g, i, none⟩ = some (.int .u32 ((ent i : Nat) : Int))
theorem TabIs.below {w w' : World} {v : Value} (h : TabIs w v) (hb : Below w.heap.size w w') : TabIs w' v := by
  obtain ⟨g, cap, rfl, hg, H⟩ := h
  exact ⟨g, cap, rfl, Nat.lt_of_lt_of_le hg hb.size, fun i hi => (hb.cell (p := ⟨g, i, none⟩) hg).trans (H i hi)⟩
abbrev entL (k : Nat) : List Value := (List.range k).map fun i => Value.int .u32 ((ent i : Nat) : Int)
theorem entL_succ (k : Nat) : entL (k + 1) = entL k ++ [.int .u32 ((ent k : Nat) : Int)] := by
  unfold entL; rw [List.range_succ, List.map_append]; rfl
set_option maxRecDepth 100000 in
set_option maxHeartbeats 1000000 in
theorem table_c (w : World) :
    Calls Try.prog 33 #[] w fun e w' => (∃ v, e = .returned v ∧ TabIs w' v) ∧ Below w.heap.size w w' := by
  obtain ⟨i0, hi, hz0, hz1, hz2⟩ := info_parts infoU32
  go_enter Try.func33, Try.ntmps33
  go_wp2_with fail
  go_loopw [1, 5] (fun t1 t5 wr => ∃ k : Nat, k ≤ 256 ∧ t5 = .int .i64 k ∧ Hid (wr.ownsRow w.heap.size 38 1 t1 k (entL k)) ∧ Hid (Below w.heap.size w wr)) (fun _ t5 _ => 256 - (intOf t5).toNat)
  case atStart => exact ⟨0, by omega, rfl, World.ownsRow_nil _ _ _ _, (by repeat (first | exact Below.refl _ _ | exact Below_of_hid (by assumption) | refine Below.drew ?_ | refine below_drewN ?_ _ | refine Below_putRow ?_ (by first | omega | (simp; done) | (simp; omega) | fail) _ _ | refine Below.alloc ?_ (by first | omega | (simp; done) | (simp; omega) | fail) _ | refine Below.setCell ?_ (by first | omega | (simp; done) | (simp; omega) | fail) _ | refine Below.trans ?_ (Below.mono (by assumption) (by first | omega | (simp; done) | (simp; omega) | fail))))⟩
  case round =>
    obtain ⟨k, hk, rfl, hown, hb⟩ := hrel
    by_cases hlt : k < 256
    · have hlt2 : Hid (∀ j, bitN j k < 4294967296) := fun j => bitN_lt j (by omega)
      go_wp2_with fail
      go_loopw [3, 10] (fun t3 t10 wz => ∃ j : Nat, j ≤ 8 ∧ t10 = .int .i64 j ∧ t3 = .int .u32 ((bitN j k : Nat) : Int) ∧ wz = wr) (fun _ t10 _ => 8 - (intOf t10).toNat)
      case atStart => exact ⟨0, by omega, rfl, by go_num, rfl⟩
      case round =>
        obtain ⟨j, hj, rfl, rfl, rfl⟩ := hrel
        by_cases hlt8 : j < 8
        · obtain ⟨m, hm⟩ : ∃ m, m = bitN j k := ⟨_, rfl⟩
          have hml : m < 4294967296 := by rw [hm]; exact hlt2.out j
          have HS : Hid (bitN (j + 1) k = bitS m) := by show _ = _; rw [hm]; rfl
          rw [← hm]
          have ha := and1_u32 m hml
          have hx : bits .xor .u32 ((m : Int) / 2) 3988292384 = (((m / 2) ^^^ 3988292384 : Nat) : Int) := u32_xor_nat (m / 2) 3988292384 (by omega) (by decide)
          clear hlt2 hm
          by_cases hp : m % 2 = 1
          · have hS : Hid (bitS m = (m / 2) ^^^ 3988292384) := by show _ = _; unfold bitS; rw [if_pos hp]
            rw [hp] at ha
            go_wp2
            go_roundw
            case rel => exact ⟨j + 1, by omega, by go_num, by rw [HS.out, hS.out], trivial⟩
            case measure => simp [intOf]; omega
          · have hS : Hid (bitS m = m / 2) := by show _ = _; unfold bitS; rw [if_neg hp]
            have h0 : m % 2 = 0 := by omega
            rw [h0] at ha
            go_wp2
            go_roundw
            case rel => exact ⟨j + 1, by omega, by go_num, by rw [HS.out, hS.out]; rfl, trivial⟩
            case measure => simp [intOf]; omega
        · have h8 : j = 8 := by omega
          subst h8
          obtain ⟨m, hm⟩ : ∃ m, m = bitN 8 k := ⟨_, rfl⟩
          have HM : Hid (ent k = m) := hm.symm
          rw [← hm]
          clear hlt2 hm
          go_wp2_with (first
            | (at_builtin; refine wpList_append_own _ rfl _ _ 68 rfl w.heap.size 38 i0 (.int .u32 0) 1 4 Try.underlying68 hi hz0 hz1 hz2 rfl (by decide) _ _ _ rfl (hown.out.alloc _) ⟨wr.heap.size, 0, none⟩ 1 1 [.int .u32 (m : Int)] rfl rfl (new1 _ _ _) (one1 _ rfl) (by unfold maxLen; omega) (by omega) (by have := hb.out.size; simp; omega) ?_; intro v' w1 hown' hgrow hnn)
            | go_in)
          have HO : Hid (w1.ownsRow w.heap.size 38 1 v' (k + 1) (entL (k + 1))) := by show World.ownsRow _ _ _ _ _ _ _; rw [entL_succ, HM.out]; exact hown'
          have hb2 : Hid (Below w.heap.size w w1) := (hb.out.alloc hb.out.size _).grown hgrow (by have := hb.out.size; simp; omega) (fun g hg => (hown.out.lt g hg).1)
          clear hown' hgrow hown hb hnn
          go_wp2_with fail
          go_roundw
          case rel => exact ⟨k + 1, by omega, by go_num, HO, hb2⟩
          case measure => simp [intOf]; omega
    · have h8 : k = 256 := by omega
      subst h8
      go_wp2_with fail
      go_ret
      refine ⟨⟨_, rfl, ?_⟩, hb.out⟩
      obtain ⟨hl, ⟨rfl, h0⟩ | ⟨g, cap, cur, e, hB, hg, r⟩⟩ := hown.out
      · cases h0
      · have own := hown.out
        rw [e] at own
        refine ⟨g, cap, e, (Array.getElem?_eq_some_iff.1 hg).1, fun i hi => ?_⟩
        rw [own.cellAt i (by omega), List.getElem?_map, List.getElem?_range hi]; rfl
set_option maxRecDepth 100000 in
set_option maxHeartbeats 1000000 in
theorem with_c (t v : Value) (xs : List Nat) (w : World) (ht : TabIs w t) (h : RdB w v xs) (hx : xs.length ≤ 1000000) :
    Calls Try.prog 32 #[t, v] w fun e w' => e = .returned (.int .u32 ((crc xs : Nat) : Int)) ∧ Below w.heap.size w w' := by
  obtain ⟨hy, ao, cap, rfl, hc, H⟩ := h
  obtain ⟨g, tcap, rfl, hg, HT⟩ := ht
  obtain ⟨S, hS⟩ : ∃ f : Nat → Nat, f = fun k => crcF 4294967295 (xs.take k) := ⟨_, rfl⟩
  have Slt : Hid (∀ k, S k < 4294967296) := fun k => by rw [hS]; exact crcF_lt (fun c hc => hy c (List.mem_of_mem_take hc)) (by decide)
  have Sst : Hid (∀ k, k < xs.length → S (k + 1) = ent (S k % 256 ^^^ xs.getD k 0) ^^^ (S k / 256)) := fun k hk => by rw [hS]; exact crcF_take _ _ _ hk
  have S0 : Hid (S 0 = 4294967295) := by show _ = _; rw [hS]; rfl
  have SN : Hid (crc xs = 4294967295 - S xs.length) := by show _ = _; rw [hS]; unfold crc; simp only [List.take_length]
  have HB := Lib.hid H
  have HT' := Lib.hid HT
  have HY := Lib.hid (byt_getD hy)
  clear hy H HT hS
  obtain ⟨n, hn⟩ : ∃ n, xs.length = n := ⟨_, rfl⟩
  obtain ⟨X, hX⟩ : ∃ f : Nat → Nat, f = fun j => xs.getD j 0 := ⟨_, rfl⟩
  have hX' : Hid (∀ j, xs.getD j 0 = X j) := fun j => by rw [hX]
  rw [hn] at hx hc HB Sst SN ⊢
  clear hX hn
  go_enter Try.func32, Try.ntmps32
  go_wp2_with fail
  go_loopw [5, 11] (fun t5 t11 wr => ∃ k : Nat, k ≤ n ∧ t11 = .int .i64 k ∧ t5 = .int .u32 ((S k : Nat) : Int) ∧ wr = w) (fun _ t11 _ => n - (intOf t11).toNat)
  case atStart => exact ⟨0, by omega, rfl, by rw [S0.out]; rfl, rfl⟩
  case round =>
    obtain ⟨k, hk, rfl, rfl, rfl⟩ := hrel
    have hsl := Slt.out k
    by_cases hlt : k < n
    · obtain ⟨b, o, rfl, hbl, hc'⟩ := HB.out k hlt
      have hyk := HY.out k
      have hst := Lib.hid (Sst.out k hlt)
      rw [hX'.out] at hc' hyk hst
      obtain ⟨s, hs⟩ : ∃ s, s = S k := ⟨_, rfl⟩
      obtain ⟨c, hcc⟩ : ∃ c, c = X k := ⟨_, rfl⟩
      rw [← hcc] at hc' hyk hst
      rw [← hs] at hst hsl ⊢
      clear Slt Sst S0 SN HB HY hX' hs hcc
      obtain ⟨i, hi⟩ : ∃ i, s % 256 ^^^ c = i := ⟨_, rfl⟩
      have hil : i < 256 := by rw [← hi]; exact Nat.xor_lt_two_pow (n := 8) (Nat.mod_lt _ (by decide)) hyk
      have h2 : bits .xor .u8 ((s : Int) % 256) (c : Int) = ((s % 256 ^^^ c : Nat) : Int) := u8_xor_nat (s % 256) c (Nat.mod_lt _ (by decide)) hyk
      rw [hi] at h2 hst
      have hci := HT'.out i hil
      obtain ⟨e, he⟩ : ∃ e, ent i = e := ⟨_, rfl⟩
      have hel : e < 4294967296 := by rw [← he]; exact bitN_lt 8 (by omega)
      rw [he] at hst hci
      have h3 : bits .xor .u32 ((s : Int) / 256) (e : Int) = ((e ^^^ (s / 256) : Nat) : Int) := by rw [Nat.xor_comm]; exact u32_xor_nat (s / 256) e (by omega) hel
      clear hi he HT'
      go_wp2_with fail
      go_roundw
      case rel => exact ⟨k + 1, by omega, by go_num, by rw [hst.out], trivial⟩
      case measure => simp [intOf]; omega
    · have h8 : k = n := by omega
      subst h8
      obtain ⟨s, hs⟩ : ∃ s, s = S k := ⟨_, rfl⟩
      rw [← hs] at SN hsl ⊢
      have hnot := not_u32 s hsl
      clear Slt Sst S0 HB HY hX' hs HT'
      go_wp2_with fail
      go_ret
      exact ⟨by rw [SN.out, ← hnot]; rfl, Below.refl _ _⟩
set_option maxHeartbeats 1000000 in
theorem sum_c (v : Value) (xs : List Nat) (w : World) (h : RdB w v xs) (hx : xs.length ≤ 1000000) :
    Calls Try.prog 17 #[v] w fun e w' => e = .returned (.int .u32 ((crc xs : Nat) : Int)) ∧ Below w.heap.size w w' := by
  have H := Lib.hid h
  clear h
  go_enter Try.func17, Try.ntmps17
  go_wp2_with fail
  refine (table_c _).mono ?_; rintro e w1 ⟨⟨t, rfl, ht⟩, hb1⟩
  have HT := Lib.hid ht
  clear ht
  go_wp2_with fail
  refine (with_c _ _ _ _ HT.out (H.out.below hb1) hx).mono ?_; rintro e w2 ⟨rfl, hb2⟩
  go_wp2_with fail
  go_ret
  exact ⟨rfl, hb1.trans (hb2.mono hb1.size)⟩
end Go.Proofs.Ytdipecepgfaokaa
