/- The walk of the laws' own awake; Encode in one form. -/
import Derived.Test.YtdipecepgfaokaaN14
import Derived.Test.YtdipecepgfaokaaN6a
namespace Go.Proofs.Ytdipecepgfaokaa
set_option linter.unusedSimpArgs false
set_option linter.unusedVariables false
open Go.RowKit

theorem encode_x (f : FrD) (hm : mayF f = true) (w : World) :
    Calls Try.prog 8 #[frV f] w fun e w' => (∃ ao cap, e = .returned (.tuple #[.slice ao 80 cap, .int .i64 0]) ∧ OwnB w' w.heap.size (.slice ao 80 cap) (encL f)) ∧ Below w.heap.size w w' := by
  refine Calls.mono (encode_t f.kind f.src f.boot f.seq f.stamp f.dst f.t1 f.t2 f.who f.when f.x f.y f.a f.b f.d hm w) ?_
  rintro e w' ⟨⟨v, rfl, ho⟩, hb⟩
  obtain ⟨ao, cap, rfl⟩ := ho.form
  rw [enc_len] at ho ⊢
  exact ⟨⟨ao, cap, rfl, ho.mono (Nat.le_succ _)⟩, hb⟩
theorem encode_no (f : FrD) (hm : mayF f = false) (w : World) :
    Calls Try.prog 8 #[frV f] w fun e w' => e = .returned (.tuple #[.slice none 0 0, .int .i64 1]) ∧ Below w.heap.size w w' :=
  encode_f f.kind f.src f.boot f.seq f.stamp f.dst f.t1 f.t2 f.who f.when f.x f.y f.a f.b f.d hm w
set_option maxRecDepth 100000 in
set_option maxHeartbeats 4000000 in
theorem awake_c (w : World) : Calls Try.prog 12 #[] w fun e w' => e = .returned (.bool true) ∧ Below w.heap.size w w' := by
  have hm : Hid (mayF ⟨1, 3, 0, 7, 0, 0, 0, 0, 0, 0, 0, 0, 0, 0, 0⟩ = true) := by show _ = _; decide
  go_enter Try.func12, Try.ntmps12
  go_wp2_with fail
  refine Calls.mono (encode_x ⟨1, 3, 0, 7, 0, 0, 0, 0, 0, 0, 0, 0, 0, 0, 0⟩ hm.out _) ?_; rintro e w1 ⟨⟨ao, cap, rfl, ho⟩, hb1⟩
  have HO := Lib.hid ho.rd
  clear ho
  go_wp2_with fail
  refine Calls.mono (decode_v _ _ _ _ (dec_enc _ hm.out) _ HO.out) ?_; rintro e w2 ⟨rfl, hb2⟩
  go_wp2_with fail
  have z1 := hb1.size; have z2 := hb2.size
  go_ret
  exact ⟨rfl, (by repeat (first | with_reducible exact Below.refl _ _ | with_reducible exact Below_of_hid (by assumption) | with_reducible refine Below.drew ?_ | with_reducible refine below_drewN ?_ _ | (with_reducible refine Below_putRow ?_ ?hB _ _; case hB => (first | omega | (simp; done) | (simp; omega))) | (with_reducible refine Below.alloc ?_ ?hB _; case hB => (first | omega | (simp; done) | (simp; omega))) | (with_reducible refine Below.setCell ?_ ?hB _; case hB => (first | omega | (simp; done) | (simp; omega))) | (with_reducible refine Below.trans ?_ (Below.mono (by assumption) ?hB); case hB => (first | omega | (simp; done) | (simp; omega)))))⟩
end Go.Proofs.Ytdipecepgfaokaa
