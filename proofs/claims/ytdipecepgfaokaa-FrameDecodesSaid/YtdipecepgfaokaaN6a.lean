/- Frames are compared cell by cell. -/
import Derived.Test.YtdipecepgfaokaaN4
namespace Go.Proofs.Ytdipecepgfaokaa
set_option linter.unusedSimpArgs false
set_option linter.unusedVariables false
open Go.RowKit

set_option maxRecDepth 100000 in
set_option maxHeartbeats 4000000 in
theorem eql_fr (k s bo sq st ds ta tb wh wn x y a b d k' s' bo' sq' st' ds' ta' tb' wh' wn' x' y' a' b' d' : Int) (w : World) :
    Sem.run Try.prog (binOp .eql 29 (frC k s bo sq st ds ta tb wh wn x y a b d) (frC k' s' bo' sq' st' ds' ta' tb' wh' wn' x' y' a' b' d')) w = .ok (.bool (decide ((⟨k, s, bo, sq, st, ds, ta, tb, wh, wn, x, y, a, b, d⟩ : FrD) = ⟨k', s', bo', sq', st', ds', ta', tb', wh', wn', x', y', a', b', d'⟩))) w := by
  by_cases h0 : k = k'
  case neg => rw [decide_eq_false (fun e => h0 (by injection e))]; go_simp
  subst h0
  by_cases h1 : s = s'
  case neg => rw [decide_eq_false (fun e => h1 (by injection e))]; go_simp
  subst h1
  by_cases h2 : bo = bo'
  case neg => rw [decide_eq_false (fun e => h2 (by injection e))]; go_simp
  subst h2
  by_cases h3 : sq = sq'
  case neg => rw [decide_eq_false (fun e => h3 (by injection e))]; go_simp
  subst h3
  by_cases h4 : st = st'
  case neg => rw [decide_eq_false (fun e => h4 (by injection e))]; go_simp
  subst h4
  by_cases h5 : ds = ds'
  case neg => rw [decide_eq_false (fun e => h5 (by injection e))]; go_simp
  subst h5
  by_cases h6 : ta = ta'
  case neg => rw [decide_eq_false (fun e => h6 (by injection e))]; go_simp
  subst h6
  by_cases h7 : tb = tb'
  case neg => rw [decide_eq_false (fun e => h7 (by injection e))]; go_simp
  subst h7
  by_cases h8 : wh = wh'
  case neg => rw [decide_eq_false (fun e => h8 (by injection e))]; go_simp
  subst h8
  by_cases h9 : wn = wn'
  case neg => rw [decide_eq_false (fun e => h9 (by injection e))]; go_simp
  subst h9
  by_cases h10 : x = x'
  case neg => rw [decide_eq_false (fun e => h10 (by injection e))]; go_simp
  subst h10
  by_cases h11 : y = y'
  case neg => rw [decide_eq_false (fun e => h11 (by injection e))]; go_simp
  subst h11
  by_cases h12 : a = a'
  case neg => rw [decide_eq_false (fun e => h12 (by injection e))]; go_simp
  subst h12
  by_cases h13 : b = b'
  case neg => rw [decide_eq_false (fun e => h13 (by injection e))]; go_simp
  subst h13
  by_cases h14 : d = d'
  case neg => rw [decide_eq_false (fun e => h14 (by injection e))]; go_simp
  subst h14
  rw [decide_eq_true rfl]; go_simp
set_option maxRecDepth 100000 in
set_option maxHeartbeats 4000000 in
theorem neq_fr (k s bo sq st ds ta tb wh wn x y a b d k' s' bo' sq' st' ds' ta' tb' wh' wn' x' y' a' b' d' : Int) (w : World) :
    Sem.run Try.prog (binOp .neq 29 (frC k s bo sq st ds ta tb wh wn x y a b d) (frC k' s' bo' sq' st' ds' ta' tb' wh' wn' x' y' a' b' d')) w = .ok (.bool (!decide ((⟨k, s, bo, sq, st, ds, ta, tb, wh, wn, x, y, a, b, d⟩ : FrD) = ⟨k', s', bo', sq', st', ds', ta', tb', wh', wn', x', y', a', b', d'⟩))) w := by
  by_cases h0 : k = k'
  case neg => rw [decide_eq_false (fun e => h0 (by injection e))]; go_simp
  subst h0
  by_cases h1 : s = s'
  case neg => rw [decide_eq_false (fun e => h1 (by injection e))]; go_simp
  subst h1
  by_cases h2 : bo = bo'
  case neg => rw [decide_eq_false (fun e => h2 (by injection e))]; go_simp
  subst h2
  by_cases h3 : sq = sq'
  case neg => rw [decide_eq_false (fun e => h3 (by injection e))]; go_simp
  subst h3
  by_cases h4 : st = st'
  case neg => rw [decide_eq_false (fun e => h4 (by injection e))]; go_simp
  subst h4
  by_cases h5 : ds = ds'
  case neg => rw [decide_eq_false (fun e => h5 (by injection e))]; go_simp
  subst h5
  by_cases h6 : ta = ta'
  case neg => rw [decide_eq_false (fun e => h6 (by injection e))]; go_simp
  subst h6
  by_cases h7 : tb = tb'
  case neg => rw [decide_eq_false (fun e => h7 (by injection e))]; go_simp
  subst h7
  by_cases h8 : wh = wh'
  case neg => rw [decide_eq_false (fun e => h8 (by injection e))]; go_simp
  subst h8
  by_cases h9 : wn = wn'
  case neg => rw [decide_eq_false (fun e => h9 (by injection e))]; go_simp
  subst h9
  by_cases h10 : x = x'
  case neg => rw [decide_eq_false (fun e => h10 (by injection e))]; go_simp
  subst h10
  by_cases h11 : y = y'
  case neg => rw [decide_eq_false (fun e => h11 (by injection e))]; go_simp
  subst h11
  by_cases h12 : a = a'
  case neg => rw [decide_eq_false (fun e => h12 (by injection e))]; go_simp
  subst h12
  by_cases h13 : b = b'
  case neg => rw [decide_eq_false (fun e => h13 (by injection e))]; go_simp
  subst h13
  by_cases h14 : d = d'
  case neg => rw [decide_eq_false (fun e => h14 (by injection e))]; go_simp
  subst h14
  rw [decide_eq_true rfl]; go_simp
set_option maxRecDepth 100000 in
theorem eqg_fr (op : BinOp) (p q : Operand) (f g : FrD) (w : World) : Sem.run Try.prog (eqGuard op 29 p q (frV f) (frV g)) w = .ok () w := by
  cases op <;> go_simp
end Go.Proofs.Ytdipecepgfaokaa
