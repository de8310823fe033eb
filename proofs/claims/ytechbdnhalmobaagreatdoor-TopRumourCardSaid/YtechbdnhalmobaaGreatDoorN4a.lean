/- The walk of frame.rest: kinds 1, 2, 3, 7 and none. -/
import Derived.Test.YtechbdnhalmobaaGreatDoorR1
import Derived.Lib.SlBytesConst
namespace Go.Proofs.YtechbdnhalmobaaGreatDoor
set_option maxRecDepth 100000
set_option maxHeartbeats 16000000
set_option linter.unusedSimpArgs false
set_option linter.unusedVariables false
open Go.RowKit
theorem rest_1 (s bo sq st ds ta tb wh wn x y a b d:Int) (w:World) :
  Calls Tryz.prog 241 #[frC 1 s bo sq st ds ta tb wh wn x y a b d] w fun e w'=>e = .returned (.tuple #[frC 1 s bo sq st ds ta tb wh wn x y a b d,.bool true])∧Below w.heap.size w w':=by
 have EV:Hid (True=True):=rfl
 go_enter Tryz.func241,Tryz.ntmps241
 go_wp2_with fail
 exact bodyPost_row_t 15 #[.int .i64 1,.int .i64 s,.int .i64 bo,.int .i64 sq,.int .i64 st,.int .i64 ds,.int .i64 ta,.int .i64 tb,.int .i64 wh,.int .i64 wn,.int .i64 x,.int .i64 y,.int .i64 a,.int .i64 b,.int .i64 d] (.bool true) rfl rfl rfl rfl Tryz.underlying193 rfl (by kernel_rfl) (row_of_cells 14 _ rfl (by intro i hi;rcases i with _|_|_|_|_|_|_|_|_|_|_|_|_|_|_|i;(go_simp);(go_simp);(go_simp);(go_simp);(go_simp);(go_simp);(go_simp);(go_simp);(go_simp);(go_simp);(go_simp);(go_simp);(go_simp);(go_simp);(go_simp);exact absurd hi (by omega))) ⟨rfl,below_byR⟩
theorem rest_7 (s bo sq st ds ta tb wh wn x y a b d:Int) (w:World) :
  Calls Tryz.prog 241 #[frC 7 s bo sq st ds ta tb wh wn x y a b d] w fun e w'=>e = .returned (.tuple #[frC 7 s bo sq st ds ta tb wh wn x y a b d,.bool true])∧Below w.heap.size w w':=by
 have EV:Hid (True=True):=rfl
 go_enter Tryz.func241,Tryz.ntmps241
 go_wp2_with fail
 exact bodyPost_row_t 15 #[.int .i64 7,.int .i64 s,.int .i64 bo,.int .i64 sq,.int .i64 st,.int .i64 ds,.int .i64 ta,.int .i64 tb,.int .i64 wh,.int .i64 wn,.int .i64 x,.int .i64 y,.int .i64 a,.int .i64 b,.int .i64 d] (.bool true) rfl rfl rfl rfl Tryz.underlying193 rfl (by kernel_rfl) (row_of_cells 14 _ rfl (by intro i hi;rcases i with _|_|_|_|_|_|_|_|_|_|_|_|_|_|_|i;(go_simp);(go_simp);(go_simp);(go_simp);(go_simp);(go_simp);(go_simp);(go_simp);(go_simp);(go_simp);(go_simp);(go_simp);(go_simp);(go_simp);(go_simp);exact absurd hi (by omega))) ⟨rfl,below_byR⟩
theorem rest_8 (k s bo sq st ds ta tb wh wn x y a b d:Int) (h1:k≠1) (h2:k≠2) (h3:k≠3) (h4:k≠4) (h5:k≠5) (h6:k≠6) (h7:k≠7) (w:World) :
  Calls Tryz.prog 241 #[frC k s bo sq st ds ta tb wh wn x y a b d] w fun e w'=>e = .returned (.tuple #[frC k s bo sq st ds ta tb wh wn x y a b d,.bool false])∧Below w.heap.size w w':=by
 go_enter Tryz.func241,Tryz.ntmps241
 go_wp2_with fail
 exact bodyPost_row_t 15 #[.int .i64 k,.int .i64 s,.int .i64 bo,.int .i64 sq,.int .i64 st,.int .i64 ds,.int .i64 ta,.int .i64 tb,.int .i64 wh,.int .i64 wn,.int .i64 x,.int .i64 y,.int .i64 a,.int .i64 b,.int .i64 d] (.bool false) rfl rfl rfl rfl Tryz.underlying193 rfl (by kernel_rfl) (row_of_cells 14 _ rfl (by intro i hi;rcases i with _|_|_|_|_|_|_|_|_|_|_|_|_|_|_|i;(go_simp);(go_simp);(go_simp);(go_simp);(go_simp);(go_simp);(go_simp);(go_simp);(go_simp);(go_simp);(go_simp);(go_simp);(go_simp);(go_simp);(go_simp);exact absurd hi (by omega))) ⟨rfl,below_byR⟩
theorem rest_2 (s bo sq st ds ta tb wh wn x y a b d:Int) (ok:Bool) (hok:(nodeB ds&&(decide (ds≠s)))=ok) (w:World) :
  Calls Tryz.prog 241 #[frC 2 s bo sq st ds ta tb wh wn x y a b d] w fun e w'=>e = .returned (.tuple #[frC 2 s bo sq st 0 ta tb wh wn x y a b d,.bool ok])∧Below w.heap.size w w':=by
 subst hok
 obtain ⟨q0,g0⟩:∃ q,nodeB ds=q:=⟨_,rfl⟩
 cases q0
 ·have EV:Hid ((nodeB ds&&(decide (ds≠s)))=false):=by show _=_;simp [g0]
  go_enter Tryz.func241,Tryz.ntmps241
  go_wp2_with (first|(go_at_call 242;refine Calls.mono (node_v _ _ (by assumption) _) ?_;rintro e w1 ⟨rfl,rfl⟩))
  exact bodyPost_row_t 15 #[.int .i64 2,.int .i64 s,.int .i64 bo,.int .i64 sq,.int .i64 st,.int .i64 0,.int .i64 ta,.int .i64 tb,.int .i64 wh,.int .i64 wn,.int .i64 x,.int .i64 y,.int .i64 a,.int .i64 b,.int .i64 d] (.bool false) rfl rfl rfl rfl Tryz.underlying193 rfl (by kernel_rfl) (row_of_cells 14 _ rfl (by intro i hi;rcases i with _|_|_|_|_|_|_|_|_|_|_|_|_|_|_|i;(go_simp);(go_simp);(go_simp);(go_simp);(go_simp);(go_simp);(go_simp);(go_simp);(go_simp);(go_simp);(go_simp);(go_simp);(go_simp);(go_simp);(go_simp);exact absurd hi (by omega))) ⟨by first|(rw [EV.out];done)|(rw [EV.out];rfl),below_byR⟩
 by_cases g1:ds=s
 ·have EV:Hid ((nodeB ds&&(decide (ds≠s)))=false):=by show _=_;simp [g0,g1]
  subst g1
  go_enter Tryz.func241,Tryz.ntmps241
  go_wp2_with (first|(go_at_call 242;refine Calls.mono (node_v _ _ (by assumption) _) ?_;rintro e w1 ⟨rfl,rfl⟩))
  exact bodyPost_row_t 15 #[.int .i64 2,.int .i64 ds,.int .i64 bo,.int .i64 sq,.int .i64 st,.int .i64 0,.int .i64 ta,.int .i64 tb,.int .i64 wh,.int .i64 wn,.int .i64 x,.int .i64 y,.int .i64 a,.int .i64 b,.int .i64 d] (.bool false) rfl rfl rfl rfl Tryz.underlying193 rfl (by kernel_rfl) (row_of_cells 14 _ rfl (by intro i hi;rcases i with _|_|_|_|_|_|_|_|_|_|_|_|_|_|_|i;(go_simp);(go_simp);(go_simp);(go_simp);(go_simp);(go_simp);(go_simp);(go_simp);(go_simp);(go_simp);(go_simp);(go_simp);(go_simp);(go_simp);(go_simp);exact absurd hi (by omega))) ⟨by first|(rw [EV.out];done)|(rw [EV.out];rfl),below_byR⟩
 ·have EV:Hid ((nodeB ds&&(decide (ds≠s)))=true):=by show _=_;simp [g0,g1]
  have gn:(ds != s)=true:=by simp [g1]
  go_enter Tryz.func241,Tryz.ntmps241
  go_wp2_with (first|(go_at_call 242;refine Calls.mono (node_v _ _ (by assumption) _) ?_;rintro e w1 ⟨rfl,rfl⟩))
  exact bodyPost_row_t 15 #[.int .i64 2,.int .i64 s,.int .i64 bo,.int .i64 sq,.int .i64 st,.int .i64 0,.int .i64 ta,.int .i64 tb,.int .i64 wh,.int .i64 wn,.int .i64 x,.int .i64 y,.int .i64 a,.int .i64 b,.int .i64 d] (.bool true) rfl rfl rfl rfl Tryz.underlying193 rfl (by kernel_rfl) (row_of_cells 14 _ rfl (by intro i hi;rcases i with _|_|_|_|_|_|_|_|_|_|_|_|_|_|_|i;(go_simp);(go_simp);(go_simp);(go_simp);(go_simp);(go_simp);(go_simp);(go_simp);(go_simp);(go_simp);(go_simp);(go_simp);(go_simp);(go_simp);(go_simp);exact absurd hi (by omega))) ⟨by first|(rw [EV.out];done)|(rw [EV.out];rfl),below_byR⟩
theorem rest_3 (s bo sq st ds ta tb wh wn x y a b d:Int) (ok:Bool) (hok:(nodeB ds&&(decide (ds≠s)&&(inFB ta 4294967295)))=ok) (w:World) :
  Calls Tryz.prog 241 #[frC 3 s bo sq st ds ta tb wh wn x y a b d] w fun e w'=>e = .returned (.tuple #[frC 3 s bo sq st 0 0 tb wh wn x y a b d,.bool ok])∧Below w.heap.size w w':=by
 subst hok
 obtain ⟨q0,g0⟩:∃ q,nodeB ds=q:=⟨_,rfl⟩
 cases q0
 ·have EV:Hid ((nodeB ds&&(decide (ds≠s)&&(inFB ta 4294967295)))=false):=by show _=_;simp [g0]
  go_enter Tryz.func241,Tryz.ntmps241
  go_wp2_with (first|(go_at_call 242;refine Calls.mono (node_v _ _ (by assumption) _) ?_;rintro e w1 ⟨rfl,rfl⟩))
  exact bodyPost_row_t 15 #[.int .i64 3,.int .i64 s,.int .i64 bo,.int .i64 sq,.int .i64 st,.int .i64 0,.int .i64 0,.int .i64 tb,.int .i64 wh,.int .i64 wn,.int .i64 x,.int .i64 y,.int .i64 a,.int .i64 b,.int .i64 d] (.bool false) rfl rfl rfl rfl Tryz.underlying193 rfl (by kernel_rfl) (row_of_cells 14 _ rfl (by intro i hi;rcases i with _|_|_|_|_|_|_|_|_|_|_|_|_|_|_|i;(go_simp);(go_simp);(go_simp);(go_simp);(go_simp);(go_simp);(go_simp);(go_simp);(go_simp);(go_simp);(go_simp);(go_simp);(go_simp);(go_simp);(go_simp);exact absurd hi (by omega))) ⟨by first|(rw [EV.out];done)|(rw [EV.out];rfl),below_byR⟩
 by_cases g1:ds=s
 ·have EV:Hid ((nodeB ds&&(decide (ds≠s)&&(inFB ta 4294967295)))=false):=by show _=_;simp [g0,g1]
  subst g1
  go_enter Tryz.func241,Tryz.ntmps241
  go_wp2_with (first|(go_at_call 242;refine Calls.mono (node_v _ _ (by assumption) _) ?_;rintro e w1 ⟨rfl,rfl⟩))
  exact bodyPost_row_t 15 #[.int .i64 3,.int .i64 ds,.int .i64 bo,.int .i64 sq,.int .i64 st,.int .i64 0,.int .i64 0,.int .i64 tb,.int .i64 wh,.int .i64 wn,.int .i64 x,.int .i64 y,.int .i64 a,.int .i64 b,.int .i64 d] (.bool false) rfl rfl rfl rfl Tryz.underlying193 rfl (by kernel_rfl) (row_of_cells 14 _ rfl (by intro i hi;rcases i with _|_|_|_|_|_|_|_|_|_|_|_|_|_|_|i;(go_simp);(go_simp);(go_simp);(go_simp);(go_simp);(go_simp);(go_simp);(go_simp);(go_simp);(go_simp);(go_simp);(go_simp);(go_simp);(go_simp);(go_simp);exact absurd hi (by omega))) ⟨by first|(rw [EV.out];done)|(rw [EV.out];rfl),below_byR⟩
 have gn:(ds != s)=true:=by simp [g1]
 obtain ⟨q,g2⟩:∃ q,inFB ta 4294967295=q:=⟨_,rfl⟩
 have EV:Hid ((nodeB ds&&(decide (ds≠s)&&(inFB ta 4294967295)))=q):=by show _=_;simp [g0,g1,g2]
 go_enter Tryz.func241,Tryz.ntmps241
 go_wp2_with (first|(go_at_call 242;refine Calls.mono (node_v _ _ (by assumption) _) ?_;rintro e w1 ⟨rfl,rfl⟩)|(go_at_call 243;refine Calls.mono (in_v _ _ _ (by assumption) _) ?_;rintro e w1 ⟨rfl,rfl⟩))
 exact bodyPost_row_t 15 #[.int .i64 3,.int .i64 s,.int .i64 bo,.int .i64 sq,.int .i64 st,.int .i64 0,.int .i64 0,.int .i64 tb,.int .i64 wh,.int .i64 wn,.int .i64 x,.int .i64 y,.int .i64 a,.int .i64 b,.int .i64 d] (.bool q) rfl rfl rfl rfl Tryz.underlying193 rfl (by kernel_rfl) (row_of_cells 14 _ rfl (by intro i hi;rcases i with _|_|_|_|_|_|_|_|_|_|_|_|_|_|_|i;(go_simp);(go_simp);(go_simp);(go_simp);(go_simp);(go_simp);(go_simp);(go_simp);(go_simp);(go_simp);(go_simp);(go_simp);(go_simp);(go_simp);(go_simp);exact absurd hi (by omega))) ⟨by first|(rw [EV.out];done)|(rw [EV.out];rfl),below_byR⟩
theorem rest_4 (s bo sq st ds ta tb wh wn x y a b d:Int) (ok:Bool) (hok:(nodeB ds&&(decide (ds≠s)&&(inFB ta 70368744177664&&(inFB tb 70368744177664&&(inFB wn 4294967295)))))=ok) (w:World) :
  Calls Tryz.prog 241 #[frC 4 s bo sq st ds ta tb wh wn x y a b d] w fun e w'=>e = .returned (.tuple #[frC 4 s bo sq st 0 0 0 wh 0 x y a b d,.bool ok])∧Below w.heap.size w w':=by
 subst hok
 obtain ⟨q0,g0⟩:∃ q,nodeB ds=q:=⟨_,rfl⟩
 cases q0
 ·have EV:Hid ((nodeB ds&&(decide (ds≠s)&&(inFB ta 70368744177664&&(inFB tb 70368744177664&&(inFB wn 4294967295)))))=false):=by show _=_;simp [g0]
  go_enter Tryz.func241,Tryz.ntmps241
  go_wp2_with (first|(go_at_call 242;refine Calls.mono (node_v _ _ (by assumption) _) ?_;rintro e w1 ⟨rfl,rfl⟩))
  exact bodyPost_row_t 15 #[.int .i64 4,.int .i64 s,.int .i64 bo,.int .i64 sq,.int .i64 st,.int .i64 0,.int .i64 0,.int .i64 0,.int .i64 wh,.int .i64 0,.int .i64 x,.int .i64 y,.int .i64 a,.int .i64 b,.int .i64 d] (.bool false) rfl rfl rfl rfl Tryz.underlying193 rfl (by kernel_rfl) (row_of_cells 14 _ rfl (by intro i hi;rcases i with _|_|_|_|_|_|_|_|_|_|_|_|_|_|_|i;(go_simp);(go_simp);(go_simp);(go_simp);(go_simp);(go_simp);(go_simp);(go_simp);(go_simp);(go_simp);(go_simp);(go_simp);(go_simp);(go_simp);(go_simp);exact absurd hi (by omega))) ⟨by first|(rw [EV.out];done)|(rw [EV.out];rfl),below_byR⟩
 by_cases g1:ds=s
 ·have EV:Hid ((nodeB ds&&(decide (ds≠s)&&(inFB ta 70368744177664&&(inFB tb 70368744177664&&(inFB wn 4294967295)))))=false):=by show _=_;simp [g0,g1]
  subst g1
  go_enter Tryz.func241,Tryz.ntmps241
  go_wp2_with (first|(go_at_call 242;refine Calls.mono (node_v _ _ (by assumption) _) ?_;rintro e w1 ⟨rfl,rfl⟩))
  exact bodyPost_row_t 15 #[.int .i64 4,.int .i64 ds,.int .i64 bo,.int .i64 sq,.int .i64 st,.int .i64 0,.int .i64 0,.int .i64 0,.int .i64 wh,.int .i64 0,.int .i64 x,.int .i64 y,.int .i64 a,.int .i64 b,.int .i64 d] (.bool false) rfl rfl rfl rfl Tryz.underlying193 rfl (by kernel_rfl) (row_of_cells 14 _ rfl (by intro i hi;rcases i with _|_|_|_|_|_|_|_|_|_|_|_|_|_|_|i;(go_simp);(go_simp);(go_simp);(go_simp);(go_simp);(go_simp);(go_simp);(go_simp);(go_simp);(go_simp);(go_simp);(go_simp);(go_simp);(go_simp);(go_simp);exact absurd hi (by omega))) ⟨by first|(rw [EV.out];done)|(rw [EV.out];rfl),below_byR⟩
 have gn:(ds != s)=true:=by simp [g1]
 obtain ⟨q2,g2⟩:∃ q,inFB ta 70368744177664=q:=⟨_,rfl⟩
 cases q2
 ·have EV:Hid ((nodeB ds&&(decide (ds≠s)&&(inFB ta 70368744177664&&(inFB tb 70368744177664&&(inFB wn 4294967295)))))=false):=by show _=_;simp [g0,g1,g2]
  go_enter Tryz.func241,Tryz.ntmps241
  go_wp2_with (first|(go_at_call 242;refine Calls.mono (node_v _ _ (by assumption) _) ?_;rintro e w1 ⟨rfl,rfl⟩)|(go_at_call 243;refine Calls.mono (in_v _ _ _ (by assumption) _) ?_;rintro e w1 ⟨rfl,rfl⟩))
  exact bodyPost_row_t 15 #[.int .i64 4,.int .i64 s,.int .i64 bo,.int .i64 sq,.int .i64 st,.int .i64 0,.int .i64 0,.int .i64 0,.int .i64 wh,.int .i64 0,.int .i64 x,.int .i64 y,.int .i64 a,.int .i64 b,.int .i64 d] (.bool false) rfl rfl rfl rfl Tryz.underlying193 rfl (by kernel_rfl) (row_of_cells 14 _ rfl (by intro i hi;rcases i with _|_|_|_|_|_|_|_|_|_|_|_|_|_|_|i;(go_simp);(go_simp);(go_simp);(go_simp);(go_simp);(go_simp);(go_simp);(go_simp);(go_simp);(go_simp);(go_simp);(go_simp);(go_simp);(go_simp);(go_simp);exact absurd hi (by omega))) ⟨by first|(rw [EV.out];done)|(rw [EV.out];rfl),below_byR⟩
 obtain ⟨q3,g3⟩:∃ q,inFB tb 70368744177664=q:=⟨_,rfl⟩
 cases q3
 ·have EV:Hid ((nodeB ds&&(decide (ds≠s)&&(inFB ta 70368744177664&&(inFB tb 70368744177664&&(inFB wn 4294967295)))))=false):=by show _=_;simp [g0,g1,g2,g3]
  go_enter Tryz.func241,Tryz.ntmps241
  go_wp2_with (first|(go_at_call 242;refine Calls.mono (node_v _ _ (by assumption) _) ?_;rintro e w1 ⟨rfl,rfl⟩)|(go_at_call 243;refine Calls.mono (in_v _ _ _ (by assumption) _) ?_;rintro e w1 ⟨rfl,rfl⟩))
  exact bodyPost_row_t 15 #[.int .i64 4,.int .i64 s,.int .i64 bo,.int .i64 sq,.int .i64 st,.int .i64 0,.int .i64 0,.int .i64 0,.int .i64 wh,.int .i64 0,.int .i64 x,.int .i64 y,.int .i64 a,.int .i64 b,.int .i64 d] (.bool false) rfl rfl rfl rfl Tryz.underlying193 rfl (by kernel_rfl) (row_of_cells 14 _ rfl (by intro i hi;rcases i with _|_|_|_|_|_|_|_|_|_|_|_|_|_|_|i;(go_simp);(go_simp);(go_simp);(go_simp);(go_simp);(go_simp);(go_simp);(go_simp);(go_simp);(go_simp);(go_simp);(go_simp);(go_simp);(go_simp);(go_simp);exact absurd hi (by omega))) ⟨by first|(rw [EV.out];done)|(rw [EV.out];rfl),below_byR⟩
 obtain ⟨q,g4⟩:∃ q,inFB wn 4294967295=q:=⟨_,rfl⟩
 have EV:Hid ((nodeB ds&&(decide (ds≠s)&&(inFB ta 70368744177664&&(inFB tb 70368744177664&&(inFB wn 4294967295)))))=q):=by show _=_;simp [g0,g1,g2,g3,g4]
 go_enter Tryz.func241,Tryz.ntmps241
 go_wp2_with (first|(go_at_call 242;refine Calls.mono (node_v _ _ (by assumption) _) ?_;rintro e w1 ⟨rfl,rfl⟩)|(go_at_call 243;refine Calls.mono (in_v _ _ _ (by assumption) _) ?_;rintro e w1 ⟨rfl,rfl⟩))
 exact bodyPost_row_t 15 #[.int .i64 4,.int .i64 s,.int .i64 bo,.int .i64 sq,.int .i64 st,.int .i64 0,.int .i64 0,.int .i64 0,.int .i64 wh,.int .i64 0,.int .i64 x,.int .i64 y,.int .i64 a,.int .i64 b,.int .i64 d] (.bool q) rfl rfl rfl rfl Tryz.underlying193 rfl (by kernel_rfl) (row_of_cells 14 _ rfl (by intro i hi;rcases i with _|_|_|_|_|_|_|_|_|_|_|_|_|_|_|i;(go_simp);(go_simp);(go_simp);(go_simp);(go_simp);(go_simp);(go_simp);(go_simp);(go_simp);(go_simp);(go_simp);(go_simp);(go_simp);(go_simp);(go_simp);exact absurd hi (by omega))) ⟨by first|(rw [EV.out];done)|(rw [EV.out];rfl),below_byR⟩
theorem rest_5 (s bo sq st ds ta tb wh wn x y a b d:Int) (ok:Bool) (hok:(El.may ⟨x,y,a,b,d⟩)=ok) (w:World) :
  Calls Tryz.prog 241 #[frC 5 s bo sq st ds ta tb wh wn x y a b d] w fun e w'=>e = .returned (.tuple #[frC 5 s bo sq st ds ta tb wh wn 0 0 0 0 0,.bool ok])∧Below w.heap.size w w':=by
 subst hok
 obtain ⟨q,g0⟩:∃ q,El.may ⟨x,y,a,b,d⟩=q:=⟨_,rfl⟩
 have EV:Hid ((El.may ⟨x,y,a,b,d⟩)=q):=by show _=_;simp [g0]
 go_enter Tryz.func241,Tryz.ntmps241
 go_wp2_with fail
 refine name_calls ?_;intro u0 hu0
 have HB:Hid (Below w.heap.size w u0):=by rw [hu0];show Below w.heap.size w _;exact below_byR
 have B0:Hid (Blk u0 w.heap.size #[.int .i64 5,.int .i64 s,.int .i64 bo,.int .i64 sq,.int .i64 st,.int .i64 ds,.int .i64 ta,.int .i64 tb,.int .i64 wh,.int .i64 wn,.int .i64 x,.int .i64 y,.int .i64 a,.int .i64 b,.int .i64 d] 193):=by rw [hu0];exact (Blk.new _ _ _).alloc _
 have B1:Hid (Blk u0 (w.heap.size+1) #[.int .i64 0,.int .i64 0,.int .i64 0,.int .i64 0,.int .i64 0,.int .i64 0,.int .i64 0,.int .i64 0,.int .i64 0,.int .i64 0,.int .i64 0,.int .i64 0,.int .i64 0,.int .i64 0,.int .i64 0] 193):=by rw [hu0];exact Blk.new' _ _ _ (by simp)
 clear hu0
 refine Calls.mono (ellmay_n _ _ _ _ _ _ (by assumption) _) ?_;rintro e w1 ⟨rfl,hb⟩
 replace B0:=Lib.hid (B0.out.keep hb);replace B1:=Lib.hid (B1.out.keep hb);replace HB:=Lib.hid (HB.out.trans (hb.mono HB.out.size));clear hb
 have c_0:=B0.out.cell (i:=0) rfl
 have c_1:=B0.out.cell (i:=1) rfl
 have c_2:=B0.out.cell (i:=2) rfl
 have c_3:=B0.out.cell (i:=3) rfl
 have c_4:=B0.out.cell (i:=4) rfl
 have c_5:=B0.out.cell (i:=5) rfl
 have c_6:=B0.out.cell (i:=6) rfl
 have c_7:=B0.out.cell (i:=7) rfl
 have c_8:=B0.out.cell (i:=8) rfl
 have c_9:=B0.out.cell (i:=9) rfl
 have c_10:=B0.out.cell (i:=10) rfl
 have c_11:=B0.out.cell (i:=11) rfl
 have c_12:=B0.out.cell (i:=12) rfl
 have c_13:=B0.out.cell (i:=13) rfl
 have c_14:=B0.out.cell (i:=14) rfl
 have l0:=B0.out.lt;have f0:=B0.out.frozen;have ft0:=B0.out.fits 15 (by simp)
 go_upto_region 21 with fail
 refine name_wp ?_;intro u2 hu2
 have B2:Hid (Blk u2 w.heap.size #[.int .i64 5,.int .i64 s,.int .i64 bo,.int .i64 sq,.int .i64 st,.int .i64 ds,.int .i64 ta,.int .i64 tb,.int .i64 wh,.int .i64 wn,.int .i64 0,.int .i64 0,.int .i64 0,.int .i64 0,.int .i64 0] 193):=by rw [hu2];exact Blk.of_eq ((((((B0.out.setCell_same 10 _).setCell_same 11 _).setCell_same 12 _).setCell_same 13 _).setCell_same 14 _)) (by simp)
 have B3:Hid (Blk u2 (w.heap.size+1) #[.int .i64 0,.int .i64 0,.int .i64 0,.int .i64 0,.int .i64 0,.int .i64 0,.int .i64 0,.int .i64 0,.int .i64 0,.int .i64 0,.int .i64 0,.int .i64 0,.int .i64 0,.int .i64 0,.int .i64 0] 193):=by rw [hu2];exact (((((B1.out.setCell_other (by simp) _).setCell_other (by simp) _).setCell_other (by simp) _).setCell_other (by simp) _).setCell_other (by simp) _)
 have HB2:Hid (Below w.heap.size w u2):=by rw [hu2];exact (((((HB.out.setCell (Nat.le_refl _) _).setCell (Nat.le_refl _) _).setCell (Nat.le_refl _) _).setCell (Nat.le_refl _) _).setCell (Nat.le_refl _) _)
 clear hu2 c_0 c_1 c_2 c_3 c_4 c_5 c_6 c_7 c_8 c_9 c_10 c_11 c_12 c_13 c_14 l0 f0 ft0 B0 B1 HB
 obtain ⟨R2,hR2⟩:∃ R:Array Value,R=#[.int .i64 5,.int .i64 s,.int .i64 bo,.int .i64 sq,.int .i64 st,.int .i64 ds,.int .i64 ta,.int .i64 tb,.int .i64 wh,.int .i64 wn,.int .i64 0,.int .i64 0,.int .i64 0,.int .i64 0,.int .i64 0]:=⟨_,rfl⟩
 have rw2:u2.row? w.heap.size 0 15=some R2:=by rw [hR2];exact B2.out.row?_all 15 rfl
 have pt3:u2.put? (w.heap.size+1) 0 R2=some (u2.putRow (w.heap.size+1) 0 R2):=B3.out.put? 0 R2 (by rw [hR2];simp) (by rw [hR2];exact ones15 _ _ _ _ _ _ _ _ _ _ _ _ _ _ _)
 have hsz:R2.size=15:=by rw [hR2];rfl
 have HR:=Lib.hid hR2;clear hR2
 have l2:=B2.out.lt;have l3:=B3.out.lt
 go_wp2_with fail
 exact bodyPost_row_t 15 R2 (.bool q) rfl rfl rfl rfl Tryz.underlying193 rfl (by kernel_rfl) (row_put pt3 (by rw [HR.out];rfl)) ⟨by rw [HR.out,EV.out],below_byR⟩
theorem rest_6 (s bo sq st ds ta tb wh wn x y a b d:Int) (ok:Bool) (hok:(nodeB wh&&(decide (wh≠s)&&(inFB wn st&&(El.may ⟨x,y,a,b,d⟩))))=ok) (w:World) :
  Calls Tryz.prog 241 #[frC 6 s bo sq st ds ta tb wh wn x y a b d] w fun e w'=>e = .returned (.tuple #[frC 6 s bo sq st ds ta tb 0 0 0 0 0 0 0,.bool ok])∧Below w.heap.size w w':=by
 subst hok
 obtain ⟨q0,g0⟩:∃ q,nodeB wh=q:=⟨_,rfl⟩
 cases q0
 ·have EV:Hid ((nodeB wh&&(decide (wh≠s)&&(inFB wn st&&(El.may ⟨x,y,a,b,d⟩))))=false):=by show _=_;simp [g0]
  go_enter Tryz.func241,Tryz.ntmps241
  go_wp2_with (first|(go_at_call 242;refine Calls.mono (node_v _ _ (by assumption) _) ?_;rintro e w1 ⟨rfl,rfl⟩))
  exact bodyPost_row_t 15 #[.int .i64 6,.int .i64 s,.int .i64 bo,.int .i64 sq,.int .i64 st,.int .i64 ds,.int .i64 ta,.int .i64 tb,.int .i64 0,.int .i64 0,.int .i64 0,.int .i64 0,.int .i64 0,.int .i64 0,.int .i64 0] (.bool false) rfl rfl rfl rfl Tryz.underlying193 rfl (by kernel_rfl) (row_of_cells 14 _ rfl (by intro i hi;rcases i with _|_|_|_|_|_|_|_|_|_|_|_|_|_|_|i;(go_simp);(go_simp);(go_simp);(go_simp);(go_simp);(go_simp);(go_simp);(go_simp);(go_simp);(go_simp);(go_simp);(go_simp);(go_simp);(go_simp);(go_simp);exact absurd hi (by omega))) ⟨by first|(rw [EV.out];done)|(rw [EV.out];rfl),below_byR⟩
 by_cases g1:wh=s
 ·have EV:Hid ((nodeB wh&&(decide (wh≠s)&&(inFB wn st&&(El.may ⟨x,y,a,b,d⟩))))=false):=by show _=_;simp [g0,g1]
  subst g1
  go_enter Tryz.func241,Tryz.ntmps241
  go_wp2_with (first|(go_at_call 242;refine Calls.mono (node_v _ _ (by assumption) _) ?_;rintro e w1 ⟨rfl,rfl⟩))
  exact bodyPost_row_t 15 #[.int .i64 6,.int .i64 wh,.int .i64 bo,.int .i64 sq,.int .i64 st,.int .i64 ds,.int .i64 ta,.int .i64 tb,.int .i64 0,.int .i64 0,.int .i64 0,.int .i64 0,.int .i64 0,.int .i64 0,.int .i64 0] (.bool false) rfl rfl rfl rfl Tryz.underlying193 rfl (by kernel_rfl) (row_of_cells 14 _ rfl (by intro i hi;rcases i with _|_|_|_|_|_|_|_|_|_|_|_|_|_|_|i;(go_simp);(go_simp);(go_simp);(go_simp);(go_simp);(go_simp);(go_simp);(go_simp);(go_simp);(go_simp);(go_simp);(go_simp);(go_simp);(go_simp);(go_simp);exact absurd hi (by omega))) ⟨by first|(rw [EV.out];done)|(rw [EV.out];rfl),below_byR⟩
 have gn:(wh != s)=true:=by simp [g1]
 obtain ⟨q2,g2⟩:∃ q,inFB wn st=q:=⟨_,rfl⟩
 cases q2
 ·have EV:Hid ((nodeB wh&&(decide (wh≠s)&&(inFB wn st&&(El.may ⟨x,y,a,b,d⟩))))=false):=by show _=_;simp [g0,g1,g2]
  go_enter Tryz.func241,Tryz.ntmps241
  go_wp2_with (first|(go_at_call 242;refine Calls.mono (node_v _ _ (by assumption) _) ?_;rintro e w1 ⟨rfl,rfl⟩)|(go_at_call 243;refine Calls.mono (in_v _ _ _ (by assumption) _) ?_;rintro e w1 ⟨rfl,rfl⟩))
  exact bodyPost_row_t 15 #[.int .i64 6,.int .i64 s,.int .i64 bo,.int .i64 sq,.int .i64 st,.int .i64 ds,.int .i64 ta,.int .i64 tb,.int .i64 0,.int .i64 0,.int .i64 0,.int .i64 0,.int .i64 0,.int .i64 0,.int .i64 0] (.bool false) rfl rfl rfl rfl Tryz.underlying193 rfl (by kernel_rfl) (row_of_cells 14 _ rfl (by intro i hi;rcases i with _|_|_|_|_|_|_|_|_|_|_|_|_|_|_|i;(go_simp);(go_simp);(go_simp);(go_simp);(go_simp);(go_simp);(go_simp);(go_simp);(go_simp);(go_simp);(go_simp);(go_simp);(go_simp);(go_simp);(go_simp);exact absurd hi (by omega))) ⟨by first|(rw [EV.out];done)|(rw [EV.out];rfl),below_byR⟩
 obtain ⟨q,g3⟩:∃ q,El.may ⟨x,y,a,b,d⟩=q:=⟨_,rfl⟩
 have EV:Hid ((nodeB wh&&(decide (wh≠s)&&(inFB wn st&&(El.may ⟨x,y,a,b,d⟩))))=q):=by show _=_;simp [g0,g1,g2,g3]
 go_enter Tryz.func241,Tryz.ntmps241
 go_wp2_with (first|(go_at_call 242;refine Calls.mono (node_v _ _ (by assumption) _) ?_;rintro e w1 ⟨rfl,rfl⟩)|(go_at_call 243;refine Calls.mono (in_v _ _ _ (by assumption) _) ?_;rintro e w1 ⟨rfl,rfl⟩))
 refine name_calls ?_;intro u0 hu0
 have HB:Hid (Below w.heap.size w u0):=by rw [hu0];show Below w.heap.size w _;exact below_byR
 have B0:Hid (Blk u0 w.heap.size #[.int .i64 6,.int .i64 s,.int .i64 bo,.int .i64 sq,.int .i64 st,.int .i64 ds,.int .i64 ta,.int .i64 tb,.int .i64 wh,.int .i64 wn,.int .i64 x,.int .i64 y,.int .i64 a,.int .i64 b,.int .i64 d] 193):=by rw [hu0];exact (Blk.new _ _ _).alloc _
 have B1:Hid (Blk u0 (w.heap.size+1) #[.int .i64 0,.int .i64 0,.int .i64 0,.int .i64 0,.int .i64 0,.int .i64 0,.int .i64 0,.int .i64 0,.int .i64 0,.int .i64 0,.int .i64 0,.int .i64 0,.int .i64 0,.int .i64 0,.int .i64 0] 193):=by rw [hu0];exact Blk.new' _ _ _ (by simp)
 clear hu0
 refine Calls.mono (ellmay_n _ _ _ _ _ _ (by assumption) _) ?_;rintro e w1 ⟨rfl,hb⟩
 replace B0:=Lib.hid (B0.out.keep hb);replace B1:=Lib.hid (B1.out.keep hb);replace HB:=Lib.hid (HB.out.trans (hb.mono HB.out.size));clear hb
 have c_0:=B0.out.cell (i:=0) rfl
 have c_1:=B0.out.cell (i:=1) rfl
 have c_2:=B0.out.cell (i:=2) rfl
 have c_3:=B0.out.cell (i:=3) rfl
 have c_4:=B0.out.cell (i:=4) rfl
 have c_5:=B0.out.cell (i:=5) rfl
 have c_6:=B0.out.cell (i:=6) rfl
 have c_7:=B0.out.cell (i:=7) rfl
 have c_8:=B0.out.cell (i:=8) rfl
 have c_9:=B0.out.cell (i:=9) rfl
 have c_10:=B0.out.cell (i:=10) rfl
 have c_11:=B0.out.cell (i:=11) rfl
 have c_12:=B0.out.cell (i:=12) rfl
 have c_13:=B0.out.cell (i:=13) rfl
 have c_14:=B0.out.cell (i:=14) rfl
 have l0:=B0.out.lt;have f0:=B0.out.frozen;have ft0:=B0.out.fits 15 (by simp)
 go_upto_region 21 with fail
 refine name_wp ?_;intro u2 hu2
 have B2:Hid (Blk u2 w.heap.size #[.int .i64 6,.int .i64 s,.int .i64 bo,.int .i64 sq,.int .i64 st,.int .i64 ds,.int .i64 ta,.int .i64 tb,.int .i64 0,.int .i64 0,.int .i64 0,.int .i64 0,.int .i64 0,.int .i64 0,.int .i64 0] 193):=by rw [hu2];exact Blk.of_eq ((((((((B0.out.setCell_same 8 _).setCell_same 9 _).setCell_same 10 _).setCell_same 11 _).setCell_same 12 _).setCell_same 13 _).setCell_same 14 _)) (by simp)
 have B3:Hid (Blk u2 (w.heap.size+1) #[.int .i64 0,.int .i64 0,.int .i64 0,.int .i64 0,.int .i64 0,.int .i64 0,.int .i64 0,.int .i64 0,.int .i64 0,.int .i64 0,.int .i64 0,.int .i64 0,.int .i64 0,.int .i64 0,.int .i64 0] 193):=by rw [hu2];exact (((((((B1.out.setCell_other (by simp) _).setCell_other (by simp) _).setCell_other (by simp) _).setCell_other (by simp) _).setCell_other (by simp) _).setCell_other (by simp) _).setCell_other (by simp) _)
 have HB2:Hid (Below w.heap.size w u2):=by rw [hu2];exact (((((((HB.out.setCell (Nat.le_refl _) _).setCell (Nat.le_refl _) _).setCell (Nat.le_refl _) _).setCell (Nat.le_refl _) _).setCell (Nat.le_refl _) _).setCell (Nat.le_refl _) _).setCell (Nat.le_refl _) _)
 clear hu2 c_0 c_1 c_2 c_3 c_4 c_5 c_6 c_7 c_8 c_9 c_10 c_11 c_12 c_13 c_14 l0 f0 ft0 B0 B1 HB
 obtain ⟨R2,hR2⟩:∃ R:Array Value,R=#[.int .i64 6,.int .i64 s,.int .i64 bo,.int .i64 sq,.int .i64 st,.int .i64 ds,.int .i64 ta,.int .i64 tb,.int .i64 0,.int .i64 0,.int .i64 0,.int .i64 0,.int .i64 0,.int .i64 0,.int .i64 0]:=⟨_,rfl⟩
 have rw2:u2.row? w.heap.size 0 15=some R2:=by rw [hR2];exact B2.out.row?_all 15 rfl
 have pt3:u2.put? (w.heap.size+1) 0 R2=some (u2.putRow (w.heap.size+1) 0 R2):=B3.out.put? 0 R2 (by rw [hR2];simp) (by rw [hR2];exact ones15 _ _ _ _ _ _ _ _ _ _ _ _ _ _ _)
 have hsz:R2.size=15:=by rw [hR2];rfl
 have HR:=Lib.hid hR2;clear hR2
 have l2:=B2.out.lt;have l3:=B3.out.lt
 go_wp2_with fail
 exact bodyPost_row_t 15 R2 (.bool q) rfl rfl rfl rfl Tryz.underlying193 rfl (by kernel_rfl) (row_put pt3 (by rw [HR.out];rfl)) ⟨by rw [HR.out,EV.out],below_byR⟩
def mayF (f:FrD):Bool :=
 (restF f).2&&(nodeB f.src&&(inFB f.boot 65535&&(inFB f.seq 65535&&(inFB f.stamp 1000000&&(decide ((restF f).1.dst=0)&&(decide ((restF f).1.t1=0)&&(decide ((restF f).1.t2=0)&&(decide ((restF f).1.who=0)&&(decide ((restF f).1.when=0) &&
  decide ((restF f).1.x=0∧(restF f).1.y=0∧(restF f).1.a=0∧(restF f).1.b=0∧(restF f).1.d=0))))))))))
theorem rest_v (f g:FrD) (ok:Bool) (h:restF f=(g,ok)) (w:World) :
  Calls Tryz.prog 241 #[frV f] w fun e w'=>e = .returned (.tuple #[frV g,.bool ok])∧Below w.heap.size w w':=by
 obtain ⟨k,s,bo,sq,st,ds,ta,tb,wh,wn,x,y,a,b,d⟩:=f
 unfold restF at h
 simp only [FrD.el] at h
 by_cases h1:k=1
 ·subst h1;simp only [true_or,if_true,Prod.mk.injEq] at h;obtain ⟨rfl,rfl⟩:=h;exact rest_1 _ _ _ _ _ _ _ _ _ _ _ _ _ _ _
 by_cases h7:k=7
 ·subst h7;simp only [or_true,if_true,Prod.mk.injEq] at h;obtain ⟨rfl,rfl⟩:=h;exact rest_7 _ _ _ _ _ _ _ _ _ _ _ _ _ _ _
 rw [if_neg (by omega)] at h
 by_cases h2:k=2
 ·subst h2;rw [if_pos rfl,Prod.mk.injEq] at h;obtain ⟨rfl,h⟩:=h;exact rest_2 _ _ _ _ _ _ _ _ _ _ _ _ _ _ _ h _
 rw [if_neg h2] at h
 by_cases h3:k=3
 ·subst h3;rw [if_pos rfl,Prod.mk.injEq] at h;obtain ⟨rfl,h⟩:=h;exact rest_3 _ _ _ _ _ _ _ _ _ _ _ _ _ _ _ h _
 rw [if_neg h3] at h
 by_cases h4:k=4
 ·subst h4;rw [if_pos rfl,Prod.mk.injEq] at h;obtain ⟨rfl,h⟩:=h;exact rest_4 _ _ _ _ _ _ _ _ _ _ _ _ _ _ _ h _
 rw [if_neg h4] at h
 by_cases h5:k=5
 ·subst h5;rw [if_pos rfl,Prod.mk.injEq] at h;obtain ⟨rfl,h⟩:=h;exact rest_5 _ _ _ _ _ _ _ _ _ _ _ _ _ _ _ h _
 rw [if_neg h5] at h
 by_cases h6:k=6
 ·subst h6;rw [if_pos rfl,Prod.mk.injEq] at h;obtain ⟨rfl,h⟩:=h;exact rest_6 _ _ _ _ _ _ _ _ _ _ _ _ _ _ _ h _
 rw [if_neg h6,Prod.mk.injEq] at h
 obtain ⟨rfl,rfl⟩:=h
 exact rest_8 _ _ _ _ _ _ _ _ _ _ _ _ _ _ _ h1 h2 h3 h4 h5 h6 h7 _
theorem framemay_c (k s bo sq st ds ta tb wh wn x y a b d:Int) (w:World) :
  Calls Tryz.prog 181 #[frC k s bo sq st ds ta tb wh wn x y a b d] w fun e w'=>e = .returned (.bool (mayF ⟨k,s,bo,sq,st,ds,ta,tb,wh,wn,x,y,a,b,d⟩))∧Below w.heap.size w w':=by
 obtain ⟨p1,g1⟩:∃ q,nodeB s=q:=⟨_,rfl⟩
 obtain ⟨p2,g2⟩:∃ q,inFB bo 65535=q:=⟨_,rfl⟩
 obtain ⟨p3,g3⟩:∃ q,inFB sq 65535=q:=⟨_,rfl⟩
 obtain ⟨p4,g4⟩:∃ q,inFB st 1000000=q:=⟨_,rfl⟩
 obtain ⟨zz,hz⟩:∃ z,restF ⟨k,s,bo,sq,st,ds,ta,tb,wh,wn,x,y,a,b,d⟩=z:=⟨_,rfl⟩
 obtain ⟨⟨k',s',bo',sq',st',ds',ta',tb',wh',wn',x',y',a',b',d'⟩,ok⟩:=zz
 have E:mayF ⟨k,s,bo,sq,st,ds,ta,tb,wh,wn,x,y,a,b,d⟩=(ok&&(p1&&(p2&&(p3&&(p4&&(decide (ds'=0)&&(decide (ta'=0)&&(decide (tb'=0)&&(decide (wh'=0)&&(decide (wn'=0)&&decide (x'=0∧y'=0∧a'=0∧b'=0∧d'=0))))))))))):=by
  unfold mayF;rw [hz,g1,g2,g3,g4]
 have HZ:=Lib.hid hz
 clear hz
 cases ok
 ·have EV:Hid (mayF ⟨k,s,bo,sq,st,ds,ta,tb,wh,wn,x,y,a,b,d⟩=false):=by show _=_;rw [E];simp
  clear E
  go_enter Tryz.func181,Tryz.ntmps181
  go_wp2_with fail
  refine Calls.mono (rest_v ⟨k,s,bo,sq,st,ds,ta,tb,wh,wn,x,y,a,b,d⟩ _ _ HZ.out _) ?_;rintro e w1 ⟨rfl,hb1⟩;have z_w1:=hb1.size;(try simp at z_w1);obtain ⟨yw1aa,cw1aa,fw1aa,rw1aa,tw1aa,pw1aa⟩:=bq hb1 (w.heap.size)
  go_wp2_with (first|(go_at_call 242;refine Calls.mono (node_v _ _ (by assumption) _) ?_;rintro e w2 ⟨rfl,rfl⟩)|(go_at_call 243;refine Calls.mono (in_v _ _ _ (by assumption) _) ?_;rintro e w2 ⟨rfl,rfl⟩))
  go_ret
  exact ⟨by rw [EV.out];rfl,below_byR⟩
 cases p1
 ·have EV:Hid (mayF ⟨k,s,bo,sq,st,ds,ta,tb,wh,wn,x,y,a,b,d⟩=false):=by show _=_;rw [E];simp
  clear E
  go_enter Tryz.func181,Tryz.ntmps181
  go_wp2_with fail
  refine Calls.mono (rest_v ⟨k,s,bo,sq,st,ds,ta,tb,wh,wn,x,y,a,b,d⟩ _ _ HZ.out _) ?_;rintro e w1 ⟨rfl,hb1⟩;have z_w1:=hb1.size;(try simp at z_w1);obtain ⟨yw1aa,cw1aa,fw1aa,rw1aa,tw1aa,pw1aa⟩:=bq hb1 (w.heap.size)
  go_wp2_with (first|(go_at_call 242;refine Calls.mono (node_v _ _ (by assumption) _) ?_;rintro e w2 ⟨rfl,rfl⟩)|(go_at_call 243;refine Calls.mono (in_v _ _ _ (by assumption) _) ?_;rintro e w2 ⟨rfl,rfl⟩))
  go_ret
  exact ⟨by rw [EV.out];rfl,below_byR⟩
 cases p2
 ·have EV:Hid (mayF ⟨k,s,bo,sq,st,ds,ta,tb,wh,wn,x,y,a,b,d⟩=false):=by show _=_;rw [E];simp
  clear E
  go_enter Tryz.func181,Tryz.ntmps181
  go_wp2_with fail
  refine Calls.mono (rest_v ⟨k,s,bo,sq,st,ds,ta,tb,wh,wn,x,y,a,b,d⟩ _ _ HZ.out _) ?_;rintro e w1 ⟨rfl,hb1⟩;have z_w1:=hb1.size;(try simp at z_w1);obtain ⟨yw1aa,cw1aa,fw1aa,rw1aa,tw1aa,pw1aa⟩:=bq hb1 (w.heap.size)
  go_wp2_with (first|(go_at_call 242;refine Calls.mono (node_v _ _ (by assumption) _) ?_;rintro e w2 ⟨rfl,rfl⟩)|(go_at_call 243;refine Calls.mono (in_v _ _ _ (by assumption) _) ?_;rintro e w2 ⟨rfl,rfl⟩))
  go_ret
  exact ⟨by rw [EV.out];rfl,below_byR⟩
 cases p3
 ·have EV:Hid (mayF ⟨k,s,bo,sq,st,ds,ta,tb,wh,wn,x,y,a,b,d⟩=false):=by show _=_;rw [E];simp
  clear E
  go_enter Tryz.func181,Tryz.ntmps181
  go_wp2_with fail
  refine Calls.mono (rest_v ⟨k,s,bo,sq,st,ds,ta,tb,wh,wn,x,y,a,b,d⟩ _ _ HZ.out _) ?_;rintro e w1 ⟨rfl,hb1⟩;have z_w1:=hb1.size;(try simp at z_w1);obtain ⟨yw1aa,cw1aa,fw1aa,rw1aa,tw1aa,pw1aa⟩:=bq hb1 (w.heap.size)
  go_wp2_with (first|(go_at_call 242;refine Calls.mono (node_v _ _ (by assumption) _) ?_;rintro e w2 ⟨rfl,rfl⟩)|(go_at_call 243;refine Calls.mono (in_v _ _ _ (by assumption) _) ?_;rintro e w2 ⟨rfl,rfl⟩))
  go_ret
  exact ⟨by rw [EV.out];rfl,below_byR⟩
 cases p4
 ·have EV:Hid (mayF ⟨k,s,bo,sq,st,ds,ta,tb,wh,wn,x,y,a,b,d⟩=false):=by show _=_;rw [E];simp
  clear E
  go_enter Tryz.func181,Tryz.ntmps181
  go_wp2_with fail
  refine Calls.mono (rest_v ⟨k,s,bo,sq,st,ds,ta,tb,wh,wn,x,y,a,b,d⟩ _ _ HZ.out _) ?_;rintro e w1 ⟨rfl,hb1⟩;have z_w1:=hb1.size;(try simp at z_w1);obtain ⟨yw1aa,cw1aa,fw1aa,rw1aa,tw1aa,pw1aa⟩:=bq hb1 (w.heap.size)
  go_wp2_with (first|(go_at_call 242;refine Calls.mono (node_v _ _ (by assumption) _) ?_;rintro e w2 ⟨rfl,rfl⟩)|(go_at_call 243;refine Calls.mono (in_v _ _ _ (by assumption) _) ?_;rintro e w2 ⟨rfl,rfl⟩))
  go_ret
  exact ⟨by rw [EV.out];rfl,below_byR⟩
 have EV:=Lib.hid E
 clear E
 go_enter Tryz.func181,Tryz.ntmps181
 go_wp2_with fail
 refine Calls.mono (rest_v ⟨k,s,bo,sq,st,ds,ta,tb,wh,wn,x,y,a,b,d⟩ _ _ HZ.out _) ?_;rintro e w1 ⟨rfl,hb1⟩;have z_w1:=hb1.size;(try simp at z_w1);obtain ⟨yw1aa,cw1aa,fw1aa,rw1aa,tw1aa,pw1aa⟩:=bq hb1 (w.heap.size)
 go_wp2_with (first|(go_at_call 242;refine Calls.mono (node_v _ _ (by assumption) _) ?_;rintro e w2 ⟨rfl,rfl⟩)|(go_at_call 243;refine Calls.mono (in_v _ _ _ (by assumption) _) ?_;rintro e w2 ⟨rfl,rfl⟩))
 all_goals go_ret
 all_goals refine ⟨?_,below_byR⟩
 all_goals rw [EV.out]
 all_goals clear HZ EV g1 g2 g3 g4 hb1 z_w1 yw1aa cw1aa fw1aa rw1aa tw1aa pw1aa
 all_goals refine congrArg (fun z=>Ending.returned (Value.bool z)) ?_
 all_goals simp [*]
theorem framemay_v (f:FrD) (m:Bool) (h:mayF f=m) (w:World) :
  Calls Tryz.prog 181 #[frV f] w fun e w'=>e = .returned (.bool m)∧Below w.heap.size w w':=by
 rw [← h];exact framemay_c _ _ _ _ _ _ _ _ _ _ _ _ _ _ _ w
def fl (wd:Nat) (L:List Int) (j:Nat):List Nat:=(L.take j).flatMap (be wd)
theorem fl_succ (wd:Nat) (L:List Int) (j:Nat) (h:j<L.length):fl wd L (j+1)=fl wd L j++be wd (L.getD j 0):=by
 unfold fl
 rw [List.take_add_one,List.flatMap_append,List.getElem?_eq_getElem h,List.getD_eq_getElem?_getD,List.getElem?_eq_getElem h]
 simp
theorem fl_len (wd:Nat) (L:List Int) (j:Nat) (h:j≤L.length):(fl wd L j).length=j*wd:=by
 induction j with
 | zero=>simp [fl]
 | succ j ih=>rw [fl_succ wd L j (by omega),List.length_append,ih (by omega),be_length,Nat.succ_mul]
def bodyL (f:FrD):List Nat :=
 [97,108,105,49]++fl 1 [f.kind,f.src,f.dst,f.who] 4++be 2 f.boot++be 2 f.seq++fl 8 [f.stamp,f.t1,f.t2,f.when] 4++be 4 f.x++be 4 f.y++fl 8 [f.a,f.b,f.d] 3
def encL (f:FrD):List Nat:=bodyL f++be 4 (crc (bodyL f))
theorem cv_bytes (w:World) (C:Array Value) (n c:Nat):Sem.run Tryz.prog (convert 36 36 (.slice (some ⟨w.heap.size,0,none⟩) n c)) (w.alloc (.cells C 5)) = .ok (.slice (some ⟨w.heap.size,0,none⟩) n c) (w.alloc (.cells C 5 (C.size,C.size+1))) :=
 Go.Lib.run_convert_bytes_const w 36 5 C n c Tryz.underlying36 Tryz.underlying5
theorem ix4i (a b c d:Int) (w:World):Sem.run Tryz.prog (Instr.index 252 (.agg #[.int .i64 a,.int .i64 b,.int .i64 c,.int .i64 d]) (.int .i64 0)) w = .ok (.int .i64 a) w∧Sem.run Tryz.prog (Instr.index 252 (.agg #[.int .i64 a,.int .i64 b,.int .i64 c,.int .i64 d]) (.int .i64 1)) w = .ok (.int .i64 b) w ∧
  Sem.run Tryz.prog (Instr.index 252 (.agg #[.int .i64 a,.int .i64 b,.int .i64 c,.int .i64 d]) (.int .i64 2)) w = .ok (.int .i64 c) w∧Sem.run Tryz.prog (Instr.index 252 (.agg #[.int .i64 a,.int .i64 b,.int .i64 c,.int .i64 d]) (.int .i64 3)) w = .ok (.int .i64 d) w:=⟨rfl,rfl,rfl,rfl⟩
theorem ix4l (a b c d:Int) (w:World):Sem.run Tryz.prog (Instr.index 254 (.agg #[.int .i64 a,.int .i64 b,.int .i64 c,.int .i64 d]) (.int .i64 0)) w = .ok (.int .i64 a) w∧Sem.run Tryz.prog (Instr.index 254 (.agg #[.int .i64 a,.int .i64 b,.int .i64 c,.int .i64 d]) (.int .i64 1)) w = .ok (.int .i64 b) w ∧
  Sem.run Tryz.prog (Instr.index 254 (.agg #[.int .i64 a,.int .i64 b,.int .i64 c,.int .i64 d]) (.int .i64 2)) w = .ok (.int .i64 c) w∧Sem.run Tryz.prog (Instr.index 254 (.agg #[.int .i64 a,.int .i64 b,.int .i64 c,.int .i64 d]) (.int .i64 3)) w = .ok (.int .i64 d) w:=⟨rfl,rfl,rfl,rfl⟩
theorem ix3l (a b c:Int) (w:World):Sem.run Tryz.prog (Instr.index 255 (.agg #[.int .i64 a,.int .i64 b,.int .i64 c]) (.int .i64 0)) w = .ok (.int .i64 a) w∧Sem.run Tryz.prog (Instr.index 255 (.agg #[.int .i64 a,.int .i64 b,.int .i64 c]) (.int .i64 1)) w = .ok (.int .i64 b) w ∧
  Sem.run Tryz.prog (Instr.index 255 (.agg #[.int .i64 a,.int .i64 b,.int .i64 c]) (.int .i64 2)) w = .ok (.int .i64 c) w:=⟨rfl,rfl,rfl⟩
theorem OwnB.lit {w:World} (B:Nat) (l:List Nat) (hl:Byt l) (fz:Nat × Nat):OwnB (w.alloc (Obj.cells (l.map fun (c:Nat)=>Value.int .u8 (c:Int)).toArray 5 fz)) B (.slice (some ⟨w.heap.size,0,none⟩) l.length l.length) l:=by
 refine .inr ⟨hl,w.heap.size,rfl,by simp,fun j hj=>?_⟩
 have hn:(w.alloc (Obj.cells (l.map fun (c:Nat)=>Value.int .u8 (c:Int)).toArray 5 fz)).heap[w.heap.size]? = some (Obj.cells (l.map fun (c:Nat)=>Value.int .u8 (c:Int)).toArray 5 fz):=heap_alloc_new w _
 rw [cell_of_row _ _ j _ _ _ hn,List.getElem?_toArray,List.getElem?_map,List.getElem?_eq_getElem hj,List.getD_eq_getElem?_getD,List.getElem?_eq_getElem hj];rfl
theorem encode_f (k s bo sq st ds ta tb wh wn x y a b d:Int) (hm:mayF ⟨k,s,bo,sq,st,ds,ta,tb,wh,wn,x,y,a,b,d⟩=false) (w:World) :
  Calls Tryz.prog 131 #[frC k s bo sq st ds ta tb wh wn x y a b d] w fun e w'=>e = .returned (.tuple #[.slice none 0 0,.int .i64 1])∧Below w.heap.size w w':=by
 go_enter Tryz.func131,Tryz.ntmps131
 go_wp2_with fail
 refine Calls.mono (framemay_v ⟨k,s,bo,sq,st,ds,ta,tb,wh,wn,x,y,a,b,d⟩ _ hm _) ?_;rintro e w1 ⟨rfl,hb1⟩;have z_w1:=hb1.size;(try simp at z_w1);obtain ⟨yw1aa,cw1aa,fw1aa,rw1aa,tw1aa,pw1aa⟩:=bq hb1 (w.heap.size)
 go_wp2_with fail
 go_ret2
 exact ⟨rfl,below_byR⟩
theorem below_undrew {B:Nat} {w w':World} (h:Below B w.drew w'):Below B w w':=⟨h.os,h.tape,h.output,h.size,h.block⟩
theorem or_low8 (q c:Nat) (hc:c<256):256*q ||| c=256*q+c:=by
 have:=Nat.two_pow_add_eq_or_of_lt (i:=8) (b:=c) (by exact hc) q
 exact this.symm
theorem wrap_i64_eq (n:Int):IntKind.i64.wrap n=wrap64 n:=IntWalk.i64_left n
theorem or64 (X:Int) (c:Nat) (hc:c<256):bits .or .i64 (wrap64 (X*256)) (c:Int)=wrap64 (X*256+c):=by
 have h2:(BitVec.ofInt 64 (c:Int)).toNat=c:=by
  rw [BitVec.ofInt_natCast,BitVec.toNat_ofNat];exact Nat.mod_eq_of_lt (by omega)
 obtain ⟨q,hq⟩:∃ q:Nat,((X*256)%18446744073709551616)=((256*q:Nat):Int):=⟨(X%72057594037927936).toNat,by omega⟩
 have h1:(BitVec.ofInt 64 (wrap64 (X*256))).toNat=256*q:=by
  rw [BitVec.toNat_ofInt]
  have:wrap64 (X*256)%((2^64:Nat):Int)=((256*q:Nat):Int):=by
   rw [← hq];unfold wrap64
   show ((X*256+9223372036854775808)%18446744073709551616-9223372036854775808)%18446744073709551616=_
   omega
  rw [this];rfl
 show IntKind.i64.wrap ((BitVec.ofInt 64 (wrap64 (X*256)) ||| BitVec.ofInt 64 (c:Int)).toNat:Int)=_
 rw [BitVec.toNat_or,h1,h2,or_low8 q c hc,wrap_i64_eq]
 have e:((256*q+c:Nat):Int)=(X*256)%18446744073709551616+(c:Int):=by rw [hq];omega
 rw [e]
 unfold wrap64
 omega
theorem wrap_step (s:Int) (c:Int):wrap64 (wrap64 s*256+c)=wrap64 (s*256+c):=by unfold wrap64;omega
theorem nb_take (l:List Nat) (k:Nat) (h:k<l.length):nb (l.take (k+1))=nb (l.take k)*256+l.getD k 0:=by
 unfold nb
 rw [List.take_add_one,List.foldl_append,List.getElem?_eq_getElem h,List.getD_eq_getElem?_getD,List.getElem?_eq_getElem h];rfl
theorem ftake_c (g:Nat) (v:Value) (l:List Nat) (wd:Nat) (h0:0<wd) (hw:wd≤l.length) (hl:l.length≤1000000) (w:World) (B:Blk w g #[v] 341) (h:RdB w v l) :
  Calls Tryz.prog 249 #[.pointer (some ⟨g,0,none⟩),.int .i64 (wd:Int)] w fun e w'=>(∃ v',e = .returned (.int .i64 (wrap64 (nb (l.take wd))))∧Blk w' g #[v'] 341∧RdB w' v' (l.drop wd))∧OnlyAt g w w':=by
 obtain ⟨hy,ao,cap,rfl,hc,H⟩:=h
 obtain ⟨b,o,rfl,-,-⟩:=H 0 (by omega)
 have H2:Hid (∀ j,j<l.length→b<w.heap.size∧w.cell? ⟨b,o+j,none⟩=some (.int .u8 ((l.getD j 0:Nat):Int))):=by
  intro j hj
  obtain ⟨b',o',e,h1,h2⟩:=H j hj
  cases e
  exact ⟨h1,h2⟩
 have hbg:b≠g:=by
  rintro rfl
  have h1:=(H2.out 0 (by omega)).2
  rw [B.at] at h1
  rcases o with _|o
  ·cases h1
  ·rw [Array.getElem?_eq_none (by simp)] at h1;cases h1
 have HY:=Lib.hid (byt_getD hy)
 have HYB:=Lib.hid hy
 have c0:w.cell? ⟨g,0,none⟩=some (.slice (some ⟨b,o,none⟩) l.length cap):=B.cell rfl
 have l0:=B.lt
 have f0:=B.frozen
 have HB:=Lib.hid B
 obtain ⟨n,hn⟩:∃ n,l.length=n:=⟨_,rfl⟩
 rw [hn] at hw hl hc H2 c0 HB
 have hnt:=Lib.hid (fun k (hk:k<n)=>nb_take l k (by omega))
 obtain ⟨X,hX⟩:∃ f:Nat→Nat,f=fun j=>l.getD j 0:=⟨_,rfl⟩
 obtain ⟨S,hS⟩:∃ f:Nat→Nat,f=fun j=>nb (l.take j):=⟨_,rfl⟩
 have hX':Hid (∀ j,l.getD j 0=X j):=fun j=>by rw [hX]
 have hS':Hid (∀ j,nb (l.take j)=S j):=fun j=>by rw [hS]
 have HN:=Lib.hid hn
 clear H hX hS B hn hy
 go_enter Tryz.func249,Tryz.ntmps249
 go_wp2_with fail
 go_loopw [5,15] (fun t5 t15 wr=>∃ k:Nat,k≤wd∧t15 = .int .i64 k∧t5 = .int .i64 (wrap64 ((S k:Nat):Int))∧wr=w) (fun _ t15 _=>wd-(intOf t15).toNat)
 case atStart=>exact ⟨0,by omega,rfl,by rw [← hS'.out];simp [nb,wrap64],rfl⟩
 case round =>
  obtain ⟨k,hk,rfl,rfl,rfl⟩:=hrel
  by_cases hlt:k<wd
  ·have hcell:=(H2.out k (by omega)).2
   have hyk:=HY.out k
   have hst:=hnt.out k (by omega)
   rw [hX'.out] at hcell hyk hst
   rw [hS'.out,hS'.out] at hst
   obtain ⟨s,hs⟩:∃ s,s=S k:=⟨_,rfl⟩
   obtain ⟨c,hcc⟩:∃ c,c=X k:=⟨_,rfl⟩
   rw [← hcc] at hcell hyk hst
   rw [← hs] at hst ⊢
   have hst:=Lib.hid hst
   have ho:=or64 (wrap64 (s:Int)) c hyk
   rw [wrap_step] at ho
   have HO:=Lib.hid ho
   clear HY HYB hnt hX' hS' hs hcc H2 ho
   go_wp2_with fail
   go_roundw
   case rel=>exact ⟨k+1,by omega,by go_num,by rw [HO.out,hst.out];rfl,trivial⟩
   case measure=>first|(simp [intOf];done)|(simp [intOf];omega)
  ·have h8:k=wd:=by omega
   subst h8
   have hss:=Lib.hid (hS'.out k)
   obtain ⟨s,hs⟩:∃ s,s=S k:=⟨_,rfl⟩
   rw [← hs] at hss ⊢
   have hwn:(k:Int)≤(n:Int):=by omega
   have hwc:(k:Int)≤(cap:Int):=by omega
   clear HY hnt hX' hS' hs
   go_wp2_with fail
   all_goals go_ret
   all_goals have hcellk:∀ j,k+j<n→∀ u,(wr.setCell ⟨g,0,none⟩ u).cell? ⟨b,o+(k+j),none⟩=some (.int .u8 ((l.getD (k+j) 0:Nat):Int)):=fun j hj u=>by rw [World.cell?_setCell_other _ _ _ _ (by simp)];exact (H2.out (k+j) hj).2
   all_goals refine ⟨⟨by rw [hss.out];rfl,_,(HB.out.setCell_same 0 _),?_⟩,OnlyAt.refl.setCell 0 _⟩
   all_goals refine ⟨fun c hc=>HYB.out c (List.mem_of_mem_drop hc),some ⟨b,_,none⟩,_,by rw [List.length_drop,HN.out],by rw [List.length_drop,HN.out];omega,fun j hj=>?_⟩
   all_goals rw [List.length_drop,HN.out] at hj
   ·exfalso;omega
   ·refine ⟨b,_,rfl,by rw [World.size_setCell];exact (H2.out (k+j) (by omega)).1,?_⟩
    rw [Nat.add_assoc,hcellk j (by omega)]
    congr 3
    rw [List.getD_eq_getElem?_getD,List.getD_eq_getElem?_getD,List.getElem?_drop]
theorem small_c (g:Nat) (v:Value) (l:List Nat) (hw:4≤l.length) (hl:l.length≤1000000) (w:World) (B:Blk w g #[v] 341) (h:RdB w v l) :
  Calls Tryz.prog 250 #[.pointer (some ⟨g,0,none⟩)] w fun e w'=>(∃ v',e = .returned (.int .i64 (wrap32 (nb (l.take 4))))∧Blk w' g #[v'] 341∧RdB w' v' (l.drop 4))∧OnlyAt g w w':=by
 go_enter Tryz.func250,Tryz.ntmps250
 go_wp2_with fail
 refine Calls.mono (ftake_c g v l 4 (by decide) hw hl _ B h) ?_;rintro e w1 ⟨⟨v',rfl,B1,h1⟩,ho⟩
 go_wp2_with fail
 go_ret
 refine ⟨⟨v',?_,B1,h1⟩,ho⟩
 refine congrArg (fun z=>Ending.returned (Value.int .i64 z)) ?_
 show wrap64 (wrap32 (wrap64 _))=wrap32 _
 unfold wrap64 wrap32
 omega
theorem encode_t (k s bo sq st ds ta tb wh wn x y a b d:Int) (hm:mayF ⟨k,s,bo,sq,st,ds,ta,tb,wh,wn,x,y,a,b,d⟩=true) (w:World) :
  Calls Tryz.prog 131 #[frC k s bo sq st ds ta tb wh wn x y a b d] w fun e w'=>(∃ v,e = .returned (.tuple #[v,.int .i64 0])∧OwnR w' (w.heap.size+1) v (encL ⟨k,s,bo,sq,st,ds,ta,tb,wh,wn,x,y,a,b,d⟩))∧Below w.heap.size w w':=by
 go_enter Tryz.func131,Tryz.ntmps131
 go_wp2_with fail
 refine name_calls ?_;intro u0 hu0
 obtain ⟨b0,hb0⟩:∃ b0,b0=w.heap.size:=⟨_,rfl⟩
 have HB:Hid (Below b0 w u0):=by rw [hu0,hb0];show Below w.heap.size w _;exact below_byR
 have B0:Hid (Blk u0 b0 #[.int .i64 k,.int .i64 s,.int .i64 bo,.int .i64 sq,.int .i64 st,.int .i64 ds,.int .i64 ta,.int .i64 tb,.int .i64 wh,.int .i64 wn,.int .i64 x,.int .i64 y,.int .i64 a,.int .i64 b,.int .i64 d] 193):=by rw [hu0,hb0];exact Blk.new _ _ _
 rw [← hb0]
 have HB0:=Lib.hid hb0
 clear hu0 hb0
 refine Calls.mono (framemay_v ⟨k,s,bo,sq,st,ds,ta,tb,wh,wn,x,y,a,b,d⟩ _ hm _) ?_;rintro e w1 ⟨rfl,hb⟩
 have hb:=Lib.hid hb
 replace HB:=Lib.hid (HB.out.trans (hb.out.mono (Nat.le_trans (Nat.le_of_lt B0.out.lt) (Nat.le_refl _))))
 replace B0:=Lib.hid (B0.out.keep hb.out)
 obtain ⟨wA,hwA⟩:∃ wA,wA=w1:=⟨_,rfl⟩
 rw [← hwA] at HB B0 ⊢
 clear hwA hb
 have l0:=B0.out.lt
 have q0:wA.cell? ⟨b0,0,none⟩=some (.int .i64 k):=B0.out.cell rfl
 have q1:wA.cell? ⟨b0,1,none⟩=some (.int .i64 s):=B0.out.cell rfl
 have q5:wA.cell? ⟨b0,5,none⟩=some (.int .i64 ds):=B0.out.cell rfl
 have q8:wA.cell? ⟨b0,8,none⟩=some (.int .i64 wh):=B0.out.cell rfl
 have hcv:=cv_bytes wA #[.int .u8 97,.int .u8 108,.int .u8 105,.int .u8 49] 4 4
 go_wp2_with fail
 have hown:=OwnB.lit (w:=wA) (b0+1) [97,108,105,49] (by intro c hc;simp at hc;omega) (4,5)
 have hB1:Below (b0+1) wA (wA.alloc (Obj.cells #[.int .u8 97,.int .u8 108,.int .u8 105,.int .u8 49] 5 (4,5))):=(Below.refl _ _).alloc (by omega) _
 go_loopw [4,25] (fun t4 t25 wr=>∃ j:Nat,j≤4∧t25 = .int .i64 j∧Hid (OwnB wr (b0+1) t4 ([97,108,105,49]++fl 1 [k,s,ds,wh] j))∧Hid (Below (b0+1) wA wr)) (fun _ t25 _=>4-(intOf t25).toNat)
 case atStart=>exact ⟨0,by omega,rfl,hown,hB1⟩
 case round =>
  obtain ⟨j,hj,rfl,hO,hBr⟩:=hrel
  have hlen:=fl_len 1 [k,s,ds,wh] j hj
  have hsz:=hBr.out.size
  by_cases hlt:j<4
  ·have hS:=fl_succ 1 [k,s,ds,wh] j hlt
   have i0:=fun w=>(ix4i k s ds wh w).1
   have i1:=fun w=>(ix4i k s ds wh w).2.1
   have i2:=fun w=>(ix4i k s ds wh w).2.2.1
   have i3:=fun w=>(ix4i k s ds wh w).2.2.2
   rcases j with _|_|_|_|j
   all_goals first|(exfalso;omega)|skip
   all_goals go_wp2_with fail
   all_goals (refine Calls.mono (put_h (b0+1) _ _ _ 1 (by decide) _ hO (by omega) (by rw [List.length_append,hlen];simp)) ?_;rintro e w2 ⟨⟨v',rfl,hO2⟩,hb2⟩)
   all_goals replace hBr:=Lib.hid (hBr.out.trans hb2)
   all_goals simp only [List.getD_cons_zero,List.getD_cons_succ] at hS
   all_goals rw [List.append_assoc,← hS] at hO2
   all_goals clear hb2 hO
   all_goals go_wp2_with fail
   all_goals go_roundw
   all_goals first|(refine ⟨_,?_,?_,hO2,hBr⟩ <;> first|omega|go_num)|((repeat apply Exists.intro);refine ⟨⟨_,?_,?_,hO2,hBr⟩,rfl⟩ <;> first|omega|go_num)|(simp [intOf];done)
  ·have h4:j=4:=by omega
   subst h4
   obtain ⟨P1,hP1⟩:∃ P,P = [97,108,105,49]++fl 1 [k,s,ds,wh] 4:=⟨_,rfl⟩
   have lP1:P1.length=8:=by rw [hP1,List.length_append,hlen];rfl
   have HP1:=Lib.hid hP1
   rw [← hP1] at hO
   replace HB:=Lib.hid (HB.out.trans (hBr.out.mono (Nat.le_succ _)))
   replace B0:=Lib.hid (B0.out.below hBr.out (Nat.lt_succ_self _))
   obtain ⟨wz1,hwz⟩:∃ wz,wz=wr:=⟨_,rfl⟩
   rw [← hwz] at hO HB B0 ⊢
   clear hwz hBr hP1 hlen hj hlt hsz
   clear l0 q0 q1 q5 q8 hcv hown hB1
   have l0:=B0.out.lt
   have q2:wz1.cell? ⟨b0,2,none⟩=some (.int .i64 bo):=B0.out.cell rfl
   have q3:wz1.cell? ⟨b0,3,none⟩=some (.int .i64 sq):=B0.out.cell rfl
   go_wp2_with fail
   go_cut [4] from 32 (fun s4 wc=>Hid (OwnB wc (b0+1) s4 (P1++be 2 bo++be 2 sq))∧Hid (Below (b0+1) wz1 wc))
   case first =>
    go_region_held3 (fun w'=>w'.cell? ⟨b0,2,none⟩=some (.int .i64 bo)∧w'.cell? ⟨b0,3,none⟩=some (.int .i64 sq)) (go_simp)
     (first
      | (go_at_call 182;refine Calls.mono (put_h (b0+1) _ P1 _ 2 (by decide) _ (by repeat (first|with_reducible assumption|with_reducible refine ownH_drew ?_|with_reducible refine ownH_drewN ?_)) (by first|omega|(simp;done)|(simp;omega)|fail) (by simp only [List.length_append,be_length,lP1];decide)) ?_;rintro e w2 ⟨⟨v',rfl,hO2⟩,hb2⟩;have hz2:wz1.heap.size≤w2.heap.size:=hb2.size;have hc2:∀ o,w2.cell? ⟨b0,o,none⟩=wz1.cell? ⟨b0,o,none⟩:=fun o=>hb2.cell (p:=⟨b0,o,none⟩) (Nat.lt_succ_self b0))
      | (go_at_call 182;refine Calls.mono (put_h (b0+1) _ (P1++be 2 bo) _ 2 (by decide) _ (by repeat (first|with_reducible assumption|with_reducible refine ownH_drew ?_|with_reducible refine ownH_drewN ?_)) (by first|omega|(simp;done)|(simp;omega)|fail) (by simp only [List.length_append,be_length,lP1];decide)) ?_;rintro e w3 ⟨⟨v',rfl,hO3⟩,hb3⟩;have hz3:w2.heap.size≤w3.heap.size:=hb3.size;have hc3:∀ o,w3.cell? ⟨b0,o,none⟩=w2.cell? ⟨b0,o,none⟩:=fun o=>hb3.cell (p:=⟨b0,o,none⟩) (Nat.lt_succ_self b0)))
    go_wp2_with fail
    go_meet
    exact ⟨hO3,(below_undrew hb2).trans hb3⟩
   case rest =>
    obtain ⟨hO2,hBr⟩:=hcut
    obtain ⟨P2,hP2⟩:∃ P,P=P1++be 2 bo++be 2 sq:=⟨_,rfl⟩
    have lP2:P2.length=12:=by rw [hP2];simp only [List.length_append,be_length,lP1]
    have HP2:=Lib.hid hP2
    rw [← hP2] at hO2
    replace HB:=Lib.hid (HB.out.trans (hBr.out.mono (Nat.le_succ _)))
    replace B0:=Lib.hid (B0.out.below hBr.out (Nat.lt_succ_self _))
    clear hP2 hBr hO
    clear l0 q2 q3
    obtain ⟨wz2,hwz⟩:∃ wz,wz=wc:=⟨_,rfl⟩
    rw [← hwz] at hO2 HB B0 ⊢
    clear hwz
    have l0:=B0.out.lt
    have q4:wz2.cell? ⟨b0,4,none⟩=some (.int .i64 st):=B0.out.cell rfl
    have q6:wz2.cell? ⟨b0,6,none⟩=some (.int .i64 ta):=B0.out.cell rfl
    have q7:wz2.cell? ⟨b0,7,none⟩=some (.int .i64 tb):=B0.out.cell rfl
    have q9:wz2.cell? ⟨b0,9,none⟩=some (.int .i64 wn):=B0.out.cell rfl
    go_wp2_with fail
    go_loopw [4,48] (fun t4 t48 wr=>∃ j:Nat,j≤4∧t48 = .int .i64 j∧Hid (OwnB wr (b0+1) t4 (P2++fl 8 [st,ta,tb,wn] j))∧Hid (Below (b0+1) wz2 wr)) (fun _ t48 _=>4-(intOf t48).toNat)
    case atStart=>exact ⟨0,by omega,rfl,by rw [show ∀ x:List Nat,x++fl 8 [st,ta,tb,wn] 0=x from fun x=>List.append_nil x];exact hO2,Below.refl _ _⟩
    case round =>
     obtain ⟨j,hj,rfl,hO,hBr⟩:=hrel
     have hlen:=fl_len 8 [st,ta,tb,wn] j hj
     have hsz:=hBr.out.size
     by_cases hlt:j<4
     ·have hS:=fl_succ 8 [st,ta,tb,wn] j hlt
      have i0:=fun w=>(ix4l st ta tb wn w).1
      have i1:=fun w=>(ix4l st ta tb wn w).2.1
      have i2:=fun w=>(ix4l st ta tb wn w).2.2.1
      have i3:=fun w=>(ix4l st ta tb wn w).2.2.2
      rcases j with _|_|_|_|j
      all_goals first|(exfalso;omega)|skip
      all_goals go_wp2_with fail
      all_goals (refine Calls.mono (put_h (b0+1) _ _ _ 8 (by decide) _ hO (by omega) (by rw [List.length_append,hlen];simp;omega)) ?_;rintro e w2 ⟨⟨v',rfl,hO2⟩,hb2⟩)
      all_goals replace hBr:=Lib.hid (hBr.out.trans hb2)
      all_goals simp only [List.getD_cons_zero,List.getD_cons_succ] at hS
      all_goals rw [List.append_assoc,← hS] at hO2
      all_goals clear hb2 hO
      all_goals go_wp2_with fail
      all_goals go_roundw
      all_goals first|(refine ⟨_,?_,?_,hO2,hBr⟩ <;> first|omega|go_num)|((repeat apply Exists.intro);refine ⟨⟨_,?_,?_,hO2,hBr⟩,rfl⟩ <;> first|omega|go_num)|(simp [intOf];done)
     ·have h4:j=4:=by omega
      subst h4
      obtain ⟨P3,hP3⟩:∃ P,P=P2++fl 8 [st,ta,tb,wn] 4:=⟨_,rfl⟩
      have lP3:P3.length=44:=by rw [hP3,List.length_append,hlen];simp only [List.length_append,be_length,lP2]
      have HP3:=Lib.hid hP3
      rw [← hP3] at hO
      replace HB:=Lib.hid (HB.out.trans (hBr.out.mono (Nat.le_succ _)))
      replace B0:=Lib.hid (B0.out.below hBr.out (Nat.lt_succ_self _))
      obtain ⟨wz3,hwz⟩:∃ wz,wz=wr:=⟨_,rfl⟩
      rw [← hwz] at hO HB B0 ⊢
      clear hwz hBr hP3 hlen hj hlt hsz
      clear l0 q4 q6 q7 q9 hO2
      have l0:=B0.out.lt
      have q10:wz3.cell? ⟨b0,10,none⟩=some (.int .i64 x):=B0.out.cell rfl
      have q11:wz3.cell? ⟨b0,11,none⟩=some (.int .i64 y):=B0.out.cell rfl
      go_wp2_with fail
      go_cut [4] from 55 (fun s4 wc=>Hid (OwnB wc (b0+1) s4 (P3++be 4 x++be 4 y))∧Hid (Below (b0+1) wz3 wc))
      case first =>
       go_region_held3 (fun w'=>w'.cell? ⟨b0,10,none⟩=some (.int .i64 x)∧w'.cell? ⟨b0,11,none⟩=some (.int .i64 y)) (go_simp)
        (first
         | (go_at_call 182;refine Calls.mono (put_h (b0+1) _ P3 _ 4 (by decide) _ (by repeat (first|with_reducible assumption|with_reducible refine ownH_drew ?_|with_reducible refine ownH_drewN ?_)) (by first|omega|(simp;done)|(simp;omega)|fail) (by simp only [List.length_append,be_length,lP3];decide)) ?_;rintro e w2 ⟨⟨v',rfl,hO2⟩,hb2⟩;have hz2:wz3.heap.size≤w2.heap.size:=hb2.size;have hc2:∀ o,w2.cell? ⟨b0,o,none⟩=wz3.cell? ⟨b0,o,none⟩:=fun o=>hb2.cell (p:=⟨b0,o,none⟩) (Nat.lt_succ_self b0))
         | (go_at_call 182;refine Calls.mono (put_h (b0+1) _ (P3++be 4 x) _ 4 (by decide) _ (by repeat (first|with_reducible assumption|with_reducible refine ownH_drew ?_|with_reducible refine ownH_drewN ?_)) (by first|omega|(simp;done)|(simp;omega)|fail) (by simp only [List.length_append,be_length,lP3];decide)) ?_;rintro e w3 ⟨⟨v',rfl,hO3⟩,hb3⟩;have hz3:w2.heap.size≤w3.heap.size:=hb3.size;have hc3:∀ o,w3.cell? ⟨b0,o,none⟩=w2.cell? ⟨b0,o,none⟩:=fun o=>hb3.cell (p:=⟨b0,o,none⟩) (Nat.lt_succ_self b0)))
       go_wp2_with fail
       go_meet
       exact ⟨hO3,(below_undrew hb2).trans hb3⟩
      case rest =>
       obtain ⟨hO2,hBr⟩:=hcut
       obtain ⟨P4,hP4⟩:∃ P,P=P3++be 4 x++be 4 y:=⟨_,rfl⟩
       have lP4:P4.length=52:=by rw [hP4];simp only [List.length_append,be_length,lP3]
       have HP4:=Lib.hid hP4
       rw [← hP4] at hO2
       replace HB:=Lib.hid (HB.out.trans (hBr.out.mono (Nat.le_succ _)))
       replace B0:=Lib.hid (B0.out.below hBr.out (Nat.lt_succ_self _))
       clear hP4 hBr hO
       clear l0 q10 q11
       obtain ⟨wz4,hwz⟩:∃ wz,wz=wc:=⟨_,rfl⟩
       rw [← hwz] at hO2 HB B0 ⊢
       clear hwz
       have l0:=B0.out.lt
       have q12:wz4.cell? ⟨b0,12,none⟩=some (.int .i64 a):=B0.out.cell rfl
       have q13:wz4.cell? ⟨b0,13,none⟩=some (.int .i64 b):=B0.out.cell rfl
       have q14:wz4.cell? ⟨b0,14,none⟩=some (.int .i64 d):=B0.out.cell rfl
       go_wp2_with fail
       go_loopw [4,79] (fun t4 t79 wr=>∃ j:Nat,j≤3∧t79 = .int .i64 j∧Hid (OwnB wr (b0+1) t4 (P4++fl 8 [a,b,d] j))∧Hid (Below (b0+1) wz4 wr)) (fun _ t79 _=>3-(intOf t79).toNat)
       case atStart=>exact ⟨0,by omega,rfl,by rw [show ∀ x:List Nat,x++fl 8 [a,b,d] 0=x from fun x=>List.append_nil x];exact hO2,Below.refl _ _⟩
       case round =>
        obtain ⟨j,hj,rfl,hO,hBr⟩:=hrel
        have hlen:=fl_len 8 [a,b,d] j hj
        have hsz:=hBr.out.size
        by_cases hlt:j<3
        ·have hS:=fl_succ 8 [a,b,d] j hlt
         have i0:=fun w=>(ix3l a b d w).1
         have i1:=fun w=>(ix3l a b d w).2.1
         have i2:=fun w=>(ix3l a b d w).2.2
         rcases j with _|_|_|j
         all_goals first|(exfalso;omega)|skip
         all_goals go_wp2_with fail
         all_goals (refine Calls.mono (put_h (b0+1) _ _ _ 8 (by decide) _ hO (by omega) (by rw [List.length_append,hlen];simp;omega)) ?_;rintro e w2 ⟨⟨v',rfl,hO2⟩,hb2⟩)
         all_goals replace hBr:=Lib.hid (hBr.out.trans hb2)
         all_goals simp only [List.getD_cons_zero,List.getD_cons_succ] at hS
         all_goals rw [List.append_assoc,← hS] at hO2
         all_goals clear hb2 hO
         all_goals go_wp2_with fail
         all_goals go_roundw
         all_goals first|(refine ⟨_,?_,?_,hO2,hBr⟩ <;> first|omega|go_num)|((repeat apply Exists.intro);refine ⟨⟨_,?_,?_,hO2,hBr⟩,rfl⟩ <;> first|omega|go_num)|(simp [intOf];done)
        ·have h4:j=3:=by omega
         subst h4
         obtain ⟨P5,hP5⟩:∃ P,P=P4++fl 8 [a,b,d] 3:=⟨_,rfl⟩
         have lP5:P5.length=76:=by rw [hP5,List.length_append,hlen];simp only [List.length_append,be_length,lP4]
         have HP5:=Lib.hid hP5
         rw [← hP5] at hO
         replace HB:=Lib.hid (HB.out.trans (hBr.out.mono (Nat.le_succ _)))
         replace B0:=Lib.hid (B0.out.below hBr.out (Nat.lt_succ_self _))
         obtain ⟨wz5,hwz⟩:∃ wz,wz=wr:=⟨_,rfl⟩
         rw [← hwz] at hO HB B0 ⊢
         clear hwz hBr hP5 hlen hj hlt hsz
         clear l0 q12 q13 q14 hO2
         have HP:Hid (bodyL ⟨k,s,bo,sq,st,ds,ta,tb,wh,wn,x,y,a,b,d⟩=P5):=by show _=_;rw [HP5.out,HP4.out,HP3.out,HP2.out,HP1.out];rfl
         have EV:Hid (encL ⟨k,s,bo,sq,st,ds,ta,tb,wh,wn,x,y,a,b,d⟩=P5++be 4 (crc P5)):=by show _=_;unfold encL;rw [HP.out]
         have l0:=B0.out.lt
         go_wp2_with fail
         refine Calls.mono (fsum_c _ _ _ hO.out.rd (by omega)) ?_;rintro e w2 ⟨rfl,hb2⟩
         have hO3:=Lib.hid (hO.out.keep hb2)
         have hz:=hb2.size
         replace HB:=Lib.hid (HB.out.trans (hb2.mono (by omega)))
         clear hb2 hO
         have hcl:=crc_lt P5
         go_wp2_with fail
         refine Calls.mono (put_own (b0+1) _ _ _ 4 (by decide) (by decide) _ hO3 (by omega) (by omega)) ?_;rintro e w3 ⟨⟨v',rfl,hO4⟩,hb3⟩
         go_wp2_with fail
         go_ret2
         refine ⟨⟨_,rfl,?_⟩,?_⟩
         ·rw [EV.out,← HB0.out];exact hO4.out
         ·rw [← HB0.out];exact HB.out.trans (hb3.mono (Nat.le_succ _))
end Go.Proofs.YtechbdnhalmobaaGreatDoor
