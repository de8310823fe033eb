/- A window that has heard nothing hears. -/
import Derived.Test.YtechbdnhalmobaaGreatDoorS0
namespace Go.Proofs.YtechbdnhalmobaaGreatDoor
set_option linter.unusedSimpArgs false
set_option linter.unusedVariables false
open Go.RowKit
theorem newWin_c (w:World):Calls Tryz.prog 302 #[] w fun e w'=>e = .returned (.pointer (some ⟨w.heap.size,0,none⟩))∧w'=w.alloc (Obj.cells #[.bool false,.int .i64 0,.int .u64 0] 375):=by
 go_enter Tryz.func302,Tryz.ntmps302
 go_wp2
 go_ret
 exact ⟨rfl,rfl⟩
theorem winHear_c (g:Nat) (s:Int) (w:World) (h:Hid (Blk w g #[.bool false,.int .i64 0,.int .u64 0] 375)) (h0:0≤s) (h1:s≤65535) :
  Calls Tryz.prog 255 #[.pointer (some ⟨g,0,none⟩),.int .i64 s] w fun e w'=>e = .returned (.int .i64 0)∧OnlyAt g w w'∧Blk w' g #[.bool true,.int .i64 s,.int .u64 1] 375:=by
 have q0:=h.out.cell (i:=0) (v := .bool false) rfl
 have q1:=h.out.cell (i:=1) (v := .int .i64 0) rfl
 have q2:=h.out.cell (i:=2) (v := .int .u64 0) rfl
 have fz:=h.out.frozen
 have lt:=h.out.lt
 go_enter Tryz.func255,Tryz.ntmps255
 go_wp2
 all_goals go_ret
 all_goals exact ⟨rfl,((OnlyAt.refl.setCell 0 _).setCell 1 _).setCell 2 _,(((h.out.setCell_same 0 _).setCell_same 1 _).setCell_same 2 _).of_eq rfl⟩
end Go.Proofs.YtechbdnhalmobaaGreatDoor
