/- Laws. -/
import Derived.Test.YtilginoibhfeiaaGreatZn
import Derived.Test.YtilginoibhfeiaaGreatH6
set_option maxRecDepth 100000
set_option maxHeartbeats 16000000
namespace Go.Proofs.YtilginoibhfeiaaGreat
open Go.RowKit
theorem goldenFuses_c (x y a b d x' y' a' b' d' sa sb sc sd sl sh:Int) (w:World) :
  Calls Tryz.prog 9 #[elC x y a b d,elC x' y' a' b' d',stC sa sb sc sd sl sh] w fun e w'=>e = .returned (.bool true)∧Below w.heap.size w w':=by
 obtain ⟨⟨r0_0,r0_1,r0_2,r0_3,r0_4⟩,k0,ho0⟩:∃ o k,gfuseE ⟨x,y,a,b,d⟩ ⟨x',y',a',b',d'⟩=(o,k):=⟨_,_,rfl⟩
 have HO0:=Lh ho0
 obtain ⟨⟨r1_0,r1_1,r1_2,r1_3,r1_4⟩,k1,ho1⟩:∃ o k,gcutE ⟨x,y,a,b,d⟩ ⟨sa,sb,sc,sd,sl,sh⟩=(o,k):=⟨_,_,rfl⟩
 have HO1:=Lh ho1
 clear ho0 ho1
 go_enter Tryz.func9,Tryz.ntmps9
 go_wp2_with fail
 obtain ⟨u0,hu0⟩:∃ u,u=(((w).alloc (Obj.cells #[.int .i64 x,.int .i64 y,.int .i64 a,.int .i64 b,.int .i64 d] 27)).alloc (Obj.cells #[.int .i64 x',.int .i64 y',.int .i64 a',.int .i64 b',.int .i64 d'] 27)).alloc (Obj.cells #[.int .i64 sa,.int .i64 sb,.int .i64 sc,.int .i64 sd,.int .i64 sl,.int .i64 sh] 39):=⟨_,rfl⟩
 rw [← hu0]
 have HB:Hid (Below w.heap.size w u0):=by rw [hu0];exact below_by
 have X0:Hid (Blk u0 (w.heap.size) #[.int .i64 x,.int .i64 y,.int .i64 a,.int .i64 b,.int .i64 d] 27):=by rw [hu0];exact ((Blk.new' _ _ _ (by simp)).alloc _).alloc _
 have X1:Hid (Blk u0 (w.heap.size+1) #[.int .i64 x',.int .i64 y',.int .i64 a',.int .i64 b',.int .i64 d'] 27):=by rw [hu0];exact (Blk.new' _ _ _ (by simp)).alloc _
 have X2:Hid (Blk u0 (w.heap.size+1+1) #[.int .i64 sa,.int .i64 sb,.int .i64 sc,.int .i64 sd,.int .i64 sl,.int .i64 sh] 39):=by rw [hu0];exact Blk.new' _ _ _ (by simp)
 clear hu0
 refine Calls.mono (gfuse_v _ _ _ _ _ _ _ _ _ _ _ _ _ _ _ _ HO0.out _) ?_
 rintro e x0 ⟨rfl,hb⟩
 replace X0:=Kp X0 hb
 replace X1:=Kp X1 hb
 replace X2:=Kp X2 hb
 replace HB:=Tp HB hb
 clear hb
 obtain ⟨qX0a,qX0b,qX0c,qX0d,qX0e⟩:=cl5 X0
 have rl_X0:=X0.out.lt
 obtain ⟨qX1a,qX1b,qX1c,qX1d,qX1e⟩:=cl5 X1
 have rl_X1:=X1.out.lt
 go_wp2_with fail
 clear qX0a qX0b qX0c qX0d qX0e rl_X0 qX1a qX1b qX1c qX1d qX1e rl_X1
 obtain ⟨u1,hu⟩:∃ u,u=x0.alloc (Obj.cells #[.int .i64 r0_0,.int .i64 r0_1,.int .i64 r0_2,.int .i64 r0_3,.int .i64 r0_4] 27):=⟨_,rfl⟩
 rw [← hu]
 obtain ⟨g0,hg⟩:∃ g,x0.heap.size=g:=⟨_,rfl⟩
 have gw0:w.heap.size≤g0:=by rw [← hg];exact HB.out.size
 have hb:Below x0.heap.size x0 u1:=by rw [hu];exact (Below.refl _ _).alloc (Nat.le_refl _) _
 replace X0:=Kp X0 hb
 replace X1:=Kp X1 hb
 replace X2:=Kp X2 hb
 replace HB:=Tp HB hb
 clear hb
 have R0_0:Hid (Blk u1 g0 #[.int .i64 r0_0,.int .i64 r0_1,.int .i64 r0_2,.int .i64 r0_3,.int .i64 r0_4] 27):=by rw [hu,← hg];exact Blk.new _ _ _
 rw [hg]
 clear hu hg
 refine Calls.mono (rgfuse_v _ _ _ _ _ _ _ _ _ _ _ _ _ _ _ _ HO0.out _) ?_
 rintro e x1 ⟨rfl,hb⟩
 replace X0:=Kp X0 hb
 replace X1:=Kp X1 hb
 replace X2:=Kp X2 hb
 replace R0_0:=Kp R0_0 hb
 replace HB:=Tp HB hb
 clear hb
 obtain ⟨qX0a,qX0b,qX0c,qX0d,qX0e⟩:=cl5 X0
 have rl_X0:=X0.out.lt
 obtain ⟨qX2a,qX2b,qX2c,qX2d,qX2e,qX2f⟩:=cl6 X2
 have rl_X2:=X2.out.lt
 go_wp2_with fail
 clear qX0a qX0b qX0c qX0d qX0e rl_X0 qX2a qX2b qX2c qX2d qX2e qX2f rl_X2
 obtain ⟨u2,hu⟩:∃ u,u=x1.alloc (Obj.cells #[.int .i64 r0_0,.int .i64 r0_1,.int .i64 r0_2,.int .i64 r0_3,.int .i64 r0_4] 27):=⟨_,rfl⟩
 rw [← hu]
 obtain ⟨g1,hg⟩:∃ g,x1.heap.size=g:=⟨_,rfl⟩
 have gw1:w.heap.size≤g1:=by rw [← hg];exact HB.out.size
 have hb:Below x1.heap.size x1 u2:=by rw [hu];exact (Below.refl _ _).alloc (Nat.le_refl _) _
 replace X0:=Kp X0 hb
 replace X1:=Kp X1 hb
 replace X2:=Kp X2 hb
 replace R0_0:=Kp R0_0 hb
 replace HB:=Tp HB hb
 clear hb
 have R0_1:Hid (Blk u2 g1 #[.int .i64 r0_0,.int .i64 r0_1,.int .i64 r0_2,.int .i64 r0_3,.int .i64 r0_4] 27):=by rw [hu,← hg];exact Blk.new _ _ _
 rw [hg]
 clear hu hg
 refine Calls.mono (gcut_v _ _ _ _ _ _ _ _ _ _ _ _ _ _ _ _ _ HO1.out _) ?_
 rintro e x2 ⟨rfl,hb⟩
 replace X0:=Kp X0 hb
 replace X1:=Kp X1 hb
 replace X2:=Kp X2 hb
 replace R0_0:=Kp R0_0 hb
 replace R0_1:=Kp R0_1 hb
 replace HB:=Tp HB hb
 clear hb
 obtain ⟨qX0a,qX0b,qX0c,qX0d,qX0e⟩:=cl5 X0
 have rl_X0:=X0.out.lt
 obtain ⟨qX2a,qX2b,qX2c,qX2d,qX2e,qX2f⟩:=cl6 X2
 have rl_X2:=X2.out.lt
 go_wp2_with fail
 clear qX0a qX0b qX0c qX0d qX0e rl_X0 qX2a qX2b qX2c qX2d qX2e qX2f rl_X2
 obtain ⟨u3,hu⟩:∃ u,u=x2.alloc (Obj.cells #[.int .i64 r1_0,.int .i64 r1_1,.int .i64 r1_2,.int .i64 r1_3,.int .i64 r1_4] 27):=⟨_,rfl⟩
 rw [← hu]
 obtain ⟨g2,hg⟩:∃ g,x2.heap.size=g:=⟨_,rfl⟩
 have gw2:w.heap.size≤g2:=by rw [← hg];exact HB.out.size
 have hb:Below x2.heap.size x2 u3:=by rw [hu];exact (Below.refl _ _).alloc (Nat.le_refl _) _
 replace X0:=Kp X0 hb
 replace X1:=Kp X1 hb
 replace X2:=Kp X2 hb
 replace R0_0:=Kp R0_0 hb
 replace R0_1:=Kp R0_1 hb
 replace HB:=Tp HB hb
 clear hb
 have R1_0:Hid (Blk u3 g2 #[.int .i64 r1_0,.int .i64 r1_1,.int .i64 r1_2,.int .i64 r1_3,.int .i64 r1_4] 27):=by rw [hu,← hg];exact Blk.new _ _ _
 rw [hg]
 clear hu hg
 refine Calls.mono (rgcut_v _ _ _ _ _ _ _ _ _ _ _ _ _ _ _ _ _ HO1.out _) ?_
 rintro e x3 ⟨rfl,hb⟩
 replace X0:=Kp X0 hb
 replace X1:=Kp X1 hb
 replace X2:=Kp X2 hb
 replace R0_0:=Kp R0_0 hb
 replace R0_1:=Kp R0_1 hb
 replace R1_0:=Kp R1_0 hb
 replace HB:=Tp HB hb
 clear hb
 obtain ⟨qR0_0_0,qR0_0_1,qR0_0_2,qR0_0_3,qR0_0_4⟩:=cl5 R0_0
 have rl_R0_0:=R0_0.out.lt
 obtain ⟨qR0_1_0,qR0_1_1,qR0_1_2,qR0_1_3,qR0_1_4⟩:=cl5 R0_1
 have rl_R0_1:=R0_1.out.lt
 obtain ⟨qR1_0_0,qR1_0_1,qR1_0_2,qR1_0_3,qR1_0_4⟩:=cl5 R1_0
 have rl_R1_0:=R1_0.out.lt
 go_wp2_with fail
 clear qR0_0_0 qR0_0_1 qR0_0_2 qR0_0_3 qR0_0_4 rl_R0_0 qR0_1_0 qR0_1_1 qR0_1_2 qR0_1_3 qR0_1_4 rl_R0_1 qR1_0_0 qR1_0_1 qR1_0_2 qR1_0_3 qR1_0_4 rl_R1_0
 obtain ⟨u4,hu⟩:∃ u,u=x3.alloc (Obj.cells #[.int .i64 r1_0,.int .i64 r1_1,.int .i64 r1_2,.int .i64 r1_3,.int .i64 r1_4] 27):=⟨_,rfl⟩
 rw [← hu]
 obtain ⟨g3,hg⟩:∃ g,x3.heap.size=g:=⟨_,rfl⟩
 have gw3:w.heap.size≤g3:=by rw [← hg];exact HB.out.size
 have hb:Below x3.heap.size x3 u4:=by rw [hu];exact (Below.refl _ _).alloc (Nat.le_refl _) _
 replace X0:=Kp X0 hb
 replace X1:=Kp X1 hb
 replace X2:=Kp X2 hb
 replace R0_0:=Kp R0_0 hb
 replace R0_1:=Kp R0_1 hb
 replace R1_0:=Kp R1_0 hb
 replace HB:=Tp HB hb
 clear hb
 have R1_1:Hid (Blk u4 g3 #[.int .i64 r1_0,.int .i64 r1_1,.int .i64 r1_2,.int .i64 r1_3,.int .i64 r1_4] 27):=by rw [hu,← hg];exact Blk.new _ _ _
 rw [hg]
 clear hu hg
 refine Calls.mono (awake7_c _) ?_
 rintro e x ⟨rfl,hb⟩
 replace HB:=Tp HB hb
 clear hb
 go_wp2_with fail
 go_ret
 exact ⟨rfl,HB.out⟩
end Go.Proofs.YtilginoibhfeiaaGreat
