/- Laws and walks that the claim names. -/
import Derived.Test.YtechbdnhalmobaaGreatDoorBM
import Derived.Deep.RegionWith
import Derived.Deep.Cut
import Derived.StillTail
import Derived.Deep.Quiet
import Derived.Below
import Derived.Tactics
import Derived.BigQuiet
import Derived.Lib.Hide
set_option maxRecDepth 100000
set_option maxHeartbeats 16000000
namespace Go.Proofs.YtechbdnhalmobaaGreatDoor
set_option linter.unusedSimpArgs false
set_option linter.unusedVariables false
open Go.RowKit
abbrev elC (x y a b d:Int):Value := .agg #[.int .i64 x,.int .i64 y,.int .i64 a,.int .i64 b,.int .i64 d]
abbrev elV (e:El):Value:=elC e.x e.y e.a e.b e.d
def withinB (x y m:Int):Bool:=decide (-m≤x∧x≤m ∧ -m≤y∧y≤m)
theorem within_c (x y m:Int) (hm:0≤m∧m≤9223372036854775807) (w:World) :
  Calls Tryz.prog 37 #[ptV x y,.int .i64 m] w fun e w'=>e = .returned (.bool (withinB x y m))∧Below w.heap.size w w':=by
 have W1:IntKind.i64.wrap (-m) = -m:=by rw [IntKind.wrap_i64];omega
 have E:withinB x y m=(decide (-m≤x)&&(decide (x≤m)&&(decide (-m≤y)&&decide (y≤m)))):=by unfold withinB;simp
 by_cases h1 : -m≤x
 ·by_cases h2:x≤m
  ·by_cases h3 : -m≤y
   ·have EV:Hid (withinB x y m=decide (y≤m)):=by show _=_;rw [E];simp [h1,h2,h3]
    clear E
    go_enter Tryz.func37,Tryz.ntmps37
    go_wp2
    go_ret
    exact ⟨by rw [EV.out];rfl,below_by⟩
   ·have EV:Hid (withinB x y m=false):=by show _=_;rw [E];simp [h1,h2,h3]
    clear E
    go_enter Tryz.func37,Tryz.ntmps37
    go_wp2
    go_ret
    exact ⟨by rw [EV.out];rfl,below_by⟩
  ·have EV:Hid (withinB x y m=false):=by show _=_;rw [E];simp [h1,h2]
   clear E
   go_enter Tryz.func37,Tryz.ntmps37
   go_wp2
   go_ret
   exact ⟨by rw [EV.out];rfl,below_by⟩
 ·have EV:Hid (withinB x y m=false):=by show _=_;rw [E];simp [h1]
  clear E
  go_enter Tryz.func37,Tryz.ntmps37
  go_wp2
  go_ret
  exact ⟨by rw [EV.out];rfl,below_by⟩
theorem maypt_c (x y:Int) (w:World) :
  Calls Tryz.prog 62 #[ptV x y] w fun e w'=>e = .returned (.bool (mayPt x y))∧Below w.heap.size w w':=by
 go_enter Tryz.func62,Tryz.ntmps62
 go_wp2_with fail
 refine (within_c x y 4194304 (by decide) _).mono ?_;rintro e w1 ⟨rfl,hb1⟩;have s1:=hb1.size
 go_wp2_with fail
 go_ret
 exact ⟨rfl,below_by⟩
theorem El.may_mat (e:El) (h:e.may=true):mayB e.a e.b e.d=true:=by
 have:=(El.may_iff e).1 h
 rw [mayB_iff];omega
theorem may_cases (m:Bool) (a b d:Int):(m=false)∨(m=true∧¬ 1≤a)∨(m=true∧1≤a∧¬ a≤70368744177664)∨(m=true∧1≤a∧a≤70368744177664∧¬ 1≤d)∨(m=true∧1≤a∧a≤70368744177664∧1≤d∧¬ d≤70368744177664) ∨
  (m=true∧1≤a∧a≤70368744177664∧1≤d∧d≤70368744177664∧¬ -70368744177664≤b)∨(m=true∧1≤a∧a≤70368744177664∧1≤d∧d≤70368744177664 ∧ -70368744177664≤b∧¬ b≤70368744177664) ∨
  (m=true∧1≤a∧a≤70368744177664∧1≤d∧d≤70368744177664 ∧ -70368744177664≤b∧b≤70368744177664):=by
 cases m <;> simp <;> omega
theorem ellmay_c (x y a b d:Int) (w:World) :
  Calls Tryz.prog 34 #[elC x y a b d] w fun e w'=>e = .returned (.bool (El.may ⟨x,y,a,b,d⟩))∧Below w.heap.size w w':=by
 obtain ⟨m,hm⟩:∃ m,m=mayPt x y:=⟨_,rfl⟩
 have E:Hid (El.may ⟨x,y,a,b,d⟩=(m&&(decide (1≤a)&&(decide (a≤70368744177664)&&(decide (1≤d)&&(decide (d≤70368744177664)&&(decide (-70368744177664≤b)&&(decide (b≤70368744177664)&&decide (0<a*d-b*b))))))))):=by
  show _=_;rw [hm];unfold El.may;simp [Bool.and_assoc]
 have HM:=Lib.hid hm.symm
 clear hm
 rcases may_cases m a b d with h0|⟨h0,h1⟩|⟨h0,h1,h2⟩|⟨h0,h1,h2,h3⟩|⟨h0,h1,h2,h3,h4⟩|⟨h0,h1,h2,h3,h4,h5⟩|⟨h0,h1,h2,h3,h4,h5,h6⟩|⟨h0,h1,h2,h3,h4,h5,h6⟩
 case inr.inr.inr.inr.inr.inr.inr =>
  subst h0
  have HA:Hid (I64 a∧I64 b∧I64 d):=by unfold Hid I64;omega
  obtain ⟨s,hs⟩:∃ s,s=a*d-b*b:=⟨_,rfl⟩
  have S:Hid (Sm 260 s):=by show Sm 260 s;rw [hs];exact (HA.out.1.sm.mul HA.out.2.2.sm |>.sub (HA.out.2.1.sm.mul HA.out.2.1.sm)).mono (by decide)
  have HS:=Lib.hid hs
  clear hs
  rw [← HS.out] at E
  have EV:Hid (El.may ⟨x,y,a,b,d⟩=decide (0<s)):=by show _=_;rw [E.out];simp [h1,h2,h3,h4,h5,h6]
  have e1:=Lib.hid (WI.of_sign (S.out.lim (by decide)))
  go_enter Tryz.func34,Tryz.ntmps34
  go_wp2_with fail
  refine (maypt_c _ _ _).mono ?_;rintro e w1 ⟨rfl,hb1⟩;rw [HM.out];have z_w1:=hb1.size;(try simp at z_w1);obtain ⟨yw1aa,cw1aa,fw1aa,rw1aa,tw1aa,pw1aa⟩:=bq hb1 (w.heap.size);obtain ⟨yw1ab,cw1ab,fw1ab,rw1ab,tw1ab,pw1ab⟩:=bq hb1 (w.heap.size+1)
  go_wp2_with fail
  refine (matdet_c _ _ _ HA.out.1 HA.out.2.1 HA.out.2.2 _).mono ?_;rintro e w2 ⟨rfl,hb2⟩;have z_w2:=hb2.size;(try simp at z_w2);obtain ⟨yw2aa,cw2aa,fw2aa,rw2aa,tw2aa,pw2aa⟩:=bq hb2 (w.heap.size);obtain ⟨yw2ab,cw2ab,fw2ab,rw2ab,tw2ab,pw2ab⟩:=bq hb2 (w.heap.size+1)
  rw [← HS.out]
  go_wp2_with fail
  refine (sign_I _ _).mono ?_;rintro e w3 ⟨rfl,hb3⟩;rw [e1.out];have z_w3:=hb3.size;(try simp at z_w3);obtain ⟨yw3aa,cw3aa,fw3aa,rw3aa,tw3aa,pw3aa⟩:=bq hb3 (w.heap.size);obtain ⟨yw3ab,cw3ab,fw3ab,rw3ab,tw3ab,pw3ab⟩:=bq hb3 (w.heap.size+1)
  go_wp2
  go_ret
  exact ⟨by rw [EV.out];simp,below_by⟩
 all_goals subst h0
 all_goals have EV:Hid (El.may ⟨x,y,a,b,d⟩=false):=by show _=_;rw [E.out];simp [*]
 all_goals clear E
 all_goals go_enter Tryz.func34,Tryz.ntmps34
 all_goals go_wp2_with fail
 all_goals (refine (maypt_c _ _ _).mono ?_;rintro e w1 ⟨rfl,hb1⟩;rw [HM.out];have z_w1:=hb1.size;(try simp at z_w1);obtain ⟨yw1aa,cw1aa,fw1aa,rw1aa,tw1aa,pw1aa⟩:=bq hb1 (w.heap.size);obtain ⟨yw1ab,cw1ab,fw1ab,rw1ab,tw1ab,pw1ab⟩:=bq hb1 (w.heap.size+1))
 all_goals go_wp2_with fail
 all_goals go_ret
 all_goals exact ⟨by rw [EV.out];rfl,below_by⟩
open Go.RowKit
theorem ellmay_e (e:El) (m:Bool) (h:e.may=m) (w:World) :
  Calls Tryz.prog 34 #[elV e] w fun r w'=>r = .returned (.bool m)∧Below w.heap.size w w':=by
 subst h;exact ellmay_c e.x e.y e.a e.b e.d w
theorem ellin_c (x y a b d p q:Int) (w:World) :
  Calls Tryz.prog 15 #[elC x y a b d,ptV p q] w fun e w'=>e = .returned (.bool (El.has ⟨x,y,a,b,d⟩ p q))∧Below w.heap.size w w':=by
 obtain ⟨m,hm⟩:∃ m,m=El.may ⟨x,y,a,b,d⟩:=⟨_,rfl⟩
 obtain ⟨n,hn⟩:∃ n,n=withinB p q 1073741824:=⟨_,rfl⟩
 have E:Hid (El.has ⟨x,y,a,b,d⟩ p q=(m&&n&&holdsB a b d (p-x) (q-y))):=by
  show _=_;rw [hm,hn];rfl
 have HM:=Lib.hid hm.symm
 have HN:=Lib.hid hn.symm
 cases m with
 | false =>
  clear hm hn
  go_enter Tryz.func15,Tryz.ntmps15
  go_wp2_with fail
  refine (ellmay_c _ _ _ _ _ _).mono ?_;rintro e w1 ⟨rfl,hb1⟩;rw [HM.out];have z_w1:=hb1.size;(try simp at z_w1);obtain ⟨yw1aa,cw1aa,fw1aa,rw1aa,tw1aa,pw1aa⟩:=bq hb1 (w.heap.size);obtain ⟨yw1ab,cw1ab,fw1ab,rw1ab,tw1ab,pw1ab⟩:=bq hb1 (w.heap.size+1)
  go_wp2
  go_ret
  exact ⟨by rw [E.out];rfl,below_byR⟩
 | true =>
  cases n with
  | false =>
   clear hm hn
   go_enter Tryz.func15,Tryz.ntmps15
   go_wp2_with fail
   refine (ellmay_c _ _ _ _ _ _).mono ?_;rintro e w1 ⟨rfl,hb1⟩;rw [HM.out];have z_w1:=hb1.size;(try simp at z_w1);obtain ⟨yw1aa,cw1aa,fw1aa,rw1aa,tw1aa,pw1aa⟩:=bq hb1 (w.heap.size);obtain ⟨yw1ab,cw1ab,fw1ab,rw1ab,tw1ab,pw1ab⟩:=bq hb1 (w.heap.size+1)
   go_wp2_with fail
   refine (within_c _ _ _ (by decide) _).mono ?_;rintro e w2 ⟨rfl,hb2⟩;rw [HN.out];have z_w2:=hb2.size;(try simp at z_w2);obtain ⟨yw2aa,cw2aa,fw2aa,rw2aa,tw2aa,pw2aa⟩:=bq hb2 (w.heap.size);obtain ⟨yw2ab,cw2ab,fw2ab,rw2ab,tw2ab,pw2ab⟩:=bq hb2 (w.heap.size+1)
   go_wp2
   go_ret
   exact ⟨by rw [E.out];rfl,below_byR⟩
  | true =>
   have B:=(El.may_iff _).1 hm.symm
   have C : -1073741824≤p∧p≤1073741824 ∧ -1073741824≤q∧q≤1073741824:=by simpa [withinB] using hn.symm
   obtain ⟨⟨b1,b2,b3,b4⟩,⟨b5,b6,b7,b8,b9,b10⟩,-⟩:=B
   obtain ⟨c1,c2,c3,c4⟩:=C
   simp only at b1 b2 b3 b4 b5 b6 b7 b8 b9 b10
   have K:Hid (I64 a∧I64 b∧I64 d∧I64 (p-x)∧I64 (q-y)):=by unfold Hid I64;omega
   clear hm hn b5 b6 b7 b8 b9 b10
   go_enter Tryz.func15,Tryz.ntmps15
   go_wp2_with fail
   refine (ellmay_c _ _ _ _ _ _).mono ?_;rintro e w1 ⟨rfl,hb1⟩;rw [HM.out];have z_w1:=hb1.size;(try simp at z_w1);obtain ⟨yw1aa,cw1aa,fw1aa,rw1aa,tw1aa,pw1aa⟩:=bq hb1 (w.heap.size);obtain ⟨yw1ab,cw1ab,fw1ab,rw1ab,tw1ab,pw1ab⟩:=bq hb1 (w.heap.size+1)
   go_wp2_with fail
   refine (within_c _ _ _ (by decide) _).mono ?_;rintro e w2 ⟨rfl,hb2⟩;rw [HN.out];have z_w2:=hb2.size;(try simp at z_w2);obtain ⟨yw2aa,cw2aa,fw2aa,rw2aa,tw2aa,pw2aa⟩:=bq hb2 (w.heap.size);obtain ⟨yw2ab,cw2ab,fw2ab,rw2ab,tw2ab,pw2ab⟩:=bq hb2 (w.heap.size+1)
   go_wp2_with fail
   refine (holds_c _ _ _ _ _ K.out.1 K.out.2.1 K.out.2.2.1 K.out.2.2.2.1 K.out.2.2.2.2 _).mono ?_;rintro e w3 ⟨rfl,hb3⟩;have z_w3:=hb3.size;(try simp at z_w3);obtain ⟨yw3aa,cw3aa,fw3aa,rw3aa,tw3aa,pw3aa⟩:=bq hb3 (w.heap.size);obtain ⟨yw3ab,cw3ab,fw3ab,rw3ab,tw3ab,pw3ab⟩:=bq hb3 (w.heap.size+1)
   go_wp2
   go_ret
   exact ⟨by rw [E.out];rfl,below_byR⟩
def radB (r:Int):Bool:=decide (1≤r)&&decide (r≤4194304)
theorem radius_c (r:Int) (w:World) :
  Calls Tryz.prog 79 #[.int .i64 r] w fun e w'=>e = .returned (.bool (radB r))∧Below w.heap.size w w':=by
 have E:radB r=(decide (1≤r)&&decide (r≤4194304)):=rfl
 by_cases h1:1≤r
 ·have EV:Hid (radB r=decide (r≤4194304)):=by show _=_;rw [E];simp [h1]
  clear E
  go_enter Tryz.func79,Tryz.ntmps79
  go_wp2
  go_ret
  exact ⟨by rw [EV.out];rfl,below_byR⟩
 ·have EV:Hid (radB r=false):=by show _=_;rw [E];simp [h1]
  clear E
  go_enter Tryz.func79,Tryz.ntmps79
  go_wp2
  go_ret
  exact ⟨by rw [EV.out];rfl,below_byR⟩
theorem ellball_c (x y r:Int) (w:World) :
  Calls Tryz.prog 35 #[ptV x y,.int .i64 r] w fun e w'=>e = .returned (.tuple #[elV (ballE x y r).1,.int .i64 (ballE x y r).2])∧Below w.heap.size w w':=by
 have E:Hid (ballE x y r=if mayPt x y=true∧1≤r∧r≤4194304 then (⟨x,y,r*r,0,r*r⟩,0) else (El.zero,1)):=rfl
 obtain ⟨m,hm⟩:∃ m,m=mayPt x y:=⟨_,rfl⟩
 have HM:=Lib.hid hm.symm
 clear hm
 rw [HM.out] at E
 cases m with
 | false =>
  go_enter Tryz.func35,Tryz.ntmps35
  go_wp2_with fail
  refine (maypt_c _ _ _).mono ?_;rintro e w1 ⟨rfl,hb1⟩;rw [HM.out];have z_w1:=hb1.size;(try simp at z_w1);obtain ⟨yw1aa,cw1aa,fw1aa,rw1aa,tw1aa,pw1aa⟩:=bq hb1 (w.heap.size);obtain ⟨yw1ab,cw1ab,fw1ab,rw1ab,tw1ab,pw1ab⟩:=bq hb1 (w.heap.size+1)
  go_wp2
  exact bodyPost_row_t 5 #[.int .i64 0,.int .i64 0,.int .i64 0,.int .i64 0,.int .i64 0] (.int .i64 1) rfl rfl rfl rfl Tryz.underlying35 rfl (by kernel_rfl) (rc5 (by go_simp) (by go_simp) (by go_simp) (by go_simp) (by go_simp)) ⟨by rw [E.out];rfl,below_byR⟩
 | true =>
  obtain ⟨n,hn⟩:∃ n,n=radB r:=⟨_,rfl⟩
  have HN:=Lib.hid hn.symm
  cases n with
  | false =>
   have E2:Hid (ballE x y r=(El.zero,1)):=by
    have h:=hn.symm
    show _=_;rw [E.out,if_neg];rintro ⟨-,h1,h2⟩;simp [radB,h1,h2] at h
   clear hn
   go_enter Tryz.func35,Tryz.ntmps35
   go_wp2_with fail
   refine (maypt_c _ _ _).mono ?_;rintro e w1 ⟨rfl,hb1⟩;rw [HM.out];have z_w1:=hb1.size;(try simp at z_w1);obtain ⟨yw1aa,cw1aa,fw1aa,rw1aa,tw1aa,pw1aa⟩:=bq hb1 (w.heap.size);obtain ⟨yw1ab,cw1ab,fw1ab,rw1ab,tw1ab,pw1ab⟩:=bq hb1 (w.heap.size+1)
   go_wp2_with fail
   refine (radius_c _ _).mono ?_;rintro e w2 ⟨rfl,hb2⟩;rw [HN.out];have z_w2:=hb2.size;(try simp at z_w2);obtain ⟨yw2aa,cw2aa,fw2aa,rw2aa,tw2aa,pw2aa⟩:=bq hb2 (w.heap.size);obtain ⟨yw2ab,cw2ab,fw2ab,rw2ab,tw2ab,pw2ab⟩:=bq hb2 (w.heap.size+1)
   go_wp2
   exact bodyPost_row_t 5 #[.int .i64 0,.int .i64 0,.int .i64 0,.int .i64 0,.int .i64 0] (.int .i64 1) rfl rfl rfl rfl Tryz.underlying35 rfl (by kernel_rfl) (rc5 (by go_simp) (by go_simp) (by go_simp) (by go_simp) (by go_simp)) ⟨by rw [E2.out];rfl,below_byR⟩
  | true =>
   have hr:1≤r∧r≤4194304:=by simpa [radB] using hn.symm
   have E2:Hid (ballE x y r=(⟨x,y,r*r,0,r*r⟩,0)):=by
    show _=_;rw [E.out,if_pos ⟨rfl,hr⟩]
   obtain ⟨s,hs⟩:∃ s,s=r*r:=⟨_,rfl⟩
   have k2:r*r≤4194304*4194304:=Int.mul_le_mul hr.2 hr.2 (by omega) (by decide)
   have k3:=int_sq_nonneg r
   rw [← hs] at E2 k2 k3
   have e1:r*r=s:=hs.symm
   clear hn hs
   go_enter Tryz.func35,Tryz.ntmps35
   go_wp2_with fail
   refine (maypt_c _ _ _).mono ?_;rintro e w1 ⟨rfl,hb1⟩;rw [HM.out];have z_w1:=hb1.size;(try simp at z_w1);obtain ⟨yw1aa,cw1aa,fw1aa,rw1aa,tw1aa,pw1aa⟩:=bq hb1 (w.heap.size);obtain ⟨yw1ab,cw1ab,fw1ab,rw1ab,tw1ab,pw1ab⟩:=bq hb1 (w.heap.size+1)
   go_wp2_with fail
   refine (radius_c _ _).mono ?_;rintro e w2 ⟨rfl,hb2⟩;rw [HN.out];have z_w2:=hb2.size;(try simp at z_w2);obtain ⟨yw2aa,cw2aa,fw2aa,rw2aa,tw2aa,pw2aa⟩:=bq hb2 (w.heap.size);obtain ⟨yw2ab,cw2ab,fw2ab,rw2ab,tw2ab,pw2ab⟩:=bq hb2 (w.heap.size+1)
   go_wp2
   exact bodyPost_row_t 5 #[.int .i64 x,.int .i64 y,.int .i64 s,.int .i64 0,.int .i64 s] (.int .i64 0) rfl rfl rfl rfl Tryz.underlying35 rfl (by kernel_rfl) (rc5 (by go_simp) (by go_simp) (by go_simp) (by go_simp) (by go_simp)) ⟨by rw [E2.out],below_byR⟩
theorem trace_c (x y a b d:Int) (w:World) :
  Calls Tryz.prog 13 #[elC x y a b d] w fun e w'=>e = .returned (.int .i64 (El.tr ⟨x,y,a,b,d⟩))∧Below w.heap.size w w':=by
 have E:Hid (El.tr ⟨x,y,a,b,d⟩=if El.may ⟨x,y,a,b,d⟩=true then a+d else 0):=rfl
 obtain ⟨m,hm⟩:∃ m,m=El.may ⟨x,y,a,b,d⟩:=⟨_,rfl⟩
 have HM:=Lib.hid hm.symm
 rw [HM.out] at E
 cases m with
 | false =>
  clear hm
  go_enter Tryz.func13,Tryz.ntmps13
  go_wp2_with fail
  refine (ellmay_c _ _ _ _ _ _).mono ?_;rintro e w1 ⟨rfl,hb1⟩;rw [HM.out];have z_w1:=hb1.size;(try simp at z_w1);obtain ⟨yw1aa,cw1aa,fw1aa,rw1aa,tw1aa,pw1aa⟩:=bq hb1 (w.heap.size)
  go_wp2
  go_ret
  exact ⟨by rw [E.out];rfl,below_byR⟩
 | true =>
  obtain ⟨-,⟨b5,b6,b7,b8,-,-⟩,-⟩:=(El.may_iff _).1 hm.symm
  simp only at b5 b6 b7 b8
  clear hm
  go_enter Tryz.func13,Tryz.ntmps13
  go_wp2_with fail
  refine (ellmay_c _ _ _ _ _ _).mono ?_;rintro e w1 ⟨rfl,hb1⟩;rw [HM.out];have z_w1:=hb1.size;(try simp at z_w1);obtain ⟨yw1aa,cw1aa,fw1aa,rw1aa,tw1aa,pw1aa⟩:=bq hb1 (w.heap.size)
  go_wp2
  go_ret
  exact ⟨by rw [E.out];rfl,below_byR⟩
theorem El.tr_le (e:El):0≤e.tr∧e.tr≤140737488355328:=by
 unfold El.tr;split
 ·rename_i h;have:=(El.may_iff e).1 h;omega
 ·decide
theorem ellrad_c (x y a b d:Int) (w:World) :
  Calls Tryz.prog 80 #[elC x y a b d] w fun e w'=>e = .returned (.int .i64 (El.rad ⟨x,y,a,b,d⟩))∧Below w.heap.size w w':=by
 obtain ⟨m,hm⟩:∃ m,m=El.tr ⟨x,y,a,b,d⟩:=⟨_,rfl⟩
 have h:=El.tr_le ⟨x,y,a,b,d⟩
 rw [← hm] at h
 obtain ⟨n,hn⟩:∃ n:Nat,m=n:=⟨m.toNat,by omega⟩
 subst hn
 have HM:=Lib.hid hm.symm
 have HR:Hid (El.rad ⟨x,y,a,b,d⟩=(up n:Nat)):=by show _=_;unfold El.rad;rw [HM.out];rfl
 have HL:Hid (n≤9223372036854775807):=by show n≤_;omega
 clear hm h
 go_enter Tryz.func80,Tryz.ntmps80
 go_wp2_with fail
 refine (trace_c _ _ _ _ _ _).mono ?_;rintro e w1 ⟨rfl,hb1⟩;rw [HM.out];have z_w1:=hb1.size;(try simp at z_w1);obtain ⟨yw1aa,cw1aa,fw1aa,rw1aa,tw1aa,pw1aa⟩:=bq hb1 (w.heap.size)
 go_wp2_with fail
 refine (rup_v n _ HL.out rfl _).mono ?_;rintro e w2 ⟨rfl,hb2⟩;have z_w2:=hb2.size;(try simp at z_w2);obtain ⟨yw2aa,cw2aa,fw2aa,rw2aa,tw2aa,pw2aa⟩:=bq hb2 (w.heap.size)
 go_wp2
 go_ret
 exact ⟨by rw [HR.out];rfl,below_byR⟩
open Go.RowKit
theorem setCell_self {w:World} {b:Nat} {v:Value} {t:TypeId} {fr:Nat × Nat} (h:w.heap[b]? = some (.cells #[v] t fr)):w.setCell ⟨b,0,none⟩ v=w:=by
 have hh:(w.setCell ⟨b,0,none⟩ v).heap=w.heap:=by
  apply Array.ext_getElem?;intro k
  by_cases hk:k=b
  ·subst hk;simp [World.setCell,Array.getElem?_modify,h]
  ·exact heap_setCell_other _ _ _ _ hk
 cases w;simp only [World.setCell] at hh ⊢;rw [hh]
theorem cdiv_range (r a s:Int) (hs:0<s) (hr:0≤r) (h1:0≤a) (h2:a≤s*s):0≤cdiv (r*a) s∧cdiv (r*a) s≤r*s:=by
 have h:=cdiv_spec (r*a) s hs
 have k1:=Int.mul_nonneg hr h1
 have k2:=Int.mul_le_mul_of_nonneg_left h2 hr
 have k3:r*(s*s)=s*(r*s):=by grind
 constructor
 ·exact Int.le_of_mul_le_mul_left (a:=s) (by omega) hs
 · have k4 : s * (cdiv (r * a) s) < s * (r * s + 1) := by
     have:s*(r*s+1)=s*(r*s)+s:=by grind
     omega
   have:=Int.lt_of_mul_lt_mul_left k4 (by omega)
   omega
theorem fdiv_range (r b s:Int) (hs:0<s) (hr:0≤r) (h1 : -(s*s)≤b) (h2:b≤s*s) : -(r*s)≤(r*b).fdiv s∧(r*b).fdiv s≤r*s:=by
 have h:=floor_spec (r*b) s hs
 have k1:=Int.mul_le_mul_of_nonneg_left h1 hr
 have k2:=Int.mul_le_mul_of_nonneg_left h2 hr
 have k3:r*(s*s)=s*(r*s):=by grind
 have k3':r*(-(s*s))=s*(-(r*s)):=by grind
 constructor
 · have k4 : s * (-(r * s)) < s * ((r * b).fdiv s + 1) := by
     have:s*((r*b).fdiv s+1)=s*(r*b).fdiv s+s:=by grind
     omega
   have:=Int.lt_of_mul_lt_mul_left k4 (by omega)
   omega
 ·exact Int.le_of_mul_le_mul_left (a:=s) (by omega) hs
theorem El.b_sq (e:El) (h:e.may=true) : -(e.rad*e.rad)≤e.b∧e.b≤e.rad*e.rad:=by
 have h1:=(El.may_iff e).1 h
 have h2:=e.rad_sq h
 have h3:e.a*e.d≤(e.rad*e.rad)*(e.rad*e.rad):=Int.mul_le_mul (by omega) (by omega) (by omega) (by have:=int_sq_nonneg e.rad;omega)
 exact sq_bound (by have:=int_sq_nonneg e.rad;omega) (by omega)
theorem rs_le {s t:Int} (h1:0<s) (h2:s≤11863284) (h3:0<t) (h4:t≤11863284):(s+t)*s≤300000000000000:=by
 have:=Int.mul_le_mul (show s+t≤23726568 by omega) h2 (by omega) (by decide)
 omega
theorem up_one (s t a:Int) (h1:0<s) (h2:s≤11863284) (h3:0<t) (h4:t≤11863284) (h5:0≤a) (h6:a≤s*s) (h7:a≤70368744177664) :
  mulDivUpV (s+t) a s=(cdiv ((s+t)*a) s,0) ∧ -300000000000000≤cdiv ((s+t)*a) s∧cdiv ((s+t)*a) s≤300000000000000:=by
 have k:=cdiv_range (s+t) a s h1 (by omega) h5 h6
 have k1:=rs_le h1 h2 h3 h4
 refine ⟨?_,by omega,by omega⟩
 rw [mulDivUp_eq _ _ _ (Sm.of64 (by omega) (by omega)) (Sm.of64 (by omega) (by omega)) (Sm.of64 (by omega) (by omega)),if_neg (by omega)]
 show fitI (cdiv ((s+t)*a) s)=_
 unfold fitI;rw [if_pos (by omega)]
theorem down_one (s t a:Int) (h1:0<s) (h2:s≤11863284) (h3:0<t) (h4:t≤11863284) (h5 : -(s*s)≤a) (h6:a≤s*s) (h7 : -70368744177664≤a) (h8:a≤70368744177664) :
  mulDivV (s+t) a s=(((s+t)*a).fdiv s,0) ∧ -300000000000000≤((s+t)*a).fdiv s∧((s+t)*a).fdiv s≤300000000000000:=by
 have k:=fdiv_range (s+t) a s h1 (by omega) h5 h6
 have k1:=rs_le h1 h2 h3 h4
 refine ⟨?_,by omega,by omega⟩
 rw [mulDiv_eq _ _ _ (Sm.of64 (by omega) (by omega)) (Sm.of64 (by omega) (by omega)) (Sm.of64 (by omega) (by omega)),if_neg (by omega)]
 unfold fitI;rw [if_pos (by omega)]
theorem part_c (fn:FuncId) (s t x y q p:Int) (g6 g7 g8:Nat) (w:World) (hfn:∀ args w,Sem.run Tryz.prog (callFunc fn args) w = .ok (.enter fn args) w)
  (hs:0<s∧s≤11863284∧0<t∧t≤11863284) (hq : -300000000000000≤q∧q≤300000000000000) (hp : -300000000000000≤p∧p≤300000000000000)
  (H1:∀ w,Calls Tryz.prog fn #[.int .i64 (s+t),.int .i64 x,.int .i64 s] w fun e w'=>e = .returned (.tuple #[.int .i64 q,.int .i64 0])∧Below w.heap.size w w')
  (H2:∀ w,Calls Tryz.prog fn #[.int .i64 (s+t),.int .i64 y,.int .i64 t] w fun e w'=>e = .returned (.tuple #[.int .i64 p,.int .i64 0])∧Below w.heap.size w w')
  (h6:w.cell? ⟨g6,0,none⟩=some (.int .i64 s)) (h7:w.cell? ⟨g7,0,none⟩=some (.int .i64 t)) (h8:w.heap[g8]? = some (.cells #[.int .i64 0] 46 (0,0))) :
  Calls Tryz.prog 81 (#[.func (.func fn) #[] #[],.int .i64 x,.int .i64 y]++#[.pointer (some ⟨g6,0,none⟩),.pointer (some ⟨g7,0,none⟩),.pointer (some ⟨g8,0,none⟩)]) w
   fun e w'=>e = .returned (.int .i64 (q+p))∧Below w.heap.size w w':=by
 have HH1:=Lib.hid H1
 have HH2:=Lib.hid H2
 have H8:Hid (Blk w g8 #[.int .i64 0] 46):=h8
 have l6:=block_lt_of_cell h6
 have l7:=block_lt_of_cell h7
 have l8:=H8.out.lt
 have c8:=H8.out.at 0
 have f8:=H8.out.frozen 0
 simp only at l6 l7
 have er:wrap64 (s+t)=s+t:=by unfold wrap64;omega
 have eq:wrap64 (q+p)=q+p:=by unfold wrap64;omega
 clear H1 H2 h8 hs hq hp
 show Calls Tryz.prog 81 #[.func (.func fn) #[] #[],.int .i64 x,.int .i64 y,.pointer (some ⟨g6,0,none⟩),.pointer (some ⟨g7,0,none⟩),.pointer (some ⟨g8,0,none⟩)] w _
 go_enter Tryz.func81,Tryz.ntmps81
 go_wp2_with fail
 simp only [er]
 refine (HH1.out _).mono ?_;rintro e w1 ⟨rfl,hb1⟩;have z_w1:=hb1.size;(try simp at z_w1);obtain ⟨y_w1_g6,c_w1_g6,f_w1_g6,r_w1_g6,t_w1_g6,p_w1_g6⟩:=bq hb1 (g6);obtain ⟨y_w1_g7,c_w1_g7,f_w1_g7,r_w1_g7,t_w1_g7,p_w1_g7⟩:=bq hb1 (g7);obtain ⟨y_w1_g8,c_w1_g8,f_w1_g8,r_w1_g8,t_w1_g8,p_w1_g8⟩:=bq hb1 (g8)
 go_wp2_with fail
 simp only [er]
 refine (HH2.out _).mono ?_;rintro e w2 ⟨rfl,hb2⟩;have z_w2:=hb2.size;(try simp at z_w2);obtain ⟨y_w2_g6,c_w2_g6,f_w2_g6,r_w2_g6,t_w2_g6,p_w2_g6⟩:=bq hb2 (g6);obtain ⟨y_w2_g7,c_w2_g7,f_w2_g7,r_w2_g7,t_w2_g7,p_w2_g7⟩:=bq hb2 (g7);obtain ⟨y_w2_g8,c_w2_g8,f_w2_g8,r_w2_g8,t_w2_g8,p_w2_g8⟩:=bq hb2 (g8)
 go_wp2
 simp only [eq]
 go_ret
 have e2:w2.setCell ⟨g8,0,none⟩ (.int .i64 0)=w2:=setCell_self (t:=46) (fr:=(0,0)) (((H8.out.keep hb1).keep hb2))
 exact ⟨rfl,by rw [e2];exact below_byR⟩
structure SumOk (e f:El) (s t:Int):Prop where
 s1:e.rad=s
 t1:f.rad=t
 hs:0<s∧s≤11863284∧0<t∧t≤11863284
 he:e.may=true
 hf:f.may=true
theorem sumOk (e f:El) (he:e.may=true) (hf:f.may=true):SumOk e f e.rad f.rad :=
 ⟨rfl,rfl,⟨e.rad_pos he,e.rad_le,f.rad_pos hf,f.rad_le⟩,he,hf⟩
theorem mdu (a b c:Int) (V:Int × Int) (h:mulDivUpV a b c=V) (ha : -9223372036854775808≤a∧a≤9223372036854775807) (hb : -9223372036854775808≤b∧b≤9223372036854775807) (hc : -9223372036854775808≤c∧c≤9223372036854775807) (w:World) :
  Calls Tryz.prog 82 #[.int .i64 a,.int .i64 b,.int .i64 c] w fun e w'=>e = .returned (.tuple #[.int .i64 V.1,.int .i64 V.2])∧Below w.heap.size w w':=by
 subst h;exact mulDivUp_c a b c ha hb hc w
theorem mdd (a b c:Int) (V:Int × Int) (h:mulDivV a b c=V) (ha : -9223372036854775808≤a∧a≤9223372036854775807) (hb : -9223372036854775808≤b∧b≤9223372036854775807) (hc : -9223372036854775808≤c∧c≤9223372036854775807) (w:World) :
  Calls Tryz.prog 83 #[.int .i64 a,.int .i64 b,.int .i64 c] w fun e w'=>e = .returned (.tuple #[.int .i64 V.1,.int .i64 V.2])∧Below w.heap.size w w':=by
 subst h;exact mulDiv_c a b c ha hb hc w
theorem part_up (s t x y:Int) (g6 g7 g8:Nat) (w:World)
  (hs:0<s∧s≤11863284∧0<t∧t≤11863284) (hx:0≤x∧x≤s*s∧x≤70368744177664) (hy:0≤y∧y≤t*t∧y≤70368744177664)
  (h6:w.cell? ⟨g6,0,none⟩=some (.int .i64 s)) (h7:w.cell? ⟨g7,0,none⟩=some (.int .i64 t)) (h8:w.heap[g8]? = some (.cells #[.int .i64 0] 46 (0,0))) :
  Calls Tryz.prog 81 #[.func (.func 82) #[] #[],.int .i64 x,.int .i64 y,.pointer (some ⟨g6,0,none⟩),.pointer (some ⟨g7,0,none⟩),.pointer (some ⟨g8,0,none⟩)] w
   fun e w'=>e = .returned (.int .i64 (cdiv ((s+t)*x) s+cdiv ((s+t)*y) t))∧Below w.heap.size w w':=by
 have u1:=up_one s t x hs.1 hs.2.1 hs.2.2.1 hs.2.2.2 hx.1 hx.2.1 hx.2.2
 have u2:=up_one t s y hs.2.2.1 hs.2.2.2 hs.1 hs.2.1 hy.1 hy.2.1 hy.2.2
 rw [Int.add_comm t s] at u2
 exact part_c 82 s t x y _ _ g6 g7 g8 w (by intro args w;rfl) hs u1.2 u2.2
  (fun w=>mdu _ _ _ (cdiv ((s+t)*x) s,0) u1.1 (by omega) (by omega) (by omega) w) (fun w=>mdu _ _ _ (cdiv ((s+t)*y) t,0) u2.1 (by omega) (by omega) (by omega) w) h6 h7 h8
theorem part_down (s t x y:Int) (g6 g7 g8:Nat) (w:World)
  (hs:0<s∧s≤11863284∧0<t∧t≤11863284) (hx : -(s*s)≤x∧x≤s*s ∧ -70368744177664≤x∧x≤70368744177664) (hy : -(t*t)≤y∧y≤t*t ∧ -70368744177664≤y∧y≤70368744177664)
  (h6:w.cell? ⟨g6,0,none⟩=some (.int .i64 s)) (h7:w.cell? ⟨g7,0,none⟩=some (.int .i64 t)) (h8:w.heap[g8]? = some (.cells #[.int .i64 0] 46 (0,0))) :
  Calls Tryz.prog 81 #[.func (.func 83) #[] #[],.int .i64 x,.int .i64 y,.pointer (some ⟨g6,0,none⟩),.pointer (some ⟨g7,0,none⟩),.pointer (some ⟨g8,0,none⟩)] w
   fun e w'=>e = .returned (.int .i64 (((s+t)*x).fdiv s+((s+t)*y).fdiv t))∧Below w.heap.size w w':=by
 have u1:=down_one s t x hs.1 hs.2.1 hs.2.2.1 hs.2.2.2 hx.1 hx.2.1 hx.2.2.1 hx.2.2.2
 have u2:=down_one t s y hs.2.2.1 hs.2.2.2 hs.1 hs.2.1 hy.1 hy.2.1 hy.2.2.1 hy.2.2.2
 rw [Int.add_comm t s] at u2
 exact part_c 83 s t x y _ _ g6 g7 g8 w (by intro args w;rfl) hs u1.2 u2.2
  (fun w=>mdd _ _ _ (((s+t)*x).fdiv s,0) u1.1 (by omega) (by omega) (by omega) w) (fun w=>mdd _ _ _ (((s+t)*y).fdiv t,0) u2.1 (by omega) (by omega) (by omega) w) h6 h7 h8
open Go.RowKit
theorem sum_main (x y a b d x' y' a' b' d':Int) (he:El.may ⟨x,y,a,b,d⟩=true) (hf:El.may ⟨x',y',a',b',d'⟩=true) (w:World) :
  Calls Tryz.prog 36 #[elC x y a b d,elC x' y' a' b' d'] w fun r w' =>
   r = .returned (.tuple #[elV (sumE ⟨x,y,a,b,d⟩ ⟨x',y',a',b',d'⟩).1,.int .i64 (sumE ⟨x,y,a,b,d⟩ ⟨x',y',a',b',d'⟩).2])∧Below w.heap.size w w':=by
 have HE:=Lib.hid he
 have HF:=Lib.hid hf
 obtain ⟨s,hs⟩:∃ s,s=El.rad ⟨x,y,a,b,d⟩:=⟨_,rfl⟩
 obtain ⟨t,ht⟩:∃ t,t=El.rad ⟨x',y',a',b',d'⟩:=⟨_,rfl⟩
 have HS:=Lib.hid hs.symm
 have HT:=Lib.hid ht.symm
 have me:=(El.may_iff _).1 he
 have mf:=(El.may_iff _).1 hf
 have re:=El.rad_sq _ he
 have rf:=El.rad_sq _ hf
 have qe:=El.b_sq _ he
 have qf:=El.b_sq _ hf
 have so:=(sumOk _ _ he hf).hs
 simp only [← hs,← ht] at me mf re rf qe qf so
 obtain ⟨A,hA⟩:∃ A,A=cdiv ((s+t)*a) s+cdiv ((s+t)*a') t:=⟨_,rfl⟩
 obtain ⟨D,hD⟩:∃ D,D=cdiv ((s+t)*d) s+cdiv ((s+t)*d') t:=⟨_,rfl⟩
 obtain ⟨B,hB⟩:∃ B,B=((s+t)*b).fdiv s+((s+t)*b').fdiv t:=⟨_,rfl⟩
 have PA : Hid (∀ w g6 g7 g8, w.cell? ⟨g6, 0, none⟩ = some (.int .i64 s) → w.cell? ⟨g7, 0, none⟩ = some (.int .i64 t) → w.heap[g8]? = some (.cells #[.int .i64 0] 46 (0, 0)) →
     Calls Tryz.prog 81 #[.func (.func 82) #[] #[],.int .i64 a,.int .i64 a',.pointer (some ⟨g6,0,none⟩),.pointer (some ⟨g7,0,none⟩),.pointer (some ⟨g8,0,none⟩)] w fun e w'=>e = .returned (.int .i64 A)∧Below w.heap.size w w') :=
  fun w g6 g7 g8 h6 h7 h8=>by rw [hA];exact part_up s t a a' g6 g7 g8 w so (by omega) (by omega) h6 h7 h8
 have PD : Hid (∀ w g6 g7 g8, w.cell? ⟨g6, 0, none⟩ = some (.int .i64 s) → w.cell? ⟨g7, 0, none⟩ = some (.int .i64 t) → w.heap[g8]? = some (.cells #[.int .i64 0] 46 (0, 0)) →
     Calls Tryz.prog 81 #[.func (.func 82) #[] #[],.int .i64 d,.int .i64 d',.pointer (some ⟨g6,0,none⟩),.pointer (some ⟨g7,0,none⟩),.pointer (some ⟨g8,0,none⟩)] w fun e w'=>e = .returned (.int .i64 D)∧Below w.heap.size w w') :=
  fun w g6 g7 g8 h6 h7 h8=>by rw [hD];exact part_up s t d d' g6 g7 g8 w so (by omega) (by omega) h6 h7 h8
 have PB : Hid (∀ w g6 g7 g8, w.cell? ⟨g6, 0, none⟩ = some (.int .i64 s) → w.cell? ⟨g7, 0, none⟩ = some (.int .i64 t) → w.heap[g8]? = some (.cells #[.int .i64 0] 46 (0, 0)) →
     Calls Tryz.prog 81 #[.func (.func 83) #[] #[],.int .i64 b,.int .i64 b',.pointer (some ⟨g6,0,none⟩),.pointer (some ⟨g7,0,none⟩),.pointer (some ⟨g8,0,none⟩)] w fun e w'=>e = .returned (.int .i64 B)∧Below w.heap.size w w') :=
  fun w g6 g7 g8 h6 h7 h8=>by rw [hB];exact part_down s t b b' g6 g7 g8 w so (by omega) (by omega) h6 h7 h8
 have bnd : -600000000000000≤A∧A≤600000000000000 ∧ -600000000000000≤D∧D≤600000000000000:=by
  have a1:=(up_one s t a so.1 so.2.1 so.2.2.1 so.2.2.2 (by omega) (by omega) (by omega)).2
  have a2:=(up_one t s a' so.2.2.1 so.2.2.2 so.1 so.2.1 (by omega) (by omega) (by omega)).2
  have a3:=(up_one s t d so.1 so.2.1 so.2.2.1 so.2.2.2 (by omega) (by omega) (by omega)).2
  have a4:=(up_one t s d' so.2.2.1 so.2.2.2 so.1 so.2.1 (by omega) (by omega) (by omega)).2
  rw [Int.add_comm t s] at a2 a4
  omega
 have SU:sumEl ⟨x,y,a,b,d⟩ ⟨x',y',a',b',d'⟩=⟨x+x',y+y',A+2,B,D+2⟩:=by
  unfold sumEl;simp only [← hs,← ht,← hA,← hB,← hD]
 have E:Hid (sumE ⟨x,y,a,b,d⟩ ⟨x',y',a',b',d'⟩=if El.may ⟨x+x',y+y',A+2,B,D+2⟩=true then (⟨x+x',y+y',A+2,B,D+2⟩,0) else (El.zero,2)):=by
  show _=_;unfold sumE;rw [if_pos ⟨he,hf⟩,SU]
 obtain ⟨bA1,bA2,bD1,bD2⟩:=bnd
 obtain ⟨⟨bx1,bx2,by1,by2⟩,-⟩:=me
 obtain ⟨⟨bx3,bx4,by3,by4⟩,-⟩:=mf
 obtain ⟨m,hm⟩:∃ m,m=El.may ⟨x+x',y+y',A+2,B,D+2⟩:=⟨_,rfl⟩
 have HM:=Lib.hid hm.symm
 rw [HM.out] at E
 clear he hf hs ht re rf qe qf so hA hB hD SU hm
 go_enter Tryz.func36,Tryz.ntmps36
 go_wp2_with fail
 refine (ellmay_c _ _ _ _ _ _).mono ?_;rintro e w1 ⟨rfl,hb1⟩;rw [HE.out];have z_w1:=hb1.size;(try simp at z_w1);obtain ⟨yw1aa,cw1aa,fw1aa,rw1aa,tw1aa,pw1aa⟩:=bq hb1 (w.heap.size);obtain ⟨yw1ab,cw1ab,fw1ab,rw1ab,tw1ab,pw1ab⟩:=bq hb1 (w.heap.size+1);obtain ⟨yw1ac,cw1ac,fw1ac,rw1ac,tw1ac,pw1ac⟩:=bq hb1 (w.heap.size+1+1)
 go_wp2_with fail
 refine (ellmay_c _ _ _ _ _ _).mono ?_;rintro e w2 ⟨rfl,hb2⟩;rw [HF.out];have z_w2:=hb2.size;(try simp at z_w2);obtain ⟨yw2aa,cw2aa,fw2aa,rw2aa,tw2aa,pw2aa⟩:=bq hb2 (w.heap.size);obtain ⟨yw2ab,cw2ab,fw2ab,rw2ab,tw2ab,pw2ab⟩:=bq hb2 (w.heap.size+1);obtain ⟨yw2ac,cw2ac,fw2ac,rw2ac,tw2ac,pw2ac⟩:=bq hb2 (w.heap.size+1+1)
 go_wp2_with fail
 go_cut [6,7] from 8 (fun s6 s7 wc=>∃ g h,s6 = .pointer (some ⟨g,0,none⟩)∧s7 = .pointer (some ⟨h,0,none⟩)∧w.heap.size+1+1+1≤g∧g<wc.heap.size∧w.heap.size+1+1+1≤h∧h<wc.heap.size ∧
  wc.cell? ⟨g,0,none⟩=some (.int .i64 s)∧wc.cell? ⟨h,0,none⟩=some (.int .i64 t)∧Hid (Below w2.heap.size w2 wc))
 case first =>
  go_region_held3 (fun w' => w'.cell? ⟨w.heap.size, 0, none⟩ = some (.int .i64 x) ∧ w'.cell? ⟨w.heap.size, 1, none⟩ = some (.int .i64 y) ∧ w'.cell? ⟨w.heap.size, 2, none⟩ = some (.int .i64 a) ∧ w'.cell? ⟨w.heap.size, 3, none⟩ = some (.int .i64 b) ∧ w'.cell? ⟨w.heap.size, 4, none⟩ = some (.int .i64 d) ∧
      w'.cell? ⟨w.heap.size+1,0,none⟩=some (.int .i64 x')∧w'.cell? ⟨w.heap.size+1,1,none⟩=some (.int .i64 y')∧w'.cell? ⟨w.heap.size+1,2,none⟩=some (.int .i64 a')∧w'.cell? ⟨w.heap.size+1,3,none⟩=some (.int .i64 b')∧w'.cell? ⟨w.heap.size+1,4,none⟩=some (.int .i64 d')) (go_simp)
   (first
   | (go_at_call 80;refine (ellrad_c x y a b d _).mono ?_;rintro e w3 ⟨rfl,hb3⟩;rw [HS.out];have z_w3:=hb3.size;(try simp at z_w3);obtain ⟨yw3aa,cw3aa,fw3aa,rw3aa,tw3aa,pw3aa⟩:=bq hb3 (w.heap.size);obtain ⟨yw3ab,cw3ab,fw3ab,rw3ab,tw3ab,pw3ab⟩:=bq hb3 (w.heap.size+1);obtain ⟨yw3ac,cw3ac,fw3ac,rw3ac,tw3ac,pw3ac⟩:=bq hb3 (w.heap.size+1+1);(try (refine with_imp (bk hb3 (w2.heap.size)) ?_ ?_;(focus (first|omega|(simp;done)|(simp;omega)));rintro ⟨y_w3_q1,c_w3_q1,f_w3_q1,r_w3_q1,t_w3_q1,p_w3_q1⟩;have n0_w3_q1:¬ (w.heap.size=w2.heap.size):=(by omega);have n1_w3_q1:¬ (w.heap.size+1=w2.heap.size):=(by omega);have n2_w3_q1:¬ (w.heap.size+1+1=w2.heap.size):=(by omega)));(try (refine with_imp (bk hb3 (w2.heap.size+1)) ?_ ?_;(focus (first|omega|(simp;done)|(simp;omega)));rintro ⟨y_w3_q2,c_w3_q2,f_w3_q2,r_w3_q2,t_w3_q2,p_w3_q2⟩));(try (refine with_imp (bk hb3 (w4.heap.size)) ?_ ?_;(focus (first|omega|(simp;done)|(simp;omega)));rintro ⟨y_w3_q3,c_w3_q3,f_w3_q3,r_w3_q3,t_w3_q3,p_w3_q3⟩;have n0_w3_q3:¬ (w.heap.size=w4.heap.size):=(by omega);have n1_w3_q3:¬ (w.heap.size+1=w4.heap.size):=(by omega);have n2_w3_q3:¬ (w.heap.size+1+1=w4.heap.size):=(by omega)));(try (refine with_imp (bk hb3 (w4.heap.size+1)) ?_ ?_;(focus (first|omega|(simp;done)|(simp;omega)));rintro ⟨y_w3_q4,c_w3_q4,f_w3_q4,r_w3_q4,t_w3_q4,p_w3_q4⟩)))
   | (go_at_call 80;refine (ellrad_c x' y' a' b' d' _).mono ?_;rintro e w4 ⟨rfl,hb4⟩;rw [HT.out];have z_w4:=hb4.size;(try simp at z_w4);obtain ⟨yw4aa,cw4aa,fw4aa,rw4aa,tw4aa,pw4aa⟩:=bq hb4 (w.heap.size);obtain ⟨yw4ab,cw4ab,fw4ab,rw4ab,tw4ab,pw4ab⟩:=bq hb4 (w.heap.size+1);obtain ⟨yw4ac,cw4ac,fw4ac,rw4ac,tw4ac,pw4ac⟩:=bq hb4 (w.heap.size+1+1);(try (refine with_imp (bk hb4 (w2.heap.size)) ?_ ?_;(focus (first|omega|(simp;done)|(simp;omega)));rintro ⟨y_w4_q1,c_w4_q1,f_w4_q1,r_w4_q1,t_w4_q1,p_w4_q1⟩;have n0_w4_q1:¬ (w.heap.size=w2.heap.size):=(by omega);have n1_w4_q1:¬ (w.heap.size+1=w2.heap.size):=(by omega);have n2_w4_q1:¬ (w.heap.size+1+1=w2.heap.size):=(by omega)));(try (refine with_imp (bk hb4 (w2.heap.size+1)) ?_ ?_;(focus (first|omega|(simp;done)|(simp;omega)));rintro ⟨y_w4_q2,c_w4_q2,f_w4_q2,r_w4_q2,t_w4_q2,p_w4_q2⟩));(try (refine with_imp (bk hb4 (w3.heap.size)) ?_ ?_;(focus (first|omega|(simp;done)|(simp;omega)));rintro ⟨y_w4_q3,c_w4_q3,f_w4_q3,r_w4_q3,t_w4_q3,p_w4_q3⟩;have n0_w4_q3:¬ (w.heap.size=w3.heap.size):=(by omega);have n1_w4_q3:¬ (w.heap.size+1=w3.heap.size):=(by omega);have n2_w4_q3:¬ (w.heap.size+1+1=w3.heap.size):=(by omega)));(try (refine with_imp (bk hb4 (w3.heap.size+1)) ?_ ?_;(focus (first|omega|(simp;done)|(simp;omega)));rintro ⟨y_w4_q4,c_w4_q4,f_w4_q4,r_w4_q4,t_w4_q4,p_w4_q4⟩))))
  all_goals go_wp2_with fail
  all_goals go_meet
  all_goals exact ⟨_,_,rfl,rfl,(by first|omega|(simp;done)|(simp;omega)|fail),(by first|omega|(simp;done)|(simp;omega)|fail),(by first|omega|(simp;done)|(simp;omega)|fail),(by first|omega|(simp;done)|(simp;omega)|fail),(by go_simp),(by go_simp),(show Below w2.heap.size w2 _ from below_byR)⟩
 case rest =>
  obtain ⟨g,h,rfl,rfl,hg1,hg2,hh1,hh2,hgc,hhc,HBC⟩:=hcut
  have hbc:=HBC.out
  have z_wc:=hbc.size;(try simp at z_wc);obtain ⟨y_wc_0_0,c_wc_0_0,f_wc_0_0,r_wc_0_0,t_wc_0_0,p_wc_0_0⟩:=bq hbc (w.heap.size);obtain ⟨y_wc_0_1,c_wc_0_1,f_wc_0_1,r_wc_0_1,t_wc_0_1,p_wc_0_1⟩:=bq hbc (w.heap.size+1);obtain ⟨y_wc_0_2,c_wc_0_2,f_wc_0_2,r_wc_0_2,t_wc_0_2,p_wc_0_2⟩:=bq hbc (w.heap.size+1+1)
  go_wp2_with fail
  refine (PA.out _ _ _ _ (by go_simp) (by go_simp) ((Blk.new wc #[.int .i64 0] 46).alloc _)).mono ?_;rintro e w5 ⟨rfl,hb5⟩
  have B5:=Lib.hid (((Blk.new wc #[.int .i64 0] 46).alloc _).keep hb5)
  have z_w5:=hb5.size;(try simp at z_w5);obtain ⟨yw5aa,cw5aa,fw5aa,rw5aa,tw5aa,pw5aa⟩:=bq hb5 (w.heap.size);obtain ⟨yw5ab,cw5ab,fw5ab,rw5ab,tw5ab,pw5ab⟩:=bq hb5 (w.heap.size+1);obtain ⟨yw5ac,cw5ac,fw5ac,rw5ac,tw5ac,pw5ac⟩:=bq hb5 (w.heap.size+1+1);obtain ⟨yw5ba,cw5ba,fw5ba,rw5ba,tw5ba,pw5ba⟩:=bq hb5 (wc.heap.size);obtain ⟨yw5bb,cw5bb,fw5bb,rw5bb,tw5bb,pw5bb⟩:=bq hb5 (wc.heap.size+1);obtain ⟨y_w5_g,c_w5_g,f_w5_g,r_w5_g,t_w5_g,p_w5_g⟩:=bq hb5 (g);obtain ⟨y_w5_h,c_w5_h,f_w5_h,r_w5_h,t_w5_h,p_w5_h⟩:=bq hb5 (h)
  go_wp2_with fail
  refine (PD.out _ _ _ _ (by go_simp) (by go_simp) (B5.out.setCell_other (by simp) _)).mono ?_;rintro e w6 ⟨rfl,hb6⟩
  have B6:=Lib.hid (Blk.keep (B5.out.setCell_other (by simp) _) hb6)
  have z_w6:=hb6.size;(try simp at z_w6);obtain ⟨yw6aa,cw6aa,fw6aa,rw6aa,tw6aa,pw6aa⟩:=bq hb6 (w.heap.size);obtain ⟨yw6ab,cw6ab,fw6ab,rw6ab,tw6ab,pw6ab⟩:=bq hb6 (w.heap.size+1);obtain ⟨yw6ac,cw6ac,fw6ac,rw6ac,tw6ac,pw6ac⟩:=bq hb6 (w.heap.size+1+1);obtain ⟨yw6ba,cw6ba,fw6ba,rw6ba,tw6ba,pw6ba⟩:=bq hb6 (wc.heap.size);obtain ⟨yw6bb,cw6bb,fw6bb,rw6bb,tw6bb,pw6bb⟩:=bq hb6 (wc.heap.size+1);obtain ⟨y_w6_g,c_w6_g,f_w6_g,r_w6_g,t_w6_g,p_w6_g⟩:=bq hb6 (g);obtain ⟨y_w6_h,c_w6_h,f_w6_h,r_w6_h,t_w6_h,p_w6_h⟩:=bq hb6 (h)
  go_wp2_with fail
  refine (PB.out _ _ _ _ (by go_simp) (by go_simp) (B6.out.setCell_other (by simp) _)).mono ?_;rintro e w7 ⟨rfl,hb7⟩
  have z_w7:=hb7.size;(try simp at z_w7);obtain ⟨yw7aa,cw7aa,fw7aa,rw7aa,tw7aa,pw7aa⟩:=bq hb7 (w.heap.size);obtain ⟨yw7ab,cw7ab,fw7ab,rw7ab,tw7ab,pw7ab⟩:=bq hb7 (w.heap.size+1);obtain ⟨yw7ac,cw7ac,fw7ac,rw7ac,tw7ac,pw7ac⟩:=bq hb7 (w.heap.size+1+1);obtain ⟨yw7ba,cw7ba,fw7ba,rw7ba,tw7ba,pw7ba⟩:=bq hb7 (wc.heap.size);obtain ⟨yw7bb,cw7bb,fw7bb,rw7bb,tw7bb,pw7bb⟩:=bq hb7 (wc.heap.size+1)
  go_wp2_with fail
  refine (ellmay_c _ _ _ _ _ _).mono ?_;rintro e w8 ⟨rfl,hb8⟩
  rw [HM.out]
  have z_w8:=hb8.size;(try simp at z_w8);obtain ⟨yw8aa,cw8aa,fw8aa,rw8aa,tw8aa,pw8aa⟩:=bq hb8 (w.heap.size);obtain ⟨yw8ab,cw8ab,fw8ab,rw8ab,tw8ab,pw8ab⟩:=bq hb8 (w.heap.size+1);obtain ⟨yw8ac,cw8ac,fw8ac,rw8ac,tw8ac,pw8ac⟩:=bq hb8 (w.heap.size+1+1);obtain ⟨yw8ba,cw8ba,fw8ba,rw8ba,tw8ba,pw8ba⟩:=bq hb8 (wc.heap.size);obtain ⟨yw8bb,cw8bb,fw8bb,rw8bb,tw8bb,pw8bb⟩:=bq hb8 (wc.heap.size+1)
  cases m with
  | true =>
   go_wp2_with fail
   exact bodyPost_row_t 5 #[.int .i64 (x+x'),.int .i64 (y+y'),.int .i64 (A+2),.int .i64 B,.int .i64 (D+2)] (.int .i64 0) rfl rfl rfl rfl Tryz.underlying35 rfl (by kernel_rfl) (rc5 (by go_simp) (by go_simp) (by go_simp) (by go_simp) (by go_simp)) ⟨by rw [E.out];rfl,below_byR⟩
  | false =>
   go_wp2_with fail
   exact bodyPost_row_t 5 #[.int .i64 0,.int .i64 0,.int .i64 0,.int .i64 0,.int .i64 0] (.int .i64 2) rfl rfl rfl rfl Tryz.underlying35 rfl (by kernel_rfl) (rc5 (by go_simp) (by go_simp) (by go_simp) (by go_simp) (by go_simp)) ⟨by rw [E.out];rfl,below_byR⟩
theorem sum_f1 (x y a b d x' y' a' b' d':Int) (he:El.may ⟨x,y,a,b,d⟩=false) (w:World) :
  Calls Tryz.prog 36 #[elC x y a b d,elC x' y' a' b' d'] w fun r w' =>
   r = .returned (.tuple #[elV (sumE ⟨x,y,a,b,d⟩ ⟨x',y',a',b',d'⟩).1,.int .i64 (sumE ⟨x,y,a,b,d⟩ ⟨x',y',a',b',d'⟩).2])∧Below w.heap.size w w':=by
 have HE:=Lib.hid he
 have E:Hid (sumE ⟨x,y,a,b,d⟩ ⟨x',y',a',b',d'⟩=(El.zero,1)):=by
  show _=_;unfold sumE;rw [if_neg];rintro ⟨h,_⟩;rw [he] at h;cases h
 clear he
 go_enter Tryz.func36,Tryz.ntmps36
 go_wp2_with fail
 refine (ellmay_c _ _ _ _ _ _).mono ?_;rintro e w1 ⟨rfl,hb1⟩;rw [HE.out];have z_w1:=hb1.size;(try simp at z_w1);obtain ⟨yw1aa,cw1aa,fw1aa,rw1aa,tw1aa,pw1aa⟩:=bq hb1 (w.heap.size);obtain ⟨yw1ab,cw1ab,fw1ab,rw1ab,tw1ab,pw1ab⟩:=bq hb1 (w.heap.size+1);obtain ⟨yw1ac,cw1ac,fw1ac,rw1ac,tw1ac,pw1ac⟩:=bq hb1 (w.heap.size+1+1)
 go_wp2_with fail
 exact bodyPost_row_t 5 #[.int .i64 0,.int .i64 0,.int .i64 0,.int .i64 0,.int .i64 0] (.int .i64 1) rfl rfl rfl rfl Tryz.underlying35 rfl (by kernel_rfl) (rc5 (by go_simp) (by go_simp) (by go_simp) (by go_simp) (by go_simp)) ⟨by rw [E.out];rfl,below_byR⟩
theorem sum_f2 (x y a b d x' y' a' b' d':Int) (he:El.may ⟨x,y,a,b,d⟩=true) (hf:El.may ⟨x',y',a',b',d'⟩=false) (w:World) :
  Calls Tryz.prog 36 #[elC x y a b d,elC x' y' a' b' d'] w fun r w' =>
   r = .returned (.tuple #[elV (sumE ⟨x,y,a,b,d⟩ ⟨x',y',a',b',d'⟩).1,.int .i64 (sumE ⟨x,y,a,b,d⟩ ⟨x',y',a',b',d'⟩).2])∧Below w.heap.size w w':=by
 have HE:=Lib.hid he
 have HF:=Lib.hid hf
 have E:Hid (sumE ⟨x,y,a,b,d⟩ ⟨x',y',a',b',d'⟩=(El.zero,1)):=by
  show _=_;unfold sumE;rw [if_neg];rintro ⟨_,h⟩;rw [hf] at h;cases h
 clear he hf
 go_enter Tryz.func36,Tryz.ntmps36
 go_wp2_with fail
 refine (ellmay_c _ _ _ _ _ _).mono ?_;rintro e w1 ⟨rfl,hb1⟩;rw [HE.out];have z_w1:=hb1.size;(try simp at z_w1);obtain ⟨yw1aa,cw1aa,fw1aa,rw1aa,tw1aa,pw1aa⟩:=bq hb1 (w.heap.size);obtain ⟨yw1ab,cw1ab,fw1ab,rw1ab,tw1ab,pw1ab⟩:=bq hb1 (w.heap.size+1);obtain ⟨yw1ac,cw1ac,fw1ac,rw1ac,tw1ac,pw1ac⟩:=bq hb1 (w.heap.size+1+1)
 go_wp2_with fail
 refine (ellmay_c _ _ _ _ _ _).mono ?_;rintro e w2 ⟨rfl,hb2⟩;rw [HF.out];have z_w2:=hb2.size;(try simp at z_w2);obtain ⟨yw2aa,cw2aa,fw2aa,rw2aa,tw2aa,pw2aa⟩:=bq hb2 (w.heap.size);obtain ⟨yw2ab,cw2ab,fw2ab,rw2ab,tw2ab,pw2ab⟩:=bq hb2 (w.heap.size+1);obtain ⟨yw2ac,cw2ac,fw2ac,rw2ac,tw2ac,pw2ac⟩:=bq hb2 (w.heap.size+1+1)
 go_wp2_with fail
 exact bodyPost_row_t 5 #[.int .i64 0,.int .i64 0,.int .i64 0,.int .i64 0,.int .i64 0] (.int .i64 1) rfl rfl rfl rfl Tryz.underlying35 rfl (by kernel_rfl) (rc5 (by go_simp) (by go_simp) (by go_simp) (by go_simp) (by go_simp)) ⟨by rw [E.out];rfl,below_byR⟩
theorem sum_c (e f:El) (w:World) :
  Calls Tryz.prog 36 #[elV e,elV f] w fun r w'=>r = .returned (.tuple #[elV (sumE e f).1,.int .i64 (sumE e f).2])∧Below w.heap.size w w':=by
 cases he:e.may with
 | false=>exact sum_f1 _ _ _ _ _ _ _ _ _ _ he w
 | true =>
  cases hf:f.may with
  | false=>exact sum_f2 _ _ _ _ _ _ _ _ _ _ he hf w
  | true=>exact sum_main _ _ _ _ _ _ _ _ _ _ he hf w
open Go.RowKit
theorem sum_v (x y a b d x' y' a' b' d':Int) (o:El) (k:Int) (h:sumE ⟨x,y,a,b,d⟩ ⟨x',y',a',b',d'⟩=(o,k)) (w:World) :
  Calls Tryz.prog 36 #[elC x y a b d,elC x' y' a' b' d'] w fun r w'=>r = .returned (.tuple #[elV o,.int .i64 k])∧Below w.heap.size w w':=by
 have:=sum_c ⟨x,y,a,b,d⟩ ⟨x',y',a',b',d'⟩ w
 rw [h] at this;exact this
theorem ellball_v (x y r:Int) (x' y' a' b' d' k:Int) (h:ballE x y r=(⟨x',y',a',b',d'⟩,k)) (w:World) :
  Calls Tryz.prog 35 #[ptV x y,.int .i64 r] w fun e w'=>e = .returned (.tuple #[elC x' y' a' b' d',.int .i64 k])∧Below w.heap.size w w':=by
 have:=ellball_c x y r w
 rw [h] at this;exact this
theorem growball_c (x y a b d r:Int) (w:World) :
  Calls Tryz.prog 14 #[elC x y a b d,.int .i64 r] w fun e w'=>e = .returned (.tuple #[elV (growE ⟨x,y,a,b,d⟩ r).1,.int .i64 (growE ⟨x,y,a,b,d⟩ r).2])∧Below w.heap.size w w':=by
 have E:growE ⟨x,y,a,b,d⟩ r=if El.may ⟨x,y,a,b,d⟩=true∧0≤r∧r≤4194304 then (if r=0 then (⟨x,y,a,b,d⟩,0) else sumE ⟨x,y,a,b,d⟩ (ballE 0 0 r).1) else (El.zero,1):=rfl
 cases hm:El.may ⟨x,y,a,b,d⟩ with
 | false =>
  have HM:=Lib.hid hm
  have EV:Hid (growE ⟨x,y,a,b,d⟩ r=(El.zero,1)):=by show _=_;rw [E,hm,if_neg];rintro ⟨h,_⟩;cases h
  clear E hm
  go_enter Tryz.func14,Tryz.ntmps14
  go_wp2_with fail
  refine (ellmay_c _ _ _ _ _ _).mono ?_;rintro e w1 ⟨rfl,hb1⟩;rw [HM.out];have z_w1:=hb1.size;(try simp at z_w1);obtain ⟨yw1aa,cw1aa,fw1aa,rw1aa,tw1aa,pw1aa⟩:=bq hb1 (w.heap.size);obtain ⟨yw1ab,cw1ab,fw1ab,rw1ab,tw1ab,pw1ab⟩:=bq hb1 (w.heap.size+1)
  go_wp2_with fail
  exact bodyPost_row_t 5 #[.int .i64 0,.int .i64 0,.int .i64 0,.int .i64 0,.int .i64 0] (.int .i64 1) rfl rfl rfl rfl Tryz.underlying35 rfl (by kernel_rfl) (rc5 (by go_simp) (by go_simp) (by go_simp) (by go_simp) (by go_simp)) ⟨by rw [EV.out];rfl,below_byR⟩
 | true =>
  have HM:=Lib.hid hm
  by_cases h1:r<0
  ·have EV:Hid (growE ⟨x,y,a,b,d⟩ r=(El.zero,1)):=by show _=_;rw [E,hm,if_neg];rintro ⟨_,h,_⟩;omega
   clear E hm
   go_enter Tryz.func14,Tryz.ntmps14
   go_wp2_with fail
   refine (ellmay_c _ _ _ _ _ _).mono ?_;rintro e w1 ⟨rfl,hb1⟩;rw [HM.out];have z_w1:=hb1.size;(try simp at z_w1);obtain ⟨yw1aa,cw1aa,fw1aa,rw1aa,tw1aa,pw1aa⟩:=bq hb1 (w.heap.size);obtain ⟨yw1ab,cw1ab,fw1ab,rw1ab,tw1ab,pw1ab⟩:=bq hb1 (w.heap.size+1)
   go_wp2_with fail
   exact bodyPost_row_t 5 #[.int .i64 0,.int .i64 0,.int .i64 0,.int .i64 0,.int .i64 0] (.int .i64 1) rfl rfl rfl rfl Tryz.underlying35 rfl (by kernel_rfl) (rc5 (by go_simp) (by go_simp) (by go_simp) (by go_simp) (by go_simp)) ⟨by rw [EV.out];rfl,below_byR⟩
  ·by_cases h2:4194304<r
   ·have EV:Hid (growE ⟨x,y,a,b,d⟩ r=(El.zero,1)):=by show _=_;rw [E,hm,if_neg];rintro ⟨_,_,h⟩;omega
    clear E hm
    go_enter Tryz.func14,Tryz.ntmps14
    go_wp2_with fail
    refine (ellmay_c _ _ _ _ _ _).mono ?_;rintro e w1 ⟨rfl,hb1⟩;rw [HM.out];have z_w1:=hb1.size;(try simp at z_w1);obtain ⟨yw1aa,cw1aa,fw1aa,rw1aa,tw1aa,pw1aa⟩:=bq hb1 (w.heap.size);obtain ⟨yw1ab,cw1ab,fw1ab,rw1ab,tw1ab,pw1ab⟩:=bq hb1 (w.heap.size+1)
    go_wp2_with fail
    exact bodyPost_row_t 5 #[.int .i64 0,.int .i64 0,.int .i64 0,.int .i64 0,.int .i64 0] (.int .i64 1) rfl rfl rfl rfl Tryz.underlying35 rfl (by kernel_rfl) (rc5 (by go_simp) (by go_simp) (by go_simp) (by go_simp) (by go_simp)) ⟨by rw [EV.out];rfl,below_byR⟩
   ·rw [hm,if_pos ⟨rfl,by omega,by omega⟩] at E
    by_cases h3:r=0
    ·subst h3
     have EV:Hid (growE ⟨x,y,a,b,d⟩ 0=(⟨x,y,a,b,d⟩,0)):=by show _=_;rw [E,if_pos rfl]
     clear E hm h1 h2
     go_enter Tryz.func14,Tryz.ntmps14
     go_wp2_with fail
     refine (ellmay_c _ _ _ _ _ _).mono ?_;rintro e w1 ⟨rfl,hb1⟩;rw [HM.out];have z_w1:=hb1.size;(try simp at z_w1);obtain ⟨yw1aa,cw1aa,fw1aa,rw1aa,tw1aa,pw1aa⟩:=bq hb1 (w.heap.size);obtain ⟨yw1ab,cw1ab,fw1ab,rw1ab,tw1ab,pw1ab⟩:=bq hb1 (w.heap.size+1)
     go_wp2_with fail
     exact bodyPost_row_t 5 #[.int .i64 x,.int .i64 y,.int .i64 a,.int .i64 b,.int .i64 d] (.int .i64 0) rfl rfl rfl rfl Tryz.underlying35 rfl (by kernel_rfl) (rc5 (by go_simp) (by go_simp) (by go_simp) (by go_simp) (by go_simp)) ⟨by rw [EV.out],below_byR⟩
    ·rw [if_neg h3] at E
     have hb:ballE 0 0 r=(⟨0,0,r*r,0,r*r⟩,0):=by unfold ballE;rw [if_pos ⟨by decide,by omega,by omega⟩]
     rw [hb] at E
     obtain ⟨s,hs⟩:∃ s,s=r*r:=⟨_,rfl⟩
     simp only [← hs] at hb E
     obtain ⟨⟨ox,oy,oa,ob,od⟩,k,ho⟩:∃ o k,sumE ⟨x,y,a,b,d⟩ ⟨0,0,s,0,s⟩=(o,k):=⟨_,_,rfl⟩
     have EV:Hid (growE ⟨x,y,a,b,d⟩ r=(⟨ox,oy,oa,ob,od⟩,k)):=by show _=_;rw [E,ho]
     have HB:=Lib.hid hb
     have HO:=Lib.hid ho
     clear E hm hb ho hs
     go_enter Tryz.func14,Tryz.ntmps14
     go_wp2_with fail
     refine (ellmay_c _ _ _ _ _ _).mono ?_;rintro e w1 ⟨rfl,hb1⟩;rw [HM.out];have z_w1:=hb1.size;(try simp at z_w1);obtain ⟨yw1aa,cw1aa,fw1aa,rw1aa,tw1aa,pw1aa⟩:=bq hb1 (w.heap.size);obtain ⟨yw1ab,cw1ab,fw1ab,rw1ab,tw1ab,pw1ab⟩:=bq hb1 (w.heap.size+1)
     go_wp2_with fail
     refine (ellball_v _ _ _ _ _ _ _ _ _ HB.out _).mono ?_;rintro e w2 ⟨rfl,hb2⟩;have z_w2:=hb2.size;(try simp at z_w2);obtain ⟨yw2aa,cw2aa,fw2aa,rw2aa,tw2aa,pw2aa⟩:=bq hb2 (w.heap.size);obtain ⟨yw2ab,cw2ab,fw2ab,rw2ab,tw2ab,pw2ab⟩:=bq hb2 (w.heap.size+1)
     go_wp2_with fail
     refine (sum_v _ _ _ _ _ _ _ _ _ _ _ _ HO.out _).mono ?_;rintro e w3 ⟨rfl,hb3⟩;have z_w3:=hb3.size;(try simp at z_w3);obtain ⟨yw3aa,cw3aa,fw3aa,rw3aa,tw3aa,pw3aa⟩:=bq hb3 (w.heap.size);obtain ⟨yw3ab,cw3ab,fw3ab,rw3ab,tw3ab,pw3ab⟩:=bq hb3 (w.heap.size+1)
     go_wp2_with fail
     exact bodyPost_row_t 5 #[.int .i64 ox,.int .i64 oy,.int .i64 oa,.int .i64 ob,.int .i64 od] (.int .i64 k) rfl rfl rfl rfl Tryz.underlying35 rfl (by kernel_rfl) (rc5 (by go_simp) (by go_simp) (by go_simp) (by go_simp) (by go_simp)) ⟨by rw [EV.out],below_byR⟩
theorem growball_v (x y a b d r x' y' a' b' d' k:Int) (h:growE ⟨x,y,a,b,d⟩ r=(⟨x',y',a',b',d'⟩,k)) (w:World) :
  Calls Tryz.prog 14 #[elC x y a b d,.int .i64 r] w fun e w'=>e = .returned (.tuple #[elC x' y' a' b' d',.int .i64 k])∧Below w.heap.size w w':=by
 have:=growball_c x y a b d r w
 rw [h] at this;exact this
theorem age_c (x y a b d v n:Int) (hn:n≤9223372036854775807) (w:World) :
  Calls Tryz.prog 40 #[elC x y a b d,.int .i64 v,.int .i64 n] w fun e w'=>e = .returned (.tuple #[elV (ageE ⟨x,y,a,b,d⟩ v n).1,.int .i64 (ageE ⟨x,y,a,b,d⟩ v n).2])∧Below w.heap.size w w':=by
 have E:ageE ⟨x,y,a,b,d⟩ v n=if El.may ⟨x,y,a,b,d⟩=true∧0≤v∧0≤n then (if 0<n∧(4194304:Int).tdiv n<v then (El.zero,2) else growE ⟨x,y,a,b,d⟩ (v*n)) else (El.zero,1):=rfl
 cases hm:El.may ⟨x,y,a,b,d⟩ with
 | false =>
  have HM:=Lib.hid hm
  have EV:Hid (ageE ⟨x,y,a,b,d⟩ v n=(El.zero,1)):=by show _=_;rw [E,hm,if_neg];rintro ⟨h,_⟩;cases h
  clear E hm hn
  go_enter Tryz.func40,Tryz.ntmps40
  go_wp2_with fail
  refine (ellmay_c _ _ _ _ _ _).mono ?_;rintro e w1 ⟨rfl,hb1⟩;rw [HM.out];have z_w1:=hb1.size;(try simp at z_w1);obtain ⟨yw1aa,cw1aa,fw1aa,rw1aa,tw1aa,pw1aa⟩:=bq hb1 (w.heap.size);obtain ⟨yw1ab,cw1ab,fw1ab,rw1ab,tw1ab,pw1ab⟩:=bq hb1 (w.heap.size+1)
  go_wp2_with fail
  exact bodyPost_row_t 5 #[.int .i64 0,.int .i64 0,.int .i64 0,.int .i64 0,.int .i64 0] (.int .i64 1) rfl rfl rfl rfl Tryz.underlying35 rfl (by kernel_rfl) (rc5 (by go_simp) (by go_simp) (by go_simp) (by go_simp) (by go_simp)) ⟨by rw [EV.out];rfl,below_byR⟩
 | true =>
  have HM:=Lib.hid hm
  by_cases h1:v<0
  ·have EV:Hid (ageE ⟨x,y,a,b,d⟩ v n=(El.zero,1)):=by show _=_;rw [E,hm,if_neg];rintro ⟨_,h,_⟩;omega
   clear E hm hn
   go_enter Tryz.func40,Tryz.ntmps40
   go_wp2_with fail
   refine (ellmay_c _ _ _ _ _ _).mono ?_;rintro e w1 ⟨rfl,hb1⟩;rw [HM.out];have z_w1:=hb1.size;(try simp at z_w1);obtain ⟨yw1aa,cw1aa,fw1aa,rw1aa,tw1aa,pw1aa⟩:=bq hb1 (w.heap.size);obtain ⟨yw1ab,cw1ab,fw1ab,rw1ab,tw1ab,pw1ab⟩:=bq hb1 (w.heap.size+1)
   go_wp2_with fail
   exact bodyPost_row_t 5 #[.int .i64 0,.int .i64 0,.int .i64 0,.int .i64 0,.int .i64 0] (.int .i64 1) rfl rfl rfl rfl Tryz.underlying35 rfl (by kernel_rfl) (rc5 (by go_simp) (by go_simp) (by go_simp) (by go_simp) (by go_simp)) ⟨by rw [EV.out];rfl,below_byR⟩
  ·by_cases h2:n<0
   ·have EV:Hid (ageE ⟨x,y,a,b,d⟩ v n=(El.zero,1)):=by show _=_;rw [E,hm,if_neg];rintro ⟨_,_,h⟩;omega
    clear E hm hn
    go_enter Tryz.func40,Tryz.ntmps40
    go_wp2_with fail
    refine (ellmay_c _ _ _ _ _ _).mono ?_;rintro e w1 ⟨rfl,hb1⟩;rw [HM.out];have z_w1:=hb1.size;(try simp at z_w1);obtain ⟨yw1aa,cw1aa,fw1aa,rw1aa,tw1aa,pw1aa⟩:=bq hb1 (w.heap.size);obtain ⟨yw1ab,cw1ab,fw1ab,rw1ab,tw1ab,pw1ab⟩:=bq hb1 (w.heap.size+1)
    go_wp2_with fail
    exact bodyPost_row_t 5 #[.int .i64 0,.int .i64 0,.int .i64 0,.int .i64 0,.int .i64 0] (.int .i64 1) rfl rfl rfl rfl Tryz.underlying35 rfl (by kernel_rfl) (rc5 (by go_simp) (by go_simp) (by go_simp) (by go_simp) (by go_simp)) ⟨by rw [EV.out];rfl,below_byR⟩
   ·rw [hm,if_pos ⟨rfl,by omega,by omega⟩] at E
    obtain ⟨q,hq⟩:∃ q,q=(4194304:Int).tdiv n:=⟨_,rfl⟩
    by_cases h3:0<n
    ·have hq':q=4194304/n:=by rw [hq,Int.tdiv_eq_ediv_of_nonneg (by decide)]
     have q0:0≤q∧q≤4194304:=⟨by rw [hq'];exact Int.ediv_nonneg (by decide) (by omega),by rw [hq'];exact Int.ediv_le_self _ (by decide)⟩
     have e1:wrap64 ((4194304:Int).tdiv n)=q:=by rw [← hq];unfold wrap64;omega
     have n0:¬ n=0:=by omega
     by_cases h4:q<v
     ·have EV:Hid (ageE ⟨x,y,a,b,d⟩ v n=(El.zero,2)):=by show _=_;rw [E,if_pos ⟨h3,by omega⟩]
      have e2:(4194304:Int).tdiv n=q:=hq.symm
      clear E hm hn hq' hq
      go_enter Tryz.func40,Tryz.ntmps40
      go_wp2_with fail
      refine (ellmay_c _ _ _ _ _ _).mono ?_;rintro e w1 ⟨rfl,hb1⟩;rw [HM.out];have z_w1:=hb1.size;(try simp at z_w1);obtain ⟨yw1aa,cw1aa,fw1aa,rw1aa,tw1aa,pw1aa⟩:=bq hb1 (w.heap.size);obtain ⟨yw1ab,cw1ab,fw1ab,rw1ab,tw1ab,pw1ab⟩:=bq hb1 (w.heap.size+1)
      go_wp2_with fail
      exact bodyPost_row_t 5 #[.int .i64 0,.int .i64 0,.int .i64 0,.int .i64 0,.int .i64 0] (.int .i64 2) rfl rfl rfl rfl Tryz.underlying35 rfl (by kernel_rfl) (rc5 (by go_simp) (by go_simp) (by go_simp) (by go_simp) (by go_simp)) ⟨by rw [EV.out];rfl,below_byR⟩
     ·obtain ⟨p,hp⟩:∃ p,p=v*n:=⟨_,rfl⟩
      have p0:0≤p:=by rw [hp];exact Int.mul_nonneg (by omega) (by omega)
      have p1:p≤4194304:=by
       have a1:v*n≤q*n:=Int.mul_le_mul_of_nonneg_right (by omega) (by omega)
       have a2:q*n≤4194304:=by rw [hq'];exact Int.ediv_mul_le _ (by omega)
       omega
      rw [if_neg (by rintro ⟨_,h⟩;omega),← hp] at E
      obtain ⟨⟨ox,oy,oa,ob,od⟩,k,ho⟩:∃ o k,growE ⟨x,y,a,b,d⟩ p=(o,k):=⟨_,_,rfl⟩
      have EV:Hid (ageE ⟨x,y,a,b,d⟩ v n=(⟨ox,oy,oa,ob,od⟩,k)):=by show _=_;rw [E,ho]
      have HO:=Lib.hid ho
      have e2:(4194304:Int).tdiv n=q:=hq.symm
      have e3:v*n=p:=hp.symm
      clear E hm hn hq' hq hp ho
      go_enter Tryz.func40,Tryz.ntmps40
      go_wp2_with fail
      refine (ellmay_c _ _ _ _ _ _).mono ?_;rintro e w1 ⟨rfl,hb1⟩;rw [HM.out];have z_w1:=hb1.size;(try simp at z_w1);obtain ⟨yw1aa,cw1aa,fw1aa,rw1aa,tw1aa,pw1aa⟩:=bq hb1 (w.heap.size);obtain ⟨yw1ab,cw1ab,fw1ab,rw1ab,tw1ab,pw1ab⟩:=bq hb1 (w.heap.size+1)
      go_wp2_with fail
      refine (growball_v _ _ _ _ _ _ _ _ _ _ _ _ HO.out _).mono ?_;rintro e w3 ⟨rfl,hb3⟩;have z_w3:=hb3.size;(try simp at z_w3);obtain ⟨yw3aa,cw3aa,fw3aa,rw3aa,tw3aa,pw3aa⟩:=bq hb3 (w.heap.size);obtain ⟨yw3ab,cw3ab,fw3ab,rw3ab,tw3ab,pw3ab⟩:=bq hb3 (w.heap.size+1)
      go_wp2_with fail
      exact bodyPost_row_t 5 #[.int .i64 ox,.int .i64 oy,.int .i64 oa,.int .i64 ob,.int .i64 od] (.int .i64 k) rfl rfl rfl rfl Tryz.underlying35 rfl (by kernel_rfl) (rc5 (by go_simp) (by go_simp) (by go_simp) (by go_simp) (by go_simp)) ⟨by rw [EV.out],below_byR⟩
    ·obtain rfl:n=0:=by omega
     rw [if_neg (by rintro ⟨h,_⟩;omega),Int.mul_zero] at E
     have EV:Hid (ageE ⟨x,y,a,b,d⟩ v 0=(⟨x,y,a,b,d⟩,0)):=by show _=_;rw [E,growE_zero _ hm]
     have HO:Hid (growE ⟨x,y,a,b,d⟩ 0=(⟨x,y,a,b,d⟩,0)):=growE_zero _ hm
     clear E hm hn hq h2 h3
     go_enter Tryz.func40,Tryz.ntmps40
     go_wp2_with fail
     refine (ellmay_c _ _ _ _ _ _).mono ?_;rintro e w1 ⟨rfl,hb1⟩;rw [HM.out];have z_w1:=hb1.size;(try simp at z_w1);obtain ⟨yw1aa,cw1aa,fw1aa,rw1aa,tw1aa,pw1aa⟩:=bq hb1 (w.heap.size);obtain ⟨yw1ab,cw1ab,fw1ab,rw1ab,tw1ab,pw1ab⟩:=bq hb1 (w.heap.size+1)
     go_wp2_with fail
     refine (growball_v _ _ _ _ _ _ _ _ _ _ _ _ HO.out _).mono ?_;rintro e w3 ⟨rfl,hb3⟩;have z_w3:=hb3.size;(try simp at z_w3);obtain ⟨yw3aa,cw3aa,fw3aa,rw3aa,tw3aa,pw3aa⟩:=bq hb3 (w.heap.size);obtain ⟨yw3ab,cw3ab,fw3ab,rw3ab,tw3ab,pw3ab⟩:=bq hb3 (w.heap.size+1)
     go_wp2_with fail
     exact bodyPost_row_t 5 #[.int .i64 x,.int .i64 y,.int .i64 a,.int .i64 b,.int .i64 d] (.int .i64 0) rfl rfl rfl rfl Tryz.underlying35 rfl (by kernel_rfl) (rc5 (by go_simp) (by go_simp) (by go_simp) (by go_simp) (by go_simp)) ⟨by rw [EV.out],below_byR⟩
theorem age_v (x y a b d v n x' y' a' b' d' k:Int) (hn:n≤9223372036854775807) (h:ageE ⟨x,y,a,b,d⟩ v n=(⟨x',y',a',b',d'⟩,k)) (w:World) :
  Calls Tryz.prog 40 #[elC x y a b d,.int .i64 v,.int .i64 n] w fun e w'=>e = .returned (.tuple #[elC x' y' a' b' d',.int .i64 k])∧Below w.heap.size w w':=by
 have:=age_c x y a b d v n hn w
 rw [h] at this;exact this
open Go.RowKit
theorem trace_v (x y a b d t:Int) (h:El.tr ⟨x,y,a,b,d⟩=t) (w:World) :
  Calls Tryz.prog 13 #[elC x y a b d] w fun e w'=>e = .returned (.int .i64 t)∧Below w.heap.size w w':=by
 subst h;exact trace_c x y a b d w
open Go.RowKit
theorem ellmay_v (x y a b d:Int) (m:Bool) (h:El.may ⟨x,y,a,b,d⟩=m) (w:World) :
  Calls Tryz.prog 34 #[elC x y a b d] w fun e w'=>e = .returned (.bool m)∧Below w.heap.size w w':=by
 subst h;exact ellmay_c x y a b d w
open Go.RowKit
theorem ellin_v (x y a b d p q:Int) (t:Bool) (h:El.has ⟨x,y,a,b,d⟩ p q=t) (w:World) :
  Calls Tryz.prog 15 #[elC x y a b d,ptV p q] w fun e w'=>e = .returned (.bool t)∧Below w.heap.size w w':=by
 subst h;exact ellin_c x y a b d p q w
open Go.RowKit
structure Fresh where
 obj:Obj
 ptr:Nat→Value
structure Inw (w0:World) (fr:Nat→Option Fresh) (g:Nat→Nat) (N:List Nat) where
 w:World
 low:Below w0.heap.size w0 w
 has:∀ j ∈ N,∀ f,fr j=some f→w0.heap.size≤g j∧w.heap[g j]? = some f.obj
theorem heap_lt {w:World} {b:Nat} {o:Obj} (h:w.heap[b]? = some o):b<w.heap.size:=(Array.getElem?_eq_some_iff.1 h).1
theorem Inw.step {w0:World} {fr:Nat→Option Fresh} {g:Nat→Nat} {N:List Nat} (p:Inw w0 fr g N) {w':World} (h:Below p.w.heap.size p.w w'):∃ p':Inw w0 fr g N,w'=p'.w:=by
 refine ⟨⟨w',⟨h.os.trans p.low.os,h.tape.trans p.low.tape,h.output.trans p.low.output,Nat.le_trans p.low.size h.size,fun k hk=>?_⟩,fun j hj f hf=>?_⟩,rfl⟩
 ·rw [h.block k (Nat.lt_of_lt_of_le hk p.low.size)];exact p.low.block k hk
 ·have:=p.has j hj f hf
  exact ⟨this.1,by rw [h.block _ (heap_lt this.2)];exact this.2⟩
theorem calls_in {P:Program} {f:FuncId} {args:Array Value} {w0:World} {fr:Nat→Option Fresh} {g:Nat→Nat} {N:List Nat} {p:Inw w0 fr g N} {v:Value}
  (h:Calls P f args p.w fun e w'=>e = .returned v∧Below p.w.heap.size p.w w'):Calls P f args p.w fun e w''=>e = .returned v∧∃ p':Inw w0 fr g N,w''=p'.w :=
 h.mono fun _ _ ⟨he,hb⟩=>⟨he,p.step hb⟩
def dstVal (dst:Option Tmp) (a:Act):Value:=match dst with|some d=>a.tmps.getD d undef|none=>undef
def lexF (P:Program) (ops:Array Oper) (w0:World) (fr:Nat→Option Fresh) (needs:Nat→List Nat) (vals:List Value) (g:Nat→Nat) (Q:Act→Prop):List Oper→Nat→Act→Prop
 | [],_,a=>Q a
 | o :: rest,k,a =>
  match fr k with
  | some f=>Region.wanted o (yielded ops a.tmps)=true∧(∀ w,(execOp a.eval o).run P w = .ok (.value (f.ptr w.heap.size)) (w.alloc f.obj))∧lexF P ops w0 fr needs vals g Q rest (k+1) (a.put o.dst (f.ptr (g k)))
  | none=>wpQuiet P ops (fun w'=>∃ p:Inw w0 fr g (needs k),w'=p.w) (fun a'=>dstVal o.dst a'=vals.getD k undef∧lexF P ops w0 fr needs vals g Q rest (k+1) a') [o] a
section
variable {P:Program} {ops:Array Oper} {w0:World} {fr:Nat→Option Fresh} {needs:Nat→List Nat} {vals:List Value} {g:Nat→Nat} {Q:Act→Prop}
theorem lexF_nil {k:Nat} {a:Act} (h:Q a):lexF P ops w0 fr needs vals g Q [] k a:=h
theorem lexF_quiet {o:Oper} {rest:List Oper} {k:Nat} {a:Act} (hk:fr k=none)
  (h:wpQuiet P ops (fun w'=>∃ p:Inw w0 fr g (needs k),w'=p.w) (fun a'=>dstVal o.dst a'=vals.getD k undef∧lexF P ops w0 fr needs vals g Q rest (k+1) a') [o] a) :
  lexF P ops w0 fr needs vals g Q (o :: rest) k a:=by
 unfold lexF;rw [hk];exact h
theorem lexF_fresh {o:Oper} {rest:List Oper} {k:Nat} {a:Act} (f:Fresh) (hk:fr k=some f) (hw:Region.wanted o (yielded ops a.tmps)=true)
  (hr:∀ w,(execOp a.eval o).run P w = .ok (.value (f.ptr w.heap.size)) (w.alloc f.obj)) (h:lexF P ops w0 fr needs vals g Q rest (k+1) (a.put o.dst (f.ptr (g k)))) :
  lexF P ops w0 fr needs vals g Q (o :: rest) k a:=by
 unfold lexF;rw [hk];exact ⟨hw,hr,h⟩
def valAt (fr:Nat→Option Fresh) (vals:List Value) (g:Nat→Nat) (k:Nat):Value:=match fr k with|some f=>f.ptr (g k)|none=>vals.getD k undef
def actAt (fr:Nat→Option Fresh) (vals:List Value) (g:Nat→Nat):List Oper→Nat→Act→Act
 | [],_,a=>a
 | o :: rest,k,a=>actAt fr vals g rest (k+1) (a.put o.dst (valAt fr vals g k))
theorem put_dstVal (a:Act) (dst:Option Tmp) (v u:Value) (h:dstVal dst (a.put dst v)=u):a.put dst v=a.put dst u:=by
 cases dst with
 | none=>rfl
 | some d =>
  simp only [dstVal,Act.put] at h ⊢
  by_cases hd:d<a.tmps.size
  ·simp [hd] at h;rw [h]
  ·congr 1
   apply Array.ext_getElem?
   intro i
   by_cases hi:d=i
   ·subst hi;simp [hd]
   ·simp [hi]
theorem lexF_steps:∀ (l:List Oper) (k:Nat) (a:Act),lexF P ops w0 fr needs vals g Q l k a →
  Q (actAt fr vals g l k a)∧∀ j o,l[j]? = some o →
   match fr (k+j) with
   | some f=>Region.wanted o (yielded ops (actAt fr vals g (l.take j) k a).tmps)=true∧∀ w,(execOp (actAt fr vals g (l.take j) k a).eval o).run P w = .ok (.value (f.ptr w.heap.size)) (w.alloc f.obj)
   | none=>∃ v,(actAt fr vals g (l.take j) k a).put o.dst v=(actAt fr vals g (l.take j) k a).put o.dst (valAt fr vals g (k+j))∧YieldsIn P ops (fun w'=>∃ p:Inw w0 fr g (needs (k+j)),w'=p.w) o v (actAt fr vals g (l.take j) k a)
 | [],k,a,h=>⟨h,fun j o ho=>by simp at ho⟩
 | o :: l,k,a,h=>by
  unfold lexF at h
  cases hf:fr k with
  | some f =>
   rw [hf] at h
   obtain ⟨hw,hr,h⟩:=h
   have hv:valAt fr vals g k=f.ptr (g k):=by unfold valAt;rw [hf]
   obtain ⟨h1,h2⟩:=lexF_steps l (k+1) _ h
   refine ⟨by unfold actAt;rw [hv];exact h1,fun j o' ho'=>?_⟩
   rcases j with _|j
   ·obtain rfl:o=o':=by simpa using ho'
    simp only [Nat.add_zero,hf,List.take_zero,actAt]
    exact ⟨hw,hr⟩
   ·have:=h2 j o' (by simpa using ho')
    rw [show k+1+j=k+(j+1) by omega] at this
    simp only [List.take_succ_cons,actAt,hv]
    exact this
  | none =>
   rw [hf] at h
   simp only [wpQuiet] at h
   have key:∃ v,YieldsIn P ops (fun w'=>∃ p:Inw w0 fr g (needs k),w'=p.w) o v a∧dstVal o.dst (a.put o.dst v)=vals.getD k undef∧lexF P ops w0 fr needs vals g Q l (k+1) (a.put o.dst v):=by
    by_cases hw:Region.wanted o (yielded ops a.tmps)=true
    ·rw [if_pos hw] at h
     obtain ⟨v,h1,h2,h3⟩:=h
     exact ⟨v,.inl ⟨hw,h1⟩,h2,h3⟩
    ·rw [if_neg hw] at h
     exact ⟨undef,.inr ⟨by simpa using hw,rfl⟩,h⟩
   obtain ⟨v,hy,hd,hl⟩:=key
   have hv:valAt fr vals g k=vals.getD k undef:=by unfold valAt;rw [hf]
   have he:=put_dstVal a o.dst v _ hd
   rw [← hv] at he
   rw [he] at hl
   obtain ⟨h1,h2⟩:=lexF_steps l (k+1) _ hl
   refine ⟨by unfold actAt;exact h1,fun j o' ho'=>?_⟩
   rcases j with _|j
   ·obtain rfl:o=o':=by simpa using ho'
    simp only [Nat.add_zero,hf,List.take_zero,actAt]
    exact ⟨v,he,hy⟩
   ·have:=h2 j o' (by simpa using ho')
    rw [show k+1+j=k+(j+1) by omega] at this
    simp only [List.take_succ_cons,actAt]
    exact this
/-! ### What stands in the slots -/
structure Holds (ops:Array Oper) (fr:Nat→Option Fresh) (vals:List Value) (g:Nat→Nat) (n:Nat) (a0:Act) (L:Nat→Prop) (a:Act):Prop where
 defers:a.defers=a0.defers
 size:a.tmps.size=a0.tmps.size
 done:∀ k o d,k<n→ops[k]? = some o→L k→o.dst=some d→d<a0.tmps.size→a.tmps[d]? = some (valAt fr vals g k)
 rest:∀ d,(∀ k o,k<n→ops[k]? = some o→L k→o.dst≠some d)→a.tmps[d]? = a0.tmps[d]?
def dstsB (ops:Array Oper) (n:Nat):Bool :=
 (List.range n).all fun i=>(List.range i).all fun j=>match ops[i]?,ops[j]? with
  | some x,some y=>x.dst.isNone||x.dst != y.dst
  | _,_=>true
theorem dstsB_spec {n:Nat} (h:dstsB ops n=true) {i j:Nat} {x y:Oper} (hi:i<n) (hj:j<n) (hne:i≠j) (hx:ops[i]? = some x) (hy:ops[j]? = some y) {d:Tmp} (h1:x.dst=some d) (h2:y.dst=some d):False:=by
 rcases Nat.lt_or_ge j i with hlt|hge
 ·have:=List.all_eq_true.1 (List.all_eq_true.1 h i (List.mem_range.2 hi)) j (List.mem_range.2 hlt)
  simp [hx,hy,h1,h2] at this
 ·have hlt:i<j:=by omega
  have:=List.all_eq_true.1 (List.all_eq_true.1 h j (List.mem_range.2 hj)) i (List.mem_range.2 hlt)
  simp [hx,hy,h1,h2] at this
theorem Holds.put {n:Nat} {a0 a:Act} {L L':Nat→Prop} (h:Holds ops fr vals g n a0 L a) (hB:dstsB ops n=true) {i:Nat} {o:Oper} (hi:i<n) (ho:ops[i]? = some o) (hL:∀ k,L' k↔(L k∨k=i)) (hn:¬ L i) :
  Holds ops fr vals g n a0 L' (a.put o.dst (valAt fr vals g i)):=by
 refine ⟨?_,?_,?_,?_⟩
 ·cases o.dst <;> exact h.defers
 ·cases hd:o.dst with
  | none=>exact h.size
  | some d=>simp only [Act.put,Array.size_setIfInBounds];exact h.size
 ·intro k x d hk hx hLk hd hlt
  by_cases hki:k=i
  ·subst hki
   obtain rfl:o=x:=Option.some.inj (ho.symm.trans hx)
   rw [hd];simp only [Act.put]
   rw [Array.getElem?_setIfInBounds_self_of_lt (by rw [h.size];exact hlt)]
  ·have hLk':L k:=by rcases (hL k).1 hLk with h'|h';exact h';exact absurd h' hki
   have:=h.done k x d hk hx hLk' hd hlt
   cases hod:o.dst with
   | none=>exact this
   | some d' =>
    have hne:d'≠d:=fun e=>dstsB_spec hB hk hi hki hx ho hd (by rw [hod,e])
    simp only [Act.put];rw [Array.getElem?_setIfInBounds_ne hne];exact this
 ·intro d hd
  have h1:=h.rest d fun k x hk hx hLk=>hd k x hk hx ((hL k).2 (.inl hLk))
  cases hod:o.dst with
  | none=>exact h1
  | some d' =>
   have hne:d'≠d:=fun e=>hd i o hi ho ((hL i).2 (.inr rfl)) (by rw [hod,e])
   simp only [Act.put];rw [Array.getElem?_setIfInBounds_ne hne];exact h1
theorem Holds.nil {n:Nat} {a0:Act} {L:Nat→Prop} (hL:∀ k,k<n→¬ L k):Holds ops fr vals g n a0 L a0 :=
 ⟨rfl,rfl,fun k _ _ hk _ hLk _ _=>absurd hLk (hL k hk),fun _ _=>rfl⟩
theorem Holds.congr {n:Nat} {a0 a:Act} {L L':Nat→Prop} (h:Holds ops fr vals g n a0 L a) (hL:∀ k,k<n→(L' k↔L k)):Holds ops fr vals g n a0 L' a :=
 ⟨h.defers,h.size,fun k o d hk ho hLk hd hlt=>h.done k o d hk ho ((hL k hk).1 hLk) hd hlt,fun d hd=>h.rest d fun k o hk ho hLk=>hd k o hk ho ((hL k hk).2 hLk)⟩
theorem Holds.turn {n:Nat} {a0 a:Act} {L:Nat→Prop} {g':Nat→Nat} (h:Holds ops fr vals g n a0 L a) (hg:∀ k,k<n→L k→g' k=g k):Holds ops fr vals g' n a0 L a :=
 ⟨h.defers,h.size,fun k o d hk ho hLk hd hlt=>by
  rw [h.done k o d hk ho hLk hd hlt];unfold valAt;rw [hg k hk hLk],h.rest⟩
theorem holds_actAt {n:Nat} {a0:Act} (hB:dstsB ops n=true):∀ (l:List Oper) (k:Nat) (a:Act),(∀ j,j<l.length→l[j]? = ops[k+j]?)→k+l.length≤n→Holds ops fr vals g n a0 (fun j=>j<k) a →
  Holds ops fr vals g n a0 (fun j=>j<k+l.length) (actAt fr vals g l k a)
 | [],k,a,_,_,h=>h
 | o :: l,k,a,hl,hn,h=>by
  have h0:ops[k]? = some o:=by simpa using (hl 0 (by simp)).symm
  simp only [List.length_cons] at hn
  have h1:Holds ops fr vals g n a0 (fun j=>j<k+1) (a.put o.dst (valAt fr vals g k)):=h.put hB (by omega) h0 (fun j=>by omega) (by omega)
  have h2:=holds_actAt hB l (k+1) _ (fun j hj=>by
   have:=hl (j+1) (by simp;omega)
   rw [show k+1+j=k+(j+1) by omega];simpa using this) (by omega) h1
  unfold actAt
  exact h2.congr fun j _=>by simp only [List.length_cons];omega
theorem Holds.same {n:Nat} {a0 a a':Act} {L:Nat→Prop} (h:Holds ops fr vals g n a0 L a) (h':Holds ops fr vals g n a0 L a'):a=a':=by
 have hd:=h.defers.trans h'.defers.symm
 have ht:a.tmps=a'.tmps:=by
  apply Array.ext_getElem?
  intro d
  by_cases hex:∃ k o,k<n∧ops[k]? = some o∧L k∧o.dst=some d
  ·obtain ⟨k,o,hk,ho,hL,hod⟩:=hex
   by_cases hlt:d<a0.tmps.size
   ·rw [h.done k o d hk ho hL hod hlt,h'.done k o d hk ho hL hod hlt]
   ·have n1:a.tmps.size≤d:=by rw [h.size];exact Nat.le_of_not_lt hlt
    have n2:a'.tmps.size≤d:=by rw [h'.size];exact Nat.le_of_not_lt hlt
    rw [Array.getElem?_eq_none n1,Array.getElem?_eq_none n2]
  ·have hno:∀ k o,k<n→ops[k]? = some o→L k→o.dst≠some d:=fun k o hk ho hL hod=>hex ⟨k,o,hk,ho,hL,hod⟩
   rw [h.rest d hno,h'.rest d hno]
 obtain ⟨t,df⟩:=a
 obtain ⟨t',df'⟩:=a'
 simp only at ht hd
 rw [ht,hd]
theorem Holds.alike {n:Nat} {a0 a a':Act} {L L':Nat→Prop} (h:Holds ops fr vals g n a0 L a) (h':Holds ops fr vals g n a0 L' a') {o:Oper}
  (hl:∀ d,d ∈ o.looksAt ops→∀ k x,k<n→ops[k]? = some x→x.dst=some d→(L k∧L' k)):∀ d,d ∈ o.looksAt ops→a.tmps[d]? = a'.tmps[d]?:=by
 intro d hd
 by_cases hex:∃ k x,k<n∧ops[k]? = some x∧x.dst=some d
 ·obtain ⟨k,x,hk,hx,hxd⟩:=hex
  obtain ⟨l1,l2⟩:=hl d hd k x hk hx hxd
  by_cases hlt:d<a0.tmps.size
  ·rw [h.done k x d hk hx l1 hxd hlt,h'.done k x d hk hx l2 hxd hlt]
  ·have n1:a.tmps.size≤d:=by rw [h.size];exact Nat.le_of_not_lt hlt
   have n2:a'.tmps.size≤d:=by rw [h'.size];exact Nat.le_of_not_lt hlt
   rw [Array.getElem?_eq_none n1,Array.getElem?_eq_none n2]
 ·rw [h.rest d fun k x hk hx _ hxd=>hex ⟨k,x,hk,hx,hxd⟩,h'.rest d fun k x hk hx _ hxd=>hex ⟨k,x,hk,hx,hxd⟩]
theorem exec_alike {o:Oper} (hs:∀ cs b,o.op ≠ .select cs b) {a a':Act} (h:∀ d,d ∈ o.looksAt ops→a.tmps[d]? = a'.tmps[d]?):execOp a.eval o=execOp a'.eval o :=
 execOp_congr o hs fun x hx=>by
  cases x with
  | tmp t =>
   have:=h t (List.mem_append_left _ (List.mem_filterMap.2 ⟨.tmp t,by simpa using hx,rfl⟩))
   simp [Act.eval,this]
  | _=>rfl
theorem wanted_alike {o:Oper} {a a':Act} (h:∀ d,d ∈ o.looksAt ops→a.tmps[d]? = a'.tmps[d]?):Region.wanted o (yielded ops a.tmps)=Region.wanted o (yielded ops a'.tmps):=by
 unfold Region.wanted
 cases hg:o.guard with
 | none=>rfl
 | some gw =>
  obtain ⟨k,want⟩:=gw
  have hy:yielded ops a.tmps k=yielded ops a'.tmps k:=by
   unfold yielded
   cases ht:(ops[k]?).bind (·.dst) with
   | none=>rfl
   | some t =>
    have:=h t (by simp [Oper.looksAt,hg,ht])
    simp [this]
  simp only [hy]
/-! ### Any order -/
def waitsB (ops:Array Oper) (needs:Nat→List Nat) (n:Nat):Bool :=
 (List.range n).all fun k=>match ops[k]? with
  | none=>false
  | some o => (o.looksAt ops).all (fun d => (List.range n).all fun j => match ops[j]? with
      | some x=>x.dst != some d||Region.waitsFor .any ops k j
      | none=>true)&&(needs k).all (fun j=>Region.waitsFor .any ops k j)&&o.after.all (fun e=>!Region.binds .any e||decide (e.on<k))
def firstN (n m:Nat):Array Bool:=((List.range m).map fun k=>decide (k<n)).toArray
def freshB (ops:Array Oper) (needs:Nat→List Nat) (n:Nat):Bool :=
 Region.noSelect ops&&decide (n<ops.size)&&Region.sinkB .any ops n&&Region.chainB .any ops n&&dstsB ops n&&waitsB ops needs n&&Region.seqB .any ops (ops.size-n) n (firstN n ops.size)
theorem waitsB_spec {n:Nat} (h:waitsB ops needs n=true) {k:Nat} {o:Oper} (hk:k<n) (ho:ops[k]? = some o) :
  (∀ d ∈ o.looksAt ops,∀ j x,j<n→ops[j]? = some x→x.dst=some d→Region.waitsFor .any ops k j=true)∧(∀ j ∈ needs k,Region.waitsFor .any ops k j=true)∧(∀ e ∈ o.after,Region.binds .any e=true→e.on<k):=by
 have:=List.all_eq_true.1 h k (List.mem_range.2 hk)
 simp only [ho,Bool.and_eq_true] at this
 obtain ⟨⟨h1,h2⟩,h3⟩:=this
 refine ⟨fun d hd j x hj hx hxd=>?_,fun j hj=>List.all_eq_true.1 h2 j hj,fun e he hb=>?_⟩
 ·have:=List.all_eq_true.1 (List.all_eq_true.1 h1 d hd) j (List.mem_range.2 hj)
  simp only [hx,hxd,bne_self_eq_false,Bool.false_or] at this
  exact this
 ·have:=Array.all_eq_true_iff_forall_mem.1 h3 e he
  simpa [hb] using this
structure Way (ops:Array Oper) (w0:World) (fr:Nat→Option Fresh) (vals:List Value) (n:Nat) (a0:Act) (listed:Array Bool) (g:Nat→Nat) (a:Act) (w:World):Prop where
 head:HeadInv .any ops n listed
 low:Below w0.heap.size w0 w
 has:∀ k f,k<n→listed.getD k false=true→fr k=some f→w0.heap.size≤g k∧w.heap[g k]? = some f.obj
 diff:∀ k k',k<n→k'<n→listed.getD k false=true→listed.getD k' false=true→(fr k).isSome=true→(fr k').isSome=true→k≠k'→g k≠g k'
 frame:Holds ops fr vals g n a0 (fun k=>listed.getD k false=true) a
theorem below_alloc {B:Nat} {a w:World} (h:Below B a w) (hB:B≤w.heap.size) (o:Obj):Below B a (w.alloc o):=h.alloc hB o
theorem getD_set_iff {listed:Array Bool} {i k:Nat} (hi:i<listed.size):(listed.setIfInBounds i true).getD k false=true↔(listed.getD k false=true∨k=i):=by
 by_cases h:i=k
 ·subst h;simp [hi]
 ·rw [getD_set_ne false h]
  constructor
  ·exact .inl
  ·rintro (h1|h1)
   ·exact h1
   ·exact absurd h1.symm h
theorem way_step {n:Nat} {a0:Act} {listed:Array Bool} {g:Nat→Nat} {a:Act} {w:World} (hB:freshB ops needs n=true) {l:List Oper} (hl:l=ops.toList.take n)
  (H:∀ g (N:Nat→List Nat),(∀ k,∀ j ∈ needs k,j ∈ N k)→lexF P ops w0 fr N vals g (fun _=>True) l 0 a0) (h:Way ops w0 fr vals n a0 listed g a w) {i:Nat} (hi:i<n) (hr:i ∈ Region.ready .any ops listed) {Q':Exit→Act→World→Prop} {K:Act→World→Prop}
  (hK:∀ g' a' w',Way ops w0 fr vals n a0 (listed.setIfInBounds i true) g' a' w'→K a' w'):wpOp P ops Q' i K a w:=by
 simp only [freshB,Bool.and_eq_true,decide_eq_true_eq] at hB
 obtain ⟨⟨⟨⟨⟨⟨hsel,hn⟩,hsink⟩,hchain⟩,hdst⟩,hwait⟩,hseq⟩:=hB
 obtain ⟨hun,o,ho,hall⟩:=mem_ready.1 hr
 have hlo:l[i]? = some o:=by
  rw [hl];simp [hi,ho]
 have hisz:i<listed.size:=by rw [h.head.size];omega
 have hunl:¬ listed.getD i false=true:=by
  rw [getD_both hun];simp
 obtain ⟨wt1,wt2,wt3⟩:=waitsB_spec hwait hi ho
 have dep:∀ j,Region.waitsFor .any ops i j=true→listed.getD j false=true∧j<i:=by
  intro j hj
  obtain ⟨o',ho',e,he,hb,hon⟩:=Region.waitsFor_spec hj
  have:o'=o:=Option.some.inj (ho'.symm.trans ho)
  subst this
  rw [← hon]
  exact ⟨hall e he hb,wt3 e he hb⟩
 have hA:∀ g,Holds ops fr vals g n a0 (fun k=>k<i) (actAt fr vals g (l.take i) 0 a0):=by
  intro g
  have hlen:(l.take i).length=i:=by rw [hl];simp;omega
  have:=holds_actAt (vals:=vals) (fr:=fr) (g:=g) (a0:=a0) hdst (l.take i) 0 a0 (fun j hj=>by
   rw [hlen] at hj
   rw [hl];simp [hj,show j<n by omega]) (by omega) (Holds.nil fun k _=>by omega)
  rw [hlen] at this
  exact this.congr fun j _=>by omega
 have hsl:=Region.noSelect_spec hsel
 have alike:=h.frame.alike (hA g) (o:=o) (fun d hd k x hk hx hxd=>dep k (wt1 d hd k x hk hx hxd))
 have ex:=exec_alike (hsl i o · · ho) alike
 have wn:=wanted_alike alike
 have steps:=(lexF_steps l 0 a0 (H g (fun k=>needs k++(List.range n).filter fun j=>listed.getD j false) (fun k j hj=>List.mem_append_left _ hj))).2 i o hlo
 rw [Nat.zero_add] at steps
 unfold wpOp
 simp only [ho]
 cases hf:fr i with
 | some f =>
  rw [hf] at steps
  obtain ⟨hw,hrun⟩:=steps
  rw [wn,if_pos hw]
  refine .inl ?_
  unfold Oper.wp
  rw [ex,hrun w]
  simp only [Oper.upon]
  have hold:∀ k,k<n→listed.getD k false=true→(if k=i then w.heap.size else g k)=g k:=fun k _ hk=>by
   rw [if_neg];intro e;subst e;exact hunl hk
  refine hK (fun k=>if k=i then w.heap.size else g k) _ _ ⟨h.head.set hr hi,below_alloc h.low (by have:=h.low.size;omega) _,?_,?_,?_⟩
  ·intro k f' hk hlk hfk
   rcases (getD_set_iff hisz).1 hlk with h1|h1
   ·have:=h.has k f' hk h1 hfk
    simp only [hold k hk h1]
    exact ⟨this.1,by rw [Below.heap_alloc w f.obj _ (heap_lt this.2)];exact this.2⟩
   ·subst h1
    simp only [if_true]
    rw [hf] at hfk
    cases hfk
    exact ⟨h.low.size,heap_alloc_new w _⟩
  ·intro k k' hk hk' hlk hlk' hs hs' hne
   rcases (getD_set_iff hisz).1 hlk with h1|h1 <;> rcases (getD_set_iff hisz).1 hlk' with h2|h2
   ·simp only [hold k hk h1,hold k' hk' h2]
    exact h.diff k k' hk hk' h1 h2 hs hs' hne
   ·subst h2
    simp only [hold k hk h1,if_true]
    obtain ⟨f',hf'⟩:=Option.isSome_iff_exists.1 hs
    have:=heap_lt (h.has k f' hk h1 hf').2
    omega
   ·subst h1
    simp only [hold k' hk' h2,if_true]
    obtain ⟨f',hf'⟩:=Option.isSome_iff_exists.1 hs'
    have:=heap_lt (h.has k' f' hk' h2 hf').2
    omega
   ·exact absurd (h1.trans h2.symm) hne
  ·have hturn:=h.frame.turn (g':=fun k=>if k=i then w.heap.size else g k) (fun k hk hlk=>hold k hk hlk)
   have:=hturn.put (L':=fun k=>(listed.setIfInBounds i true).getD k false=true) hdst hi ho (fun k=>getD_set_iff hisz) hunl
   have hv:valAt fr vals (fun k=>if k=i then w.heap.size else g k) i=f.ptr w.heap.size:=by unfold valAt;rw [hf];simp
   rwa [hv] at this
 | none =>
  rw [hf] at steps
  obtain ⟨v,hput,hy⟩:=steps
  have hC:∃ p:Inw w0 fr g (needs i++(List.range n).filter fun j=>listed.getD j false),w=p.w:=⟨⟨w,h.low,fun j hj f hfj=>by
   rcases List.mem_append.1 hj with hj|hj
   ·have:=dep j (wt2 j hj)
    exact h.has j f (by omega) this.1 hfj
   ·have:=List.mem_filter.1 hj
    exact h.has j f (List.mem_range.1 this.1) this.2 hfj⟩,rfl⟩
  have nxt:∀ p:Inw w0 fr g (needs i++(List.range n).filter fun j=>listed.getD j false),K (a.put o.dst v) p.w:=by
   intro p
   have he:a.put o.dst v=a.put o.dst (valAt fr vals g i):=by
    cases hod:o.dst with
    | none=>rfl
    | some d =>
     by_cases hd:d<a0.tmps.size
     ·have e1:((actAt fr vals g (l.take i) 0 a0).put o.dst v).tmps[d]? = ((actAt fr vals g (l.take i) 0 a0).put o.dst (valAt fr vals g i)).tmps[d]?:=by rw [hput]
      have hs:d<(actAt fr vals g (l.take i) 0 a0).tmps.size:=by rw [(hA g).size];exact hd
      rw [hod] at e1
      simp only [Act.put] at e1
      rw [Array.getElem?_setIfInBounds_self_of_lt hs,Array.getElem?_setIfInBounds_self_of_lt hs] at e1
      rw [Option.some.inj e1]
     ·have hs:¬ d<a.tmps.size:=by rw [h.frame.size];exact hd
      simp only [Act.put]
      congr 1
      apply Array.ext_getElem?
      intro j
      by_cases hj:d=j
      ·subst hj;simp [hs]
      ·rw [Array.getElem?_setIfInBounds_ne hj,Array.getElem?_setIfInBounds_ne hj]
   rw [he]
   refine hK g _ _ ⟨h.head.set hr hi,p.low,?_,?_,?_⟩
   ·intro k f' hk hlk hfk
    rcases (getD_set_iff hisz).1 hlk with h1|h1
    ·exact p.has k (List.mem_append_right _ (List.mem_filter.2 ⟨List.mem_range.2 hk,h1⟩)) f' hfk
    ·subst h1;rw [hf] at hfk;cases hfk
   ·intro k k' hk hk' hlk hlk' hs hs' hne
    rcases (getD_set_iff hisz).1 hlk with h1|h1
    ·rcases (getD_set_iff hisz).1 hlk' with h2|h2
     ·exact h.diff k k' hk hk' h1 h2 hs hs' hne
     ·subst h2;rw [hf] at hs';cases hs'
    ·subst h1;rw [hf] at hs;cases hs
   ·exact h.frame.put (L':=fun k=>(listed.setIfInBounds i true).getD k false=true) hdst hi ho (fun k=>getD_set_iff hisz) hunl
  rcases hy with ⟨hw,hq⟩|⟨hw,rfl⟩
  ·rw [wn,if_pos hw]
   refine .inl ?_
   have h3:=hq w hC
   unfold Oper.quietAt at h3
   unfold Oper.wp
   rw [ex]
   generalize (execOp (actAt fr vals g (l.take i) 0 a0).eval o).run P w=r at *
   cases r with
   | ok m w' =>
    cases m <;> simp only [Oper.quietUpon] at h3 <;> simp only [Oper.upon]
    case value u =>
     obtain ⟨e1,e2⟩:=h3
     obtain ⟨p,hp⟩:=hC
     rw [e1,e2,hp];exact nxt p
    case skip =>
     obtain ⟨e1,e2⟩:=h3
     obtain ⟨p,hp⟩:=hC
     rw [e1,← e2,hp];exact nxt p
    case enter f args =>
     obtain ⟨e1,hc⟩:=h3
     rw [e1]
     exact hc.mono fun e w'' ⟨he,p,hp⟩=>by subst he;subst hp;exact nxt p
   | halt x w'=>simp only [Oper.quietUpon] at h3
  ·rw [wn,hw]
   simp only [Bool.false_eq_true,if_false]
   obtain ⟨p,hp⟩:=hC
   have:=nxt p
   rwa [← hp] at this
theorem firstN_of {n:Nat} {listed:Array Bool} (inv:HeadInv .any ops n listed) (_hn:n<ops.size) (hall:∀ k,k<n→listed.getD k false=true):listed=firstN n ops.size:=by
 apply Array.ext_getElem?
 intro k
 have hs:(firstN n ops.size).size=ops.size:=by simp [firstN]
 by_cases hk:k<ops.size
 ·have e1:(firstN n ops.size)[k]? = some (decide (k<n)):=by simp [firstN,hk]
  rw [e1]
  have hks:k<listed.size:=by rw [inv.size];exact hk
  by_cases hkn:k<n
  ·have:=hall k hkn
   simp [hks] at this
   simp [hks,this,hkn]
  ·have:=inv.tail k (by omega) hk
   simp [hks] at this
   simp [hks,this,hkn]
 ·rw [Array.getElem?_eq_none (by rw [inv.size];omega),Array.getElem?_eq_none (by rw [hs];omega)]
def left (n:Nat) (listed:Array Bool):Nat:=((List.range n).filter fun k=>!listed.getD k false).length
theorem left_set {n i:Nat} {listed:Array Bool} (hi:i<n) (his:i<listed.size) (hun:listed.getD i false=false):left n listed=left n (listed.setIfInBounds i true)+1:=by
 unfold left
 induction n with
 | zero=>omega
 | succ n ih =>
  rw [List.range_succ,List.filter_append,List.filter_append,List.length_append,List.length_append]
  by_cases hin:i=n
  ·subst hin
   have e1:(List.range i).filter (fun k=>!listed.getD k false)=(List.range i).filter (fun k=>!(listed.setIfInBounds i true).getD k false):=by
    apply List.filter_congr
    intro k hk
    have:=List.mem_range.1 hk
    rw [getD_set_ne false (by omega)]
   rw [e1]
   have e2:(listed.setIfInBounds i true).getD i false=true:=(getD_set_iff his).2 (.inr rfl)
   simp only [List.filter_cons,List.filter_nil,hun,e2]
   rfl
  ·rw [ih (by omega)]
   have e3:(listed.setIfInBounds i true).getD n false=listed.getD n false:=getD_set_ne false hin
   simp only [List.filter_cons,List.filter_nil,e3]
   omega
theorem any_way {n:Nat} {a0:Act} {l:List Oper} (hB:freshB ops needs n=true) (hl:l=ops.toList.take n) (H:∀ g (N:Nat→List Nat),(∀ k,∀ j ∈ needs k,j ∈ N k)→lexF P ops w0 fr N vals g (fun _=>True) l 0 a0) {Q':Exit→Act→World→Prop}
  (fin:∀ g w,Below w0.heap.size w0 w→(∀ k f,k<n→fr k=some f→w0.heap.size≤g k∧w.heap[g k]? = some f.obj)→(∀ k k',k<n→k'<n→(fr k).isSome=true→(fr k').isSome=true→k≠k'→g k≠g k') →
   wpList P ops Q' (ops.toList.drop n) (actAt fr vals g l 0 a0) w) :
  ∀ (m:Nat) (listed:Array Bool) (g:Nat→Nat) (a:Act) (w:World),left n listed=m→Way ops w0 fr vals n a0 listed g a w→wpAny P .any ops Q' (m+(ops.size-n)) listed a w:=by
 have hB0:=hB
 simp only [freshB,Bool.and_eq_true,decide_eq_true_eq] at hB
 obtain ⟨⟨⟨⟨⟨⟨hsel,hn⟩,hsink⟩,hchain⟩,hdst⟩,hwait⟩,hseq⟩:=hB
 intro m
 induction m with
 | zero =>
  intro listed g a w hm h
  have hall:∀ k,k<n→listed.getD k false=true:=by
   intro k hk
   cases hc:listed.getD k false with
   | true=>rfl
   | false =>
    have hmem:k ∈ (List.range n).filter fun k=>!listed.getD k false:=List.mem_filter.2 ⟨List.mem_range.2 hk,by simp only [hc];rfl⟩
    have:((List.range n).filter fun k=>!listed.getD k false) = []:=List.length_eq_zero_iff.1 hm
    rw [this] at hmem;cases hmem
  have hlist:=firstN_of h.head hn hall
  have hlen:l.length=n:=by rw [hl];simp;omega
  have hA:Holds ops fr vals g n a0 (fun k=>k<n) (actAt fr vals g l 0 a0):=by
   have:=holds_actAt (vals:=vals) (fr:=fr) (g:=g) (a0:=a0) hdst l 0 a0 (fun j hj=>by rw [hlen] at hj;rw [hl];simp [hj]) (by omega) (Holds.nil fun k _=>by omega)
   rw [hlen] at this
   exact this.congr fun j _=>by omega
  have hae:a=actAt fr vals g l 0 a0:=(h.frame.congr (L':=fun k=>k<n) fun k hk=>⟨fun _=>hall k hk,fun _=>hk⟩).same hA
  rw [hlist,hae]
  have:=fin g w h.low (fun k f hk hf=>h.has k f hk (hall k hk) hf) (fun k k' hk hk' hs hs' hne=>h.diff k k' hk hk' (hall k hk) (hall k' hk') hs hs' hne)
  have hdl:(ops.toList.drop n).length=ops.size-n:=by simp
  have hw:=wpAny_of_seq (md := .any) (Q':=Q') (ops.toList.drop n) n (firstN n ops.size) (actAt fr vals g l 0 a0) w (fun j=>by simp [List.getElem?_drop]) (by rw [hdl];exact hseq) this
  rw [hdl] at hw
  rwa [Nat.zero_add]
 | succ m ih =>
  intro listed g a w hm h
  obtain ⟨i0,hi0,hun0⟩:∃ i,i<n∧listed.getD i false=false:=by
   have hne:((List.range n).filter fun k=>!listed.getD k false) ≠ []:=by
    intro e
    have:left n listed=0:=by unfold left;rw [e];rfl
    omega
   obtain ⟨x,hx⟩:=List.exists_mem_of_ne_nil _ hne
   have:=List.mem_filter.1 hx
   exact ⟨x,List.mem_range.1 this.1,by simpa using this.2⟩
  have hun0':=getD_in (by rw [h.head.size];omega) hun0
  have notail:=tail_waits hsink hchain hn h.head _ i0 rfl hi0 hun0'
  -- the least that is not listed may come up
  have hex:∃ i,i<n∧i ∈ Region.ready .any ops listed:=by
   have:∀ d i,i=d→i<n→listed.getD i false=false→∃ i,i<n∧i ∈ Region.ready .any ops listed:=by
    intro d
    induction d using Nat.strongRecOn with
    | _ d ihd =>
     intro i hid hin hui
     have hio:i<ops.size:=by omega
     have ho:ops[i]? = some (ops[i]):=Array.getElem?_eq_getElem hio
     by_cases hdeps:∀ e ∈ (ops[i]).after,Region.binds .any e=true→listed.getD e.on false=true
     ·exact ⟨i,hin,mem_ready.2 ⟨getD_in (by rw [h.head.size];omega) hui,_,ho,hdeps⟩⟩
     · have hc : ∃ e, e ∈ (ops[i]).after ∧ Region.binds .any e = true ∧ listed.getD e.on false = false := by
         apply Classical.byContradiction
         intro hno
         exact hdeps fun e he hb=>by
          cases hc:listed.getD e.on false with
          | true=>rfl
          | false=>exact absurd ⟨e,he,hb,hc⟩ hno
       obtain ⟨e,he,hb,hue⟩:=hc
       have hlt:=(waitsB_spec hwait hin ho).2.2 e he hb
       exact ihd e.on (by omega) e.on rfl (by omega) hue
   exact this i0 i0 rfl hi0 hun0
  obtain ⟨i1,hi1,hr1⟩:=hex
  rw [show m+1+(ops.size-n)=(m+(ops.size-n))+1 by omega]
  refine ⟨fun h0=>(by rw [h0] at hr1;cases hr1),fun i hi=>?_⟩
  have hin:i<n:=by
   rcases Nat.lt_or_ge i n with h'|h'
   ·exact h'
   ·exact absurd hi (notail i h')
  have hui:=getD_both (mem_ready.1 hi).1
  refine way_step hB0 hl H h hin hi fun g' a' w' h'=>ih _ g' a' w' ?_ h'
  have:=left_set hin (by rw [h.head.size];omega) hui
  omega
theorem lexF_true:∀ (l:List Oper) (k:Nat) (a:Act),lexF P ops w0 fr needs vals g Q l k a→lexF P ops w0 fr needs vals g (fun _=>True) l k a
 | [],_,_,_=>trivial
 | o :: l,k,a,h=>by
  unfold lexF at h ⊢
  cases hf:fr k with
  | some f=>rw [hf] at h;exact ⟨h.1,h.2.1,lexF_true l _ _ h.2.2⟩
  | none =>
   rw [hf] at h
   simp only [wpQuiet] at h ⊢
   by_cases hw:Region.wanted o (yielded ops a.tmps)=true
   ·rw [if_pos hw] at h ⊢
    obtain ⟨v,h1,h2,h3⟩:=h
    exact ⟨v,h1,h2,lexF_true l _ _ h3⟩
   ·rw [if_neg hw] at h ⊢
    exact ⟨h.1,lexF_true l _ _ h.2⟩
theorem wp_region_fresh {id:Nat} {Q':Exit→Act→World→Prop} {a:Act} {w:World} {l:List Oper} (n:Nat) (fr:Nat→Option Fresh) (needs:Nat→List Nat) (vals:List Value) (hm:P.follows .mixedOrders=true) (hB:freshB l.toArray needs n=true)
  (H:∀ g (N:Nat→List Nat),(∀ k,∀ j ∈ needs k,j ∈ N k)→lexF P l.toArray w.drew fr N vals g (fun a'=>∀ w',Below w.heap.size w w'→(∀ k f,k<n→fr k=some f→w.heap.size≤g k∧w'.heap[g k]? = some f.obj) →
   (∀ k k',k<n→k'<n→(fr k).isSome=true→(fr k').isSome=true→k≠k'→g k≠g k')→wpList P l.toArray Q' (l.drop n) a' w') (l.take n) 0 a):(Code.region id l.toArray true).wp P Q' a w:=by
 have hB0:=hB
 simp only [freshB,Bool.and_eq_true,decide_eq_true_eq] at hB
 obtain ⟨⟨⟨⟨⟨⟨hsel,hn⟩,hsink⟩,hchain⟩,hdst⟩,hwait⟩,hseq⟩:=hB
 refine wp_region_any hm ?_
 have hn':n<l.length:=by simpa using hn
 have:=any_way (P:=P) (ops:=l.toArray) (w0:=w.drew) (fr:=fr) (vals:=vals) (a0:=a) (l:=l.take n) (Q':=Q') hB0 rfl (fun g N hN=>lexF_true _ _ _ (H g N hN)) (fun g w' hb hh hd=>by
  have:=(lexF_steps _ 0 _ (H g needs (fun _ _ h=>h))).1 w' ⟨hb.os,hb.tape,hb.output,hb.size,hb.block⟩ hh hd
  exact this) n (Array.replicate l.toArray.size false) (fun _=>0) a w.drew ?_ ⟨⟨by simp,fun j oj _ hl=>(by rw [getD_replicate_false] at hl;cases hl),fun t _ ht=>getD_in (by simpa using ht) (getD_replicate_false _ _)⟩,
   Below.refl _ _,fun k f _ hk=>(by rw [getD_replicate_false] at hk;cases hk),fun k k' _ _ hk=>(by rw [getD_replicate_false] at hk;cases hk),Holds.nil fun k _ hk=>(by rw [getD_replicate_false] at hk;cases hk)⟩
 ·rw [show n+(l.toArray.size-n)=l.toArray.size by simp;omega] at this
  exact this
 ·unfold left
  rw [List.filter_eq_self.2 (fun k _=>by rw [getD_replicate_false];rfl)]
  simp
end
theorem ex_list {p:List Value→Prop} (h:∃ v,∃ l,p (v :: l)):∃ l,p l:=by
 obtain ⟨v,l,h⟩:=h;exact ⟨v :: l,h⟩
theorem wp_region_fresh' {P:Program} {id:Nat} {Q':Exit→Act→World→Prop} {a:Act} {w:World} {l:List Oper} (n:Nat) (fr:Nat→Option Fresh) (needs:Nat→List Nat) (hm:P.follows .mixedOrders=true) (hB:freshB l.toArray needs n=true)
  (H:∃ vals:List Value,∀ g (N:Nat→List Nat),(∀ k,∀ j ∈ needs k,j ∈ N k)→lexF P l.toArray w.drew fr N vals g (fun a'=>∀ w',Below w.heap.size w w'→(∀ k f,k<n→fr k=some f→w.heap.size≤g k∧w'.heap[g k]? = some f.obj) →
   (∀ k k',k<n→k'<n→(fr k).isSome=true→(fr k').isSome=true→k≠k'→g k≠g k')→wpList P l.toArray Q' (l.drop n) a' w') (l.take n) 0 a):(Code.region id l.toArray true).wp P Q' a w:=by
 obtain ⟨vals,H⟩:=H
 exact wp_region_fresh n fr needs vals hm hB H
theorem inw_cell {w:World} {a:Addr} {v:Value} (h:w.cell? a=some v) {fr:Nat→Option Fresh} {g:Nat→Nat} {N:List Nat} (p:Inw w.drew fr g N):p.w.cell? a=some v:=by
 have hb:Below w.heap.size w p.w:=⟨p.low.os,p.low.tape,p.low.output,p.low.size,p.low.block⟩
 rw [hb.cell (block_lt_of_cell h)];exact h
end Go.Proofs.YtechbdnhalmobaaGreatDoor
