/- Laws and walks that the claim names. -/
import Derived.Deep.Cut
import Derived.Test.YtechbdnhalmobaaGreatDoorBY
set_option maxRecDepth 100000
set_option maxHeartbeats 16000000
namespace Go.Proofs.YtechbdnhalmobaaGreatDoor
set_option linter.unusedSimpArgs false
set_option linter.unusedVariables false
open Go.RowKit
def inB (n:Int):Bool:=decide (-2305843009213693952≤n)&&decide (n≤2305843009213693952)
def mayB (a b d:Int):Bool:=inB a&&inB b&&inB d
theorem inB_iff (n:Int):inB n=true ↔ -2305843009213693952≤n∧n≤2305843009213693952:=by unfold inB;simp
theorem mayB_iff (a b d:Int):mayB a b d=true↔(-2305843009213693952≤a∧a≤2305843009213693952)∧(-2305843009213693952≤b∧b≤2305843009213693952)∧(-2305843009213693952≤d∧d≤2305843009213693952):=by
 unfold mayB;simp [inB_iff,and_assoc]
abbrev symV (a b d:Int):Value := .agg #[.int .i64 a,.int .i64 b,.int .i64 d]
abbrev ptV (x y:Int):Value := .agg #[.int .i64 x,.int .i64 y]
def I64 (z:Int):Prop := -9223372036854775808≤z∧z≤9223372036854775807
theorem in_c (n:Int) (w:World) :
  Calls Tryz.prog 318 #[.int .i64 n] w fun e w'=>e = .returned (.bool (inB n))∧w'=w:=by
 by_cases h1 : -2305843009213693952≤n
 ·by_cases h2:n≤2305843009213693952
  ·have E:Hid (inB n=true):=(inB_iff n).2 ⟨h1,h2⟩
   go_enter Tryz.func318,Tryz.ntmps318
   go_wp2
   go_ret
   exact ⟨by rw [E.out];rfl,rfl⟩
  ·have E:Hid (inB n=false):=by show inB n=false;unfold inB;simp [h1,h2]
   go_enter Tryz.func318,Tryz.ntmps318
   go_wp2
   go_ret
   exact ⟨by rw [E.out];rfl,rfl⟩
 ·have E:Hid (inB n=false):=by show inB n=false;unfold inB;simp [h1]
  go_enter Tryz.func318,Tryz.ntmps318
  go_wp2
  go_ret
  exact ⟨by rw [E.out];rfl,rfl⟩
theorem may_c (a b d:Int) (w:World) :
  Calls Tryz.prog 270 #[symV a b d] w fun e w'=>e = .returned (.bool (mayB a b d))∧Below w.heap.size w w':=by
 have E:Hid (mayB a b d=(inB a&&inB b&&inB d)):=rfl
 go_enter Tryz.func270,Tryz.ntmps270
 cases ha:inB a with
 | false =>
  go_wp2_with (go_at_call 318;refine (in_c _ _).mono ?_;rintro e w' ⟨rfl,rfl⟩;(try rw [ha]))
  go_ret
  exact ⟨by rw [E.out,ha];rfl,below_by⟩
 | true =>
  cases hb:inB b with
  | false =>
   go_wp2_with (go_at_call 318;refine (in_c _ _).mono ?_;rintro e w' ⟨rfl,rfl⟩;(first|rw [ha]|rw [hb]))
   go_ret
   exact ⟨by rw [E.out,ha,hb];rfl,below_by⟩
  | true =>
   go_wp2_with (go_at_call 318;refine (in_c _ _).mono ?_;rintro e w' ⟨rfl,rfl⟩;(first|rw [ha]|rw [hb]|skip))
   go_ret
   exact ⟨by rw [E.out,ha,hb];rfl,below_by⟩
open Go.RowKit
def adjV (a b d:Int):Value:=if mayB a b d then symV d (-b) a else symV 0 0 0
theorem adj_c (a b d:Int) (w:World) :
  Calls Tryz.prog 210 #[symV a b d] w fun e w'=>e = .returned (adjV a b d)∧Below w.heap.size w w':=by
 have E:Hid (adjV a b d=if mayB a b d then symV d (-b) a else symV 0 0 0):=rfl
 cases hm:mayB a b d with
 | true =>
  have hw:IntKind.i64.wrap (-b) = -b:=by have:=(mayB_iff a b d).1 hm;rw [IntKind.wrap_i64];omega
  go_enter Tryz.func210,Tryz.ntmps210
  go_wp2_with fail
  refine (may_c _ _ _ _).mono ?_;rintro e w1 ⟨rfl,hb1⟩;rw [hm];have z_w1:=hb1.size;(try simp at z_w1);obtain ⟨yw1aa,cw1aa,fw1aa,rw1aa,tw1aa,pw1aa⟩:=bq hb1 (w.heap.size);obtain ⟨yw1ab,cw1ab,fw1ab,rw1ab,tw1ab,pw1ab⟩:=bq hb1 (w.heap.size+1)
  go_wp2
  exact bodyPost_row 3 #[.int .i64 d,.int .i64 (-b),.int .i64 a] rfl rfl rfl Tryz.underlying33 rfl (by kernel_rfl) (rc3 (by go_simp) (by go_simp) (by go_simp)) ⟨by rw [E.out,hm];rfl,below_by⟩
 | false =>
  go_enter Tryz.func210,Tryz.ntmps210
  go_wp2_with fail
  refine (may_c _ _ _ _).mono ?_;rintro e w1 ⟨rfl,hb1⟩;rw [hm];have z_w1:=hb1.size;(try simp at z_w1);obtain ⟨yw1aa,cw1aa,fw1aa,rw1aa,tw1aa,pw1aa⟩:=bq hb1 (w.heap.size);obtain ⟨yw1ab,cw1ab,fw1ab,rw1ab,tw1ab,pw1ab⟩:=bq hb1 (w.heap.size+1)
  go_wp2
  exact bodyPost_row 3 #[.int .i64 0,.int .i64 0,.int .i64 0] rfl rfl rfl Tryz.underlying33 rfl (by kernel_rfl) (rc3 (by go_simp) (by go_simp) (by go_simp)) ⟨by rw [E.out,hm];rfl,below_by⟩
open Go.RowKit
theorem times_c (a b:Int) (ha:I64 a) (hb:I64 b) (w:World) :
  Calls Tryz.prog 87 #[.int .i64 a,.int .i64 b] w fun e w'=>e = .returned (.agg (WI.of (a*b)).cells)∧Below w.heap.size w w':=by
 have E:=Lib.hid (WI.of_mul (Sm.lim (Sm.of64 ha.1 ha.2) (by decide)) (Sm.lim (Sm.of64 hb.1 hb.2) (by decide)))
 have HA:=Lib.hid ha
 have HB:=Lib.hid hb
 clear ha hb
 go_enter Tryz.func87,Tryz.ntmps87
 go_wp2_with fail
 refine (of_c _ HA.out.1 HA.out.2 _).mono ?_;rintro e w1 ⟨rfl,hb1⟩;have z_w1:=hb1.size;(try simp at z_w1);obtain ⟨yw1aa,cw1aa,fw1aa,rw1aa,tw1aa,pw1aa⟩:=bq hb1 (w.heap.size)
 go_wp2_with fail
 refine (of_c _ HB.out.1 HB.out.2 _).mono ?_;rintro e w2 ⟨rfl,hb2⟩;have z_w2:=hb2.size;(try simp at z_w2);obtain ⟨yw2aa,cw2aa,fw2aa,rw2aa,tw2aa,pw2aa⟩:=bq hb2 (w.heap.size)
 go_wp2_with fail
 refine (mul_I _ _ _).mono ?_;rintro e w3 ⟨rfl,hb3⟩;have z_w3:=hb3.size;(try simp at z_w3);obtain ⟨yw3aa,cw3aa,fw3aa,rw3aa,tw3aa,pw3aa⟩:=bq hb3 (w.heap.size)
 go_wp2
 exact bodyPost_row 18 ((WI.of a).mul (WI.of b)).cells rfl rfl rfl Tryz.underlying153 rfl info_Int (by go_simp) ⟨by rw [E.out],below_by⟩
theorem det_c (x y z:WI) (w:World) :
  Calls Tryz.prog 149 #[.agg x.cells,.agg y.cells,.agg z.cells] w fun e w'=>e = .returned (.agg ((x.mul z).sub (y.mul y)).cells)∧Below w.heap.size w w':=by
 go_enter Tryz.func149,Tryz.ntmps149
 go_wp2_with fail
 go_region_held3 (fun w'=>w'.row? w.heap.size 0 18=some x.cells∧w'.row? (w.heap.size+1) 0 18=some y.cells∧w'.row? (w.heap.size+1+1) 0 18=some z.cells) (go_simp)
  (first
   | (go_at_call 153;refine (mul_I _ _ _).mono ?_;rintro e w1 ⟨rfl,hb1⟩;have z_w1:=hb1.size;(try simp at z_w1);obtain ⟨yw1aa,cw1aa,fw1aa,rw1aa,tw1aa,pw1aa⟩:=bq hb1 (w.heap.size);obtain ⟨yw1ab,cw1ab,fw1ab,rw1ab,tw1ab,pw1ab⟩:=bq hb1 (w.heap.size+1);obtain ⟨yw1ac,cw1ac,fw1ac,rw1ac,tw1ac,pw1ac⟩:=bq hb1 (w.heap.size+1+1);obtain ⟨yw1ad,cw1ad,fw1ad,rw1ad,tw1ad,pw1ad⟩:=bq hb1 (w.heap.size+1+1+1))
   | (go_at_call 85;refine (sub_I _ _ _).mono ?_;rintro e w2 ⟨rfl,hb2⟩;have z_w2:=hb2.size;(try simp at z_w2);obtain ⟨yw2aa,cw2aa,fw2aa,rw2aa,tw2aa,pw2aa⟩:=bq hb2 (w.heap.size);obtain ⟨yw2ab,cw2ab,fw2ab,rw2ab,tw2ab,pw2ab⟩:=bq hb2 (w.heap.size+1);obtain ⟨yw2ac,cw2ac,fw2ac,rw2ac,tw2ac,pw2ac⟩:=bq hb2 (w.heap.size+1+1);obtain ⟨yw2ad,cw2ad,fw2ad,rw2ad,tw2ad,pw2ad⟩:=bq hb2 (w.heap.size+1+1+1)))
 go_wp2
 exact bodyPost_row 18 ((x.mul z).sub (y.mul y)).cells rfl rfl rfl Tryz.underlying153 rfl info_Int (by go_simp) ⟨rfl,below_by⟩
def psdW (x y z:WI):Bool:=decide (0≤x.sign)&&decide (0≤z.sign)&&decide (0≤((x.mul z).sub (y.mul y)).sign)
theorem psd_c (x y z:WI) (w:World) :
  Calls Tryz.prog 88 #[.agg x.cells,.agg y.cells,.agg z.cells] w fun e w'=>e = .returned (.bool (psdW x y z))∧Below w.heap.size w w':=by
 have E:Hid (psdW x y z=(decide (0≤x.sign)&&decide (0≤z.sign)&&decide (0≤((x.mul z).sub (y.mul y)).sign))):=rfl
 by_cases h1:0≤x.sign
 ·by_cases h2:0≤z.sign
  ·go_enter Tryz.func88,Tryz.ntmps88
   go_wp2_with fail
   refine (sign_I _ _).mono ?_;rintro e w1 ⟨rfl,hb1⟩;have z_w1:=hb1.size;(try simp at z_w1);obtain ⟨yw1aa,cw1aa,fw1aa,rw1aa,tw1aa,pw1aa⟩:=bq hb1 (w.heap.size);obtain ⟨yw1ab,cw1ab,fw1ab,rw1ab,tw1ab,pw1ab⟩:=bq hb1 (w.heap.size+1);obtain ⟨yw1ac,cw1ac,fw1ac,rw1ac,tw1ac,pw1ac⟩:=bq hb1 (w.heap.size+1+1)
   go_wp2_with fail
   refine (sign_I _ _).mono ?_;rintro e w2 ⟨rfl,hb2⟩;have z_w2:=hb2.size;(try simp at z_w2);obtain ⟨yw2aa,cw2aa,fw2aa,rw2aa,tw2aa,pw2aa⟩:=bq hb2 (w.heap.size);obtain ⟨yw2ab,cw2ab,fw2ab,rw2ab,tw2ab,pw2ab⟩:=bq hb2 (w.heap.size+1);obtain ⟨yw2ac,cw2ac,fw2ac,rw2ac,tw2ac,pw2ac⟩:=bq hb2 (w.heap.size+1+1)
   go_wp2_with fail
   refine (det_c _ _ _ _).mono ?_;rintro e w3 ⟨rfl,hb3⟩;have z_w3:=hb3.size;(try simp at z_w3);obtain ⟨yw3aa,cw3aa,fw3aa,rw3aa,tw3aa,pw3aa⟩:=bq hb3 (w.heap.size);obtain ⟨yw3ab,cw3ab,fw3ab,rw3ab,tw3ab,pw3ab⟩:=bq hb3 (w.heap.size+1);obtain ⟨yw3ac,cw3ac,fw3ac,rw3ac,tw3ac,pw3ac⟩:=bq hb3 (w.heap.size+1+1)
   go_wp2_with fail
   refine (sign_I _ _).mono ?_;rintro e w4 ⟨rfl,hb4⟩;have z_w4:=hb4.size;(try simp at z_w4);obtain ⟨yw4aa,cw4aa,fw4aa,rw4aa,tw4aa,pw4aa⟩:=bq hb4 (w.heap.size);obtain ⟨yw4ab,cw4ab,fw4ab,rw4ab,tw4ab,pw4ab⟩:=bq hb4 (w.heap.size+1);obtain ⟨yw4ac,cw4ac,fw4ac,rw4ac,tw4ac,pw4ac⟩:=bq hb4 (w.heap.size+1+1)
   go_wp2
   go_ret
   exact ⟨by rw [E.out,decide_eq_true (show 0≤x.sign by omega),decide_eq_true (show 0≤z.sign by omega)];simp,below_by⟩
  ·go_enter Tryz.func88,Tryz.ntmps88
   go_wp2_with fail
   refine (sign_I _ _).mono ?_;rintro e w1 ⟨rfl,hb1⟩;have z_w1:=hb1.size;(try simp at z_w1);obtain ⟨yw1aa,cw1aa,fw1aa,rw1aa,tw1aa,pw1aa⟩:=bq hb1 (w.heap.size);obtain ⟨yw1ab,cw1ab,fw1ab,rw1ab,tw1ab,pw1ab⟩:=bq hb1 (w.heap.size+1);obtain ⟨yw1ac,cw1ac,fw1ac,rw1ac,tw1ac,pw1ac⟩:=bq hb1 (w.heap.size+1+1)
   go_wp2_with fail
   refine (sign_I _ _).mono ?_;rintro e w2 ⟨rfl,hb2⟩;have z_w2:=hb2.size;(try simp at z_w2);obtain ⟨yw2aa,cw2aa,fw2aa,rw2aa,tw2aa,pw2aa⟩:=bq hb2 (w.heap.size);obtain ⟨yw2ab,cw2ab,fw2ab,rw2ab,tw2ab,pw2ab⟩:=bq hb2 (w.heap.size+1);obtain ⟨yw2ac,cw2ac,fw2ac,rw2ac,tw2ac,pw2ac⟩:=bq hb2 (w.heap.size+1+1)
   go_wp2
   go_ret
   exact ⟨by rw [E.out,decide_eq_false (show ¬ 0≤z.sign by omega)];simp,below_by⟩
 ·go_enter Tryz.func88,Tryz.ntmps88
  go_wp2_with fail
  refine (sign_I _ _).mono ?_;rintro e w1 ⟨rfl,hb1⟩;have z_w1:=hb1.size;(try simp at z_w1);obtain ⟨yw1aa,cw1aa,fw1aa,rw1aa,tw1aa,pw1aa⟩:=bq hb1 (w.heap.size);obtain ⟨yw1ab,cw1ab,fw1ab,rw1ab,tw1ab,pw1ab⟩:=bq hb1 (w.heap.size+1);obtain ⟨yw1ac,cw1ac,fw1ac,rw1ac,tw1ac,pw1ac⟩:=bq hb1 (w.heap.size+1+1)
  go_wp2
  go_ret
  exact ⟨by rw [E.out,decide_eq_false (show ¬ 0≤x.sign by omega)];simp,below_by⟩
theorem of_both (a b d:Int) (ha:Sm 127 a) (hb:Sm 127 b) (hd:Sm 127 d):((WI.of a).mul (WI.of d)).sub ((WI.of b).mul (WI.of b))=WI.of (a*d-b*b):=by
 rw [WI.of_mul (ha.lim (by decide)) (hd.lim (by decide)),WI.of_mul (hb.lim (by decide)) (hb.lim (by decide)),WI.of_sub ((ha.mul hd).lim (by decide)) ((hb.mul hb).lim (by decide))]
def psdB (a b d:Int):Bool:=decide (0≤a)&&decide (0≤d)&&decide (0≤a*d-b*b)
theorem psdW_of (a b d:Int) (ha:Sm 127 a) (hb:Sm 127 b) (hd:Sm 127 d):psdW (WI.of a) (WI.of b) (WI.of d)=psdB a b d:=by
 unfold psdW psdB
 rw [of_both a b d ha hb hd,WI.of_sign (ha.lim (by decide)),WI.of_sign (hd.lim (by decide)),WI.of_sign (((ha.mul hd).sub (hb.mul hb)).lim (by decide))]
 simp only [Int.sign_nonneg_iff]
theorem I64.sm {a:Int} (h:I64 a):Sm 127 a:=(Sm.of64 h.1 h.2).mono (by decide)
theorem matdet_c (a b d:Int) (ha:I64 a) (hb:I64 b) (hd:I64 d) (w:World) :
  Calls Tryz.prog 78 #[symV a b d] w fun e w'=>e = .returned (.agg (WI.of (a*d-b*b)).cells)∧Below w.heap.size w w':=by
 have E:=Lib.hid (of_both a b d ha.sm hb.sm hd.sm)
 have HA:=Lib.hid ha
 have HB:=Lib.hid hb
 have HD:=Lib.hid hd
 clear ha hb hd
 go_enter Tryz.func78,Tryz.ntmps78
 go_wp2_with fail
 go_region_held3 (fun w'=>w'.cell? ⟨w.heap.size,0,none⟩=some (.int .i64 a)∧w'.cell? ⟨w.heap.size,1,none⟩=some (.int .i64 b)∧w'.cell? ⟨w.heap.size,2,none⟩=some (.int .i64 d)) (go_simp)
  (first
   | (go_at_call 86;refine (of_c _ (by first|exact HA.out.1|exact HB.out.1|exact HD.out.1) (by first|exact HA.out.2|exact HB.out.2|exact HD.out.2) _).mono ?_;rintro e w1 ⟨rfl,hb1⟩;have z_w1:=hb1.size;(try simp at z_w1);obtain ⟨yw1aa,cw1aa,fw1aa,rw1aa,tw1aa,pw1aa⟩:=bq hb1 (w.heap.size);obtain ⟨yw1ab,cw1ab,fw1ab,rw1ab,tw1ab,pw1ab⟩:=bq hb1 (w.heap.size+1))
   | (go_at_call 149;refine (det_c _ _ _ _).mono ?_;rintro e w2 ⟨rfl,hb2⟩;have z_w2:=hb2.size;(try simp at z_w2);obtain ⟨yw2aa,cw2aa,fw2aa,rw2aa,tw2aa,pw2aa⟩:=bq hb2 (w.heap.size);obtain ⟨yw2ab,cw2ab,fw2ab,rw2ab,tw2ab,pw2ab⟩:=bq hb2 (w.heap.size+1)))
 go_wp2
 exact bodyPost_row 18 (((WI.of a).mul (WI.of d)).sub ((WI.of b).mul (WI.of b))).cells rfl rfl rfl Tryz.underlying153 rfl info_Int (by go_simp) ⟨by rw [E.out],below_by⟩
open Go.RowKit
theorem quad_eq (a b d x y:Int) (ha:I64 a) (hb:I64 b) (hd:I64 d) (hx:I64 x) (hy:I64 y) :
  (((WI.of a).mul (WI.of (x*x))).add ((WI.of d).mul (WI.of (y*y)))).add (((WI.of b).mul (WI.of (x*y))).add ((WI.of b).mul (WI.of (x*y))))=WI.of (a*(x*x)+d*(y*y)+(b*(x*y)+b*(x*y))):=by
 have A:=Sm.of64 ha.1 ha.2
 have B:=Sm.of64 hb.1 hb.2
 have D:=Sm.of64 hd.1 hd.2
 have X:=Sm.of64 hx.1 hx.2
 have Y:=Sm.of64 hy.1 hy.2
 rw [WI.of_mul (A.lim (by decide)) ((X.mul X).lim (by decide)),WI.of_mul (D.lim (by decide)) ((Y.mul Y).lim (by decide)),WI.of_mul (B.lim (by decide)) ((X.mul Y).lim (by decide)),
  WI.of_add ((A.mul (X.mul X)).lim (by decide)) ((D.mul (Y.mul Y)).lim (by decide)),WI.of_add ((B.mul (X.mul Y)).lim (by decide)) ((B.mul (X.mul Y)).lim (by decide)),
  WI.of_add (((A.mul (X.mul X)).add (D.mul (Y.mul Y))).lim (by decide)) (((B.mul (X.mul Y)).add (B.mul (X.mul Y))).lim (by decide))]
theorem quad_c (a b d x y:Int) (ha:I64 a) (hb:I64 b) (hd:I64 d) (hx:I64 x) (hy:I64 y) (w:World) :
  Calls Tryz.prog 211 #[symV a b d,ptV x y] w fun e w'=>e = .returned (.agg (WI.of (a*(x*x)+d*(y*y)+(b*(x*y)+b*(x*y)))).cells)∧Below w.heap.size w w':=by
 have E:=Lib.hid (quad_eq a b d x y ha hb hd hx hy)
 have HA:=Lib.hid ha
 have HB:=Lib.hid hb
 have HD:=Lib.hid hd
 have HX:=Lib.hid hx
 have HY:=Lib.hid hy
 clear ha hb hd hx hy
 go_enter Tryz.func211,Tryz.ntmps211
 go_wp2_with fail
 go_cut [5] from 8 (fun s5 wc=>∃ g,s5 = .pointer (some ⟨g,0,none⟩)∧w.heap.size+1+1+1≤g∧g<wc.heap.size∧wc.row? g 0 18=some ((WI.of a).mul (WI.of (x*x))).cells∧wc.fits (w.heap.size+1+1) 18=true ∧
  wc.cell? ⟨w.heap.size,0,none⟩=some (.int .i64 a)∧wc.cell? ⟨w.heap.size,1,none⟩=some (.int .i64 b)∧wc.cell? ⟨w.heap.size,2,none⟩=some (.int .i64 d) ∧
  wc.cell? ⟨w.heap.size+1,0,none⟩=some (.int .i64 x)∧wc.cell? ⟨w.heap.size+1,1,none⟩=some (.int .i64 y)∧Hid (Below w.heap.size w wc))
 case first =>
  go_region_held3 (fun w'=>w'.cell? ⟨w.heap.size,0,none⟩=some (.int .i64 a)∧w'.cell? ⟨w.heap.size+1,0,none⟩=some (.int .i64 x)) (go_simp)
   (first
    | (go_at_call 86;refine (of_c _ HA.out.1 HA.out.2 _).mono ?_;rintro e w1 ⟨rfl,hb1⟩;have z_w1:=hb1.size;(try simp at z_w1);obtain ⟨yw1aa,cw1aa,fw1aa,rw1aa,tw1aa,pw1aa⟩:=bq hb1 (w.heap.size);obtain ⟨yw1ab,cw1ab,fw1ab,rw1ab,tw1ab,pw1ab⟩:=bq hb1 (w.heap.size+1);obtain ⟨yw1ac,cw1ac,fw1ac,rw1ac,tw1ac,pw1ac⟩:=bq hb1 (w.heap.size+1+1);(try (refine with_imp (bk hb1 (w.heap.size+1+1+1)) ?_ ?_;(focus (first|omega|(simp;done)|(simp;omega)));rintro ⟨y_w1_q1,c_w1_q1,f_w1_q1,r_w1_q1,t_w1_q1,p_w1_q1⟩)))
    | (go_at_call 87;refine (times_c _ _ HX.out HX.out _).mono ?_;rintro e w2 ⟨rfl,hb2⟩;have z_w2:=hb2.size;(try simp at z_w2);obtain ⟨yw2aa,cw2aa,fw2aa,rw2aa,tw2aa,pw2aa⟩:=bq hb2 (w.heap.size);obtain ⟨yw2ab,cw2ab,fw2ab,rw2ab,tw2ab,pw2ab⟩:=bq hb2 (w.heap.size+1);obtain ⟨yw2ac,cw2ac,fw2ac,rw2ac,tw2ac,pw2ac⟩:=bq hb2 (w.heap.size+1+1);(try (refine with_imp (bk hb2 (w.heap.size+1+1+1)) ?_ ?_;(focus (first|omega|(simp;done)|(simp;omega)));rintro ⟨y_w2_q1,c_w2_q1,f_w2_q1,r_w2_q1,t_w2_q1,p_w2_q1⟩));(try (refine with_imp (bk hb2 (w1.heap.size)) ?_ ?_;(focus (first|omega|(simp;done)|(simp;omega)));rintro ⟨y_w2_q2,c_w2_q2,f_w2_q2,r_w2_q2,t_w2_q2,p_w2_q2⟩;have n0_w2_q2:¬ (w.heap.size=w1.heap.size):=(by omega);have n1_w2_q2:¬ (w.heap.size+1=w1.heap.size):=(by omega);have n2_w2_q2:¬ (w.heap.size+1+1=w1.heap.size):=(by omega))))
    | (go_at_call 153;refine (mul_I _ _ _).mono ?_;rintro e w3 ⟨rfl,hb3⟩;have z_w3:=hb3.size;(try simp at z_w3);obtain ⟨yw3aa,cw3aa,fw3aa,rw3aa,tw3aa,pw3aa⟩:=bq hb3 (w.heap.size);obtain ⟨yw3ab,cw3ab,fw3ab,rw3ab,tw3ab,pw3ab⟩:=bq hb3 (w.heap.size+1);obtain ⟨yw3ac,cw3ac,fw3ac,rw3ac,tw3ac,pw3ac⟩:=bq hb3 (w.heap.size+1+1);(try (refine with_imp (bk hb3 (w.heap.size+1+1+1)) ?_ ?_;(focus (first|omega|(simp;done)|(simp;omega)));rintro ⟨y_w3_q1,c_w3_q1,f_w3_q1,r_w3_q1,t_w3_q1,p_w3_q1⟩));(try (refine with_imp (bk hb3 (w1.heap.size)) ?_ ?_;(focus (first|omega|(simp;done)|(simp;omega)));rintro ⟨y_w3_q2,c_w3_q2,f_w3_q2,r_w3_q2,t_w3_q2,p_w3_q2⟩;have n0_w3_q2:¬ (w.heap.size=w1.heap.size):=(by omega);have n1_w3_q2:¬ (w.heap.size+1=w1.heap.size):=(by omega);have n2_w3_q2:¬ (w.heap.size+1+1=w1.heap.size):=(by omega)));(try (refine with_imp (bk hb3 (w2.heap.size)) ?_ ?_;(focus (first|omega|(simp;done)|(simp;omega)));rintro ⟨y_w3_q3,c_w3_q3,f_w3_q3,r_w3_q3,t_w3_q3,p_w3_q3⟩;have n0_w3_q3:¬ (w.heap.size=w2.heap.size):=(by omega);have n1_w3_q3:¬ (w.heap.size+1=w2.heap.size):=(by omega);have n2_w3_q3:¬ (w.heap.size+1+1=w2.heap.size):=(by omega)))))
  all_goals go_wp2_with fail
  all_goals go_meet
  all_goals exact ⟨_,rfl,(by first|omega|(simp;done)|(simp;omega)|fail),(by first|omega|(simp;done)|(simp;omega)|fail),(by go_simp),(by go_simp),(by go_simp),(by go_simp),(by go_simp),(by go_simp),(by go_simp),below_by⟩
 case rest =>
  obtain ⟨g,rfl,hg1,hg2,hgr,hf,c0,c1,c2,c3,c4,HBL⟩:=hcut
  have y0:w.heap.size<wc.heap.size:=by omega
  have y1:w.heap.size+1<wc.heap.size:=by omega
  have y2:w.heap.size+1+1<wc.heap.size:=by omega
  go_wp2_with fail
  go_cut [6] from 8 (fun s6 wc=>∃ h,s6 = .pointer (some ⟨h,0,none⟩)∧w.heap.size+1+1+1≤h∧h<wc.heap.size∧wc.row? h 0 18=some ((WI.of d).mul (WI.of (y*y))).cells∧g<wc.heap.size∧wc.row? g 0 18=some ((WI.of a).mul (WI.of (x*x))).cells∧wc.fits (w.heap.size+1+1) 18=true ∧
   wc.cell? ⟨w.heap.size,1,none⟩=some (.int .i64 b) ∧
   wc.cell? ⟨w.heap.size+1,0,none⟩=some (.int .i64 x)∧wc.cell? ⟨w.heap.size+1,1,none⟩=some (.int .i64 y)∧Hid (Below w.heap.size w wc))
  case first =>
   go_region_held3 (fun w'=>w'.cell? ⟨w.heap.size,2,none⟩=some (.int .i64 d)∧w'.cell? ⟨w.heap.size+1,1,none⟩=some (.int .i64 y)) (go_simp)
    (first
     | (go_at_call 86;refine (of_c _ HD.out.1 HD.out.2 _).mono ?_;rintro e w1 ⟨rfl,hb1⟩;have z_w1:=hb1.size;(try simp at z_w1);obtain ⟨yw1aa,cw1aa,fw1aa,rw1aa,tw1aa,pw1aa⟩:=bq hb1 (w.heap.size);obtain ⟨yw1ab,cw1ab,fw1ab,rw1ab,tw1ab,pw1ab⟩:=bq hb1 (w.heap.size+1);obtain ⟨yw1ac,cw1ac,fw1ac,rw1ac,tw1ac,pw1ac⟩:=bq hb1 (w.heap.size+1+1);obtain ⟨y_w1_g,c_w1_g,f_w1_g,r_w1_g,t_w1_g,p_w1_g⟩:=bq hb1 (g);(try (refine with_imp (bk hb1 (wc.heap.size)) ?_ ?_;(focus (first|omega|(simp;done)|(simp;omega)));rintro ⟨y_w1_q2,c_w1_q2,f_w1_q2,r_w1_q2,t_w1_q2,p_w1_q2⟩;have ngg_w1_q2:¬ (g=wc.heap.size):=(by omega);have n0_w1_q2:¬ (w.heap.size=wc.heap.size):=(by omega);have n1_w1_q2:¬ (w.heap.size+1=wc.heap.size):=(by omega);have n2_w1_q2:¬ (w.heap.size+1+1=wc.heap.size):=(by omega))))
     | (go_at_call 87;refine (times_c _ _ HY.out HY.out _).mono ?_;rintro e w2 ⟨rfl,hb2⟩;have z_w2:=hb2.size;(try simp at z_w2);obtain ⟨yw2aa,cw2aa,fw2aa,rw2aa,tw2aa,pw2aa⟩:=bq hb2 (w.heap.size);obtain ⟨yw2ab,cw2ab,fw2ab,rw2ab,tw2ab,pw2ab⟩:=bq hb2 (w.heap.size+1);obtain ⟨yw2ac,cw2ac,fw2ac,rw2ac,tw2ac,pw2ac⟩:=bq hb2 (w.heap.size+1+1);obtain ⟨y_w2_g,c_w2_g,f_w2_g,r_w2_g,t_w2_g,p_w2_g⟩:=bq hb2 (g);(try (refine with_imp (bk hb2 (wc.heap.size)) ?_ ?_;(focus (first|omega|(simp;done)|(simp;omega)));rintro ⟨y_w2_q2,c_w2_q2,f_w2_q2,r_w2_q2,t_w2_q2,p_w2_q2⟩;have ngg_w2_q2:¬ (g=wc.heap.size):=(by omega);have n0_w2_q2:¬ (w.heap.size=wc.heap.size):=(by omega);have n1_w2_q2:¬ (w.heap.size+1=wc.heap.size):=(by omega);have n2_w2_q2:¬ (w.heap.size+1+1=wc.heap.size):=(by omega)));(try (refine with_imp (bk hb2 (w1.heap.size)) ?_ ?_;(focus (first|omega|(simp;done)|(simp;omega)));rintro ⟨y_w2_q3,c_w2_q3,f_w2_q3,r_w2_q3,t_w2_q3,p_w2_q3⟩;have ngg_w2_q3:¬ (g=w1.heap.size):=(by omega);have n0_w2_q3:¬ (w.heap.size=w1.heap.size):=(by omega);have n1_w2_q3:¬ (w.heap.size+1=w1.heap.size):=(by omega);have n2_w2_q3:¬ (w.heap.size+1+1=w1.heap.size):=(by omega))))
     | (go_at_call 153;refine (mul_I _ _ _).mono ?_;rintro e w3 ⟨rfl,hb3⟩;have z_w3:=hb3.size;(try simp at z_w3);obtain ⟨yw3aa,cw3aa,fw3aa,rw3aa,tw3aa,pw3aa⟩:=bq hb3 (w.heap.size);obtain ⟨yw3ab,cw3ab,fw3ab,rw3ab,tw3ab,pw3ab⟩:=bq hb3 (w.heap.size+1);obtain ⟨yw3ac,cw3ac,fw3ac,rw3ac,tw3ac,pw3ac⟩:=bq hb3 (w.heap.size+1+1);obtain ⟨y_w3_g,c_w3_g,f_w3_g,r_w3_g,t_w3_g,p_w3_g⟩:=bq hb3 (g);(try (refine with_imp (bk hb3 (wc.heap.size)) ?_ ?_;(focus (first|omega|(simp;done)|(simp;omega)));rintro ⟨y_w3_q2,c_w3_q2,f_w3_q2,r_w3_q2,t_w3_q2,p_w3_q2⟩;have ngg_w3_q2:¬ (g=wc.heap.size):=(by omega);have n0_w3_q2:¬ (w.heap.size=wc.heap.size):=(by omega);have n1_w3_q2:¬ (w.heap.size+1=wc.heap.size):=(by omega);have n2_w3_q2:¬ (w.heap.size+1+1=wc.heap.size):=(by omega)));(try (refine with_imp (bk hb3 (w1.heap.size)) ?_ ?_;(focus (first|omega|(simp;done)|(simp;omega)));rintro ⟨y_w3_q3,c_w3_q3,f_w3_q3,r_w3_q3,t_w3_q3,p_w3_q3⟩;have ngg_w3_q3:¬ (g=w1.heap.size):=(by omega);have n0_w3_q3:¬ (w.heap.size=w1.heap.size):=(by omega);have n1_w3_q3:¬ (w.heap.size+1=w1.heap.size):=(by omega);have n2_w3_q3:¬ (w.heap.size+1+1=w1.heap.size):=(by omega)));(try (refine with_imp (bk hb3 (w2.heap.size)) ?_ ?_;(focus (first|omega|(simp;done)|(simp;omega)));rintro ⟨y_w3_q4,c_w3_q4,f_w3_q4,r_w3_q4,t_w3_q4,p_w3_q4⟩;have ngg_w3_q4:¬ (g=w2.heap.size):=(by omega);have n0_w3_q4:¬ (w.heap.size=w2.heap.size):=(by omega);have n1_w3_q4:¬ (w.heap.size+1=w2.heap.size):=(by omega);have n2_w3_q4:¬ (w.heap.size+1+1=w2.heap.size):=(by omega)))))
   all_goals go_wp2_with fail
   all_goals go_meet
   all_goals exact ⟨_,rfl,(by first|omega|(simp;done)|(simp;omega)|fail),(by first|omega|(simp;done)|(simp;omega)|fail),(by go_simp),(by first|omega|(simp;done)|(simp;omega)|fail),(by go_simp),(by go_simp),(by go_simp),(by go_simp),(by go_simp),below_by⟩
  case rest =>
   obtain ⟨h,rfl,hh1,hh2,hhr,hg3,hgr,hf,c1,c3,c4,HBL⟩:=hcut
   have y0:w.heap.size<wc.heap.size:=by omega
   have y1:w.heap.size+1<wc.heap.size:=by omega
   have y2:w.heap.size+1+1<wc.heap.size:=by omega
   go_wp2_with fail
   go_cut [7] from 8 (fun s7 wc=>∃ j,s7 = .pointer (some ⟨j,0,none⟩)∧w.heap.size+1+1+1≤j∧j<wc.heap.size∧wc.row? j 0 18=some ((WI.of b).mul (WI.of (x*y))).cells ∧
    h<wc.heap.size∧wc.row? h 0 18=some ((WI.of d).mul (WI.of (y*y))).cells∧g<wc.heap.size∧wc.row? g 0 18=some ((WI.of a).mul (WI.of (x*x))).cells∧wc.fits (w.heap.size+1+1) 18=true∧Hid (Below w.heap.size w wc))
   case first =>
    go_region_held3 (fun w'=>w'.cell? ⟨w.heap.size,1,none⟩=some (.int .i64 b)∧w'.cell? ⟨w.heap.size+1,0,none⟩=some (.int .i64 x)∧w'.cell? ⟨w.heap.size+1,1,none⟩=some (.int .i64 y)) (go_simp)
     (first
      | (go_at_call 86;refine (of_c _ HB.out.1 HB.out.2 _).mono ?_;rintro e w1 ⟨rfl,hb1⟩;have z_w1:=hb1.size;(try simp at z_w1);obtain ⟨yw1aa,cw1aa,fw1aa,rw1aa,tw1aa,pw1aa⟩:=bq hb1 (w.heap.size);obtain ⟨yw1ab,cw1ab,fw1ab,rw1ab,tw1ab,pw1ab⟩:=bq hb1 (w.heap.size+1);obtain ⟨yw1ac,cw1ac,fw1ac,rw1ac,tw1ac,pw1ac⟩:=bq hb1 (w.heap.size+1+1);obtain ⟨y_w1_g,c_w1_g,f_w1_g,r_w1_g,t_w1_g,p_w1_g⟩:=bq hb1 (g);obtain ⟨y_w1_h,c_w1_h,f_w1_h,r_w1_h,t_w1_h,p_w1_h⟩:=bq hb1 (h);(try (refine with_imp (bk hb1 (wc.heap.size)) ?_ ?_;(focus (first|omega|(simp;done)|(simp;omega)));rintro ⟨y_w1_q3,c_w1_q3,f_w1_q3,r_w1_q3,t_w1_q3,p_w1_q3⟩;have ngg_w1_q3:¬ (g=wc.heap.size):=(by omega);have ngh_w1_q3:¬ (h=wc.heap.size):=(by omega);have n0_w1_q3:¬ (w.heap.size=wc.heap.size):=(by omega);have n1_w1_q3:¬ (w.heap.size+1=wc.heap.size):=(by omega);have n2_w1_q3:¬ (w.heap.size+1+1=wc.heap.size):=(by omega))))
      | (go_at_call 87;refine (times_c _ _ HX.out HY.out _).mono ?_;rintro e w2 ⟨rfl,hb2⟩;have z_w2:=hb2.size;(try simp at z_w2);obtain ⟨yw2aa,cw2aa,fw2aa,rw2aa,tw2aa,pw2aa⟩:=bq hb2 (w.heap.size);obtain ⟨yw2ab,cw2ab,fw2ab,rw2ab,tw2ab,pw2ab⟩:=bq hb2 (w.heap.size+1);obtain ⟨yw2ac,cw2ac,fw2ac,rw2ac,tw2ac,pw2ac⟩:=bq hb2 (w.heap.size+1+1);obtain ⟨y_w2_g,c_w2_g,f_w2_g,r_w2_g,t_w2_g,p_w2_g⟩:=bq hb2 (g);obtain ⟨y_w2_h,c_w2_h,f_w2_h,r_w2_h,t_w2_h,p_w2_h⟩:=bq hb2 (h);(try (refine with_imp (bk hb2 (wc.heap.size)) ?_ ?_;(focus (first|omega|(simp;done)|(simp;omega)));rintro ⟨y_w2_q3,c_w2_q3,f_w2_q3,r_w2_q3,t_w2_q3,p_w2_q3⟩;have ngg_w2_q3:¬ (g=wc.heap.size):=(by omega);have ngh_w2_q3:¬ (h=wc.heap.size):=(by omega);have n0_w2_q3:¬ (w.heap.size=wc.heap.size):=(by omega);have n1_w2_q3:¬ (w.heap.size+1=wc.heap.size):=(by omega);have n2_w2_q3:¬ (w.heap.size+1+1=wc.heap.size):=(by omega)));(try (refine with_imp (bk hb2 (w1.heap.size)) ?_ ?_;(focus (first|omega|(simp;done)|(simp;omega)));rintro ⟨y_w2_q4,c_w2_q4,f_w2_q4,r_w2_q4,t_w2_q4,p_w2_q4⟩;have ngg_w2_q4:¬ (g=w1.heap.size):=(by omega);have ngh_w2_q4:¬ (h=w1.heap.size):=(by omega);have n0_w2_q4:¬ (w.heap.size=w1.heap.size):=(by omega);have n1_w2_q4:¬ (w.heap.size+1=w1.heap.size):=(by omega);have n2_w2_q4:¬ (w.heap.size+1+1=w1.heap.size):=(by omega))))
      | (go_at_call 153;refine (mul_I _ _ _).mono ?_;rintro e w3 ⟨rfl,hb3⟩;have z_w3:=hb3.size;(try simp at z_w3);obtain ⟨yw3aa,cw3aa,fw3aa,rw3aa,tw3aa,pw3aa⟩:=bq hb3 (w.heap.size);obtain ⟨yw3ab,cw3ab,fw3ab,rw3ab,tw3ab,pw3ab⟩:=bq hb3 (w.heap.size+1);obtain ⟨yw3ac,cw3ac,fw3ac,rw3ac,tw3ac,pw3ac⟩:=bq hb3 (w.heap.size+1+1);obtain ⟨y_w3_g,c_w3_g,f_w3_g,r_w3_g,t_w3_g,p_w3_g⟩:=bq hb3 (g);obtain ⟨y_w3_h,c_w3_h,f_w3_h,r_w3_h,t_w3_h,p_w3_h⟩:=bq hb3 (h);(try (refine with_imp (bk hb3 (wc.heap.size)) ?_ ?_;(focus (first|omega|(simp;done)|(simp;omega)));rintro ⟨y_w3_q3,c_w3_q3,f_w3_q3,r_w3_q3,t_w3_q3,p_w3_q3⟩;have ngg_w3_q3:¬ (g=wc.heap.size):=(by omega);have ngh_w3_q3:¬ (h=wc.heap.size):=(by omega);have n0_w3_q3:¬ (w.heap.size=wc.heap.size):=(by omega);have n1_w3_q3:¬ (w.heap.size+1=wc.heap.size):=(by omega);have n2_w3_q3:¬ (w.heap.size+1+1=wc.heap.size):=(by omega)));(try (refine with_imp (bk hb3 (w1.heap.size)) ?_ ?_;(focus (first|omega|(simp;done)|(simp;omega)));rintro ⟨y_w3_q4,c_w3_q4,f_w3_q4,r_w3_q4,t_w3_q4,p_w3_q4⟩;have ngg_w3_q4:¬ (g=w1.heap.size):=(by omega);have ngh_w3_q4:¬ (h=w1.heap.size):=(by omega);have n0_w3_q4:¬ (w.heap.size=w1.heap.size):=(by omega);have n1_w3_q4:¬ (w.heap.size+1=w1.heap.size):=(by omega);have n2_w3_q4:¬ (w.heap.size+1+1=w1.heap.size):=(by omega)));(try (refine with_imp (bk hb3 (w2.heap.size)) ?_ ?_;(focus (first|omega|(simp;done)|(simp;omega)));rintro ⟨y_w3_q5,c_w3_q5,f_w3_q5,r_w3_q5,t_w3_q5,p_w3_q5⟩;have ngg_w3_q5:¬ (g=w2.heap.size):=(by omega);have ngh_w3_q5:¬ (h=w2.heap.size):=(by omega);have n0_w3_q5:¬ (w.heap.size=w2.heap.size):=(by omega);have n1_w3_q5:¬ (w.heap.size+1=w2.heap.size):=(by omega);have n2_w3_q5:¬ (w.heap.size+1+1=w2.heap.size):=(by omega)))))
    all_goals go_wp2_with fail
    all_goals go_meet
    all_goals exact ⟨_,rfl,(by first|omega|(simp;done)|(simp;omega)|fail),(by first|omega|(simp;done)|(simp;omega)|fail),(by go_simp),(by first|omega|(simp;done)|(simp;omega)|fail),(by go_simp),(by first|omega|(simp;done)|(simp;omega)|fail),(by go_simp),(by go_simp),below_by⟩
   case rest =>
    obtain ⟨j,rfl,hj1,hj2,hjr,hh3,hhr,hg4,hgr,hf,HBL⟩:=hcut
    have y0:w.heap.size<wc.heap.size:=by omega
    have y1:w.heap.size+1<wc.heap.size:=by omega
    have y2:w.heap.size+1+1<wc.heap.size:=by omega
    go_wp2_with fail
    go_region_held3 (fun w'=>w'.row? g 0 18=some ((WI.of a).mul (WI.of (x*x))).cells∧w'.row? h 0 18=some ((WI.of d).mul (WI.of (y*y))).cells∧w'.row? j 0 18=some ((WI.of b).mul (WI.of (x*y))).cells) (go_simp)
     (first
      | (go_at_call 155;refine (add_I _ _ _).mono ?_;rintro e w1 ⟨rfl,hb1⟩;have z_w1:=hb1.size;(try simp at z_w1);obtain ⟨yw1aa,cw1aa,fw1aa,rw1aa,tw1aa,pw1aa⟩:=bq hb1 (w.heap.size);obtain ⟨yw1ab,cw1ab,fw1ab,rw1ab,tw1ab,pw1ab⟩:=bq hb1 (w.heap.size+1);obtain ⟨yw1ac,cw1ac,fw1ac,rw1ac,tw1ac,pw1ac⟩:=bq hb1 (w.heap.size+1+1);obtain ⟨y_w1_g,c_w1_g,f_w1_g,r_w1_g,t_w1_g,p_w1_g⟩:=bq hb1 (g);obtain ⟨y_w1_h,c_w1_h,f_w1_h,r_w1_h,t_w1_h,p_w1_h⟩:=bq hb1 (h);obtain ⟨y_w1_j,c_w1_j,f_w1_j,r_w1_j,t_w1_j,p_w1_j⟩:=bq hb1 (j);have k1:¬ (g=w.heap.size+1+1):=(by omega);have k2:¬ (h=w.heap.size+1+1):=(by omega);have k3:¬ (j=w.heap.size+1+1):=(by omega)))
    go_wp2
    exact bodyPost_row 18 ((((WI.of a).mul (WI.of (x*x))).add ((WI.of d).mul (WI.of (y*y)))).add (((WI.of b).mul (WI.of (x*y))).add ((WI.of b).mul (WI.of (x*y))))).cells rfl rfl rfl Tryz.underlying153 rfl info_Int (by go_simp) ⟨by rw [E.out],below_by⟩
open Go.RowKit
theorem less_eq (n x y:Int) (hn:I64 n) (hx:I64 x) (hy:I64 y):(WI.of n).sub (WI.of (x*y))=WI.of (n-x*y) :=
 WI.of_sub ((Sm.of64 hn.1 hn.2).lim (by decide)) (((Sm.of64 hx.1 hx.2).mul (Sm.of64 hy.1 hy.2)).lim (by decide))
theorem less_sm (n x y:Int) (hn:I64 n) (hx:I64 x) (hy:I64 y):Sm 127 (n-x*y) :=
 Sm.sub ((Sm.of64 hn.1 hn.2).mono (by decide)) ((Sm.of64 hx.1 hx.2).mul (Sm.of64 hy.1 hy.2))
theorem less_c (n x y:Int) (hn:I64 n) (hx:I64 x) (hy:I64 y) (w:World) :
  Calls Tryz.prog 84 #[.int .i64 n,.int .i64 x,.int .i64 y] w fun e w'=>e = .returned (.agg (WI.of (n-x*y)).cells)∧Below w.heap.size w w':=by
 have E:=Lib.hid (less_eq n x y hn hx hy)
 have HN:=Lib.hid hn
 have HX:=Lib.hid hx
 have HY:=Lib.hid hy
 clear hn hx hy
 go_enter Tryz.func84,Tryz.ntmps84
 go_wp2_with fail
 refine (of_c _ HN.out.1 HN.out.2 _).mono ?_;rintro e w1 ⟨rfl,hb1⟩;have z_w1:=hb1.size;(try simp at z_w1);obtain ⟨yw1aa,cw1aa,fw1aa,rw1aa,tw1aa,pw1aa⟩:=bq hb1 (w.heap.size)
 go_wp2_with fail
 refine (times_c _ _ HX.out HY.out _).mono ?_;rintro e w2 ⟨rfl,hb2⟩;have z_w2:=hb2.size;(try simp at z_w2);obtain ⟨yw2aa,cw2aa,fw2aa,rw2aa,tw2aa,pw2aa⟩:=bq hb2 (w.heap.size)
 go_wp2_with fail
 refine (sub_I _ _ _).mono ?_;rintro e w3 ⟨rfl,hb3⟩;have z_w3:=hb3.size;(try simp at z_w3);obtain ⟨yw3aa,cw3aa,fw3aa,rw3aa,tw3aa,pw3aa⟩:=bq hb3 (w.heap.size)
 go_wp2
 exact bodyPost_row 18 ((WI.of n).sub (WI.of (x*y))).cells rfl rfl rfl Tryz.underlying153 rfl info_Int (by go_simp) ⟨by rw [E.out],below_by⟩
def holdsB (a b d x y:Int):Bool:=psdB (a-x*x) (b-x*y) (d-y*y)
theorem holds_c (a b d x y:Int) (ha:I64 a) (hb:I64 b) (hd:I64 d) (hx:I64 x) (hy:I64 y) (w:World) :
  Calls Tryz.prog 38 #[symV a b d,ptV x y] w fun e w'=>e = .returned (.bool (holdsB a b d x y))∧Below w.heap.size w w':=by
 have E:Hid (psdW (WI.of (a-x*x)) (WI.of (b-x*y)) (WI.of (d-y*y))=holdsB a b d x y):=psdW_of _ _ _ (less_sm _ _ _ ha hx hx) (less_sm _ _ _ hb hx hy) (less_sm _ _ _ hd hy hy)
 have HA:=Lib.hid ha
 have HB:=Lib.hid hb
 have HD:=Lib.hid hd
 have HX:=Lib.hid hx
 have HY:=Lib.hid hy
 clear ha hb hd hx hy
 go_enter Tryz.func38,Tryz.ntmps38
 go_wp2_with fail
 go_region_held3 (fun w' => w'.cell? ⟨w.heap.size, 0, none⟩ = some (.int .i64 a) ∧ w'.cell? ⟨w.heap.size, 1, none⟩ = some (.int .i64 b) ∧ w'.cell? ⟨w.heap.size, 2, none⟩ = some (.int .i64 d) ∧
     w'.cell? ⟨w.heap.size+1,0,none⟩=some (.int .i64 x)∧w'.cell? ⟨w.heap.size+1,1,none⟩=some (.int .i64 y)) (go_simp)
  (first
   | (go_at_call 84;refine (less_c _ _ _ (by first|exact HA.out|exact HB.out|exact HD.out) (by first|exact HX.out|exact HY.out) (by first|exact HX.out|exact HY.out) _).mono ?_;rintro e w1 ⟨rfl,hb1⟩;have z_w1:=hb1.size;(try simp at z_w1);obtain ⟨yw1aa,cw1aa,fw1aa,rw1aa,tw1aa,pw1aa⟩:=bq hb1 (w.heap.size);obtain ⟨yw1ab,cw1ab,fw1ab,rw1ab,tw1ab,pw1ab⟩:=bq hb1 (w.heap.size+1))
   | (go_at_call 88;refine (psd_c _ _ _ _).mono ?_;rintro e w2 ⟨rfl,hb2⟩;have z_w2:=hb2.size;(try simp at z_w2);obtain ⟨yw2aa,cw2aa,fw2aa,rw2aa,tw2aa,pw2aa⟩:=bq hb2 (w.heap.size);obtain ⟨yw2ab,cw2ab,fw2ab,rw2ab,tw2ab,pw2ab⟩:=bq hb2 (w.heap.size+1)))
 go_wp2
 go_ret
 exact ⟨by rw [← E.out];rfl,below_by⟩
theorem psdB_iff (a b d:Int):psdB a b d=true↔0≤a∧0≤d∧0≤a*d-b*b:=by
 unfold psdB;simp [and_assoc]
theorem int_sq_nonneg (a:Int):0≤a*a:=by
 rcases Int.le_total 0 a with h|h
 ·exact Int.mul_nonneg h h
 ·exact Int.mul_nonneg_of_nonpos_of_nonpos h h
def form (a b d x y:Int):Int:=a*(x*x)+d*(y*y)+(b*(x*y)+b*(x*y))
theorem psd_form (a b d x y:Int) (h:psdB a b d=true):0≤form a b d x y:=by
 rw [psdB_iff] at h
 obtain ⟨h1,h2,h3⟩:=h
 unfold form
 rcases Int.lt_or_eq_of_le h1 with h0|h0
 ·have e:a*(a*(x*x)+d*(y*y)+(b*(x*y)+b*(x*y)))=(a*x+b*y)*(a*x+b*y)+(a*d-b*b)*(y*y):=by grind
  have p1:=int_sq_nonneg (a*x+b*y)
  have p2:=Int.mul_nonneg h3 (int_sq_nonneg y)
  rcases Int.lt_or_le (a*(x*x)+d*(y*y)+(b*(x*y)+b*(x*y))) 0 with hn|hn
  ·have:=Int.mul_neg_of_pos_of_neg h0 hn
   omega
  ·exact hn
 ·subst h0
  have hb:=int_sq_nonneg b
  have hb0:b=0:=by
   have:b*b=0:=by omega
   rcases Int.mul_eq_zero.1 this with h|h <;> exact h
  subst hb0
  have:=Int.mul_nonneg h2 (int_sq_nonneg y)
  omega
theorem not_psd (a b d:Int) (h:psdB a b d=false) (h1:0≤form a b d 1 0) (h2:0≤form a b d 0 1) (h3:0≤form a b d b (-a)) (h4:0≤form a b d d (-b)) (h5:0≤form a b d 1 1) (h6:0≤form a b d 1 (-1)):False:=by
 have e1:form a b d 1 0=a:=by unfold form;grind
 have e2:form a b d 0 1=d:=by unfold form;grind
 have e3:form a b d b (-a)=a*(a*d-b*b):=by unfold form;grind
 have e4:form a b d d (-b)=d*(a*d-b*b):=by unfold form;grind
 have e5:form a b d 1 1=a+d+2*b:=by unfold form;grind
 have e6:form a b d 1 (-1)=a+d-2*b:=by unfold form;grind
 rw [e1] at h1;rw [e2] at h2;rw [e3] at h3;rw [e4] at h4;rw [e5] at h5;rw [e6] at h6
 have hn:a*d-b*b<0:=by
  rcases Int.lt_or_le (a*d-b*b) 0 with hn|hn
  ·exact hn
  ·have:=(psdB_iff a b d).2 ⟨h1,h2,hn⟩;rw [h] at this;cases this
 have ha:a=0:=by
  rcases Int.lt_or_eq_of_le h1 with h0|h0
  ·have:=Int.mul_neg_of_pos_of_neg h0 hn;omega
  ·exact h0.symm
 have hd:d=0:=by
  rcases Int.lt_or_eq_of_le h2 with h0|h0
  ·have:=Int.mul_neg_of_pos_of_neg h0 hn;omega
  ·exact h0.symm
 subst ha;subst hd
 have:b=0:=by omega
 subst this;simp at hn
theorem psd_of_form (a b d:Int) (h:∀ x y,0≤form a b d x y):psdB a b d=true:=by
 cases hp:psdB a b d with
 | true=>rfl
 | false=>exact absurd (not_psd a b d hp (h _ _) (h _ _) (h _ _) (h _ _) (h _ _) (h _ _)) (fun h=>h)
theorem holds_form (a b d x y:Int):holdsB a b d x y=true↔∀ h k,(x*h+y*k)*(x*h+y*k)≤form a b d h k:=by
 have e:∀ h k,form (a-x*x) (b-x*y) (d-y*y) h k=form a b d h k-(x*h+y*k)*(x*h+y*k):=by
  intro h k;unfold form;grind
 constructor
 ·intro hh h k
  have:=psd_form _ _ _ h k hh
  rw [e] at this;omega
 ·intro hh
  refine psd_of_form _ _ _ fun h k=>?_
  rw [e];have:=hh h k;omega
theorem part_form (s r a b d A B D h k:Int) (hA:r*a≤s*A) (hD:r*d≤s*D) (hB1:s*B≤r*b) (hB2:r*b<s*B+s) :
  r*form a b d h k≤s*form (A+1) B (D+1) h k:=by
 obtain ⟨al,hal⟩:∃ al,s*A=r*a+al:=⟨s*A-r*a,by omega⟩
 obtain ⟨de,hde⟩:∃ de,s*D=r*d+de:=⟨s*D-r*d,by omega⟩
 obtain ⟨be,hbe⟩:∃ be,s*B=r*b-be:=⟨r*b-s*B,by omega⟩
 have e:s*form (A+1) B (D+1) h k=r*form a b d h k+(al*(h*h)+de*(k*k)+((s-be)*(h*h+k*k)+be*((h-k)*(h-k)))):=by
  unfold form
  have e1:s*((A+1)*(h*h)+(D+1)*(k*k)+(B*(h*k)+B*(h*k)))=(s*A)*(h*h)+s*(h*h)+(s*D)*(k*k)+s*(k*k)+2*((s*B)*(h*k)):=by grind
  rw [e1,hal,hde,hbe];grind
 have p1:=Int.mul_nonneg (show 0≤al by omega) (int_sq_nonneg h)
 have p2:=Int.mul_nonneg (show 0≤de by omega) (int_sq_nonneg k)
 have p3:=Int.mul_nonneg (show 0≤s-be by omega) (show 0≤h*h+k*k by have:=int_sq_nonneg h;have:=int_sq_nonneg k;omega)
 have p4:=Int.mul_nonneg (show 0≤be by omega) (int_sq_nonneg (h-k))
 omega
theorem form_add (a b d a' b' d' h k:Int):form (a+a') (b+b') (d+d') h k=form a b d h k+form a' b' d' h k:=by unfold form;grind
theorem sum_dir (s t f f' g g' u v K:Int) (hs:0<s) (ht:0<t) (h1:(s+t)*f≤s*g) (h2:(s+t)*f'≤t*g') (hK:0≤K) (hu:u*u≤K*f) (hv:v*v≤K*f') :
  (u+v)*(u+v)≤K*(g+g'):=by
 have hst:0<s*t:=Int.mul_pos hs ht
 have hr:0<s+t:=by omega
 have k1:t*(u*u)+s*(v*v)≤K*(t*f+s*f'):=by
  have a1:=Int.mul_le_mul_of_nonneg_left hu (show 0≤t by omega)
  have a2:=Int.mul_le_mul_of_nonneg_left hv (show 0≤s by omega)
  have e:K*(t*f+s*f')=t*(K*f)+s*(K*f'):=by grind
  omega
 have k2:(s+t)*(t*f+s*f')≤s*t*(g+g'):=by
  have a1:=Int.mul_le_mul_of_nonneg_left h1 (show 0≤t by omega)
  have a2:=Int.mul_le_mul_of_nonneg_left h2 (show 0≤s by omega)
  have e1:(s+t)*(t*f+s*f')=t*((s+t)*f)+s*((s+t)*f'):=by grind
  have e2:s*t*(g+g')=t*(s*g)+s*(t*g'):=by grind
  omega
 have k3:s*t*((u+v)*(u+v))+(t*u-s*v)*(t*u-s*v)=(s+t)*(t*(u*u)+s*(v*v)):=by grind
 have k4:=int_sq_nonneg (t*u-s*v)
 have k5:=Int.mul_le_mul_of_nonneg_left k1 (show 0≤s+t by omega)
 have k6:=Int.mul_le_mul_of_nonneg_left k2 hK
 have e3:(s+t)*(K*(t*f+s*f'))=K*((s+t)*(t*f+s*f')):=by grind
 have e4:K*(s*t*(g+g'))=s*t*(K*(g+g')):=by grind
 have k7:s*t*((u+v)*(u+v))≤s*t*(K*(g+g')):=by omega
 exact Int.le_of_mul_le_mul_left k7 hst
/-! ### Quotients up and down -/
def cdiv (x s:Int):Int := -((-x).fdiv s)
theorem floor_spec (x s:Int) (hs:0<s):s*x.fdiv s≤x∧x<s*x.fdiv s+s:=by
 rw [Int.fdiv_eq_ediv_of_nonneg _ (by omega)]
 have h1:=Int.mul_ediv_add_emod x s
 have h2:=Int.emod_nonneg x (show s≠0 by omega)
 have h3:=Int.emod_lt_of_pos x hs
 omega
theorem cdiv_spec (x s:Int) (hs:0<s):x≤s*cdiv x s∧s*cdiv x s<x+s:=by
 have h:=floor_spec (-x) s hs
 unfold cdiv
 rw [Int.mul_neg];omega
structure El where
 x:Int
 y:Int
 a:Int
 b:Int
 d:Int
def El.zero:El:=⟨0,0,0,0,0⟩
def mayPt (x y:Int):Bool:=decide (-4194304≤x∧x≤4194304 ∧ -4194304≤y∧y≤4194304)
def El.may (e:El):Bool:=mayPt e.x e.y&&decide (1≤e.a∧e.a≤70368744177664∧1≤e.d∧e.d≤70368744177664 ∧ -70368744177664≤e.b∧e.b≤70368744177664)&&decide (0<e.a*e.d-e.b*e.b)
theorem mayPt_iff (x y:Int):mayPt x y=true ↔ -4194304≤x∧x≤4194304 ∧ -4194304≤y∧y≤4194304:=by unfold mayPt;simp
theorem El.may_iff (e:El):e.may=true↔(-4194304≤e.x∧e.x≤4194304 ∧ -4194304≤e.y∧e.y≤4194304)∧(1≤e.a∧e.a≤70368744177664∧1≤e.d∧e.d≤70368744177664 ∧ -70368744177664≤e.b∧e.b≤70368744177664)∧0<e.a*e.d-e.b*e.b:=by
 unfold El.may;rw [Bool.and_eq_true,Bool.and_eq_true,mayPt_iff,decide_eq_true_eq,decide_eq_true_eq,and_assoc]
def El.has (e:El) (p q:Int):Bool:=e.may&&decide (-1073741824≤p∧p≤1073741824 ∧ -1073741824≤q∧q≤1073741824)&&holdsB e.a e.b e.d (p-e.x) (q-e.y)
theorem El.has_iff (e:El) (p q:Int):e.has p q=true↔e.may=true∧(-1073741824≤p∧p≤1073741824 ∧ -1073741824≤q∧q≤1073741824)∧holdsB e.a e.b e.d (p-e.x) (q-e.y)=true:=by
 unfold El.has;rw [Bool.and_eq_true,Bool.and_eq_true,decide_eq_true_eq,and_assoc]
def El.tr (e:El):Int:=if e.may=true then e.a+e.d else 0
def El.rad (e:El):Int:=(up e.tr.toNat:Nat)
def sumEl (e f:El):El:=⟨e.x+f.x,e.y+f.y,cdiv ((e.rad+f.rad)*e.a) e.rad+cdiv ((e.rad+f.rad)*f.a) f.rad+2,((e.rad+f.rad)*e.b).fdiv e.rad+((e.rad+f.rad)*f.b).fdiv f.rad,cdiv ((e.rad+f.rad)*e.d) e.rad+cdiv ((e.rad+f.rad)*f.d) f.rad+2⟩
def sumE (e f:El):El × Int:=if e.may=true∧f.may=true then (if (sumEl e f).may=true then (sumEl e f,0) else (El.zero,2)) else (El.zero,1)
def ballE (x y r:Int):El × Int:=if mayPt x y=true∧1≤r∧r≤4194304 then (⟨x,y,r*r,0,r*r⟩,0) else (El.zero,1)
def growE (e:El) (r:Int):El × Int:=if e.may=true∧0≤r∧r≤4194304 then (if r=0 then (e,0) else sumE e (ballE 0 0 r).1) else (El.zero,1)
def ageE (e:El) (v n:Int):El × Int:=if e.may=true∧0≤v∧0≤n then (if 0<n∧(4194304:Int).tdiv n<v then (El.zero,2) else growE e (v*n)) else (El.zero,1)
theorem El.rad_pos (e:El) (h:e.may=true):0<e.rad:=by
 have h1:=(El.may_iff e).1 h
 have h2:=up_spec e.tr.toNat
 have h3:e.tr=e.a+e.d:=by unfold El.tr;rw [if_pos h]
 unfold El.rad
 rcases Nat.eq_zero_or_pos (up e.tr.toNat) with h0|h0
 ·rw [h0] at h2;omega
 ·omega
theorem El.rad_sq (e:El) (h:e.may=true):e.a+e.d≤e.rad*e.rad:=by
 have h1:=(El.may_iff e).1 h
 have h2:=(up_spec e.tr.toNat).1
 have h3:e.tr=e.a+e.d:=by unfold El.tr;rw [if_pos h]
 unfold El.rad
 rw [← Int.natCast_mul]
 omega
theorem El.rad_le (e:El):e.rad≤11863284:=by
 have h1:e.tr≤140737488355328:=by
  unfold El.tr;split
  ·rename_i h;have:=(El.may_iff e).1 h;omega
  ·decide
 have:=up_le e.tr.toNat 11863284 (by omega)
 unfold El.rad;omega
theorem form_sumEl (e f:El) (h k:Int):form (sumEl e f).a (sumEl e f).b (sumEl e f).d h k =
  form (cdiv ((e.rad+f.rad)*e.a) e.rad+1) (((e.rad+f.rad)*e.b).fdiv e.rad) (cdiv ((e.rad+f.rad)*e.d) e.rad+1) h k+form (cdiv ((e.rad+f.rad)*f.a) f.rad+1) (((e.rad+f.rad)*f.b).fdiv f.rad) (cdiv ((e.rad+f.rad)*f.d) f.rad+1) h k:=by
 rw [← form_add];unfold sumEl;simp only
 congr 1 <;> omega
theorem sumEl_parts (e f:El) (he:e.may=true) (hf:f.may=true) (h k:Int) :
  (e.rad+f.rad)*form e.a e.b e.d h k≤e.rad*form (cdiv ((e.rad+f.rad)*e.a) e.rad+1) (((e.rad+f.rad)*e.b).fdiv e.rad) (cdiv ((e.rad+f.rad)*e.d) e.rad+1) h k ∧
   (e.rad+f.rad)*form f.a f.b f.d h k≤f.rad*form (cdiv ((e.rad+f.rad)*f.a) f.rad+1) (((e.rad+f.rad)*f.b).fdiv f.rad) (cdiv ((e.rad+f.rad)*f.d) f.rad+1) h k:=by
 have h1:=e.rad_pos he
 have h2:=f.rad_pos hf
 exact ⟨part_form _ _ _ _ _ _ _ _ _ _ (cdiv_spec _ _ h1).1 (cdiv_spec _ _ h1).1 (floor_spec _ _ h1).1 (floor_spec _ _ h1).2,
  part_form _ _ _ _ _ _ _ _ _ _ (cdiv_spec _ _ h2).1 (cdiv_spec _ _ h2).1 (floor_spec _ _ h2).1 (floor_spec _ _ h2).2⟩
theorem sumEl_dir (e f:El) (he:e.may=true) (hf:f.may=true) (h k u v K:Int) (hK:0≤K) (hu:u*u≤K*form e.a e.b e.d h k) (hv:v*v≤K*form f.a f.b f.d h k) :
  (u+v)*(u+v)≤K*form (sumEl e f).a (sumEl e f).b (sumEl e f).d h k:=by
 rw [form_sumEl]
 have hp:=sumEl_parts e f he hf h k
 exact sum_dir _ _ _ _ _ _ u v K (e.rad_pos he) (f.rad_pos hf) hp.1 hp.2 hK hu hv
theorem sumE_ok {e f o:El} (h:sumE e f=(o,0)):e.may=true∧f.may=true∧o=sumEl e f∧o.may=true:=by
 unfold sumE at h
 split at h
 ·rename_i h1
  split at h
  ·rename_i h2;injection h with h3 h4;subst h3;exact ⟨h1.1,h1.2,rfl,h2⟩
  ·injection h with h3 h4;cases h4
 ·injection h with h3 h4;cases h4
theorem El.near (e:El) (p q:Int) (h:e.has p q=true) : -8388608≤p-e.x∧p-e.x≤8388608 ∧ -8388608≤q-e.y∧q-e.y≤8388608:=by
 obtain ⟨hm,_,hh⟩:=(El.has_iff e p q).1 h
 have h1:=(El.may_iff e).1 hm
 unfold holdsB at hh
 rw [psdB_iff] at hh
 have key:∀ z a:Int,0≤a-z*z→a≤70368744177664 → -8388608≤z∧z≤8388608:=by
  intro z a h2 h3
  constructor
  ·rcases Int.lt_or_le z (-8388608) with h4|h4
   ·have:(-z)*(-z)≥8388609*8388609:=Int.mul_le_mul (by omega) (by omega) (by decide) (by omega)
    rw [Int.neg_mul_neg] at this;omega
   ·exact h4
  ·rcases Int.lt_or_le 8388608 z with h4|h4
   ·have:z*z≥8388609*8388609:=Int.mul_le_mul (by omega) (by omega) (by decide) (by omega)
    omega
   ·exact h4
 have k1:=key _ _ hh.1 h1.2.1.2.1
 have k2:=key _ _ hh.2.1 h1.2.1.2.2.2.1
 omega
theorem El.has_dir (e:El) (p q:Int) (h:e.has p q=true) (i j:Int):((p-e.x)*i+(q-e.y)*j)*((p-e.x)*i+(q-e.y)*j)≤form e.a e.b e.d i j :=
 (holds_form _ _ _ _ _).1 ((El.has_iff e p q).1 h).2.2 i j
theorem sum_holds {e f o:El} (h:sumE e f=(o,0)) (p q p' q':Int) (h1:e.has p q=true) (h2:f.has p' q'=true):o.has (p+p') (q+q')=true:=by
 obtain ⟨he,hf,rfl,ho⟩:=sumE_ok h
 have n1:=e.near p q h1
 have n2:=f.near p' q' h2
 have m1:=(El.may_iff e).1 he
 have m2:=(El.may_iff f).1 hf
 refine (El.has_iff _ _ _).2 ⟨ho,by omega,(holds_form _ _ _ _ _).2 fun i j=>?_⟩
 have d1:=e.has_dir p q h1 i j
 have d2:=f.has_dir p' q' h2 i j
 have:=sumEl_dir e f he hf i j ((p-e.x)*i+(q-e.y)*j) ((p'-f.x)*i+(q'-f.y)*j) 1 (by decide) (by omega) (by omega)
 have e1:(p+p'-(sumEl e f).x)*i+(q+q'-(sumEl e f).y)*j=((p-e.x)*i+(q-e.y)*j)+((p'-f.x)*i+(q'-f.y)*j):=by
  show (p+p'-(e.x+f.x))*i+(q+q'-(e.y+f.y))*j=_;grind
 rw [e1];omega
theorem cdiv_ge (r a s:Int) (hs:0<s) (hr:s≤r) (ha:0≤a):a≤cdiv (r*a) s:=by
 have h1:=(cdiv_spec (r*a) s hs).1
 have h2:s*a≤r*a:=Int.mul_le_mul_of_nonneg_right hr ha
 exact Int.le_of_mul_le_mul_left (Int.le_trans h2 h1) hs
theorem sum_trace {e f o:El} (h:sumE e f=(o,0)):e.tr+f.tr+4≤o.tr:=by
 obtain ⟨he,hf,rfl,ho⟩:=sumE_ok h
 have h1:=e.rad_pos he
 have h2:=f.rad_pos hf
 have m1:=(El.may_iff e).1 he
 have m2:=(El.may_iff f).1 hf
 unfold El.tr
 rw [if_pos he,if_pos hf,if_pos ho]
 have a1:=cdiv_ge (e.rad+f.rad) e.a e.rad h1 (by omega) (by omega)
 have a2:=cdiv_ge (e.rad+f.rad) e.d e.rad h1 (by omega) (by omega)
 have a3:=cdiv_ge (e.rad+f.rad) f.a f.rad h2 (by omega) (by omega)
 have a4:=cdiv_ge (e.rad+f.rad) f.d f.rad h2 (by omega) (by omega)
 show e.a+e.d+(f.a+f.d)+4≤(cdiv ((e.rad+f.rad)*e.a) e.rad+cdiv ((e.rad+f.rad)*f.a) f.rad+2)+(cdiv ((e.rad+f.rad)*e.d) e.rad+cdiv ((e.rad+f.rad)*f.d) f.rad+2)
 omega
theorem may_form (e:El) (h:e.may=true) (i j:Int):0≤form e.a e.b e.d i j:=by
 have m:=(El.may_iff e).1 h
 exact psd_form _ _ _ _ _ ((psdB_iff _ _ _).2 ⟨by omega,by omega,by omega⟩)
theorem sum_least {e f o:El} (h:sumE e f=(o,0)):psdB (o.a-e.a) (o.b-e.b) (o.d-e.d)=true:=by
 obtain ⟨he,hf,rfl,ho⟩:=sumE_ok h
 refine psd_of_form _ _ _ fun i j=>?_
 have e1:form ((sumEl e f).a-e.a) ((sumEl e f).b-e.b) ((sumEl e f).d-e.d) i j=form (sumEl e f).a (sumEl e f).b (sumEl e f).d i j-form e.a e.b e.d i j:=by unfold form;grind
 rw [e1,form_sumEl]
 have hp:=sumEl_parts e f he hf i j
 have h1:=e.rad_pos he
 have h2:=f.rad_pos hf
 have f1:=may_form e he i j
 have f2:=may_form f hf i j
 have k1:e.rad*form e.a e.b e.d i j≤(e.rad+f.rad)*form e.a e.b e.d i j:=Int.mul_le_mul_of_nonneg_right (by omega) f1
 have k2:f.rad*0≤(e.rad+f.rad)*form f.a f.b f.d i j:=by rw [Int.mul_zero];exact Int.mul_nonneg (by omega) f2
 have k3:=Int.le_of_mul_le_mul_left (Int.le_trans k1 hp.1) h1
 have k4:=Int.le_of_mul_le_mul_left (Int.le_trans k2 hp.2) h2
 omega
/-! ### Growth by a ball, with time -/
theorem sq_bound {z r:Int} (hr:0≤r) (h:z*z≤r*r) : -r≤z∧z≤r:=by
 constructor
 ·rcases Int.lt_or_le z (-r) with h1|h1
  ·have:(r+1)*(r+1)≤(-z)*(-z):=Int.mul_le_mul (by omega) (by omega) (by omega) (by omega)
   rw [Int.neg_mul_neg] at this
   have e:(r+1)*(r+1)=r*r+2*r+1:=by grind
   omega
  ·exact h1
 ·rcases Int.lt_or_le r z with h1|h1
  ·have:(r+1)*(r+1)≤z*z:=Int.mul_le_mul (by omega) (by omega) (by omega) (by omega)
   have e:(r+1)*(r+1)=r*r+2*r+1:=by grind
   omega
  ·exact h1
theorem ball_may (x y r:Int) (hp:mayPt x y=true) (h1:1≤r) (h2:r≤4194304):(⟨x,y,r*r,0,r*r⟩:El).may=true:=by
 have p:=(mayPt_iff x y).1 hp
 have k1:1*1≤r*r:=Int.mul_le_mul h1 h1 (by decide) (by omega)
 have k2:r*r≤4194304*4194304:=Int.mul_le_mul h2 h2 (by omega) (by decide)
 have k3:1≤r*r∧r*r≤70368744177664∧1≤r*r∧r*r≤70368744177664∧(-70368744177664:Int)≤0∧(0:Int)≤70368744177664:=⟨by omega,by omega,by omega,by omega,by decide,by decide⟩
 refine (El.may_iff _).2 ⟨p,k3,?_⟩
 have:1*1≤(r*r)*(r*r):=Int.mul_le_mul (by omega) (by omega) (by decide) (by omega)
 simp only [Int.mul_zero,Int.sub_zero]
 omega
theorem ball_holds (r u v:Int) (h:u*u+v*v≤r*r):holdsB (r*r) 0 (r*r) u v=true:=by
 have hu:=int_sq_nonneg u
 have hv:=int_sq_nonneg v
 have hr:=int_sq_nonneg r
 refine (psdB_iff _ _ _).2 ⟨by omega,by omega,?_⟩
 have e:(r*r-u*u)*(r*r-v*v)-(0-u*v)*(0-u*v)=(r*r)*(r*r-(u*u+v*v)):=by grind
 rw [e];exact Int.mul_nonneg hr (by omega)
theorem ball_has (x y r u v:Int) (hp:mayPt x y=true) (h1:1≤r) (h2:r≤4194304) (h:u*u+v*v≤r*r):(⟨x,y,r*r,0,r*r⟩:El).has (x+u) (y+v)=true:=by
 have p:=(mayPt_iff x y).1 hp
 have hu:=int_sq_nonneg u
 have hv:=int_sq_nonneg v
 have b1:=sq_bound (show 0≤r by omega) (show u*u≤r*r by omega)
 have b2:=sq_bound (show 0≤r by omega) (show v*v≤r*r by omega)
 refine (El.has_iff _ _ _).2 ⟨ball_may x y r hp h1 h2,by omega,?_⟩
 rw [show x+u-x=u by omega,show y+v-y=v by omega]
 exact ball_holds r u v h
theorem growE_ok {e g:El} {r:Int} (h:growE e r=(g,0)):e.may=true∧0≤r∧r≤4194304∧((r=0∧g=e)∨(1≤r∧sumE e ⟨0,0,r*r,0,r*r⟩=(g,0))):=by
 unfold growE at h
 split at h
 ·rename_i h1
  refine ⟨h1.1,h1.2.1,h1.2.2,?_⟩
  split at h
  ·rename_i h2;injection h with h3 h4;exact .inl ⟨h2,h3.symm⟩
  ·rename_i h2
   right
   refine ⟨by omega,?_⟩
   have:ballE 0 0 r=(⟨0,0,r*r,0,r*r⟩,0):=by
    unfold ballE;rw [if_pos ⟨by decide,by omega,h1.2.2⟩]
   rw [this] at h;exact h
 ·injection h with h3 h4;cases h4
theorem grow_holds {e g:El} {r:Int} (h:growE e r=(g,0)) (p q u v:Int) (hp:e.has p q=true) (hu:u*u+v*v≤r*r):g.has (p+u) (q+v)=true:=by
 obtain ⟨_,h0,h1,⟨rfl,rfl⟩|⟨h2,h3⟩⟩:=growE_ok h
 ·have a:=int_sq_nonneg u
  have b:=int_sq_nonneg v
  have u0:u=0:=by
   have:u*u=0:=by omega
   rcases Int.mul_eq_zero.1 this with h|h <;> exact h
  have v0:v=0:=by
   have:v*v=0:=by omega
   rcases Int.mul_eq_zero.1 this with h|h <;> exact h
  subst u0;subst v0
  rw [Int.add_zero,Int.add_zero];exact hp
 ·have:=ball_has 0 0 r u v (by decide) h2 h1 hu
  rw [Int.zero_add,Int.zero_add] at this
  exact sum_holds h3 p q u v hp this
theorem grow_more {e g:El} {r:Int} (h:growE e r=(g,0)) (hr:r≠0):g.x=e.x∧g.y=e.y∧e.tr<g.tr∧g.may=true:=by
 obtain ⟨he,h0,h1,⟨h2,_⟩|⟨h2,h3⟩⟩:=growE_ok h
 ·exact absurd h2 hr
 ·obtain ⟨_,hb,ho,hm⟩:=sumE_ok h3
  have ht:=sum_trace h3
  refine ⟨by rw [ho];show e.x+0=e.x;omega,by rw [ho];show e.y+0=e.y;omega,?_,hm⟩
  have:0≤(⟨0,0,r*r,0,r*r⟩:El).tr:=by
   unfold El.tr;rw [if_pos hb];have:=int_sq_nonneg r;show 0≤r*r+r*r;omega
  omega
theorem grow_centre {e g:El} {r:Int} (h:growE e r=(g,0)):g.x=e.x∧g.y=e.y∧g.may=true:=by
 by_cases hr:r=0
 ·obtain ⟨he,_,_,⟨_,rfl⟩|⟨h2,_⟩⟩:=growE_ok h
  ·exact ⟨rfl,rfl,he⟩
  ·omega
 ·have:=grow_more h hr;exact ⟨this.1,this.2.1,this.2.2.2⟩
theorem growE_zero (e:El) (h:e.may=true):growE e 0=(e,0):=by unfold growE;rw [if_pos ⟨h,by decide,by decide⟩,if_pos rfl]
theorem ageE_ok {e g:El} {v n:Int} (h:ageE e v n=(g,0)):growE e (v*n)=(g,0)∧0≤v∧0≤n:=by
 unfold ageE at h
 split at h
 ·rename_i h1
  split at h
  ·injection h with h3 h4;cases h4
  ·exact ⟨h,h1.2.1,h1.2.2⟩
 ·injection h with h3 h4;cases h4
end Go.Proofs.YtechbdnhalmobaaGreatDoor
