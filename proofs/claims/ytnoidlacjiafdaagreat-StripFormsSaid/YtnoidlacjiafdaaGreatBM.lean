/- Laws and walks that the claim names. -/
import Derived.Deep.Cut
import Derived.Test.YtnoidlacjiafdaaGreatBY
set_option maxRecDepth 100000
set_option maxHeartbeats 16000000
namespace Go.Proofs.YtnoidlacjiafdaaGreat
set_option linter.unusedSimpArgs false
set_option linter.unusedVariables false
open Go.RowKit
def inB (n:Int):Bool:=decide (-2305843009213693952≤n)&&decide (n≤2305843009213693952)
def kO (a b d:Int):Bool:=inB a&&inB b&&inB d
theorem un (n:Int):inB n=true ↔ -2305843009213693952≤n∧n≤2305843009213693952:=by unfold inB;simp
theorem mx (a b d:Int):kO a b d=true↔(-2305843009213693952≤a∧a≤2305843009213693952)∧(-2305843009213693952≤b∧b≤2305843009213693952)∧(-2305843009213693952≤d∧d≤2305843009213693952):=by
 unfold kO;simp[un,and_assoc]
abbrev ei (a b d:Int):Value := .agg #[.int .i64 a,.int .i64 b,.int .i64 d]
abbrev ptV (x y:Int):Value := .agg #[.int .i64 x,.int .i64 y]
def I64 (z:Int):Prop := -9223372036854775808≤z∧z≤9223372036854775807
theorem DT (n:Int) (w:World) :
  Calls Tryz.prog 162 #[.int .i64 n] w fun e w'=>e = .returned (.bool (inB n))∧w'=w:=by
 by_cases h1 : -2305843009213693952≤n
 ·by_cases h2:n≤2305843009213693952
  ·have E:Hid (inB n=true):=(un n).2 ⟨h1,h2⟩;go_enter Tryz.func162,Tryz.ntmps162;go_wp2
   go_ret;exact⟨by rw[E.out];rfl,rfl⟩
  ·have E:Hid (inB n=false):=by show inB n=false;unfold inB;simp[h1,h2]
   go_enter Tryz.func162,Tryz.ntmps162;go_wp2
   go_ret;exact⟨by rw[E.out];rfl,rfl⟩
 ·have E:Hid (inB n=false):=by show inB n=false;unfold inB;simp[h1]
  go_enter Tryz.func162,Tryz.ntmps162;go_wp2
  go_ret;exact⟨by rw[E.out];rfl,rfl⟩
theorem CQ (a b d:Int) (w:World) :
  Calls Tryz.prog 154 #[ei a b d] w fun e w'=>e = .returned (.bool (kO a b d))∧Below w.heap.size w w':=by
 have E:Hid (kO a b d=(inB a&&inB b&&inB d)):=rfl;go_enter Tryz.func154,Tryz.ntmps154;cases ha:inB a with
 | false =>
  go_wp2_with (go_at_call 162;refine(DT _ _).mono ?_;rintro e w' ⟨rfl,rfl⟩;(try rw[ha]))
  go_ret;exact⟨by rw[E.out,ha];rfl,ae⟩
 | true =>
  cases hb:inB b with
  | false =>
   go_wp2_with (go_at_call 162;refine(DT _ _).mono ?_;rintro e w' ⟨rfl,rfl⟩;(first|rw[ha]|rw[hb]))
   go_ret;exact⟨by rw[E.out,ha,hb];rfl,ae⟩
  | true =>
   go_wp2_with (go_at_call 162;refine(DT _ _).mono ?_;rintro e w' ⟨rfl,rfl⟩;(first|rw[ha]|rw[hb]|skip))
   go_ret;exact⟨by rw[E.out,ha,hb];rfl,ae⟩
open Go.RowKit
def no (a b d:Int):Value:=if kO a b d then ei d (-b) a else ei 0 0 0
theorem Ga (a b d:Int) (w:World) :
  Calls Tryz.prog 141 #[ei a b d] w fun e w'=>e = .returned (no a b d)∧Below w.heap.size w w':=by
 have E:Hid (no a b d=if kO a b d then ei d (-b) a else ei 0 0 0):=rfl;cases hm:kO a b d with
 | true =>
  have hw:IntKind.i64.wrap (-b) = -b:=by have:=(mx a b d).1 hm;rw[IntKind.wrap_i64];omega
  go_enter Tryz.func141,Tryz.ntmps141;go_wp2_with fail;refine(CQ _ _ _ _).mono ?_;rintro e w1 ⟨rfl,hb1⟩;rw[hm];have z_w1:=hb1.size;(try simp at z_w1);have Kw1aa:=bq hb1 (w.heap.size);have Kw1ab:=bq hb1 (w.heap.size+1);go_wp2
  exact ak 3 #[.int .i64 d,.int .i64 (-b),.int .i64 a] rfl rfl rfl Tryz.underlying25 rfl (by kernel_rfl) rc3 ⟨by rw[E.out,hm];rfl,ae⟩
 | false =>
  go_enter Tryz.func141,Tryz.ntmps141;go_wp2_with fail;refine(CQ _ _ _ _).mono ?_;rintro e w1 ⟨rfl,hb1⟩;rw[hm];have z_w1:=hb1.size;(try simp at z_w1);have Kw1aa:=bq hb1 (w.heap.size);have Kw1ab:=bq hb1 (w.heap.size+1);go_wp2
  exact ak 3 #[.int .i64 0,.int .i64 0,.int .i64 0] rfl rfl rfl Tryz.underlying25 rfl (by kernel_rfl) rc3 ⟨by rw[E.out,hm];rfl,ae⟩
open Go.RowKit
theorem kQ (a b:Int) (ha:I64 a) (hb:I64 b) (w:World) :
  Calls Tryz.prog 125 #[.int .i64 a,.int .i64 b] w fun e w'=>e = .returned (.agg (WI.of (a*b)).cells)∧Below w.heap.size w w':=by
 have E:=Lh (WI.au (Sm.lim (Sm.of64 ha.1 ha.2) (by decide)) (Sm.lim (Sm.of64 hb.1 hb.2) (by decide)));have HA:=Lh ha;have HB:=Lh hb;clear ha hb;go_enter Tryz.func125,Tryz.ntmps125;go_wp2_with fail;refine(eg _ HA.out.1 HA.out.2 _).mono ?_;rintro e w1 ⟨rfl,hb1⟩;have z_w1:=hb1.size;(try simp at z_w1);have Kw1aa:=bq hb1 (w.heap.size);go_wp2_with fail;refine(eg _ HB.out.1 HB.out.2 _).mono ?_;rintro e w2 ⟨rfl,hb2⟩;have z_w2:=hb2.size;(try simp at z_w2);have Kw2aa:=bq hb2 (w.heap.size);go_wp2_with fail;refine(cN _ _ _).mono ?_;rintro e w3 ⟨rfl,hb3⟩;have z_w3:=hb3.size;(try simp at z_w3);have Kw3aa:=bq hb3 (w.heap.size);go_wp2
 exact ak 18 ((WI.of a).mul (WI.of b)).cells rfl rfl rfl Tryz.underlying47 rfl aE (by go_simp) ⟨by rw[E.out],ae⟩
theorem CS (x y z:WI) (w:World) :
  Calls Tryz.prog 122 #[.agg x.cells,.agg y.cells,.agg z.cells] w fun e w'=>e = .returned (.agg ((x.mul z).sub (y.mul y)).cells)∧Below w.heap.size w w':=by
 go_enter Tryz.func122,Tryz.ntmps122;go_wp2_with fail
 go_region_held3 (fun w'=>w'.row? w.heap.size 0 18=some x.cells∧w'.row? (w.heap.size+1) 0 18=some y.cells∧w'.row? (w.heap.size+1+1) 0 18=some z.cells) (go_simp)
  (first
   | (go_at_call 42;refine(cN _ _ _).mono ?_;rintro e w1 ⟨rfl,hb1⟩;have z_w1:=hb1.size;(try simp at z_w1);have K_w1_0:=bq3 hb1 (w.heap.size);have Kw1ad:=bq hb1 (w.heap.size+1+1+1))
   | (go_at_call 48;refine(jY _ _ _).mono ?_;rintro e w2 ⟨rfl,hb2⟩;have z_w2:=hb2.size;(try simp at z_w2);have K_w2_0:=bq3 hb2 (w.heap.size);have Kw2ad:=bq hb2 (w.heap.size+1+1+1)))
 go_wp2
 exact ak 18 ((x.mul z).sub (y.mul y)).cells rfl rfl rfl Tryz.underlying47 rfl aE (by go_simp) ⟨rfl,ae⟩
def xM (x y z:WI):Bool:=decide (0≤x.sign)&&decide (0≤z.sign)&&decide (0≤((x.mul z).sub (y.mul y)).sign)
theorem Fy (x y z:WI) (w:World) :
  Calls Tryz.prog 138 #[.agg x.cells,.agg y.cells,.agg z.cells] w fun e w'=>e = .returned (.bool (xM x y z))∧Below w.heap.size w w':=by
 have E:Hid (xM x y z=(decide (0≤x.sign)&&decide (0≤z.sign)&&decide (0≤((x.mul z).sub (y.mul y)).sign))):=rfl;by_cases h1:0≤x.sign
 ·by_cases h2:0≤z.sign
  ·go_enter Tryz.func138,Tryz.ntmps138;go_wp2_with fail;refine(dX _ _).mono ?_;rintro e w1 ⟨rfl,hb1⟩;have z_w1:=hb1.size;(try simp at z_w1);have K_w1_0:=bq3 hb1 (w.heap.size);go_wp2_with fail;refine(dX _ _).mono ?_;rintro e w2 ⟨rfl,hb2⟩;have z_w2:=hb2.size;(try simp at z_w2);have K_w2_0:=bq3 hb2 (w.heap.size);go_wp2_with fail;refine(CS _ _ _ _).mono ?_;rintro e w3 ⟨rfl,hb3⟩;have z_w3:=hb3.size;(try simp at z_w3);have K_w3_0:=bq3 hb3 (w.heap.size);go_wp2_with fail;refine(dX _ _).mono ?_;rintro e w4 ⟨rfl,hb4⟩;have z_w4:=hb4.size;(try simp at z_w4);have K_w4_0:=bq3 hb4 (w.heap.size);go_wp2
   go_ret;exact⟨by rw[E.out,decide_eq_true (show 0≤x.sign by omega),decide_eq_true (show 0≤z.sign by omega)];simp,ae⟩
  ·go_enter Tryz.func138,Tryz.ntmps138;go_wp2_with fail;refine(dX _ _).mono ?_;rintro e w1 ⟨rfl,hb1⟩;have z_w1:=hb1.size;(try simp at z_w1);have K_w1_0:=bq3 hb1 (w.heap.size);go_wp2_with fail;refine(dX _ _).mono ?_;rintro e w2 ⟨rfl,hb2⟩;have z_w2:=hb2.size;(try simp at z_w2);have K_w2_0:=bq3 hb2 (w.heap.size);go_wp2
   go_ret;exact⟨by rw[E.out,decide_eq_false (show ¬ 0≤z.sign by omega)];simp,ae⟩
 ·go_enter Tryz.func138,Tryz.ntmps138;go_wp2_with fail;refine(dX _ _).mono ?_;rintro e w1 ⟨rfl,hb1⟩;have z_w1:=hb1.size;(try simp at z_w1);have K_w1_0:=bq3 hb1 (w.heap.size);go_wp2
  go_ret;exact⟨by rw[E.out,decide_eq_false (show ¬ 0≤x.sign by omega)];simp,ae⟩
theorem pu (a b d:Int) (ha:Sm 127 a) (hb:Sm 127 b) (hd:Sm 127 d):((WI.of a).mul (WI.of d)).sub ((WI.of b).mul (WI.of b))=WI.of (a*d-b*b):=by
 rw[WI.au (ha.lim (by decide)) (hd.lim (by decide)),WI.au (hb.lim (by decide)) (hb.lim (by decide)),WI.ez ((ha.mul hd).lim (by decide)) ((hb.mul hb).lim (by decide))]
def oZ (a b d:Int):Bool:=decide (0≤a)&&decide (0≤d)&&decide (0≤a*d-b*b)
theorem AZ (a b d:Int) (ha:Sm 127 a) (hb:Sm 127 b) (hd:Sm 127 d):xM (WI.of a) (WI.of b) (WI.of d)=oZ a b d:=by
 unfold xM oZ;rw[pu a b d ha hb hd,WI.di (ha.lim (by decide)),WI.di (hd.lim (by decide)),WI.di (((ha.mul hd).sub (hb.mul hb)).lim (by decide))];simp only[Int.sign_nonneg_iff]
theorem I64.sm {a:Int} (h:I64 a):Sm 127 a:=(Sm.of64 h.1 h.2).mono (by decide)
theorem qR (a b d:Int) (ha:I64 a) (hb:I64 b) (hd:I64 d) (w:World) :
  Calls Tryz.prog 67 #[ei a b d] w fun e w'=>e = .returned (.agg (WI.of (a*d-b*b)).cells)∧Below w.heap.size w w':=by
 have E:=Lh (pu a b d ha.sm hb.sm hd.sm);have HA:=Lh ha;have HB:=Lh hb;have HD:=Lh hd;clear ha hb hd;go_enter Tryz.func67,Tryz.ntmps67;go_wp2_with fail
 go_region_held3 (fun w'=>w'.cell? ⟨w.heap.size,0,none⟩=some (.int .i64 a)∧w'.cell? ⟨w.heap.size,1,none⟩=some (.int .i64 b)∧w'.cell? ⟨w.heap.size,2,none⟩=some (.int .i64 d)) (go_simp)
  (first
   | (go_at_call 39;refine(eg _ (by first|exact HA.out.1|exact HB.out.1|exact HD.out.1) (by first|exact HA.out.2|exact HB.out.2|exact HD.out.2) _).mono ?_;rintro e w1 ⟨rfl,hb1⟩;have z_w1:=hb1.size;(try simp at z_w1);have Kw1aa:=bq hb1 (w.heap.size);have Kw1ab:=bq hb1 (w.heap.size+1))
   | (go_at_call 122;refine(CS _ _ _ _).mono ?_;rintro e w2 ⟨rfl,hb2⟩;have z_w2:=hb2.size;(try simp at z_w2);have Kw2aa:=bq hb2 (w.heap.size);have Kw2ab:=bq hb2 (w.heap.size+1)))
 go_wp2
 exact ak 18 (((WI.of a).mul (WI.of d)).sub ((WI.of b).mul (WI.of b))).cells rfl rfl rfl Tryz.underlying47 rfl aE (by go_simp) ⟨by rw[E.out],ae⟩
open Go.RowKit
theorem AX (a b d x y:Int) (ha:I64 a) (hb:I64 b) (hd:I64 d) (hx:I64 x) (hy:I64 y) :
  (((WI.of a).mul (WI.of (x*x))).add ((WI.of d).mul (WI.of (y*y)))).add (((WI.of b).mul (WI.of (x*y))).add ((WI.of b).mul (WI.of (x*y))))=WI.of (a*(x*x)+d*(y*y)+(b*(x*y)+b*(x*y))):=by
 have A:=Sm.of64 ha.1 ha.2;have B:=Sm.of64 hb.1 hb.2;have D:=Sm.of64 hd.1 hd.2;have X:=Sm.of64 hx.1 hx.2;have Y:=Sm.of64 hy.1 hy.2
 rw[WI.au (A.lim (by decide)) ((X.mul X).lim (by decide)),WI.au (D.lim (by decide)) ((Y.mul Y).lim (by decide)),WI.au (B.lim (by decide)) ((X.mul Y).lim (by decide)),
  WI.ce ((A.mul (X.mul X)).lim (by decide)) ((D.mul (Y.mul Y)).lim (by decide)),WI.ce ((B.mul (X.mul Y)).lim (by decide)) ((B.mul (X.mul Y)).lim (by decide)),
  WI.ce (((A.mul (X.mul X)).add (D.mul (Y.mul Y))).lim (by decide)) (((B.mul (X.mul Y)).add (B.mul (X.mul Y))).lim (by decide))]
theorem xJ (a b d x y:Int) (ha:I64 a) (hb:I64 b) (hd:I64 d) (hx:I64 x) (hy:I64 y) (w:World) :
  Calls Tryz.prog 72 #[ei a b d,ptV x y] w fun e w'=>e = .returned (.agg (WI.of (a*(x*x)+d*(y*y)+(b*(x*y)+b*(x*y)))).cells)∧Below w.heap.size w w':=by
 have E:=Lh (AX a b d x y ha hb hd hx hy);have HA:=Lh ha;have HB:=Lh hb;have HD:=Lh hd;have HX:=Lh hx;have HY:=Lh hy;clear ha hb hd hx hy;go_enter Tryz.func72,Tryz.ntmps72;go_wp2_with fail
 go_cut [5] from 8 (fun s5 wc=>∃ g,s5 = .pointer (some ⟨g,0,none⟩)∧w.heap.size+1+1+1≤g∧g<wc.heap.size∧wc.row? g 0 18=some ((WI.of a).mul (WI.of (x*x))).cells∧wc.fits (w.heap.size+1+1) 18=true ∧
  wc.cell? ⟨w.heap.size,0,none⟩=some (.int .i64 a)∧wc.cell? ⟨w.heap.size,1,none⟩=some (.int .i64 b)∧wc.cell? ⟨w.heap.size,2,none⟩=some (.int .i64 d) ∧
  wc.cell? ⟨w.heap.size+1,0,none⟩=some (.int .i64 x)∧wc.cell? ⟨w.heap.size+1,1,none⟩=some (.int .i64 y)∧Hid (Below w.heap.size w wc))
 case first =>
  go_region_held3 (fun w'=>w'.cell? ⟨w.heap.size,0,none⟩=some (.int .i64 a)∧w'.cell? ⟨w.heap.size+1,0,none⟩=some (.int .i64 x)) (go_simp)
   (first
    | (go_at_call 39;refine(eg _ HA.out.1 HA.out.2 _).mono ?_;rintro e w1 ⟨rfl,hb1⟩;have z_w1:=hb1.size;(try simp at z_w1);have K_w1_0:=bq3 hb1 (w.heap.size);(try (refine aI (bk hb1 (w.heap.size+1+1+1)) ?_ ?_;(focus (first|omega|(simp;done)|(simp;omega)));rintro⟨y_w1_q1,c_w1_q1,f_w1_q1,r_w1_q1,t_w1_q1,p_w1_q1⟩)))
    | (go_at_call 125;refine(kQ _ _ HX.out HX.out _).mono ?_;rintro e w2 ⟨rfl,hb2⟩;have z_w2:=hb2.size;(try simp at z_w2);have K_w2_0:=bq3 hb2 (w.heap.size);(try (refine aI (bk hb2 (w.heap.size+1+1+1)) ?_ ?_;(focus (first|omega|(simp;done)|(simp;omega)));rintro⟨y_w2_q1,c_w2_q1,f_w2_q1,r_w2_q1,t_w2_q1,p_w2_q1⟩));(try (refine aI (bk hb2 (w1.heap.size)) ?_ ?_;(focus (first|omega|(simp;done)|(simp;omega)));rintro⟨y_w2_q2,c_w2_q2,f_w2_q2,r_w2_q2,t_w2_q2,p_w2_q2⟩;have n0_w2_q2:¬ (w.heap.size=w1.heap.size):=(by omega);have n1_w2_q2:¬ (w.heap.size+1=w1.heap.size):=(by omega);have n2_w2_q2:¬ (w.heap.size+1+1=w1.heap.size):=(by omega))))
    | (go_at_call 42;refine(cN _ _ _).mono ?_;rintro e w3 ⟨rfl,hb3⟩;have z_w3:=hb3.size;(try simp at z_w3);have K_w3_0:=bq3 hb3 (w.heap.size);(try (refine aI (bk hb3 (w.heap.size+1+1+1)) ?_ ?_;(focus (first|omega|(simp;done)|(simp;omega)));rintro⟨y_w3_q1,c_w3_q1,f_w3_q1,r_w3_q1,t_w3_q1,p_w3_q1⟩));(try (refine aI (bk hb3 (w1.heap.size)) ?_ ?_;(focus (first|omega|(simp;done)|(simp;omega)));rintro⟨y_w3_q2,c_w3_q2,f_w3_q2,r_w3_q2,t_w3_q2,p_w3_q2⟩;have n0_w3_q2:¬ (w.heap.size=w1.heap.size):=(by omega);have n1_w3_q2:¬ (w.heap.size+1=w1.heap.size):=(by omega);have n2_w3_q2:¬ (w.heap.size+1+1=w1.heap.size):=(by omega)));(try (refine aI (bk hb3 (w2.heap.size)) ?_ ?_;(focus (first|omega|(simp;done)|(simp;omega)));rintro⟨y_w3_q3,c_w3_q3,f_w3_q3,r_w3_q3,t_w3_q3,p_w3_q3⟩;have n0_w3_q3:¬ (w.heap.size=w2.heap.size):=(by omega);have n1_w3_q3:¬ (w.heap.size+1=w2.heap.size):=(by omega);have n2_w3_q3:¬ (w.heap.size+1+1=w2.heap.size):=(by omega)))))
  all_goals go_wp2_with fail
  all_goals go_meet
  all_goals exact⟨_,rfl,(by first|omega|(simp;done)|(simp;omega)|fail),(by first|omega|(simp;done)|(simp;omega)|fail),(by go_simp),(by go_simp),(by go_simp),(by go_simp),(by go_simp),(by go_simp),(by go_simp),ae⟩
 case rest =>
  obtain⟨g,rfl,hg1,hg2,hgr,hf,c0,c1,c2,c3,c4,HBL⟩:=hcut;have y0:w.heap.size<wc.heap.size:=by omega
  have y1:w.heap.size+1<wc.heap.size:=by omega
  have y2:w.heap.size+1+1<wc.heap.size:=by omega
  go_wp2_with fail
  go_cut [6] from 8 (fun s6 wc=>∃ h,s6 = .pointer (some ⟨h,0,none⟩)∧w.heap.size+1+1+1≤h∧h<wc.heap.size∧wc.row? h 0 18=some ((WI.of d).mul (WI.of (y*y))).cells∧g<wc.heap.size∧wc.row? g 0 18=some ((WI.of a).mul (WI.of (x*x))).cells∧wc.fits (w.heap.size+1+1) 18=true ∧
   wc.cell? ⟨w.heap.size,1,none⟩=some (.int .i64 b) ∧
   wc.cell? ⟨w.heap.size+1,0,none⟩=some (.int .i64 x)∧wc.cell? ⟨w.heap.size+1,1,none⟩=some (.int .i64 y)∧Hid (Below w.heap.size w wc))
  case first =>
   go_region_held3 (fun w'=>w'.cell? ⟨w.heap.size,2,none⟩=some (.int .i64 d)∧w'.cell? ⟨w.heap.size+1,1,none⟩=some (.int .i64 y)) (go_simp)
    (first
     | (go_at_call 39;refine(eg _ HD.out.1 HD.out.2 _).mono ?_;rintro e w1 ⟨rfl,hb1⟩;have z_w1:=hb1.size;(try simp at z_w1);have K_w1_0:=bq3 hb1 (w.heap.size);have K_w1_g:=bq hb1 (g);(try (refine aI (bk hb1 (wc.heap.size)) ?_ ?_;(focus (first|omega|(simp;done)|(simp;omega)));rintro⟨y_w1_q2,c_w1_q2,f_w1_q2,r_w1_q2,t_w1_q2,p_w1_q2⟩;have ngg_w1_q2:¬ (g=wc.heap.size):=(by omega);have n0_w1_q2:¬ (w.heap.size=wc.heap.size):=(by omega);have n1_w1_q2:¬ (w.heap.size+1=wc.heap.size):=(by omega);have n2_w1_q2:¬ (w.heap.size+1+1=wc.heap.size):=(by omega))))
     | (go_at_call 125;refine(kQ _ _ HY.out HY.out _).mono ?_;rintro e w2 ⟨rfl,hb2⟩;have z_w2:=hb2.size;(try simp at z_w2);have K_w2_0:=bq3 hb2 (w.heap.size);have K_w2_g:=bq hb2 (g);(try (refine aI (bk hb2 (wc.heap.size)) ?_ ?_;(focus (first|omega|(simp;done)|(simp;omega)));rintro⟨y_w2_q2,c_w2_q2,f_w2_q2,r_w2_q2,t_w2_q2,p_w2_q2⟩;have ngg_w2_q2:¬ (g=wc.heap.size):=(by omega);have n0_w2_q2:¬ (w.heap.size=wc.heap.size):=(by omega);have n1_w2_q2:¬ (w.heap.size+1=wc.heap.size):=(by omega);have n2_w2_q2:¬ (w.heap.size+1+1=wc.heap.size):=(by omega)));(try (refine aI (bk hb2 (w1.heap.size)) ?_ ?_;(focus (first|omega|(simp;done)|(simp;omega)));rintro⟨y_w2_q3,c_w2_q3,f_w2_q3,r_w2_q3,t_w2_q3,p_w2_q3⟩;have ngg_w2_q3:¬ (g=w1.heap.size):=(by omega);have n0_w2_q3:¬ (w.heap.size=w1.heap.size):=(by omega);have n1_w2_q3:¬ (w.heap.size+1=w1.heap.size):=(by omega);have n2_w2_q3:¬ (w.heap.size+1+1=w1.heap.size):=(by omega))))
     | (go_at_call 42;refine(cN _ _ _).mono ?_;rintro e w3 ⟨rfl,hb3⟩;have z_w3:=hb3.size;(try simp at z_w3);have K_w3_0:=bq3 hb3 (w.heap.size);have K_w3_g:=bq hb3 (g);(try (refine aI (bk hb3 (wc.heap.size)) ?_ ?_;(focus (first|omega|(simp;done)|(simp;omega)));rintro⟨y_w3_q2,c_w3_q2,f_w3_q2,r_w3_q2,t_w3_q2,p_w3_q2⟩;have ngg_w3_q2:¬ (g=wc.heap.size):=(by omega);have n0_w3_q2:¬ (w.heap.size=wc.heap.size):=(by omega);have n1_w3_q2:¬ (w.heap.size+1=wc.heap.size):=(by omega);have n2_w3_q2:¬ (w.heap.size+1+1=wc.heap.size):=(by omega)));(try (refine aI (bk hb3 (w1.heap.size)) ?_ ?_;(focus (first|omega|(simp;done)|(simp;omega)));rintro⟨y_w3_q3,c_w3_q3,f_w3_q3,r_w3_q3,t_w3_q3,p_w3_q3⟩;have ngg_w3_q3:¬ (g=w1.heap.size):=(by omega);have n0_w3_q3:¬ (w.heap.size=w1.heap.size):=(by omega);have n1_w3_q3:¬ (w.heap.size+1=w1.heap.size):=(by omega);have n2_w3_q3:¬ (w.heap.size+1+1=w1.heap.size):=(by omega)));(try (refine aI (bk hb3 (w2.heap.size)) ?_ ?_;(focus (first|omega|(simp;done)|(simp;omega)));rintro⟨y_w3_q4,c_w3_q4,f_w3_q4,r_w3_q4,t_w3_q4,p_w3_q4⟩;have ngg_w3_q4:¬ (g=w2.heap.size):=(by omega);have n0_w3_q4:¬ (w.heap.size=w2.heap.size):=(by omega);have n1_w3_q4:¬ (w.heap.size+1=w2.heap.size):=(by omega);have n2_w3_q4:¬ (w.heap.size+1+1=w2.heap.size):=(by omega)))))
   all_goals go_wp2_with fail
   all_goals go_meet
   all_goals exact⟨_,rfl,(by first|omega|(simp;done)|(simp;omega)|fail),(by first|omega|(simp;done)|(simp;omega)|fail),(by go_simp),(by first|omega|(simp;done)|(simp;omega)|fail),(by go_simp),(by go_simp),(by go_simp),(by go_simp),(by go_simp),ae⟩
  case rest =>
   obtain⟨h,rfl,hh1,hh2,hhr,hg3,hgr,hf,c1,c3,c4,HBL⟩:=hcut;have y0:w.heap.size<wc.heap.size:=by omega
   have y1:w.heap.size+1<wc.heap.size:=by omega
   have y2:w.heap.size+1+1<wc.heap.size:=by omega
   go_wp2_with fail
   go_cut [7] from 8 (fun s7 wc=>∃ j,s7 = .pointer (some ⟨j,0,none⟩)∧w.heap.size+1+1+1≤j∧j<wc.heap.size∧wc.row? j 0 18=some ((WI.of b).mul (WI.of (x*y))).cells ∧
    h<wc.heap.size∧wc.row? h 0 18=some ((WI.of d).mul (WI.of (y*y))).cells∧g<wc.heap.size∧wc.row? g 0 18=some ((WI.of a).mul (WI.of (x*x))).cells∧wc.fits (w.heap.size+1+1) 18=true∧Hid (Below w.heap.size w wc))
   case first =>
    go_region_held3 (fun w'=>w'.cell? ⟨w.heap.size,1,none⟩=some (.int .i64 b)∧w'.cell? ⟨w.heap.size+1,0,none⟩=some (.int .i64 x)∧w'.cell? ⟨w.heap.size+1,1,none⟩=some (.int .i64 y)) (go_simp)
     (first
      | (go_at_call 39;refine(eg _ HB.out.1 HB.out.2 _).mono ?_;rintro e w1 ⟨rfl,hb1⟩;have z_w1:=hb1.size;(try simp at z_w1);have K_w1_0:=bq3 hb1 (w.heap.size);have K_w1_g:=bq hb1 (g);have K_w1_h:=bq hb1 (h);(try (refine aI (bk hb1 (wc.heap.size)) ?_ ?_;(focus (first|omega|(simp;done)|(simp;omega)));rintro⟨y_w1_q3,c_w1_q3,f_w1_q3,r_w1_q3,t_w1_q3,p_w1_q3⟩;have ngg_w1_q3:¬ (g=wc.heap.size):=(by omega);have ngh_w1_q3:¬ (h=wc.heap.size):=(by omega);have n0_w1_q3:¬ (w.heap.size=wc.heap.size):=(by omega);have n1_w1_q3:¬ (w.heap.size+1=wc.heap.size):=(by omega);have n2_w1_q3:¬ (w.heap.size+1+1=wc.heap.size):=(by omega))))
      | (go_at_call 125;refine(kQ _ _ HX.out HY.out _).mono ?_;rintro e w2 ⟨rfl,hb2⟩;have z_w2:=hb2.size;(try simp at z_w2);have K_w2_0:=bq3 hb2 (w.heap.size);have K_w2_g:=bq hb2 (g);have K_w2_h:=bq hb2 (h);(try (refine aI (bk hb2 (wc.heap.size)) ?_ ?_;(focus (first|omega|(simp;done)|(simp;omega)));rintro⟨y_w2_q3,c_w2_q3,f_w2_q3,r_w2_q3,t_w2_q3,p_w2_q3⟩;have ngg_w2_q3:¬ (g=wc.heap.size):=(by omega);have ngh_w2_q3:¬ (h=wc.heap.size):=(by omega);have n0_w2_q3:¬ (w.heap.size=wc.heap.size):=(by omega);have n1_w2_q3:¬ (w.heap.size+1=wc.heap.size):=(by omega);have n2_w2_q3:¬ (w.heap.size+1+1=wc.heap.size):=(by omega)));(try (refine aI (bk hb2 (w1.heap.size)) ?_ ?_;(focus (first|omega|(simp;done)|(simp;omega)));rintro⟨y_w2_q4,c_w2_q4,f_w2_q4,r_w2_q4,t_w2_q4,p_w2_q4⟩;have ngg_w2_q4:¬ (g=w1.heap.size):=(by omega);have ngh_w2_q4:¬ (h=w1.heap.size):=(by omega);have n0_w2_q4:¬ (w.heap.size=w1.heap.size):=(by omega);have n1_w2_q4:¬ (w.heap.size+1=w1.heap.size):=(by omega);have n2_w2_q4:¬ (w.heap.size+1+1=w1.heap.size):=(by omega))))
      | (go_at_call 42;refine(cN _ _ _).mono ?_;rintro e w3 ⟨rfl,hb3⟩;have z_w3:=hb3.size;(try simp at z_w3);have K_w3_0:=bq3 hb3 (w.heap.size);have K_w3_g:=bq hb3 (g);have K_w3_h:=bq hb3 (h);(try (refine aI (bk hb3 (wc.heap.size)) ?_ ?_;(focus (first|omega|(simp;done)|(simp;omega)));rintro⟨y_w3_q3,c_w3_q3,f_w3_q3,r_w3_q3,t_w3_q3,p_w3_q3⟩;have ngg_w3_q3:¬ (g=wc.heap.size):=(by omega);have ngh_w3_q3:¬ (h=wc.heap.size):=(by omega);have n0_w3_q3:¬ (w.heap.size=wc.heap.size):=(by omega);have n1_w3_q3:¬ (w.heap.size+1=wc.heap.size):=(by omega);have n2_w3_q3:¬ (w.heap.size+1+1=wc.heap.size):=(by omega)));(try (refine aI (bk hb3 (w1.heap.size)) ?_ ?_;(focus (first|omega|(simp;done)|(simp;omega)));rintro⟨y_w3_q4,c_w3_q4,f_w3_q4,r_w3_q4,t_w3_q4,p_w3_q4⟩;have ngg_w3_q4:¬ (g=w1.heap.size):=(by omega);have ngh_w3_q4:¬ (h=w1.heap.size):=(by omega);have n0_w3_q4:¬ (w.heap.size=w1.heap.size):=(by omega);have n1_w3_q4:¬ (w.heap.size+1=w1.heap.size):=(by omega);have n2_w3_q4:¬ (w.heap.size+1+1=w1.heap.size):=(by omega)));(try (refine aI (bk hb3 (w2.heap.size)) ?_ ?_;(focus (first|omega|(simp;done)|(simp;omega)));rintro⟨y_w3_q5,c_w3_q5,f_w3_q5,r_w3_q5,t_w3_q5,p_w3_q5⟩;have ngg_w3_q5:¬ (g=w2.heap.size):=(by omega);have ngh_w3_q5:¬ (h=w2.heap.size):=(by omega);have n0_w3_q5:¬ (w.heap.size=w2.heap.size):=(by omega);have n1_w3_q5:¬ (w.heap.size+1=w2.heap.size):=(by omega);have n2_w3_q5:¬ (w.heap.size+1+1=w2.heap.size):=(by omega)))))
    all_goals go_wp2_with fail
    all_goals go_meet
    all_goals exact⟨_,rfl,(by first|omega|(simp;done)|(simp;omega)|fail),(by first|omega|(simp;done)|(simp;omega)|fail),(by go_simp),(by first|omega|(simp;done)|(simp;omega)|fail),(by go_simp),(by first|omega|(simp;done)|(simp;omega)|fail),(by go_simp),(by go_simp),ae⟩
   case rest =>
    obtain⟨j,rfl,hj1,hj2,hjr,hh3,hhr,hg4,hgr,hf,HBL⟩:=hcut;have y0:w.heap.size<wc.heap.size:=by omega
    have y1:w.heap.size+1<wc.heap.size:=by omega
    have y2:w.heap.size+1+1<wc.heap.size:=by omega
    go_wp2_with fail
    go_region_held3 (fun w'=>w'.row? g 0 18=some ((WI.of a).mul (WI.of (x*x))).cells∧w'.row? h 0 18=some ((WI.of d).mul (WI.of (y*y))).cells∧w'.row? j 0 18=some ((WI.of b).mul (WI.of (x*y))).cells) (go_simp)
     (first
      | (go_at_call 41;refine(mV _ _ _).mono ?_;rintro e w1 ⟨rfl,hb1⟩;have z_w1:=hb1.size;(try simp at z_w1);have K_w1_0:=bq3 hb1 (w.heap.size);have K_w1_g:=bq hb1 (g);have K_w1_h:=bq hb1 (h);have K_w1_j:=bq hb1 (j);have k1:¬ (g=w.heap.size+1+1):=(by omega);have k2:¬ (h=w.heap.size+1+1):=(by omega);have k3:¬ (j=w.heap.size+1+1):=(by omega)))
    go_wp2
    exact ak 18 ((((WI.of a).mul (WI.of (x*x))).add ((WI.of d).mul (WI.of (y*y)))).add (((WI.of b).mul (WI.of (x*y))).add ((WI.of b).mul (WI.of (x*y))))).cells rfl rfl rfl Tryz.underlying47 rfl aE (by go_simp) ⟨by rw[E.out],ae⟩
open Go.RowKit
theorem Bl (n x y:Int) (hn:I64 n) (hx:I64 x) (hy:I64 y):(WI.of n).sub (WI.of (x*y))=WI.of (n-x*y) :=
 WI.ez ((Sm.of64 hn.1 hn.2).lim (by decide)) (((Sm.of64 hx.1 hx.2).mul (Sm.of64 hy.1 hy.2)).lim (by decide))
theorem pF (n x y:Int) (hn:I64 n) (hx:I64 x) (hy:I64 y):Sm 127 (n-x*y) :=
 Sm.sub ((Sm.of64 hn.1 hn.2).mono (by decide)) ((Sm.of64 hx.1 hx.2).mul (Sm.of64 hy.1 hy.2))
theorem DP (n x y:Int) (hn:I64 n) (hx:I64 x) (hy:I64 y) (w:World) :
  Calls Tryz.prog 137 #[.int .i64 n,.int .i64 x,.int .i64 y] w fun e w'=>e = .returned (.agg (WI.of (n-x*y)).cells)∧Below w.heap.size w w':=by
 have E:=Lh (Bl n x y hn hx hy);have HN:=Lh hn;have HX:=Lh hx;have HY:=Lh hy;clear hn hx hy;go_enter Tryz.func137,Tryz.ntmps137;go_wp2_with fail;refine(eg _ HN.out.1 HN.out.2 _).mono ?_;rintro e w1 ⟨rfl,hb1⟩;have z_w1:=hb1.size;(try simp at z_w1);have Kw1aa:=bq hb1 (w.heap.size);go_wp2_with fail;refine(kQ _ _ HX.out HY.out _).mono ?_;rintro e w2 ⟨rfl,hb2⟩;have z_w2:=hb2.size;(try simp at z_w2);have Kw2aa:=bq hb2 (w.heap.size);go_wp2_with fail;refine(jY _ _ _).mono ?_;rintro e w3 ⟨rfl,hb3⟩;have z_w3:=hb3.size;(try simp at z_w3);have Kw3aa:=bq hb3 (w.heap.size);go_wp2
 exact ak 18 ((WI.of n).sub (WI.of (x*y))).cells rfl rfl rfl Tryz.underlying47 rfl aE (by go_simp) ⟨by rw[E.out],ae⟩
def gj (a b d x y:Int):Bool:=oZ (a-x*x) (b-x*y) (d-y*y)
theorem Bu (a b d x y:Int) (ha:I64 a) (hb:I64 b) (hd:I64 d) (hx:I64 x) (hy:I64 y) (w:World) :
  Calls Tryz.prog 94 #[ei a b d,ptV x y] w fun e w'=>e = .returned (.bool (gj a b d x y))∧Below w.heap.size w w':=by
 have E:Hid (xM (WI.of (a-x*x)) (WI.of (b-x*y)) (WI.of (d-y*y))=gj a b d x y):=AZ _ _ _ (pF _ _ _ ha hx hx) (pF _ _ _ hb hx hy) (pF _ _ _ hd hy hy);have HA:=Lh ha;have HB:=Lh hb;have HD:=Lh hd;have HX:=Lh hx;have HY:=Lh hy;clear ha hb hd hx hy;go_enter Tryz.func94,Tryz.ntmps94;go_wp2_with fail
 go_region_held3 (fun w' => w'.cell? ⟨w.heap.size, 0, none⟩ = some (.int .i64 a) ∧ w'.cell? ⟨w.heap.size, 1, none⟩ = some (.int .i64 b) ∧ w'.cell? ⟨w.heap.size, 2, none⟩ = some (.int .i64 d) ∧
     w'.cell? ⟨w.heap.size+1,0,none⟩=some (.int .i64 x)∧w'.cell? ⟨w.heap.size+1,1,none⟩=some (.int .i64 y)) (go_simp)
  (first
   | (go_at_call 137;refine(DP _ _ _ (by first|exact HA.out|exact HB.out|exact HD.out) (by first|exact HX.out|exact HY.out) (by first|exact HX.out|exact HY.out) _).mono ?_;rintro e w1 ⟨rfl,hb1⟩;have z_w1:=hb1.size;(try simp at z_w1);have Kw1aa:=bq hb1 (w.heap.size);have Kw1ab:=bq hb1 (w.heap.size+1))
   | (go_at_call 138;refine(Fy _ _ _ _).mono ?_;rintro e w2 ⟨rfl,hb2⟩;have z_w2:=hb2.size;(try simp at z_w2);have Kw2aa:=bq hb2 (w.heap.size);have Kw2ab:=bq hb2 (w.heap.size+1)))
 go_wp2
 go_ret;exact⟨by rw[← E.out];rfl,ae⟩
theorem ga (a b d:Int):oZ a b d=true↔0≤a∧0≤d∧0≤a*d-b*b:=by
 unfold oZ;simp[and_assoc]
theorem ax (a:Int):0≤a*a:=by
 rcases Int.le_total 0 a with h|h
 ·exact Int.mul_nonneg h h
 ·exact Int.mul_nonneg_of_nonpos_of_nonpos h h
def form (a b d x y:Int):Int:=a*(x*x)+d*(y*y)+(b*(x*y)+b*(x*y))
theorem qv (a b d x y:Int) (h:oZ a b d=true):0≤form a b d x y:=by
 rw[ga] at h;obtain⟨h1,h2,h3⟩:=h;unfold form;rcases Int.lt_or_eq_of_le h1 with h0|h0
 ·have e:a*(a*(x*x)+d*(y*y)+(b*(x*y)+b*(x*y)))=(a*x+b*y)*(a*x+b*y)+(a*d-b*b)*(y*y):=by grind
  have p1:=ax (a*x+b*y);have p2:=Int.mul_nonneg h3 (ax y);rcases Int.lt_or_le (a*(x*x)+d*(y*y)+(b*(x*y)+b*(x*y))) 0 with hn|hn
  ·have:=Int.mul_neg_of_pos_of_neg h0 hn;omega
  ·exact hn
 ·subst h0;have hb:=ax b
  have hb0:b=0:=by
   have:b*b=0:=by omega
   rcases Int.mul_eq_zero.1 this with h|h <;> exact h
  subst hb0;have:=Int.mul_nonneg h2 (ax y);omega
theorem Bb (a b d:Int) (h:oZ a b d=false) (h1:0≤form a b d 1 0) (h2:0≤form a b d 0 1) (h3:0≤form a b d b (-a)) (h4:0≤form a b d d (-b)) (h5:0≤form a b d 1 1) (h6:0≤form a b d 1 (-1)):False:=by
 have e1:form a b d 1 0=a:=by unfold form;grind
 have e2:form a b d 0 1=d:=by unfold form;grind
 have e3:form a b d b (-a)=a*(a*d-b*b):=by unfold form;grind
 have e4:form a b d d (-b)=d*(a*d-b*b):=by unfold form;grind
 have e5:form a b d 1 1=a+d+2*b:=by unfold form;grind
 have e6:form a b d 1 (-1)=a+d-2*b:=by unfold form;grind
 rw[e1] at h1;rw[e2] at h2;rw[e3] at h3;rw[e4] at h4;rw[e5] at h5;rw[e6] at h6
 have hn:a*d-b*b<0:=by
  rcases Int.lt_or_le (a*d-b*b) 0 with hn|hn
  ·exact hn
  ·have:=(ga a b d).2 ⟨h1,h2,hn⟩;rw[h] at this;cases this
 have ha:a=0:=by
  rcases Int.lt_or_eq_of_le h1 with h0|h0
  ·have:=Int.mul_neg_of_pos_of_neg h0 hn;omega
  ·exact h0.symm
 have hd:d=0:=by
  rcases Int.lt_or_eq_of_le h2 with h0|h0
  ·have:=Int.mul_neg_of_pos_of_neg h0 hn;omega
  ·exact h0.symm
 subst ha;subst hd;have:b=0:=by omega
 subst this;simp at hn
theorem qu (a b d:Int) (h:∀ x y,0≤form a b d x y):oZ a b d=true:=by
 cases hp:oZ a b d with
 | true=>rfl
 | false=>exact absurd (Bb a b d hp (h _ _) (h _ _) (h _ _) (h _ _) (h _ _) (h _ _)) (fun h=>h)
theorem sL (a b d x y:Int):gj a b d x y=true↔∀ h k,(x*h+y*k)*(x*h+y*k)≤form a b d h k:=by
 have e:∀ h k,form (a-x*x) (b-x*y) (d-y*y) h k=form a b d h k-(x*h+y*k)*(x*h+y*k):=by
  intro h k;unfold form;grind
 constructor
 ·intro hh h k;have:=qv _ _ _ h k hh;rw[e] at this;omega
 ·intro hh;refine qu _ _ _ fun h k=>?_;rw[e];have:=hh h k;omega
theorem jC (s r a b d A B D h k:Int) (hA:r*a≤s*A) (hD:r*d≤s*D) (hB1:s*B≤r*b) (hB2:r*b<s*B+s) :
  r*form a b d h k≤s*form (A+1) B (D+1) h k:=by
 obtain⟨al,hal⟩:∃ al,s*A=r*a+al:=⟨s*A-r*a,by omega⟩;obtain⟨de,hde⟩:∃ de,s*D=r*d+de:=⟨s*D-r*d,by omega⟩;obtain⟨be,hbe⟩:∃ be,s*B=r*b-be:=⟨r*b-s*B,by omega⟩
 have e:s*form (A+1) B (D+1) h k=r*form a b d h k+(al*(h*h)+de*(k*k)+((s-be)*(h*h+k*k)+be*((h-k)*(h-k)))):=by
  unfold form;have e1:s*((A+1)*(h*h)+(D+1)*(k*k)+(B*(h*k)+B*(h*k)))=(s*A)*(h*h)+s*(h*h)+(s*D)*(k*k)+s*(k*k)+2*((s*B)*(h*k)):=by grind
  rw[e1,hal,hde,hbe];grind
 have p1:=Int.mul_nonneg (show 0≤al by omega) (ax h);have p2:=Int.mul_nonneg (show 0≤de by omega) (ax k);have p3:=Int.mul_nonneg (show 0≤s-be by omega) (show 0≤h*h+k*k by have:=ax h;have:=ax k;omega);have p4:=Int.mul_nonneg (show 0≤be by omega) (ax (h-k));omega
theorem yA (a b d a' b' d' h k:Int):form (a+a') (b+b') (d+d') h k=form a b d h k+form a' b' d' h k:=by unfold form;grind
theorem Aj (s t f f' g g' u v K:Int) (hs:0<s) (ht:0<t) (h1:(s+t)*f≤s*g) (h2:(s+t)*f'≤t*g') (hK:0≤K) (hu:u*u≤K*f) (hv:v*v≤K*f') :
  (u+v)*(u+v)≤K*(g+g'):=by
 have hst:0<s*t:=Int.mul_pos hs ht;have hr:0<s+t:=by omega
 have k1:t*(u*u)+s*(v*v)≤K*(t*f+s*f'):=by
  have a1:=Int.mul_le_mul_of_nonneg_left hu (show 0≤t by omega);have a2:=Int.mul_le_mul_of_nonneg_left hv (show 0≤s by omega);have e:K*(t*f+s*f')=t*(K*f)+s*(K*f'):=by grind
  omega
 have k2:(s+t)*(t*f+s*f')≤s*t*(g+g'):=by
  have a1:=Int.mul_le_mul_of_nonneg_left h1 (show 0≤t by omega);have a2:=Int.mul_le_mul_of_nonneg_left h2 (show 0≤s by omega);have e1:(s+t)*(t*f+s*f')=t*((s+t)*f)+s*((s+t)*f'):=by grind
  have e2:s*t*(g+g')=t*(s*g)+s*(t*g'):=by grind
  omega
 have k3:s*t*((u+v)*(u+v))+(t*u-s*v)*(t*u-s*v)=(s+t)*(t*(u*u)+s*(v*v)):=by grind
 have k4:=ax (t*u-s*v);have k5:=Int.mul_le_mul_of_nonneg_left k1 (show 0≤s+t by omega);have k6:=Int.mul_le_mul_of_nonneg_left k2 hK;have e3:(s+t)*(K*(t*f+s*f'))=K*((s+t)*(t*f+s*f')):=by grind
 have e4:K*(s*t*(g+g'))=s*t*(K*(g+g')):=by grind
 have k7:s*t*((u+v)*(u+v))≤s*t*(K*(g+g')):=by omega
 exact Int.le_of_mul_le_mul_left k7 hst
/-! ### Quotients up and down -/
def cdiv (x s:Int):Int := -((-x).fdiv s)
theorem cI (x s:Int) (hs:0<s):s*x.fdiv s≤x∧x<s*x.fdiv s+s:=by
 rw[Int.fdiv_eq_ediv_of_nonneg _ (by omega)];have h1:=Int.mul_ediv_add_emod x s;have h2:=Int.emod_nonneg x (show s≠0 by omega);have h3:=Int.emod_lt_of_pos x hs;omega
theorem dH (x s:Int) (hs:0<s):x≤s*cdiv x s∧s*cdiv x s<x+s:=by
 have h:=cI (-x) s hs;unfold cdiv;rw[Int.mul_neg];omega
structure El where
 x:Int
 y:Int
 a:Int
 b:Int
 d:Int
def El.zero:El:=⟨0,0,0,0,0⟩
def mayPt (x y:Int):Bool:=decide (-4194304≤x∧x≤4194304 ∧ -4194304≤y∧y≤4194304)
def El.may (e:El):Bool:=mayPt e.x e.y&&decide (1≤e.a∧e.a≤70368744177664∧1≤e.d∧e.d≤70368744177664 ∧ -70368744177664≤e.b∧e.b≤70368744177664)&&decide (0<e.a*e.d-e.b*e.b)
theorem ic (x y:Int):mayPt x y=true ↔ -4194304≤x∧x≤4194304 ∧ -4194304≤y∧y≤4194304:=by unfold mayPt;simp
theorem El.aQ (e:El):e.may=true↔(-4194304≤e.x∧e.x≤4194304 ∧ -4194304≤e.y∧e.y≤4194304)∧(1≤e.a∧e.a≤70368744177664∧1≤e.d∧e.d≤70368744177664 ∧ -70368744177664≤e.b∧e.b≤70368744177664)∧0<e.a*e.d-e.b*e.b:=by
 unfold El.may;rw[Bool.and_eq_true,Bool.and_eq_true,ic,decide_eq_true_eq,decide_eq_true_eq,and_assoc]
def El.has (e:El) (p q:Int):Bool:=e.may&&decide (-1073741824≤p∧p≤1073741824 ∧ -1073741824≤q∧q≤1073741824)&&gj e.a e.b e.d (p-e.x) (q-e.y)
theorem El.jb (e:El) (p q:Int):e.has p q=true↔e.may=true∧(-1073741824≤p∧p≤1073741824 ∧ -1073741824≤q∧q≤1073741824)∧gj e.a e.b e.d (p-e.x) (q-e.y)=true:=by
 unfold El.has;rw[Bool.and_eq_true,Bool.and_eq_true,decide_eq_true_eq,and_assoc]
def El.tr (e:El):Int:=if e.may=true then e.a+e.d else 0
def El.rad (e:El):Int:=(up e.tr.toNat:Nat)
def dV (e f:El):El:=⟨e.x+f.x,e.y+f.y,cdiv ((e.rad+f.rad)*e.a) e.rad+cdiv ((e.rad+f.rad)*f.a) f.rad+2,((e.rad+f.rad)*e.b).fdiv e.rad+((e.rad+f.rad)*f.b).fdiv f.rad,cdiv ((e.rad+f.rad)*e.d) e.rad+cdiv ((e.rad+f.rad)*f.d) f.rad+2⟩
def sumE (e f:El):El × Int:=if e.may=true∧f.may=true then (if (dV e f).may=true then (dV e f,0) else (El.zero,2)) else (El.zero,1)
def ballE (x y r:Int):El × Int:=if mayPt x y=true∧1≤r∧r≤4194304 then (⟨x,y,r*r,0,r*r⟩,0) else (El.zero,1)
def growE (e:El) (r:Int):El × Int:=if e.may=true∧0≤r∧r≤4194304 then (if r=0 then (e,0) else sumE e (ballE 0 0 r).1) else (El.zero,1)
theorem El.eQ (e:El) (h:e.may=true):0<e.rad:=by
 have h1:=(El.aQ e).1 h;have h2:=kP e.tr.toNat;have h3:e.tr=e.a+e.d:=by unfold El.tr;rw[if_pos h]
 unfold El.rad;rcases Nat.eq_zero_or_pos (up e.tr.toNat) with h0|h0
 ·rw[h0] at h2;omega
 ·omega
theorem El.ml (e:El) (h:e.may=true):e.a+e.d≤e.rad*e.rad:=by
 have h1:=(El.aQ e).1 h;have h2:=(kP e.tr.toNat).1;have h3:e.tr=e.a+e.d:=by unfold El.tr;rw[if_pos h]
 unfold El.rad;rw[← Int.natCast_mul];omega
theorem El.fg (e:El):e.rad≤11863284:=by
 have h1:e.tr≤140737488355328:=by
  unfold El.tr;split
  ·rename_i h;have:=(El.aQ e).1 h;omega
  ·decide
 have:=CD e.tr.toNat 11863284 (by omega);unfold El.rad;omega
theorem tc (e f:El) (h k:Int):form (dV e f).a (dV e f).b (dV e f).d h k =
  form (cdiv ((e.rad+f.rad)*e.a) e.rad+1) (((e.rad+f.rad)*e.b).fdiv e.rad) (cdiv ((e.rad+f.rad)*e.d) e.rad+1) h k+form (cdiv ((e.rad+f.rad)*f.a) f.rad+1) (((e.rad+f.rad)*f.b).fdiv f.rad) (cdiv ((e.rad+f.rad)*f.d) f.rad+1) h k:=by
 rw[← yA];unfold dV;simp only;congr 1 <;> omega
theorem p6 (e f:El) (he:e.may=true) (hf:f.may=true) (h k:Int) :
  (e.rad+f.rad)*form e.a e.b e.d h k≤e.rad*form (cdiv ((e.rad+f.rad)*e.a) e.rad+1) (((e.rad+f.rad)*e.b).fdiv e.rad) (cdiv ((e.rad+f.rad)*e.d) e.rad+1) h k ∧
   (e.rad+f.rad)*form f.a f.b f.d h k≤f.rad*form (cdiv ((e.rad+f.rad)*f.a) f.rad+1) (((e.rad+f.rad)*f.b).fdiv f.rad) (cdiv ((e.rad+f.rad)*f.d) f.rad+1) h k:=by
 have h1:=e.eQ he;have h2:=f.eQ hf
 exact⟨jC _ _ _ _ _ _ _ _ _ _ (dH _ _ h1).1 (dH _ _ h1).1 (cI _ _ h1).1 (cI _ _ h1).2,
  jC _ _ _ _ _ _ _ _ _ _ (dH _ _ h2).1 (dH _ _ h2).1 (cI _ _ h2).1 (cI _ _ h2).2⟩
theorem ve (e f:El) (he:e.may=true) (hf:f.may=true) (h k u v K:Int) (hK:0≤K) (hu:u*u≤K*form e.a e.b e.d h k) (hv:v*v≤K*form f.a f.b f.d h k) :
  (u+v)*(u+v)≤K*form (dV e f).a (dV e f).b (dV e f).d h k:=by
 rw[tc];have hp:=p6 e f he hf h k;exact Aj _ _ _ _ _ _ u v K (e.eQ he) (f.eQ hf) hp.1 hp.2 hK hu hv
theorem oN {e f o:El} (h:sumE e f=(o,0)):e.may=true∧f.may=true∧o=dV e f∧o.may=true:=by
 unfold sumE at h;split at h
 ·rename_i h1;split at h
  ·rename_i h2;injection h with h3 h4;subst h3;exact⟨h1.1,h1.2,rfl,h2⟩
  ·injection h with h3 h4;cases h4
 ·injection h with h3 h4;cases h4
theorem El.near (e:El) (p q:Int) (h:e.has p q=true) : -8388608≤p-e.x∧p-e.x≤8388608 ∧ -8388608≤q-e.y∧q-e.y≤8388608:=by
 obtain⟨hm,_,hh⟩:=(El.jb e p q).1 h;have h1:=(El.aQ e).1 hm;unfold gj at hh;rw[ga] at hh
 have key:∀ z a:Int,0≤a-z*z→a≤70368744177664 → -8388608≤z∧z≤8388608:=by
  intro z a h2 h3;constructor
  ·rcases Int.lt_or_le z (-8388608) with h4|h4
   ·have:(-z)*(-z)≥8388609*8388609:=Int.mul_le_mul (by omega) (by omega) (by decide) (by omega);rw[Int.neg_mul_neg] at this;omega
   ·exact h4
  ·rcases Int.lt_or_le 8388608 z with h4|h4
   ·have:z*z≥8388609*8388609:=Int.mul_le_mul (by omega) (by omega) (by decide) (by omega);omega
   ·exact h4
 have k1:=key _ _ hh.1 h1.2.1.2.1;have k2:=key _ _ hh.2.1 h1.2.1.2.2.2.1;omega
theorem lu (r a s:Int) (hs:0<s) (hr:s≤r) (ha:0≤a):a≤cdiv (r*a) s:=by
 have h1:=(dH (r*a) s hs).1;have h2:s*a≤r*a:=Int.mul_le_mul_of_nonneg_right hr ha;exact Int.le_of_mul_le_mul_left (Int.le_trans h2 h1) hs
theorem vd {e f o:El} (h:sumE e f=(o,0)):e.tr+f.tr+4≤o.tr:=by
 obtain⟨he,hf,rfl,ho⟩:=oN h;have h1:=e.eQ he;have h2:=f.eQ hf;have m1:=(El.aQ e).1 he;have m2:=(El.aQ f).1 hf;unfold El.tr;rw[if_pos he,if_pos hf,if_pos ho];have a1:=lu (e.rad+f.rad) e.a e.rad h1 (by omega) (by omega);have a2:=lu (e.rad+f.rad) e.d e.rad h1 (by omega) (by omega);have a3:=lu (e.rad+f.rad) f.a f.rad h2 (by omega) (by omega);have a4:=lu (e.rad+f.rad) f.d f.rad h2 (by omega) (by omega);show e.a+e.d+(f.a+f.d)+4≤(cdiv ((e.rad+f.rad)*e.a) e.rad+cdiv ((e.rad+f.rad)*f.a) f.rad+2)+(cdiv ((e.rad+f.rad)*e.d) e.rad+cdiv ((e.rad+f.rad)*f.d) f.rad+2);omega
theorem mw (e:El) (h:e.may=true) (i j:Int):0≤form e.a e.b e.d i j:=by
 have m:=(El.aQ e).1 h;exact qv _ _ _ _ _ ((ga _ _ _).2 ⟨by omega,by omega,by omega⟩)
/-! ### Growth by a ball, with time -/
theorem qg {z r:Int} (hr:0≤r) (h:z*z≤r*r) : -r≤z∧z≤r:=by
 constructor
 ·rcases Int.lt_or_le z (-r) with h1|h1
  ·have:(r+1)*(r+1)≤(-z)*(-z):=Int.mul_le_mul (by omega) (by omega) (by omega) (by omega);rw[Int.neg_mul_neg] at this;have e:(r+1)*(r+1)=r*r+2*r+1:=by grind
   omega
  ·exact h1
 ·rcases Int.lt_or_le r z with h1|h1
  ·have:(r+1)*(r+1)≤z*z:=Int.mul_le_mul (by omega) (by omega) (by omega) (by omega);have e:(r+1)*(r+1)=r*r+2*r+1:=by grind
   omega
  ·exact h1
theorem zv (x y r:Int) (hp:mayPt x y=true) (h1:1≤r) (h2:r≤4194304):(⟨x,y,r*r,0,r*r⟩:El).may=true:=by
 have p:=(ic x y).1 hp;have k1:1*1≤r*r:=Int.mul_le_mul h1 h1 (by decide) (by omega);have k2:r*r≤4194304*4194304:=Int.mul_le_mul h2 h2 (by omega) (by decide);have k3:1≤r*r∧r*r≤70368744177664∧1≤r*r∧r*r≤70368744177664∧(-70368744177664:Int)≤0∧(0:Int)≤70368744177664:=⟨by omega,by omega,by omega,by omega,by decide,by decide⟩;refine(El.aQ _).2 ⟨p,k3,?_⟩;have:1*1≤(r*r)*(r*r):=Int.mul_le_mul (by omega) (by omega) (by decide) (by omega);simp only[Int.mul_zero,Int.sub_zero];omega
theorem mI {e g:El} {r:Int} (h:growE e r=(g,0)):e.may=true∧0≤r∧r≤4194304∧((r=0∧g=e)∨(1≤r∧sumE e ⟨0,0,r*r,0,r*r⟩=(g,0))):=by
 unfold growE at h;split at h
 ·rename_i h1;refine⟨h1.1,h1.2.1,h1.2.2,?_⟩;split at h
  ·rename_i h2;injection h with h3 h4;exact .inl ⟨h2,h3.symm⟩
  ·rename_i h2;right;refine⟨by omega,?_⟩
   have:ballE 0 0 r=(⟨0,0,r*r,0,r*r⟩,0):=by
    unfold ballE;rw[if_pos ⟨by decide,by omega,h1.2.2⟩]
   rw[this] at h;exact h
 ·injection h with h3 h4;cases h4
theorem vU {e g:El} {r:Int} (h:growE e r=(g,0)) (hr:r≠0):g.x=e.x∧g.y=e.y∧e.tr<g.tr∧g.may=true:=by
 obtain⟨he,h0,h1,⟨h2,_⟩|⟨h2,h3⟩⟩:=mI h
 ·exact absurd h2 hr
 ·obtain⟨_,hb,ho,hm⟩:=oN h3;have ht:=vd h3;refine⟨by rw[ho];show e.x+0=e.x;omega,by rw[ho];show e.y+0=e.y;omega,?_,hm⟩
  have:0≤(⟨0,0,r*r,0,r*r⟩:El).tr:=by
   unfold El.tr;rw[if_pos hb];have:=ax r;show 0≤r*r+r*r;omega
  omega
theorem qZ {e g:El} {r:Int} (h:growE e r=(g,0)):g.x=e.x∧g.y=e.y∧g.may=true:=by
 by_cases hr:r=0
 ·obtain⟨he,_,_,⟨_,rfl⟩|⟨h2,_⟩⟩:=mI h
  ·exact⟨rfl,rfl,he⟩
  ·omega
 ·have:=vU h hr;exact⟨this.1,this.2.1,this.2.2.2⟩
end Go.Proofs.YtnoidlacjiafdaaGreat
