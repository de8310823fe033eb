/- Laws and walks that the claim names. -/
import Derived.Test.YtnoidlacjiafdaaGreatBM
import Derived.Deep.RegionWith
import Derived.Deep.Cut
import Derived.StillTail
import Derived.Deep.Quiet
import Derived.Below
import Derived.Tactics
import Derived.BigQuiet
import Derived.Lib.Hide
set_option maxRecDepth 100000
set_option maxHeartbeats 16000000
namespace Go.Proofs.YtnoidlacjiafdaaGreat
set_option linter.unusedSimpArgs false
set_option linter.unusedVariables false
open Go.RowKit
abbrev elC (x y a b d:Int):Value := .agg #[.int .i64 x,.int .i64 y,.int .i64 a,.int .i64 b,.int .i64 d]
abbrev stC (a b c d e f:Int):Value := .agg #[.int .i64 a,.int .i64 b,.int .i64 c,.int .i64 d,.int .i64 e,.int .i64 f]
abbrev elV (e:El):Value:=elC e.x e.y e.a e.b e.d
def withinB (x y m:Int):Bool:=decide (-m≤x∧x≤m ∧ -m≤y∧y≤m)
theorem iN (x y m:Int) (hm:0≤m∧m≤9223372036854775807) (w:World) :
  Calls Tryz.prog 70 #[ptV x y,.int .i64 m] w fun e w'=>e = .returned (.bool (withinB x y m))∧Below w.heap.size w w':=by
 have W1:IntKind.i64.wrap (-m) = -m:=by rw[IntKind.wrap_i64];omega
 have E:withinB x y m=(decide (-m≤x)&&(decide (x≤m)&&(decide (-m≤y)&&decide (y≤m)))):=by unfold withinB;simp
 by_cases h1 : -m≤x
 ·by_cases h2:x≤m
  ·by_cases h3 : -m≤y
   ·have EV:Hid (withinB x y m=decide (y≤m)):=by show _=_;rw[E];simp[h1,h2,h3]
    clear E;go_enter Tryz.func70,Tryz.ntmps70;go_wp2
    go_ret;exact⟨by rw[EV.out];rfl,ae⟩
   ·have EV:Hid (withinB x y m=false):=by show _=_;rw[E];simp[h1,h2,h3]
    clear E;go_enter Tryz.func70,Tryz.ntmps70;go_wp2
    go_ret;exact⟨by rw[EV.out];rfl,ae⟩
  ·have EV:Hid (withinB x y m=false):=by show _=_;rw[E];simp[h1,h2]
   clear E;go_enter Tryz.func70,Tryz.ntmps70;go_wp2
   go_ret;exact⟨by rw[EV.out];rfl,ae⟩
 ·have EV:Hid (withinB x y m=false):=by show _=_;rw[E];simp[h1]
  clear E;go_enter Tryz.func70,Tryz.ntmps70;go_wp2
  go_ret;exact⟨by rw[EV.out];rfl,ae⟩
theorem cQ (x y:Int) (w:World) :
  Calls Tryz.prog 66 #[ptV x y] w fun e w'=>e = .returned (.bool (mayPt x y))∧Below w.heap.size w w':=by
 go_enter Tryz.func66,Tryz.ntmps66;go_wp2_with fail;refine(iN x y 4194304 (by decide) _).mono ?_;rintro e w1 ⟨rfl,hb1⟩;have s1:=hb1.size;go_wp2_with fail;go_ret;exact⟨rfl,ae⟩
theorem El.uk (e:El) (h:e.may=true):kO e.a e.b e.d=true:=by
 have:=(El.aQ e).1 h;rw[mx];omega
theorem may_cases (m:Bool) (a b d:Int):(m=false)∨(m=true∧¬ 1≤a)∨(m=true∧1≤a∧¬ a≤70368744177664)∨(m=true∧1≤a∧a≤70368744177664∧¬ 1≤d)∨(m=true∧1≤a∧a≤70368744177664∧1≤d∧¬ d≤70368744177664) ∨
  (m=true∧1≤a∧a≤70368744177664∧1≤d∧d≤70368744177664∧¬ -70368744177664≤b)∨(m=true∧1≤a∧a≤70368744177664∧1≤d∧d≤70368744177664 ∧ -70368744177664≤b∧¬ b≤70368744177664) ∨
  (m=true∧1≤a∧a≤70368744177664∧1≤d∧d≤70368744177664 ∧ -70368744177664≤b∧b≤70368744177664):=by
 cases m <;> simp <;> omega
theorem bD (x y a b d:Int) (w:World) :
  Calls Tryz.prog 17 #[elC x y a b d] w fun e w'=>e = .returned (.bool (El.may ⟨x,y,a,b,d⟩))∧Below w.heap.size w w':=by
 obtain⟨m,hm⟩:∃ m,m=mayPt x y:=⟨_,rfl⟩
 have E:Hid (El.may ⟨x,y,a,b,d⟩=(m&&(decide (1≤a)&&(decide (a≤70368744177664)&&(decide (1≤d)&&(decide (d≤70368744177664)&&(decide (-70368744177664≤b)&&(decide (b≤70368744177664)&&decide (0<a*d-b*b))))))))):=by
  show _=_;rw[hm];unfold El.may;simp[Bool.and_assoc]
 have HM:=Lh hm.symm;clear hm;rcases may_cases m a b d with h0|⟨h0,h1⟩|⟨h0,h1,h2⟩|⟨h0,h1,h2,h3⟩|⟨h0,h1,h2,h3,h4⟩|⟨h0,h1,h2,h3,h4,h5⟩|⟨h0,h1,h2,h3,h4,h5,h6⟩|⟨h0,h1,h2,h3,h4,h5,h6⟩
 case inr.inr.inr.inr.inr.inr.inr =>
  subst h0;have HA:Hid (I64 a∧I64 b∧I64 d):=by unfold Hid I64;omega
  obtain⟨s,hs⟩:∃ s,s=a*d-b*b:=⟨_,rfl⟩;have S:Hid (Sm 260 s):=by show Sm 260 s;rw[hs];exact(HA.out.1.sm.mul HA.out.2.2.sm |>.sub (HA.out.2.1.sm.mul HA.out.2.1.sm)).mono (by decide)
  have HS:=Lh hs;clear hs;rw[← HS.out] at E;have EV:Hid (El.may ⟨x,y,a,b,d⟩=decide (0<s)):=by show _=_;rw[E.out];simp[h1,h2,h3,h4,h5,h6]
  have e1:=Lh (WI.di (S.out.lim (by decide)));go_enter Tryz.func17,Tryz.ntmps17;go_wp2_with fail;refine(cQ _ _ _).mono ?_;rintro e w1 ⟨rfl,hb1⟩;rw[HM.out];have z_w1:=hb1.size;(try simp at z_w1);have Kw1aa:=bq hb1 (w.heap.size);have Kw1ab:=bq hb1 (w.heap.size+1);go_wp2_with fail;refine(qR _ _ _ HA.out.1 HA.out.2.1 HA.out.2.2 _).mono ?_;rintro e w2 ⟨rfl,hb2⟩;have z_w2:=hb2.size;(try simp at z_w2);have Kw2aa:=bq hb2 (w.heap.size);have Kw2ab:=bq hb2 (w.heap.size+1);rw[← HS.out];go_wp2_with fail;refine(dX _ _).mono ?_;rintro e w3 ⟨rfl,hb3⟩;rw[e1.out];have z_w3:=hb3.size;(try simp at z_w3);have Kw3aa:=bq hb3 (w.heap.size);have Kw3ab:=bq hb3 (w.heap.size+1);go_wp2
  go_ret;exact⟨by rw[EV.out];simp,ae⟩
 all_goals subst h0
 all_goals have EV:Hid (El.may ⟨x,y,a,b,d⟩=false):=by show _=_;rw[E.out];simp[*]
 all_goals clear E
 all_goals go_enter Tryz.func17,Tryz.ntmps17
 all_goals go_wp2_with fail
 all_goals (refine(cQ _ _ _).mono ?_;rintro e w1 ⟨rfl,hb1⟩;rw[HM.out];have z_w1:=hb1.size;(try simp at z_w1);have Kw1aa:=bq hb1 (w.heap.size);have Kw1ab:=bq hb1 (w.heap.size+1))
 all_goals go_wp2_with fail
 all_goals go_ret
 all_goals exact⟨by rw[EV.out];rfl,ae⟩
open Go.RowKit
theorem BJ (x y a b d p q:Int) (w:World) :
  Calls Tryz.prog 38 #[elC x y a b d,ptV p q] w fun e w'=>e = .returned (.bool (El.has ⟨x,y,a,b,d⟩ p q))∧Below w.heap.size w w':=by
 obtain⟨m,hm⟩:∃ m,m=El.may ⟨x,y,a,b,d⟩:=⟨_,rfl⟩;obtain⟨n,hn⟩:∃ n,n=withinB p q 1073741824:=⟨_,rfl⟩
 have E:Hid (El.has ⟨x,y,a,b,d⟩ p q=(m&&n&&gj a b d (p-x) (q-y))):=by
  show _=_;rw[hm,hn];rfl
 have HM:=Lh hm.symm;have HN:=Lh hn.symm;cases m with
 | false =>
  clear hm hn;go_enter Tryz.func38,Tryz.ntmps38;go_wp2_with fail;refine(bD _ _ _ _ _ _).mono ?_;rintro e w1 ⟨rfl,hb1⟩;rw[HM.out];have z_w1:=hb1.size;(try simp at z_w1);have Kw1aa:=bq hb1 (w.heap.size);have Kw1ab:=bq hb1 (w.heap.size+1);go_wp2
  go_ret;exact⟨by rw[E.out];rfl,ad⟩
 | true =>
  cases n with
  | false =>
   clear hm hn;go_enter Tryz.func38,Tryz.ntmps38;go_wp2_with fail;refine(bD _ _ _ _ _ _).mono ?_;rintro e w1 ⟨rfl,hb1⟩;rw[HM.out];have z_w1:=hb1.size;(try simp at z_w1);have Kw1aa:=bq hb1 (w.heap.size);have Kw1ab:=bq hb1 (w.heap.size+1);go_wp2_with fail;refine(iN _ _ _ (by decide) _).mono ?_;rintro e w2 ⟨rfl,hb2⟩;rw[HN.out];have z_w2:=hb2.size;(try simp at z_w2);have Kw2aa:=bq hb2 (w.heap.size);have Kw2ab:=bq hb2 (w.heap.size+1);go_wp2
   go_ret;exact⟨by rw[E.out];rfl,ad⟩
  | true =>
   have B:=(El.aQ _).1 hm.symm;have C : -1073741824≤p∧p≤1073741824 ∧ -1073741824≤q∧q≤1073741824:=by simpa [withinB] using hn.symm
   obtain⟨⟨b1,b2,b3,b4⟩,⟨b5,b6,b7,b8,b9,b10⟩,-⟩:=B;obtain⟨c1,c2,c3,c4⟩:=C;simp only at b1 b2 b3 b4 b5 b6 b7 b8 b9 b10;have K:Hid (I64 a∧I64 b∧I64 d∧I64 (p-x)∧I64 (q-y)):=by unfold Hid I64;omega
   clear hm hn b5 b6 b7 b8 b9 b10;go_enter Tryz.func38,Tryz.ntmps38;go_wp2_with fail;refine(bD _ _ _ _ _ _).mono ?_;rintro e w1 ⟨rfl,hb1⟩;rw[HM.out];have z_w1:=hb1.size;(try simp at z_w1);have Kw1aa:=bq hb1 (w.heap.size);have Kw1ab:=bq hb1 (w.heap.size+1);go_wp2_with fail;refine(iN _ _ _ (by decide) _).mono ?_;rintro e w2 ⟨rfl,hb2⟩;rw[HN.out];have z_w2:=hb2.size;(try simp at z_w2);have Kw2aa:=bq hb2 (w.heap.size);have Kw2ab:=bq hb2 (w.heap.size+1);go_wp2_with fail;refine(Bu _ _ _ _ _ K.out.1 K.out.2.1 K.out.2.2.1 K.out.2.2.2.1 K.out.2.2.2.2 _).mono ?_;rintro e w3 ⟨rfl,hb3⟩;have z_w3:=hb3.size;(try simp at z_w3);have Kw3aa:=bq hb3 (w.heap.size);have Kw3ab:=bq hb3 (w.heap.size+1);go_wp2
   go_ret;exact⟨by rw[E.out];rfl,ad⟩
def radB (r:Int):Bool:=decide (1≤r)&&decide (r≤4194304)
theorem qs (r:Int) (w:World) :
  Calls Tryz.prog 86 #[.int .i64 r] w fun e w'=>e = .returned (.bool (radB r))∧Below w.heap.size w w':=by
 have E:radB r=(decide (1≤r)&&decide (r≤4194304)):=rfl;by_cases h1:1≤r
 ·have EV:Hid (radB r=decide (r≤4194304)):=by show _=_;rw[E];simp[h1]
  clear E;go_enter Tryz.func86,Tryz.ntmps86;go_wp2
  go_ret;exact⟨by rw[EV.out];rfl,ad⟩
 ·have EV:Hid (radB r=false):=by show _=_;rw[E];simp[h1]
  clear E;go_enter Tryz.func86,Tryz.ntmps86;go_wp2
  go_ret;exact⟨by rw[EV.out];rfl,ad⟩
theorem wv (x y r:Int) (w:World) :
  Calls Tryz.prog 32 #[ptV x y,.int .i64 r] w fun e w'=>e = .returned (.tuple #[elV (ballE x y r).1,.int .i64 (ballE x y r).2])∧Below w.heap.size w w':=by
 have E:Hid (ballE x y r=if mayPt x y=true∧1≤r∧r≤4194304 then (⟨x,y,r*r,0,r*r⟩,0) else (El.zero,1)):=rfl;obtain⟨m,hm⟩:∃ m,m=mayPt x y:=⟨_,rfl⟩;have HM:=Lh hm.symm;clear hm;rw[HM.out] at E;cases m with
 | false =>
  go_enter Tryz.func32,Tryz.ntmps32;go_wp2_with fail;refine(cQ _ _ _).mono ?_;rintro e w1 ⟨rfl,hb1⟩;rw[HM.out];have z_w1:=hb1.size;(try simp at z_w1);have Kw1aa:=bq hb1 (w.heap.size);have Kw1ab:=bq hb1 (w.heap.size+1);go_wp2
  exact rT 5 z5 (.int .i64 1) ⟨by rw[E.out];rfl,ad⟩
 | true =>
  obtain⟨n,hn⟩:∃ n,n=radB r:=⟨_,rfl⟩;have HN:=Lh hn.symm;cases n with
  | false =>
   have E2:Hid (ballE x y r=(El.zero,1)):=by
    have h:=hn.symm;show _=_;rw[E.out,if_neg];rintro⟨-,h1,h2⟩;simp[radB,h1,h2] at h
   clear hn;go_enter Tryz.func32,Tryz.ntmps32;go_wp2_with fail;refine(cQ _ _ _).mono ?_;rintro e w1 ⟨rfl,hb1⟩;rw[HM.out];have z_w1:=hb1.size;(try simp at z_w1);have Kw1aa:=bq hb1 (w.heap.size);have Kw1ab:=bq hb1 (w.heap.size+1);go_wp2_with fail;refine(qs _ _).mono ?_;rintro e w2 ⟨rfl,hb2⟩;rw[HN.out];have z_w2:=hb2.size;(try simp at z_w2);have Kw2aa:=bq hb2 (w.heap.size);have Kw2ab:=bq hb2 (w.heap.size+1);go_wp2
   exact rT 5 z5 (.int .i64 1) ⟨by rw[E2.out];rfl,ad⟩
  | true =>
   have hr:1≤r∧r≤4194304:=by simpa [radB] using hn.symm
   have E2:Hid (ballE x y r=(⟨x,y,r*r,0,r*r⟩,0)):=by
    show _=_;rw[E.out,if_pos ⟨rfl,hr⟩]
   obtain⟨s,hs⟩:∃ s,s=r*r:=⟨_,rfl⟩;have k2:r*r≤4194304*4194304:=Int.mul_le_mul hr.2 hr.2 (by omega) (by decide);have k3:=ax r;rw[← hs] at E2 k2 k3;have e1:r*r=s:=hs.symm;clear hn hs;go_enter Tryz.func32,Tryz.ntmps32;go_wp2_with fail;refine(cQ _ _ _).mono ?_;rintro e w1 ⟨rfl,hb1⟩;rw[HM.out];have z_w1:=hb1.size;(try simp at z_w1);have Kw1aa:=bq hb1 (w.heap.size);have Kw1ab:=bq hb1 (w.heap.size+1);go_wp2_with fail;refine(qs _ _).mono ?_;rintro e w2 ⟨rfl,hb2⟩;rw[HN.out];have z_w2:=hb2.size;(try simp at z_w2);have Kw2aa:=bq hb2 (w.heap.size);have Kw2ab:=bq hb2 (w.heap.size+1);go_wp2
   exact rT 5 #[.int .i64 x,.int .i64 y,.int .i64 s,.int .i64 0,.int .i64 s] (.int .i64 0) ⟨by rw[E2.out],ad⟩
theorem tO (x y a b d:Int) (w:World) :
  Calls Tryz.prog 69 #[elC x y a b d] w fun e w'=>e = .returned (.int .i64 (El.tr ⟨x,y,a,b,d⟩))∧Below w.heap.size w w':=by
 have E:Hid (El.tr ⟨x,y,a,b,d⟩=if El.may ⟨x,y,a,b,d⟩=true then a+d else 0):=rfl;obtain⟨m,hm⟩:∃ m,m=El.may ⟨x,y,a,b,d⟩:=⟨_,rfl⟩;have HM:=Lh hm.symm;rw[HM.out] at E;cases m with
 | false =>
  clear hm;go_enter Tryz.func69,Tryz.ntmps69;go_wp2_with fail;refine(bD _ _ _ _ _ _).mono ?_;rintro e w1 ⟨rfl,hb1⟩;rw[HM.out];have z_w1:=hb1.size;(try simp at z_w1);have Kw1aa:=bq hb1 (w.heap.size);go_wp2
  go_ret;exact⟨by rw[E.out];rfl,ad⟩
 | true =>
  obtain⟨-,⟨b5,b6,b7,b8,-,-⟩,-⟩:=(El.aQ _).1 hm.symm;simp only at b5 b6 b7 b8;clear hm;go_enter Tryz.func69,Tryz.ntmps69;go_wp2_with fail;refine(bD _ _ _ _ _ _).mono ?_;rintro e w1 ⟨rfl,hb1⟩;rw[HM.out];have z_w1:=hb1.size;(try simp at z_w1);have Kw1aa:=bq hb1 (w.heap.size);go_wp2
  go_ret;exact⟨by rw[E.out];rfl,ad⟩
theorem El.wY (e:El):0≤e.tr∧e.tr≤140737488355328:=by
 unfold El.tr;split
 ·rename_i h;have:=(El.aQ e).1 h;omega
 ·decide
theorem mO (x y a b d:Int) (w:World) :
  Calls Tryz.prog 19 #[elC x y a b d] w fun e w'=>e = .returned (.int .i64 (El.rad ⟨x,y,a,b,d⟩))∧Below w.heap.size w w':=by
 obtain⟨m,hm⟩:∃ m,m=El.tr ⟨x,y,a,b,d⟩:=⟨_,rfl⟩;have h:=El.wY ⟨x,y,a,b,d⟩;rw[← hm] at h;obtain⟨n,hn⟩:∃ n:Nat,m=n:=⟨m.toNat,by omega⟩;subst hn;have HM:=Lh hm.symm;have HR:Hid (El.rad ⟨x,y,a,b,d⟩=(up n:Nat)):=by show _=_;unfold El.rad;rw[HM.out];rfl
 have HL:Hid (n≤9223372036854775807):=by show n≤_;omega
 clear hm h;go_enter Tryz.func19,Tryz.ntmps19;go_wp2_with fail;refine(tO _ _ _ _ _ _).mono ?_;rintro e w1 ⟨rfl,hb1⟩;rw[HM.out];have z_w1:=hb1.size;(try simp at z_w1);have Kw1aa:=bq hb1 (w.heap.size);go_wp2_with fail;refine(Fq n _ HL.out rfl _).mono ?_;rintro e w2 ⟨rfl,hb2⟩;have z_w2:=hb2.size;(try simp at z_w2);have Kw2aa:=bq hb2 (w.heap.size);go_wp2
 go_ret;exact⟨by rw[HR.out];rfl,ad⟩
open Go.RowKit
theorem oT {w:World} {b:Nat} {v:Value} {t:TypeId} {fr:Nat × Nat} (h:w.heap[b]? = some (.cells #[v] t fr)):w.setCell ⟨b,0,none⟩ v=w:=by
 have hh:(w.setCell ⟨b,0,none⟩ v).heap=w.heap:=by
  apply Array.ext_getElem?;intro k;by_cases hk:k=b
  ·subst hk;simp[World.setCell,Array.getElem?_modify,h]
  ·exact heap_setCell_other _ _ _ _ hk
 cases w;simp only[World.setCell] at hh ⊢;rw[hh]
theorem eG (r a s:Int) (hs:0<s) (hr:0≤r) (h1:0≤a) (h2:a≤s*s):0≤cdiv (r*a) s∧cdiv (r*a) s≤r*s:=by
 have h:=dH (r*a) s hs;have k1:=Int.mul_nonneg hr h1;have k2:=Int.mul_le_mul_of_nonneg_left h2 hr;have k3:r*(s*s)=s*(r*s):=by grind
 constructor
 ·exact Int.le_of_mul_le_mul_left (a:=s) (by omega) hs
 · have k4 : s * (cdiv (r * a) s) < s * (r * s + 1) := by
     have:s*(r*s+1)=s*(r*s)+s:=by grind
     omega
   have:=Int.lt_of_mul_lt_mul_left k4 (by omega);omega
theorem tn (r b s:Int) (hs:0<s) (hr:0≤r) (h1 : -(s*s)≤b) (h2:b≤s*s) : -(r*s)≤(r*b).fdiv s∧(r*b).fdiv s≤r*s:=by
 have h:=cI (r*b) s hs;have k1:=Int.mul_le_mul_of_nonneg_left h1 hr;have k2:=Int.mul_le_mul_of_nonneg_left h2 hr;have k3:r*(s*s)=s*(r*s):=by grind
 have k3':r*(-(s*s))=s*(-(r*s)):=by grind
 constructor
 · have k4 : s * (-(r * s)) < s * ((r * b).fdiv s + 1) := by
     have:s*((r*b).fdiv s+1)=s*(r*b).fdiv s+s:=by grind
     omega
   have:=Int.lt_of_mul_lt_mul_left k4 (by omega);omega
 ·exact Int.le_of_mul_le_mul_left (a:=s) (by omega) hs
theorem El.b_sq (e:El) (h:e.may=true) : -(e.rad*e.rad)≤e.b∧e.b≤e.rad*e.rad:=by
 have h1:=(El.aQ e).1 h;have h2:=e.ml h;have h3:e.a*e.d≤(e.rad*e.rad)*(e.rad*e.rad):=Int.mul_le_mul (by omega) (by omega) (by omega) (by have:=ax e.rad;omega);exact qg (by have:=ax e.rad;omega) (by omega)
theorem CI {s t:Int} (h1:0<s) (h2:s≤11863284) (h3:0<t) (h4:t≤11863284):(s+t)*s≤300000000000000:=by
 have:=Int.mul_le_mul (show s+t≤23726568 by omega) h2 (by omega) (by decide);omega
theorem eX (s t a:Int) (h1:0<s) (h2:s≤11863284) (h3:0<t) (h4:t≤11863284) (h5:0≤a) (h6:a≤s*s) (h7:a≤70368744177664) :
  cn (s+t) a s=(cdiv ((s+t)*a) s,0) ∧ -300000000000000≤cdiv ((s+t)*a) s∧cdiv ((s+t)*a) s≤300000000000000:=by
 have k:=eG (s+t) a s h1 (by omega) h5 h6;have k1:=CI h1 h2 h3 h4;refine⟨?_,by omega,by omega⟩;rw[kz _ _ _ (Sm.of64 (by omega) (by omega)) (Sm.of64 (by omega) (by omega)) (Sm.of64 (by omega) (by omega)),if_neg (by omega)];show dS (cdiv ((s+t)*a) s)=_;unfold dS;rw[if_pos (by omega)]
theorem jh (s t a:Int) (h1:0<s) (h2:s≤11863284) (h3:0<t) (h4:t≤11863284) (h5 : -(s*s)≤a) (h6:a≤s*s) (h7 : -70368744177664≤a) (h8:a≤70368744177664) :
  du (s+t) a s=(((s+t)*a).fdiv s,0) ∧ -300000000000000≤((s+t)*a).fdiv s∧((s+t)*a).fdiv s≤300000000000000:=by
 have k:=tn (s+t) a s h1 (by omega) h5 h6;have k1:=CI h1 h2 h3 h4;refine⟨?_,by omega,by omega⟩;rw[nX _ _ _ (Sm.of64 (by omega) (by omega)) (Sm.of64 (by omega) (by omega)) (Sm.of64 (by omega) (by omega)),if_neg (by omega)];unfold dS;rw[if_pos (by omega)]
theorem xP (fn:FuncId) (s t x y q p:Int) (g6 g7 g8:Nat) (w:World) (hfn:∀ args w,Sem.run Tryz.prog (callFunc fn args) w = .ok (.enter fn args) w)
  (hs:0<s∧s≤11863284∧0<t∧t≤11863284) (hq : -300000000000000≤q∧q≤300000000000000) (hp : -300000000000000≤p∧p≤300000000000000)
  (H1:∀ w,Calls Tryz.prog fn #[.int .i64 (s+t),.int .i64 x,.int .i64 s] w fun e w'=>e = .returned (.tuple #[.int .i64 q,.int .i64 0])∧Below w.heap.size w w')
  (H2:∀ w,Calls Tryz.prog fn #[.int .i64 (s+t),.int .i64 y,.int .i64 t] w fun e w'=>e = .returned (.tuple #[.int .i64 p,.int .i64 0])∧Below w.heap.size w w')
  (h6:w.cell? ⟨g6,0,none⟩=some (.int .i64 s)) (h7:w.cell? ⟨g7,0,none⟩=some (.int .i64 t)) (h8:w.heap[g8]? = some (.cells #[.int .i64 0] 30 (0,0))) :
  Calls Tryz.prog 145 (#[.func (.func fn) #[] #[],.int .i64 x,.int .i64 y]++#[.pointer (some ⟨g6,0,none⟩),.pointer (some ⟨g7,0,none⟩),.pointer (some ⟨g8,0,none⟩)]) w
   fun e w'=>e = .returned (.int .i64 (q+p))∧Below w.heap.size w w':=by
 have HH1:=Lh H1;have HH2:=Lh H2;have H8:Hid (Blk w g8 #[.int .i64 0] 30):=h8;have l6:=block_lt_of_cell h6;have l7:=block_lt_of_cell h7;have l8:=H8.out.lt;have c8:=H8.out.at 0;have f8:=H8.out.frozen 0;simp only at l6 l7;have er:wrap64 (s+t)=s+t:=by unfold wrap64;omega
 have eq:wrap64 (q+p)=q+p:=by unfold wrap64;omega
 clear H1 H2 h8 hs hq hp;show Calls Tryz.prog 145 #[.func (.func fn) #[] #[],.int .i64 x,.int .i64 y,.pointer (some ⟨g6,0,none⟩),.pointer (some ⟨g7,0,none⟩),.pointer (some ⟨g8,0,none⟩)] w _;go_enter Tryz.func145,Tryz.ntmps145;go_wp2_with fail;simp only[er];refine(HH1.out _).mono ?_;rintro e w1 ⟨rfl,hb1⟩;have z_w1:=hb1.size;(try simp at z_w1);have K_w1_g6:=bq hb1 (g6);have K_w1_g7:=bq hb1 (g7);have K_w1_g8:=bq hb1 (g8);go_wp2_with fail;simp only[er];refine(HH2.out _).mono ?_;rintro e w2 ⟨rfl,hb2⟩;have z_w2:=hb2.size;(try simp at z_w2);have K_w2_g6:=bq hb2 (g6);have K_w2_g7:=bq hb2 (g7);have K_w2_g8:=bq hb2 (g8);go_wp2
 simp only[eq];go_ret;have e2:w2.setCell ⟨g8,0,none⟩ (.int .i64 0)=w2:=oT (t:=30) (fr:=(0,0)) (((H8.out.keep hb1).keep hb2));exact⟨rfl,by rw[e2];exact ad⟩
structure Gf (e f:El) (s t:Int):Prop where
 s1:e.rad=s
 t1:f.rad=t
 hs:0<s∧s≤11863284∧0<t∧t≤11863284
 he:e.may=true
 hf:f.may=true
theorem CF (e f:El) (he:e.may=true) (hf:f.may=true):Gf e f e.rad f.rad :=
 ⟨rfl,rfl,⟨e.eQ he,e.fg,f.eQ hf,f.fg⟩,he,hf⟩
theorem mdu (a b c:Int) (V:Int × Int) (h:cn a b c=V) (ha : -9223372036854775808≤a∧a≤9223372036854775807) (hb : -9223372036854775808≤b∧b≤9223372036854775807) (hc : -9223372036854775808≤c∧c≤9223372036854775807) (w:World) :
  Calls Tryz.prog 146 #[.int .i64 a,.int .i64 b,.int .i64 c] w fun e w'=>e = .returned (.tuple #[.int .i64 V.1,.int .i64 V.2])∧Below w.heap.size w w':=by
 subst h;exact sE a b c ha hb hc w
theorem mdd (a b c:Int) (V:Int × Int) (h:du a b c=V) (ha : -9223372036854775808≤a∧a≤9223372036854775807) (hb : -9223372036854775808≤b∧b≤9223372036854775807) (hc : -9223372036854775808≤c∧c≤9223372036854775807) (w:World) :
  Calls Tryz.prog 147 #[.int .i64 a,.int .i64 b,.int .i64 c] w fun e w'=>e = .returned (.tuple #[.int .i64 V.1,.int .i64 V.2])∧Below w.heap.size w w':=by
 subst h;exact yd a b c ha hb hc w
theorem tZ (s t x y:Int) (g6 g7 g8:Nat) (w:World)
  (hs:0<s∧s≤11863284∧0<t∧t≤11863284) (hx:0≤x∧x≤s*s∧x≤70368744177664) (hy:0≤y∧y≤t*t∧y≤70368744177664)
  (h6:w.cell? ⟨g6,0,none⟩=some (.int .i64 s)) (h7:w.cell? ⟨g7,0,none⟩=some (.int .i64 t)) (h8:w.heap[g8]? = some (.cells #[.int .i64 0] 30 (0,0))) :
  Calls Tryz.prog 145 #[.func (.func 146) #[] #[],.int .i64 x,.int .i64 y,.pointer (some ⟨g6,0,none⟩),.pointer (some ⟨g7,0,none⟩),.pointer (some ⟨g8,0,none⟩)] w
   fun e w'=>e = .returned (.int .i64 (cdiv ((s+t)*x) s+cdiv ((s+t)*y) t))∧Below w.heap.size w w':=by
 have u1:=eX s t x hs.1 hs.2.1 hs.2.2.1 hs.2.2.2 hx.1 hx.2.1 hx.2.2;have u2:=eX t s y hs.2.2.1 hs.2.2.2 hs.1 hs.2.1 hy.1 hy.2.1 hy.2.2;rw[Int.add_comm t s] at u2
 exact xP 146 s t x y _ _ g6 g7 g8 w (by intro args w;rfl) hs u1.2 u2.2
  (fun w=>mdu _ _ _ (cdiv ((s+t)*x) s,0) u1.1 (by omega) (by omega) (by omega) w) (fun w=>mdu _ _ _ (cdiv ((s+t)*y) t,0) u2.1 (by omega) (by omega) (by omega) w) h6 h7 h8
theorem vC (s t x y:Int) (g6 g7 g8:Nat) (w:World)
  (hs:0<s∧s≤11863284∧0<t∧t≤11863284) (hx : -(s*s)≤x∧x≤s*s ∧ -70368744177664≤x∧x≤70368744177664) (hy : -(t*t)≤y∧y≤t*t ∧ -70368744177664≤y∧y≤70368744177664)
  (h6:w.cell? ⟨g6,0,none⟩=some (.int .i64 s)) (h7:w.cell? ⟨g7,0,none⟩=some (.int .i64 t)) (h8:w.heap[g8]? = some (.cells #[.int .i64 0] 30 (0,0))) :
  Calls Tryz.prog 145 #[.func (.func 147) #[] #[],.int .i64 x,.int .i64 y,.pointer (some ⟨g6,0,none⟩),.pointer (some ⟨g7,0,none⟩),.pointer (some ⟨g8,0,none⟩)] w
   fun e w'=>e = .returned (.int .i64 (((s+t)*x).fdiv s+((s+t)*y).fdiv t))∧Below w.heap.size w w':=by
 have u1:=jh s t x hs.1 hs.2.1 hs.2.2.1 hs.2.2.2 hx.1 hx.2.1 hx.2.2.1 hx.2.2.2;have u2:=jh t s y hs.2.2.1 hs.2.2.2 hs.1 hs.2.1 hy.1 hy.2.1 hy.2.2.1 hy.2.2.2;rw[Int.add_comm t s] at u2
 exact xP 147 s t x y _ _ g6 g7 g8 w (by intro args w;rfl) hs u1.2 u2.2
  (fun w=>mdd _ _ _ (((s+t)*x).fdiv s,0) u1.1 (by omega) (by omega) (by omega) w) (fun w=>mdd _ _ _ (((s+t)*y).fdiv t,0) u2.1 (by omega) (by omega) (by omega) w) h6 h7 h8
open Go.RowKit
theorem xd (x y a b d x' y' a' b' d':Int) (he:El.may ⟨x,y,a,b,d⟩=true) (hf:El.may ⟨x',y',a',b',d'⟩=true) (w:World) :
  Calls Tryz.prog 119 #[elC x y a b d,elC x' y' a' b' d'] w fun r w' =>
   r = .returned (.tuple #[elV (sumE ⟨x,y,a,b,d⟩ ⟨x',y',a',b',d'⟩).1,.int .i64 (sumE ⟨x,y,a,b,d⟩ ⟨x',y',a',b',d'⟩).2])∧Below w.heap.size w w':=by
 have HE:=Lh he;have HF:=Lh hf;obtain⟨s,hs⟩:∃ s,s=El.rad ⟨x,y,a,b,d⟩:=⟨_,rfl⟩;obtain⟨t,ht⟩:∃ t,t=El.rad ⟨x',y',a',b',d'⟩:=⟨_,rfl⟩;have HS:=Lh hs.symm;have HT:=Lh ht.symm;have me:=(El.aQ _).1 he;have mf:=(El.aQ _).1 hf;have re:=El.ml _ he;have rf:=El.ml _ hf;have qe:=El.b_sq _ he;have qf:=El.b_sq _ hf;have so:=(CF _ _ he hf).hs;simp only[← hs,← ht] at me mf re rf qe qf so;obtain⟨A,hA⟩:∃ A,A=cdiv ((s+t)*a) s+cdiv ((s+t)*a') t:=⟨_,rfl⟩;obtain⟨D,hD⟩:∃ D,D=cdiv ((s+t)*d) s+cdiv ((s+t)*d') t:=⟨_,rfl⟩;obtain⟨B,hB⟩:∃ B,B=((s+t)*b).fdiv s+((s+t)*b').fdiv t:=⟨_,rfl⟩
 have PA : Hid (∀ w g6 g7 g8, w.cell? ⟨g6, 0, none⟩ = some (.int .i64 s) → w.cell? ⟨g7, 0, none⟩ = some (.int .i64 t) → w.heap[g8]? = some (.cells #[.int .i64 0] 30 (0, 0)) →
     Calls Tryz.prog 145 #[.func (.func 146) #[] #[],.int .i64 a,.int .i64 a',.pointer (some ⟨g6,0,none⟩),.pointer (some ⟨g7,0,none⟩),.pointer (some ⟨g8,0,none⟩)] w fun e w'=>e = .returned (.int .i64 A)∧Below w.heap.size w w') :=
  fun w g6 g7 g8 h6 h7 h8=>by rw[hA];exact tZ s t a a' g6 g7 g8 w so (by omega) (by omega) h6 h7 h8
 have PD : Hid (∀ w g6 g7 g8, w.cell? ⟨g6, 0, none⟩ = some (.int .i64 s) → w.cell? ⟨g7, 0, none⟩ = some (.int .i64 t) → w.heap[g8]? = some (.cells #[.int .i64 0] 30 (0, 0)) →
     Calls Tryz.prog 145 #[.func (.func 146) #[] #[],.int .i64 d,.int .i64 d',.pointer (some ⟨g6,0,none⟩),.pointer (some ⟨g7,0,none⟩),.pointer (some ⟨g8,0,none⟩)] w fun e w'=>e = .returned (.int .i64 D)∧Below w.heap.size w w') :=
  fun w g6 g7 g8 h6 h7 h8=>by rw[hD];exact tZ s t d d' g6 g7 g8 w so (by omega) (by omega) h6 h7 h8
 have PB : Hid (∀ w g6 g7 g8, w.cell? ⟨g6, 0, none⟩ = some (.int .i64 s) → w.cell? ⟨g7, 0, none⟩ = some (.int .i64 t) → w.heap[g8]? = some (.cells #[.int .i64 0] 30 (0, 0)) →
     Calls Tryz.prog 145 #[.func (.func 147) #[] #[],.int .i64 b,.int .i64 b',.pointer (some ⟨g6,0,none⟩),.pointer (some ⟨g7,0,none⟩),.pointer (some ⟨g8,0,none⟩)] w fun e w'=>e = .returned (.int .i64 B)∧Below w.heap.size w w') :=
  fun w g6 g7 g8 h6 h7 h8=>by rw[hB];exact vC s t b b' g6 g7 g8 w so (by omega) (by omega) h6 h7 h8
 have bnd : -600000000000000≤A∧A≤600000000000000 ∧ -600000000000000≤D∧D≤600000000000000:=by
  have a1:=(eX s t a so.1 so.2.1 so.2.2.1 so.2.2.2 (by omega) (by omega) (by omega)).2;have a2:=(eX t s a' so.2.2.1 so.2.2.2 so.1 so.2.1 (by omega) (by omega) (by omega)).2;have a3:=(eX s t d so.1 so.2.1 so.2.2.1 so.2.2.2 (by omega) (by omega) (by omega)).2;have a4:=(eX t s d' so.2.2.1 so.2.2.2 so.1 so.2.1 (by omega) (by omega) (by omega)).2;rw[Int.add_comm t s] at a2 a4;omega
 have SU:dV ⟨x,y,a,b,d⟩ ⟨x',y',a',b',d'⟩=⟨x+x',y+y',A+2,B,D+2⟩:=by
  unfold dV;simp only[← hs,← ht,← hA,← hB,← hD]
 have E:Hid (sumE ⟨x,y,a,b,d⟩ ⟨x',y',a',b',d'⟩=if El.may ⟨x+x',y+y',A+2,B,D+2⟩=true then (⟨x+x',y+y',A+2,B,D+2⟩,0) else (El.zero,2)):=by
  show _=_;unfold sumE;rw[if_pos ⟨he,hf⟩,SU]
 obtain⟨bA1,bA2,bD1,bD2⟩:=bnd;obtain⟨⟨bx1,bx2,by1,by2⟩,-⟩:=me;obtain⟨⟨bx3,bx4,by3,by4⟩,-⟩:=mf;obtain⟨m,hm⟩:∃ m,m=El.may ⟨x+x',y+y',A+2,B,D+2⟩:=⟨_,rfl⟩;have HM:=Lh hm.symm;rw[HM.out] at E;clear he hf hs ht re rf qe qf so hA hB hD SU hm;go_enter Tryz.func119,Tryz.ntmps119;go_wp2_with fail;refine(bD _ _ _ _ _ _).mono ?_;rintro e w1 ⟨rfl,hb1⟩;rw[HE.out];have z_w1:=hb1.size;(try simp at z_w1);have K_w1_0:=bq3 hb1 (w.heap.size);go_wp2_with fail;refine(bD _ _ _ _ _ _).mono ?_;rintro e w2 ⟨rfl,hb2⟩;rw[HF.out];have z_w2:=hb2.size;(try simp at z_w2);have K_w2_0:=bq3 hb2 (w.heap.size);go_wp2_with fail
 go_cut [6,7] from 8 (fun s6 s7 wc=>∃ g h,s6 = .pointer (some ⟨g,0,none⟩)∧s7 = .pointer (some ⟨h,0,none⟩)∧w.heap.size+1+1+1≤g∧g<wc.heap.size∧w.heap.size+1+1+1≤h∧h<wc.heap.size ∧
  wc.cell? ⟨g,0,none⟩=some (.int .i64 s)∧wc.cell? ⟨h,0,none⟩=some (.int .i64 t)∧Hid (Below w2.heap.size w2 wc))
 case first =>
  go_region_held3 (fun w' => w'.cell? ⟨w.heap.size, 0, none⟩ = some (.int .i64 x) ∧ w'.cell? ⟨w.heap.size, 1, none⟩ = some (.int .i64 y) ∧ w'.cell? ⟨w.heap.size, 2, none⟩ = some (.int .i64 a) ∧ w'.cell? ⟨w.heap.size, 3, none⟩ = some (.int .i64 b) ∧ w'.cell? ⟨w.heap.size, 4, none⟩ = some (.int .i64 d) ∧
      w'.cell? ⟨w.heap.size+1,0,none⟩=some (.int .i64 x')∧w'.cell? ⟨w.heap.size+1,1,none⟩=some (.int .i64 y')∧w'.cell? ⟨w.heap.size+1,2,none⟩=some (.int .i64 a')∧w'.cell? ⟨w.heap.size+1,3,none⟩=some (.int .i64 b')∧w'.cell? ⟨w.heap.size+1,4,none⟩=some (.int .i64 d')) (go_simp)
   (first
   | (go_at_call 19;refine(mO x y a b d _).mono ?_;rintro e w3 ⟨rfl,hb3⟩;rw[HS.out];have z_w3:=hb3.size;(try simp at z_w3);have K_w3_0:=bq3 hb3 (w.heap.size);(try (refine aI (bk hb3 (w2.heap.size)) ?_ ?_;(focus (first|omega|(simp;done)|(simp;omega)));rintro⟨y_w3_q1,c_w3_q1,f_w3_q1,r_w3_q1,t_w3_q1,p_w3_q1⟩;have n0_w3_q1:¬ (w.heap.size=w2.heap.size):=(by omega);have n1_w3_q1:¬ (w.heap.size+1=w2.heap.size):=(by omega);have n2_w3_q1:¬ (w.heap.size+1+1=w2.heap.size):=(by omega)));(try (refine aI (bk hb3 (w2.heap.size+1)) ?_ ?_;(focus (first|omega|(simp;done)|(simp;omega)));rintro⟨y_w3_q2,c_w3_q2,f_w3_q2,r_w3_q2,t_w3_q2,p_w3_q2⟩));(try (refine aI (bk hb3 (w4.heap.size)) ?_ ?_;(focus (first|omega|(simp;done)|(simp;omega)));rintro⟨y_w3_q3,c_w3_q3,f_w3_q3,r_w3_q3,t_w3_q3,p_w3_q3⟩;have n0_w3_q3:¬ (w.heap.size=w4.heap.size):=(by omega);have n1_w3_q3:¬ (w.heap.size+1=w4.heap.size):=(by omega);have n2_w3_q3:¬ (w.heap.size+1+1=w4.heap.size):=(by omega)));(try (refine aI (bk hb3 (w4.heap.size+1)) ?_ ?_;(focus (first|omega|(simp;done)|(simp;omega)));rintro⟨y_w3_q4,c_w3_q4,f_w3_q4,r_w3_q4,t_w3_q4,p_w3_q4⟩)))
   | (go_at_call 19;refine(mO x' y' a' b' d' _).mono ?_;rintro e w4 ⟨rfl,hb4⟩;rw[HT.out];have z_w4:=hb4.size;(try simp at z_w4);have K_w4_0:=bq3 hb4 (w.heap.size);(try (refine aI (bk hb4 (w2.heap.size)) ?_ ?_;(focus (first|omega|(simp;done)|(simp;omega)));rintro⟨y_w4_q1,c_w4_q1,f_w4_q1,r_w4_q1,t_w4_q1,p_w4_q1⟩;have n0_w4_q1:¬ (w.heap.size=w2.heap.size):=(by omega);have n1_w4_q1:¬ (w.heap.size+1=w2.heap.size):=(by omega);have n2_w4_q1:¬ (w.heap.size+1+1=w2.heap.size):=(by omega)));(try (refine aI (bk hb4 (w2.heap.size+1)) ?_ ?_;(focus (first|omega|(simp;done)|(simp;omega)));rintro⟨y_w4_q2,c_w4_q2,f_w4_q2,r_w4_q2,t_w4_q2,p_w4_q2⟩));(try (refine aI (bk hb4 (w3.heap.size)) ?_ ?_;(focus (first|omega|(simp;done)|(simp;omega)));rintro⟨y_w4_q3,c_w4_q3,f_w4_q3,r_w4_q3,t_w4_q3,p_w4_q3⟩;have n0_w4_q3:¬ (w.heap.size=w3.heap.size):=(by omega);have n1_w4_q3:¬ (w.heap.size+1=w3.heap.size):=(by omega);have n2_w4_q3:¬ (w.heap.size+1+1=w3.heap.size):=(by omega)));(try (refine aI (bk hb4 (w3.heap.size+1)) ?_ ?_;(focus (first|omega|(simp;done)|(simp;omega)));rintro⟨y_w4_q4,c_w4_q4,f_w4_q4,r_w4_q4,t_w4_q4,p_w4_q4⟩))))
  all_goals go_wp2_with fail
  all_goals go_meet
  all_goals exact⟨_,_,rfl,rfl,(by first|omega|(simp;done)|(simp;omega)|fail),(by first|omega|(simp;done)|(simp;omega)|fail),(by first|omega|(simp;done)|(simp;omega)|fail),(by first|omega|(simp;done)|(simp;omega)|fail),(by go_simp),(by go_simp),(show Below w2.heap.size w2 _ from ad)⟩
 case rest =>
  obtain⟨g,h,rfl,rfl,hg1,hg2,hh1,hh2,hgc,hhc,HBC⟩:=hcut;have hbc:=HBC.out;have z_wc:=hbc.size;(try simp at z_wc);have K_wc_0_0:=bq hbc (w.heap.size);have K_wc_0_1:=bq hbc (w.heap.size+1);have K_wc_0_2:=bq hbc (w.heap.size+1+1);go_wp2_with fail;refine(PA.out _ _ _ _ (by go_simp) (by go_simp) ((Blk.new wc #[.int .i64 0] 30).alloc _)).mono ?_;rintro e w5 ⟨rfl,hb5⟩;have B5:=Lh (((Blk.new wc #[.int .i64 0] 30).alloc _).keep hb5);have z_w5:=hb5.size;(try simp at z_w5);have K_w5_0:=bq3 hb5 (w.heap.size);have K_w5_1:=bq2 hb5 (wc.heap.size);have K_w5_g:=bq hb5 (g);have K_w5_h:=bq hb5 (h);go_wp2_with fail;refine(PD.out _ _ _ _ (by go_simp) (by go_simp) (B5.out.ac (by simp) _)).mono ?_;rintro e w6 ⟨rfl,hb6⟩;have B6:=Lh (Blk.keep (B5.out.ac (by simp) _) hb6);have z_w6:=hb6.size;(try simp at z_w6);have K_w6_0:=bq3 hb6 (w.heap.size);have K_w6_1:=bq2 hb6 (wc.heap.size);have K_w6_g:=bq hb6 (g);have K_w6_h:=bq hb6 (h);go_wp2_with fail;refine(PB.out _ _ _ _ (by go_simp) (by go_simp) (B6.out.ac (by simp) _)).mono ?_;rintro e w7 ⟨rfl,hb7⟩;have z_w7:=hb7.size;(try simp at z_w7);have K_w7_0:=bq3 hb7 (w.heap.size);have K_w7_1:=bq2 hb7 (wc.heap.size);go_wp2_with fail;refine(bD _ _ _ _ _ _).mono ?_;rintro e w8 ⟨rfl,hb8⟩;rw[HM.out];have z_w8:=hb8.size;(try simp at z_w8);have K_w8_0:=bq3 hb8 (w.heap.size);have K_w8_1:=bq2 hb8 (wc.heap.size);cases m with
  | true =>
   go_wp2_with fail;exact rT 5 #[.int .i64 (x+x'),.int .i64 (y+y'),.int .i64 (A+2),.int .i64 B,.int .i64 (D+2)] (.int .i64 0) ⟨by rw[E.out];rfl,ad⟩
  | false =>
   go_wp2_with fail;exact rT 5 z5 (.int .i64 2) ⟨by rw[E.out];rfl,ad⟩
theorem Db (x y a b d x' y' a' b' d':Int) (he:El.may ⟨x,y,a,b,d⟩=false) (w:World) :
  Calls Tryz.prog 119 #[elC x y a b d,elC x' y' a' b' d'] w fun r w' =>
   r = .returned (.tuple #[elV (sumE ⟨x,y,a,b,d⟩ ⟨x',y',a',b',d'⟩).1,.int .i64 (sumE ⟨x,y,a,b,d⟩ ⟨x',y',a',b',d'⟩).2])∧Below w.heap.size w w':=by
 have HE:=Lh he
 have E:Hid (sumE ⟨x,y,a,b,d⟩ ⟨x',y',a',b',d'⟩=(El.zero,1)):=by
  show _=_;unfold sumE;rw[if_neg];rintro⟨h,_⟩;rw[he] at h;cases h
 clear he;go_enter Tryz.func119,Tryz.ntmps119;go_wp2_with fail;refine(bD _ _ _ _ _ _).mono ?_;rintro e w1 ⟨rfl,hb1⟩;rw[HE.out];have z_w1:=hb1.size;(try simp at z_w1);have K_w1_0:=bq3 hb1 (w.heap.size);go_wp2_with fail;exact rT 5 z5 (.int .i64 1) ⟨by rw[E.out];rfl,ad⟩
theorem Da (x y a b d x' y' a' b' d':Int) (he:El.may ⟨x,y,a,b,d⟩=true) (hf:El.may ⟨x',y',a',b',d'⟩=false) (w:World) :
  Calls Tryz.prog 119 #[elC x y a b d,elC x' y' a' b' d'] w fun r w' =>
   r = .returned (.tuple #[elV (sumE ⟨x,y,a,b,d⟩ ⟨x',y',a',b',d'⟩).1,.int .i64 (sumE ⟨x,y,a,b,d⟩ ⟨x',y',a',b',d'⟩).2])∧Below w.heap.size w w':=by
 have HE:=Lh he;have HF:=Lh hf
 have E:Hid (sumE ⟨x,y,a,b,d⟩ ⟨x',y',a',b',d'⟩=(El.zero,1)):=by
  show _=_;unfold sumE;rw[if_neg];rintro⟨_,h⟩;rw[hf] at h;cases h
 clear he hf;go_enter Tryz.func119,Tryz.ntmps119;go_wp2_with fail;refine(bD _ _ _ _ _ _).mono ?_;rintro e w1 ⟨rfl,hb1⟩;rw[HE.out];have z_w1:=hb1.size;(try simp at z_w1);have K_w1_0:=bq3 hb1 (w.heap.size);go_wp2_with fail;refine(bD _ _ _ _ _ _).mono ?_;rintro e w2 ⟨rfl,hb2⟩;rw[HF.out];have z_w2:=hb2.size;(try simp at z_w2);have K_w2_0:=bq3 hb2 (w.heap.size);go_wp2_with fail;exact rT 5 z5 (.int .i64 1) ⟨by rw[E.out];rfl,ad⟩
theorem Fd (e f:El) (w:World) :
  Calls Tryz.prog 119 #[elV e,elV f] w fun r w'=>r = .returned (.tuple #[elV (sumE e f).1,.int .i64 (sumE e f).2])∧Below w.heap.size w w':=by
 cases he:e.may with
 | false=>exact Db _ _ _ _ _ _ _ _ _ _ he w
 | true =>
  cases hf:f.may with
  | false=>exact Da _ _ _ _ _ _ _ _ _ _ he hf w
  | true=>exact xd _ _ _ _ _ _ _ _ _ _ he hf w
open Go.RowKit
theorem Fb (x y a b d x' y' a' b' d':Int) (o:El) (k:Int) (h:sumE ⟨x,y,a,b,d⟩ ⟨x',y',a',b',d'⟩=(o,k)) (w:World) :
  Calls Tryz.prog 119 #[elC x y a b d,elC x' y' a' b' d'] w fun r w'=>r = .returned (.tuple #[elV o,.int .i64 k])∧Below w.heap.size w w':=by
 have:=Fd ⟨x,y,a,b,d⟩ ⟨x',y',a',b',d'⟩ w;rw[h] at this;exact this
theorem fE (x y r:Int) (x' y' a' b' d' k:Int) (h:ballE x y r=(⟨x',y',a',b',d'⟩,k)) (w:World) :
  Calls Tryz.prog 32 #[ptV x y,.int .i64 r] w fun e w'=>e = .returned (.tuple #[elC x' y' a' b' d',.int .i64 k])∧Below w.heap.size w w':=by
 have:=wv x y r w;rw[h] at this;exact this
theorem sT (x y a b d r:Int) (w:World) :
  Calls Tryz.prog 58 #[elC x y a b d,.int .i64 r] w fun e w'=>e = .returned (.tuple #[elV (growE ⟨x,y,a,b,d⟩ r).1,.int .i64 (growE ⟨x,y,a,b,d⟩ r).2])∧Below w.heap.size w w':=by
 have E:growE ⟨x,y,a,b,d⟩ r=if El.may ⟨x,y,a,b,d⟩=true∧0≤r∧r≤4194304 then (if r=0 then (⟨x,y,a,b,d⟩,0) else sumE ⟨x,y,a,b,d⟩ (ballE 0 0 r).1) else (El.zero,1):=rfl
 cases hm:El.may ⟨x,y,a,b,d⟩ with
 | false =>
  have HM:=Lh hm;have EV:Hid (growE ⟨x,y,a,b,d⟩ r=(El.zero,1)):=by show _=_;rw[E,hm,if_neg];rintro⟨h,_⟩;cases h
  clear E hm;go_enter Tryz.func58,Tryz.ntmps58;go_wp2_with fail;refine(bD _ _ _ _ _ _).mono ?_;rintro e w1 ⟨rfl,hb1⟩;rw[HM.out];have z_w1:=hb1.size;(try simp at z_w1);have Kw1aa:=bq hb1 (w.heap.size);have Kw1ab:=bq hb1 (w.heap.size+1);go_wp2_with fail;exact rT 5 z5 (.int .i64 1) ⟨by rw[EV.out];rfl,ad⟩
 | true =>
  have HM:=Lh hm;by_cases h1:r<0
  ·have EV:Hid (growE ⟨x,y,a,b,d⟩ r=(El.zero,1)):=by show _=_;rw[E,hm,if_neg];rintro⟨_,h,_⟩;omega
   clear E hm;go_enter Tryz.func58,Tryz.ntmps58;go_wp2_with fail;refine(bD _ _ _ _ _ _).mono ?_;rintro e w1 ⟨rfl,hb1⟩;rw[HM.out];have z_w1:=hb1.size;(try simp at z_w1);have Kw1aa:=bq hb1 (w.heap.size);have Kw1ab:=bq hb1 (w.heap.size+1);go_wp2_with fail;exact rT 5 z5 (.int .i64 1) ⟨by rw[EV.out];rfl,ad⟩
  ·by_cases h2:4194304<r
   ·have EV:Hid (growE ⟨x,y,a,b,d⟩ r=(El.zero,1)):=by show _=_;rw[E,hm,if_neg];rintro⟨_,_,h⟩;omega
    clear E hm;go_enter Tryz.func58,Tryz.ntmps58;go_wp2_with fail;refine(bD _ _ _ _ _ _).mono ?_;rintro e w1 ⟨rfl,hb1⟩;rw[HM.out];have z_w1:=hb1.size;(try simp at z_w1);have Kw1aa:=bq hb1 (w.heap.size);have Kw1ab:=bq hb1 (w.heap.size+1);go_wp2_with fail;exact rT 5 z5 (.int .i64 1) ⟨by rw[EV.out];rfl,ad⟩
   ·rw[hm,if_pos ⟨rfl,by omega,by omega⟩] at E;by_cases h3:r=0
    ·subst h3;have EV:Hid (growE ⟨x,y,a,b,d⟩ 0=(⟨x,y,a,b,d⟩,0)):=by show _=_;rw[E,if_pos rfl]
     clear E hm h1 h2;go_enter Tryz.func58,Tryz.ntmps58;go_wp2_with fail;refine(bD _ _ _ _ _ _).mono ?_;rintro e w1 ⟨rfl,hb1⟩;rw[HM.out];have z_w1:=hb1.size;(try simp at z_w1);have Kw1aa:=bq hb1 (w.heap.size);have Kw1ab:=bq hb1 (w.heap.size+1);go_wp2_with fail;exact rT 5 #[.int .i64 x,.int .i64 y,.int .i64 a,.int .i64 b,.int .i64 d] (.int .i64 0) ⟨by rw[EV.out],ad⟩
    ·rw[if_neg h3] at E;have hb:ballE 0 0 r=(⟨0,0,r*r,0,r*r⟩,0):=by unfold ballE;rw[if_pos ⟨by decide,by omega,by omega⟩]
     rw[hb] at E;obtain⟨s,hs⟩:∃ s,s=r*r:=⟨_,rfl⟩;simp only[← hs] at hb E;obtain⟨⟨ox,oy,oa,ob,od⟩,k,ho⟩:∃ o k,sumE ⟨x,y,a,b,d⟩ ⟨0,0,s,0,s⟩=(o,k):=⟨_,_,rfl⟩;have EV:Hid (growE ⟨x,y,a,b,d⟩ r=(⟨ox,oy,oa,ob,od⟩,k)):=by show _=_;rw[E,ho]
     have HB:=Lh hb;have HO:=Lh ho;clear E hm hb ho hs;go_enter Tryz.func58,Tryz.ntmps58;go_wp2_with fail;refine(bD _ _ _ _ _ _).mono ?_;rintro e w1 ⟨rfl,hb1⟩;rw[HM.out];have z_w1:=hb1.size;(try simp at z_w1);have Kw1aa:=bq hb1 (w.heap.size);have Kw1ab:=bq hb1 (w.heap.size+1);go_wp2_with fail;refine(fE _ _ _ _ _ _ _ _ _ HB.out _).mono ?_;rintro e w2 ⟨rfl,hb2⟩;have z_w2:=hb2.size;(try simp at z_w2);have Kw2aa:=bq hb2 (w.heap.size);have Kw2ab:=bq hb2 (w.heap.size+1);go_wp2_with fail;refine(Fb _ _ _ _ _ _ _ _ _ _ _ _ HO.out _).mono ?_;rintro e w3 ⟨rfl,hb3⟩;have z_w3:=hb3.size;(try simp at z_w3);have Kw3aa:=bq hb3 (w.heap.size);have Kw3ab:=bq hb3 (w.heap.size+1);go_wp2_with fail;exact rT 5 #[.int .i64 ox,.int .i64 oy,.int .i64 oa,.int .i64 ob,.int .i64 od] (.int .i64 k) ⟨by rw[EV.out],ad⟩
theorem sO (x y a b d r x' y' a' b' d' k:Int) (h:growE ⟨x,y,a,b,d⟩ r=(⟨x',y',a',b',d'⟩,k)) (w:World) :
  Calls Tryz.prog 58 #[elC x y a b d,.int .i64 r] w fun e w'=>e = .returned (.tuple #[elC x' y' a' b' d',.int .i64 k])∧Below w.heap.size w w':=by
 have:=sT x y a b d r w;rw[h] at this;exact this
open Go.RowKit
theorem gO (x y a b d t:Int) (h:El.tr ⟨x,y,a,b,d⟩=t) (w:World) :
  Calls Tryz.prog 69 #[elC x y a b d] w fun e w'=>e = .returned (.int .i64 t)∧Below w.heap.size w w':=by
 subst h;exact tO x y a b d w
open Go.RowKit
theorem aN (x y a b d:Int) (m:Bool) (h:El.may ⟨x,y,a,b,d⟩=m) (w:World) :
  Calls Tryz.prog 17 #[elC x y a b d] w fun e w'=>e = .returned (.bool m)∧Below w.heap.size w w':=by
 subst h;exact bD x y a b d w
open Go.RowKit
theorem BI (x y a b d p q:Int) (t:Bool) (h:El.has ⟨x,y,a,b,d⟩ p q=t) (w:World) :
  Calls Tryz.prog 38 #[elC x y a b d,ptV p q] w fun e w'=>e = .returned (.bool t)∧Below w.heap.size w w':=by
 subst h;exact BJ x y a b d p q w
open Go.RowKit
structure eV where
 obj:Obj
 ptr:Nat→Value
structure Inw (w0:World) (fr:Nat→Option eV) (g:Nat→Nat) (N:List Nat) where
 w:World
 low:Below w0.heap.size w0 w
 has:∀ j ∈ N,∀ f,fr j=some f→w0.heap.size≤g j∧w.heap[g j]? = some f.obj
theorem ja {w:World} {b:Nat} {o:Obj} (h:w.heap[b]? = some o):b<w.heap.size:=(Array.getElem?_eq_some_iff.1 h).1
theorem Inw.step {w0:World} {fr:Nat→Option eV} {g:Nat→Nat} {N:List Nat} (p:Inw w0 fr g N) {w':World} (h:Below p.w.heap.size p.w w'):∃ p':Inw w0 fr g N,w'=p'.w:=by
 refine⟨⟨w',⟨h.os.trans p.low.os,h.tape.trans p.low.tape,h.output.trans p.low.output,Nat.le_trans p.low.size h.size,fun k hk=>?_⟩,fun j hj f hf=>?_⟩,rfl⟩
 ·rw[h.block k (Nat.lt_of_lt_of_le hk p.low.size)];exact p.low.block k hk
 ·have:=p.has j hj f hf;exact⟨this.1,by rw[h.block _ (ja this.2)];exact this.2⟩
theorem aF {P:Program} {f:FuncId} {args:Array Value} {w0:World} {fr:Nat→Option eV} {g:Nat→Nat} {N:List Nat} {p:Inw w0 fr g N} {v:Value}
  (h:Calls P f args p.w fun e w'=>e = .returned v∧Below p.w.heap.size p.w w'):Calls P f args p.w fun e w''=>e = .returned v∧∃ p':Inw w0 fr g N,w''=p'.w :=
 h.mono fun _ _ ⟨he,hb⟩=>⟨he,p.step hb⟩
def mP (dst:Option Tmp) (a:Act):Value:=match dst with|some d=>a.tmps.getD d undef|none=>undef
def fO (P:Program) (ops:Array Oper) (w0:World) (fr:Nat→Option eV) (needs:Nat→List Nat) (vals:List Value) (g:Nat→Nat) (Q:Act→Prop):List Oper→Nat→Act→Prop
 | [],_,a=>Q a
 | o :: rest,k,a =>
  match fr k with
  | some f=>Region.wanted o (yielded ops a.tmps)=true∧(∀ w,(execOp a.eval o).run P w = .ok (.value (f.ptr w.heap.size)) (w.alloc f.obj))∧fO P ops w0 fr needs vals g Q rest (k+1) (a.put o.dst (f.ptr (g k)))
  | none=>wpQuiet P ops (fun w'=>∃ p:Inw w0 fr g (needs k),w'=p.w) (fun a'=>mP o.dst a'=vals.getD k undef∧fO P ops w0 fr needs vals g Q rest (k+1) a') [o] a
section
variable {P:Program} {ops:Array Oper} {w0:World} {fr:Nat→Option eV} {needs:Nat→List Nat} {vals:List Value} {g:Nat→Nat} {Q:Act→Prop}
theorem bF {k:Nat} {a:Act} (h:Q a):fO P ops w0 fr needs vals g Q [] k a:=h
theorem bi {o:Oper} {rest:List Oper} {k:Nat} {a:Act} (hk:fr k=none)
  (h:wpQuiet P ops (fun w'=>∃ p:Inw w0 fr g (needs k),w'=p.w) (fun a'=>mP o.dst a'=vals.getD k undef∧fO P ops w0 fr needs vals g Q rest (k+1) a') [o] a) :
  fO P ops w0 fr needs vals g Q (o :: rest) k a:=by
 unfold fO;rw[hk];exact h
theorem bK {o:Oper} {rest:List Oper} {k:Nat} {a:Act} (f:eV) (hk:fr k=some f) (hw:Region.wanted o (yielded ops a.tmps)=true)
  (hr:∀ w,(execOp a.eval o).run P w = .ok (.value (f.ptr w.heap.size)) (w.alloc f.obj)) (h:fO P ops w0 fr needs vals g Q rest (k+1) (a.put o.dst (f.ptr (g k)))) :
  fO P ops w0 fr needs vals g Q (o :: rest) k a:=by
 unfold fO;rw[hk];exact⟨hw,hr,h⟩
def eL (fr:Nat→Option eV) (vals:List Value) (g:Nat→Nat) (k:Nat):Value:=match fr k with|some f=>f.ptr (g k)|none=>vals.getD k undef
def actAt (fr:Nat→Option eV) (vals:List Value) (g:Nat→Nat):List Oper→Nat→Act→Act
 | [],_,a=>a
 | o :: rest,k,a=>actAt fr vals g rest (k+1) (a.put o.dst (eL fr vals g k))
theorem si (a:Act) (dst:Option Tmp) (v u:Value) (h:mP dst (a.put dst v)=u):a.put dst v=a.put dst u:=by
 cases dst with
 | none=>rfl
 | some d =>
  simp only[mP,Act.put] at h ⊢;by_cases hd:d<a.tmps.size
  ·simp[hd] at h;rw[h]
  ·congr 1
   apply Array.ext_getElem?;intro i;by_cases hi:d=i
   ·subst hi;simp[hd]
   ·simp[hi]
theorem fN:∀ (l:List Oper) (k:Nat) (a:Act),fO P ops w0 fr needs vals g Q l k a →
  Q (actAt fr vals g l k a)∧∀ j o,l[j]? = some o →
   match fr (k+j) with
   | some f=>Region.wanted o (yielded ops (actAt fr vals g (l.take j) k a).tmps)=true∧∀ w,(execOp (actAt fr vals g (l.take j) k a).eval o).run P w = .ok (.value (f.ptr w.heap.size)) (w.alloc f.obj)
   | none=>∃ v,(actAt fr vals g (l.take j) k a).put o.dst v=(actAt fr vals g (l.take j) k a).put o.dst (eL fr vals g (k+j))∧YieldsIn P ops (fun w'=>∃ p:Inw w0 fr g (needs (k+j)),w'=p.w) o v (actAt fr vals g (l.take j) k a)
 | [],k,a,h=>⟨h,fun j o ho=>by simp at ho⟩
 | o :: l,k,a,h=>by
  unfold fO at h
  cases hf:fr k with
  | some f =>
   rw[hf] at h
   obtain⟨hw,hr,h⟩:=h
   have hv:eL fr vals g k=f.ptr (g k):=by unfold eL;rw[hf]
   obtain⟨h1,h2⟩:=fN l (k+1) _ h
   refine⟨by unfold actAt;rw[hv];exact h1,fun j o' ho'=>?_⟩
   rcases j with _|j
   ·obtain rfl:o=o':=by simpa using ho'
    simp only[Nat.add_zero,hf,List.take_zero,actAt]
    exact⟨hw,hr⟩
   ·have:=h2 j o' (by simpa using ho')
    rw[show k+1+j=k+(j+1) by omega] at this
    simp only[List.take_succ_cons,actAt,hv]
    exact this
  | none =>
   rw[hf] at h
   simp only[wpQuiet] at h
   have key:∃ v,YieldsIn P ops (fun w'=>∃ p:Inw w0 fr g (needs k),w'=p.w) o v a∧mP o.dst (a.put o.dst v)=vals.getD k undef∧fO P ops w0 fr needs vals g Q l (k+1) (a.put o.dst v):=by
    by_cases hw:Region.wanted o (yielded ops a.tmps)=true
    ·rw[if_pos hw] at h;obtain⟨v,h1,h2,h3⟩:=h;exact⟨v,.inl ⟨hw,h1⟩,h2,h3⟩
    ·rw[if_neg hw] at h;exact⟨undef,.inr ⟨by simpa using hw,rfl⟩,h⟩
   obtain⟨v,hy,hd,hl⟩:=key;have hv:eL fr vals g k=vals.getD k undef:=by unfold eL;rw[hf]
   have he:=si a o.dst v _ hd;rw[← hv] at he;rw[he] at hl;obtain⟨h1,h2⟩:=fN l (k+1) _ hl;refine⟨by unfold actAt;exact h1,fun j o' ho'=>?_⟩;rcases j with _|j
   ·obtain rfl:o=o':=by simpa using ho'
    simp only[Nat.add_zero,hf,List.take_zero,actAt];exact⟨v,he,hy⟩
   ·have:=h2 j o' (by simpa using ho');rw[show k+1+j=k+(j+1) by omega] at this;simp only[List.take_succ_cons,actAt];exact this
/-! ### What stands in the slots -/
structure cH (ops:Array Oper) (fr:Nat→Option eV) (vals:List Value) (g:Nat→Nat) (n:Nat) (a0:Act) (L:Nat→Prop) (a:Act):Prop where
 defers:a.defers=a0.defers
 size:a.tmps.size=a0.tmps.size
 done:∀ k o d,k<n→ops[k]? = some o→L k→o.dst=some d→d<a0.tmps.size→a.tmps[d]? = some (eL fr vals g k)
 rest:∀ d,(∀ k o,k<n→ops[k]? = some o→L k→o.dst≠some d)→a.tmps[d]? = a0.tmps[d]?
def uF (ops:Array Oper) (n:Nat):Bool :=
 (List.range n).all fun i=>(List.range i).all fun j=>match ops[i]?,ops[j]? with
  | some x,some y=>x.dst.isNone||x.dst != y.dst
  | _,_=>true
theorem tw {n:Nat} (h:uF ops n=true) {i j:Nat} {x y:Oper} (hi:i<n) (hj:j<n) (hne:i≠j) (hx:ops[i]? = some x) (hy:ops[j]? = some y) {d:Tmp} (h1:x.dst=some d) (h2:y.dst=some d):False:=by
 rcases Nat.lt_or_ge j i with hlt|hge
 ·have:=List.all_eq_true.1 (List.all_eq_true.1 h i (List.mem_range.2 hi)) j (List.mem_range.2 hlt);simp[hx,hy,h1,h2] at this
 ·have hlt:i<j:=by omega
  have:=List.all_eq_true.1 (List.all_eq_true.1 h j (List.mem_range.2 hj)) i (List.mem_range.2 hlt);simp[hx,hy,h1,h2] at this
theorem cH.put {n:Nat} {a0 a:Act} {L L':Nat→Prop} (h:cH ops fr vals g n a0 L a) (hB:uF ops n=true) {i:Nat} {o:Oper} (hi:i<n) (ho:ops[i]? = some o) (hL:∀ k,L' k↔(L k∨k=i)) (hn:¬ L i) :
  cH ops fr vals g n a0 L' (a.put o.dst (eL fr vals g i)):=by
 refine⟨?_,?_,?_,?_⟩
 ·cases o.dst <;> exact h.defers
 ·cases hd:o.dst with
  | none=>exact h.size
  | some d=>simp only[Act.put,Array.size_setIfInBounds];exact h.size
 ·intro k x d hk hx hLk hd hlt;by_cases hki:k=i
  ·subst hki;obtain rfl:o=x:=Option.some.inj (ho.symm.trans hx);rw[hd];simp only[Act.put];rw[Array.getElem?_setIfInBounds_self_of_lt (by rw[h.size];exact hlt)]
  ·have hLk':L k:=by rcases(hL k).1 hLk with h'|h';exact h';exact absurd h' hki
   have:=h.done k x d hk hx hLk' hd hlt;cases hod:o.dst with
   | none=>exact this
   | some d' =>
    have hne:d'≠d:=fun e=>tw hB hk hi hki hx ho hd (by rw[hod,e]);simp only[Act.put];rw[Array.getElem?_setIfInBounds_ne hne];exact this
 ·intro d hd;have h1:=h.rest d fun k x hk hx hLk=>hd k x hk hx ((hL k).2 (.inl hLk));cases hod:o.dst with
  | none=>exact h1
  | some d' =>
   have hne:d'≠d:=fun e=>hd i o hi ho ((hL i).2 (.inr rfl)) (by rw[hod,e]);simp only[Act.put];rw[Array.getElem?_setIfInBounds_ne hne];exact h1
theorem cH.nil {n:Nat} {a0:Act} {L:Nat→Prop} (hL:∀ k,k<n→¬ L k):cH ops fr vals g n a0 L a0 :=
 ⟨rfl,rfl,fun k _ _ hk _ hLk _ _=>absurd hLk (hL k hk),fun _ _=>rfl⟩
theorem cH.congr {n:Nat} {a0 a:Act} {L L':Nat→Prop} (h:cH ops fr vals g n a0 L a) (hL:∀ k,k<n→(L' k↔L k)):cH ops fr vals g n a0 L' a :=
 ⟨h.defers,h.size,fun k o d hk ho hLk hd hlt=>h.done k o d hk ho ((hL k hk).1 hLk) hd hlt,fun d hd=>h.rest d fun k o hk ho hLk=>hd k o hk ho ((hL k hk).2 hLk)⟩
theorem cH.turn {n:Nat} {a0 a:Act} {L:Nat→Prop} {g':Nat→Nat} (h:cH ops fr vals g n a0 L a) (hg:∀ k,k<n→L k→g' k=g k):cH ops fr vals g' n a0 L a :=
 ⟨h.defers,h.size,fun k o d hk ho hLk hd hlt=>by
  rw[h.done k o d hk ho hLk hd hlt];unfold eL;rw[hg k hk hLk],h.rest⟩
theorem gh {n:Nat} {a0:Act} (hB:uF ops n=true):∀ (l:List Oper) (k:Nat) (a:Act),(∀ j,j<l.length→l[j]? = ops[k+j]?)→k+l.length≤n→cH ops fr vals g n a0 (fun j=>j<k) a →
  cH ops fr vals g n a0 (fun j=>j<k+l.length) (actAt fr vals g l k a)
 | [],k,a,_,_,h=>h
 | o :: l,k,a,hl,hn,h=>by
  have h0:ops[k]? = some o:=by simpa using(hl 0 (by simp)).symm
  simp only[List.length_cons] at hn
  have h1:cH ops fr vals g n a0 (fun j=>j<k+1) (a.put o.dst (eL fr vals g k)):=h.put hB (by omega) h0 (fun j=>by omega) (by omega)
  have h2:=gh hB l (k+1) _ (fun j hj=>by
   have:=hl (j+1) (by simp;omega)
   rw[show k+1+j=k+(j+1) by omega];simpa using this) (by omega) h1
  unfold actAt
  exact h2.congr fun j _=>by simp only[List.length_cons];omega
theorem cH.same {n:Nat} {a0 a a':Act} {L:Nat→Prop} (h:cH ops fr vals g n a0 L a) (h':cH ops fr vals g n a0 L a'):a=a':=by
 have hd:=h.defers.trans h'.defers.symm
 have ht:a.tmps=a'.tmps:=by
  apply Array.ext_getElem?;intro d;by_cases hex:∃ k o,k<n∧ops[k]? = some o∧L k∧o.dst=some d
  ·obtain⟨k,o,hk,ho,hL,hod⟩:=hex;by_cases hlt:d<a0.tmps.size
   ·rw[h.done k o d hk ho hL hod hlt,h'.done k o d hk ho hL hod hlt]
   ·have n1:a.tmps.size≤d:=by rw[h.size];exact Nat.le_of_not_lt hlt
    have n2:a'.tmps.size≤d:=by rw[h'.size];exact Nat.le_of_not_lt hlt
    rw[Array.getElem?_eq_none n1,Array.getElem?_eq_none n2]
  ·have hno:∀ k o,k<n→ops[k]? = some o→L k→o.dst≠some d:=fun k o hk ho hL hod=>hex ⟨k,o,hk,ho,hL,hod⟩;rw[h.rest d hno,h'.rest d hno]
 obtain⟨t,df⟩:=a;obtain⟨t',df'⟩:=a';simp only at ht hd;rw[ht,hd]
theorem cH.alike {n:Nat} {a0 a a':Act} {L L':Nat→Prop} (h:cH ops fr vals g n a0 L a) (h':cH ops fr vals g n a0 L' a') {o:Oper}
  (hl:∀ d,d ∈ o.looksAt ops→∀ k x,k<n→ops[k]? = some x→x.dst=some d→(L k∧L' k)):∀ d,d ∈ o.looksAt ops→a.tmps[d]? = a'.tmps[d]?:=by
 intro d hd;by_cases hex:∃ k x,k<n∧ops[k]? = some x∧x.dst=some d
 ·obtain⟨k,x,hk,hx,hxd⟩:=hex;obtain⟨l1,l2⟩:=hl d hd k x hk hx hxd;by_cases hlt:d<a0.tmps.size
  ·rw[h.done k x d hk hx l1 hxd hlt,h'.done k x d hk hx l2 hxd hlt]
  ·have n1:a.tmps.size≤d:=by rw[h.size];exact Nat.le_of_not_lt hlt
   have n2:a'.tmps.size≤d:=by rw[h'.size];exact Nat.le_of_not_lt hlt
   rw[Array.getElem?_eq_none n1,Array.getElem?_eq_none n2]
 ·rw[h.rest d fun k x hk hx _ hxd=>hex ⟨k,x,hk,hx,hxd⟩,h'.rest d fun k x hk hx _ hxd=>hex ⟨k,x,hk,hx,hxd⟩]
theorem tp {o:Oper} (hs:∀ cs b,o.op ≠ .select cs b) {a a':Act} (h:∀ d,d ∈ o.looksAt ops→a.tmps[d]? = a'.tmps[d]?):execOp a.eval o=execOp a'.eval o :=
 execOp_congr o hs fun x hx=>by
  cases x with
  | tmp t =>
   have:=h t (List.mem_append_left _ (List.mem_filterMap.2 ⟨.tmp t,by simpa using hx,rfl⟩))
   simp[Act.eval,this]
  | _=>rfl
theorem oL {o:Oper} {a a':Act} (h:∀ d,d ∈ o.looksAt ops→a.tmps[d]? = a'.tmps[d]?):Region.wanted o (yielded ops a.tmps)=Region.wanted o (yielded ops a'.tmps):=by
 unfold Region.wanted;cases hg:o.guard with
 | none=>rfl
 | some gw =>
  obtain⟨k,want⟩:=gw
  have hy:yielded ops a.tmps k=yielded ops a'.tmps k:=by
   unfold yielded;cases ht:(ops[k]?).bind (·.dst) with
   | none=>rfl
   | some t =>
    have:=h t (by simp[Oper.looksAt,hg,ht]);simp[this]
  simp only[hy]
/-! ### Any order -/
def wV (ops:Array Oper) (needs:Nat→List Nat) (n:Nat):Bool :=
 (List.range n).all fun k=>match ops[k]? with
  | none=>false
  | some o => (o.looksAt ops).all (fun d => (List.range n).all fun j => match ops[j]? with
      | some x=>x.dst != some d||Region.waitsFor .any ops k j
      | none=>true)&&(needs k).all (fun j=>Region.waitsFor .any ops k j)&&o.after.all (fun e=>!Region.binds .any e||decide (e.on<k))
def iH (n m:Nat):Array Bool:=((List.range m).map fun k=>decide (k<n)).toArray
def iG (ops:Array Oper) (needs:Nat→List Nat) (n:Nat):Bool :=
 Region.noSelect ops&&decide (n<ops.size)&&Region.sinkB .any ops n&&Region.chainB .any ops n&&uF ops n&&wV ops needs n&&Region.seqB .any ops (ops.size-n) n (iH n ops.size)
theorem jV {n:Nat} (h:wV ops needs n=true) {k:Nat} {o:Oper} (hk:k<n) (ho:ops[k]? = some o) :
  (∀ d ∈ o.looksAt ops,∀ j x,j<n→ops[j]? = some x→x.dst=some d→Region.waitsFor .any ops k j=true)∧(∀ j ∈ needs k,Region.waitsFor .any ops k j=true)∧(∀ e ∈ o.after,Region.binds .any e=true→e.on<k):=by
 have:=List.all_eq_true.1 h k (List.mem_range.2 hk);simp only[ho,Bool.and_eq_true] at this;obtain⟨⟨h1,h2⟩,h3⟩:=this;refine⟨fun d hd j x hj hx hxd=>?_,fun j hj=>List.all_eq_true.1 h2 j hj,fun e he hb=>?_⟩
 ·have:=List.all_eq_true.1 (List.all_eq_true.1 h1 d hd) j (List.mem_range.2 hj);simp only[hx,hxd,bne_self_eq_false,Bool.false_or] at this;exact this
 ·have:=Array.all_eq_true_iff_forall_mem.1 h3 e he;simpa [hb] using this
structure Way (ops:Array Oper) (w0:World) (fr:Nat→Option eV) (vals:List Value) (n:Nat) (a0:Act) (listed:Array Bool) (g:Nat→Nat) (a:Act) (w:World):Prop where
 head:HeadInv .any ops n listed
 low:Below w0.heap.size w0 w
 has:∀ k f,k<n→listed.getD k false=true→fr k=some f→w0.heap.size≤g k∧w.heap[g k]? = some f.obj
 diff:∀ k k',k<n→k'<n→listed.getD k false=true→listed.getD k' false=true→(fr k).isSome=true→(fr k').isSome=true→k≠k'→g k≠g k'
 frame:cH ops fr vals g n a0 (fun k=>listed.getD k false=true) a
theorem rI {B:Nat} {a w:World} (h:Below B a w) (hB:B≤w.heap.size) (o:Obj):Below B a (w.alloc o):=h.alloc hB o
theorem getD_set_iff {listed:Array Bool} {i k:Nat} (hi:i<listed.size):(listed.setIfInBounds i true).getD k false=true↔(listed.getD k false=true∨k=i):=by
 by_cases h:i=k
 ·subst h;simp[hi]
 ·rw[getD_set_ne false h];constructor
  ·exact .inl
  ·rintro(h1|h1)
   ·exact h1
   ·exact absurd h1.symm h
theorem wT {n:Nat} {a0:Act} {listed:Array Bool} {g:Nat→Nat} {a:Act} {w:World} (hB:iG ops needs n=true) {l:List Oper} (hl:l=ops.toList.take n)
  (H:∀ g (N:Nat→List Nat),(∀ k,∀ j ∈ needs k,j ∈ N k)→fO P ops w0 fr N vals g (fun _=>True) l 0 a0) (h:Way ops w0 fr vals n a0 listed g a w) {i:Nat} (hi:i<n) (hr:i ∈ Region.ready .any ops listed) {Q':Exit→Act→World→Prop} {K:Act→World→Prop}
  (hK:∀ g' a' w',Way ops w0 fr vals n a0 (listed.setIfInBounds i true) g' a' w'→K a' w'):wpOp P ops Q' i K a w:=by
 simp only[iG,Bool.and_eq_true,decide_eq_true_eq] at hB;obtain⟨⟨⟨⟨⟨⟨hsel,hn⟩,hsink⟩,hchain⟩,hdst⟩,hwait⟩,hseq⟩:=hB;obtain⟨hun,o,ho,hall⟩:=mem_ready.1 hr
 have hlo:l[i]? = some o:=by
  rw[hl];simp[hi,ho]
 have hisz:i<listed.size:=by rw[h.head.size];omega
 have hunl:¬ listed.getD i false=true:=by
  rw[getD_both hun];simp
 obtain⟨wt1,wt2,wt3⟩:=jV hwait hi ho
 have dep:∀ j,Region.waitsFor .any ops i j=true→listed.getD j false=true∧j<i:=by
  intro j hj;obtain⟨o',ho',e,he,hb,hon⟩:=Region.waitsFor_spec hj;have:o'=o:=Option.some.inj (ho'.symm.trans ho);subst this;rw[← hon];exact⟨hall e he hb,wt3 e he hb⟩
 have hA:∀ g,cH ops fr vals g n a0 (fun k=>k<i) (actAt fr vals g (l.take i) 0 a0):=by
  intro g;have hlen:(l.take i).length=i:=by rw[hl];simp;omega
  have:=gh (vals:=vals) (fr:=fr) (g:=g) (a0:=a0) hdst (l.take i) 0 a0 (fun j hj=>by
   rw[hlen] at hj;rw[hl];simp[hj,show j<n by omega]) (by omega) (cH.nil fun k _=>by omega)
  rw[hlen] at this;exact this.congr fun j _=>by omega
 have hsl:=Region.noSelect_spec hsel;have alike:=h.frame.alike (hA g) (o:=o) (fun d hd k x hk hx hxd=>dep k (wt1 d hd k x hk hx hxd));have ex:=tp (hsl i o · · ho) alike;have wn:=oL alike;have steps:=(fN l 0 a0 (H g (fun k=>needs k++(List.range n).filter fun j=>listed.getD j false) (fun k j hj=>List.mem_append_left _ hj))).2 i o hlo;rw[Nat.zero_add] at steps;unfold wpOp;simp only[ho];cases hf:fr i with
 | some f =>
  rw[hf] at steps;obtain⟨hw,hrun⟩:=steps;rw[wn,if_pos hw];refine .inl ?_;unfold Oper.wp;rw[ex,hrun w];simp only[Oper.upon]
  have hold:∀ k,k<n→listed.getD k false=true→(if k=i then w.heap.size else g k)=g k:=fun k _ hk=>by
   rw[if_neg];intro e;subst e;exact hunl hk
  refine hK (fun k=>if k=i then w.heap.size else g k) _ _ ⟨h.head.set hr hi,rI h.low (by have:=h.low.size;omega) _,?_,?_,?_⟩
  ·intro k f' hk hlk hfk;rcases(getD_set_iff hisz).1 hlk with h1|h1
   ·have:=h.has k f' hk h1 hfk;simp only[hold k hk h1];exact⟨this.1,by rw[Below.heap_alloc w f.obj _ (ja this.2)];exact this.2⟩
   ·subst h1;simp only[if_true];rw[hf] at hfk;cases hfk;exact⟨h.low.size,heap_alloc_new w _⟩
  ·intro k k' hk hk' hlk hlk' hs hs' hne;rcases(getD_set_iff hisz).1 hlk with h1|h1 <;> rcases(getD_set_iff hisz).1 hlk' with h2|h2
   ·simp only[hold k hk h1,hold k' hk' h2];exact h.diff k k' hk hk' h1 h2 hs hs' hne
   ·subst h2;simp only[hold k hk h1,if_true];obtain⟨f',hf'⟩:=Option.isSome_iff_exists.1 hs;have:=ja (h.has k f' hk h1 hf').2;omega
   ·subst h1;simp only[hold k' hk' h2,if_true];obtain⟨f',hf'⟩:=Option.isSome_iff_exists.1 hs';have:=ja (h.has k' f' hk' h2 hf').2;omega
   ·exact absurd (h1.trans h2.symm) hne
  ·have hturn:=h.frame.turn (g':=fun k=>if k=i then w.heap.size else g k) (fun k hk hlk=>hold k hk hlk);have:=hturn.put (L':=fun k=>(listed.setIfInBounds i true).getD k false=true) hdst hi ho (fun k=>getD_set_iff hisz) hunl;have hv:eL fr vals (fun k=>if k=i then w.heap.size else g k) i=f.ptr w.heap.size:=by unfold eL;rw[hf];simp
   rwa [hv] at this
 | none =>
  rw[hf] at steps;obtain⟨v,hput,hy⟩:=steps
  have hC:∃ p:Inw w0 fr g (needs i++(List.range n).filter fun j=>listed.getD j false),w=p.w:=⟨⟨w,h.low,fun j hj f hfj=>by
   rcases List.mem_append.1 hj with hj|hj
   ·have:=dep j (wt2 j hj);exact h.has j f (by omega) this.1 hfj
   ·have:=List.mem_filter.1 hj;exact h.has j f (List.mem_range.1 this.1) this.2 hfj⟩,rfl⟩
  have nxt:∀ p:Inw w0 fr g (needs i++(List.range n).filter fun j=>listed.getD j false),K (a.put o.dst v) p.w:=by
   intro p
   have he:a.put o.dst v=a.put o.dst (eL fr vals g i):=by
    cases hod:o.dst with
    | none=>rfl
    | some d =>
     by_cases hd:d<a0.tmps.size
     ·have e1:((actAt fr vals g (l.take i) 0 a0).put o.dst v).tmps[d]? = ((actAt fr vals g (l.take i) 0 a0).put o.dst (eL fr vals g i)).tmps[d]?:=by rw[hput]
      have hs:d<(actAt fr vals g (l.take i) 0 a0).tmps.size:=by rw[(hA g).size];exact hd
      rw[hod] at e1;simp only[Act.put] at e1;rw[Array.getElem?_setIfInBounds_self_of_lt hs,Array.getElem?_setIfInBounds_self_of_lt hs] at e1;rw[Option.some.inj e1]
     ·have hs:¬ d<a.tmps.size:=by rw[h.frame.size];exact hd
      simp only[Act.put];congr 1
      apply Array.ext_getElem?;intro j;by_cases hj:d=j
      ·subst hj;simp[hs]
      ·rw[Array.getElem?_setIfInBounds_ne hj,Array.getElem?_setIfInBounds_ne hj]
   rw[he];refine hK g _ _ ⟨h.head.set hr hi,p.low,?_,?_,?_⟩
   ·intro k f' hk hlk hfk;rcases(getD_set_iff hisz).1 hlk with h1|h1
    ·exact p.has k (List.mem_append_right _ (List.mem_filter.2 ⟨List.mem_range.2 hk,h1⟩)) f' hfk
    ·subst h1;rw[hf] at hfk;cases hfk
   ·intro k k' hk hk' hlk hlk' hs hs' hne;rcases(getD_set_iff hisz).1 hlk with h1|h1
    ·rcases(getD_set_iff hisz).1 hlk' with h2|h2
     ·exact h.diff k k' hk hk' h1 h2 hs hs' hne
     ·subst h2;rw[hf] at hs';cases hs'
    ·subst h1;rw[hf] at hs;cases hs
   ·exact h.frame.put (L':=fun k=>(listed.setIfInBounds i true).getD k false=true) hdst hi ho (fun k=>getD_set_iff hisz) hunl
  rcases hy with ⟨hw,hq⟩|⟨hw,rfl⟩
  ·rw[wn,if_pos hw];refine .inl ?_;have h3:=hq w hC;unfold Oper.quietAt at h3;unfold Oper.wp;rw[ex];generalize (execOp (actAt fr vals g (l.take i) 0 a0).eval o).run P w=r at *;cases r with
   | ok m w' =>
    cases m <;> simp only[Oper.quietUpon] at h3 <;> simp only[Oper.upon]
    case value u =>
     obtain⟨e1,e2⟩:=h3;obtain⟨p,hp⟩:=hC;rw[e1,e2,hp];exact nxt p
    case skip =>
     obtain⟨e1,e2⟩:=h3;obtain⟨p,hp⟩:=hC;rw[e1,← e2,hp];exact nxt p
    case enter f args =>
     obtain⟨e1,hc⟩:=h3;rw[e1];exact hc.mono fun e w'' ⟨he,p,hp⟩=>by subst he;subst hp;exact nxt p
   | halt x w'=>simp only[Oper.quietUpon] at h3
  ·rw[wn,hw];simp only[Bool.false_eq_true,if_false];obtain⟨p,hp⟩:=hC;have:=nxt p;rwa [← hp] at this
theorem wi {n:Nat} {listed:Array Bool} (inv:HeadInv .any ops n listed) (_hn:n<ops.size) (hall:∀ k,k<n→listed.getD k false=true):listed=iH n ops.size:=by
 apply Array.ext_getElem?;intro k;have hs:(iH n ops.size).size=ops.size:=by simp[iH]
 by_cases hk:k<ops.size
 ·have e1:(iH n ops.size)[k]? = some (decide (k<n)):=by simp[iH,hk]
  rw[e1];have hks:k<listed.size:=by rw[inv.size];exact hk
  by_cases hkn:k<n
  ·have:=hall k hkn;simp[hks] at this;simp[hks,this,hkn]
  ·have:=inv.tail k (by omega) hk;simp[hks] at this;simp[hks,this,hkn]
 ·rw[Array.getElem?_eq_none (by rw[inv.size];omega),Array.getElem?_eq_none (by rw[hs];omega)]
def left (n:Nat) (listed:Array Bool):Nat:=((List.range n).filter fun k=>!listed.getD k false).length
theorem yr {n i:Nat} {listed:Array Bool} (hi:i<n) (his:i<listed.size) (hun:listed.getD i false=false):left n listed=left n (listed.setIfInBounds i true)+1:=by
 unfold left;induction n with
 | zero=>omega
 | succ n ih =>
  rw[List.range_succ,List.filter_append,List.filter_append,List.length_append,List.length_append];by_cases hin:i=n
  ·subst hin
   have e1:(List.range i).filter (fun k=>!listed.getD k false)=(List.range i).filter (fun k=>!(listed.setIfInBounds i true).getD k false):=by
    apply List.filter_congr;intro k hk;have:=List.mem_range.1 hk;rw[getD_set_ne false (by omega)]
   rw[e1];have e2:(listed.setIfInBounds i true).getD i false=true:=(getD_set_iff his).2 (.inr rfl);simp only[List.filter_cons,List.filter_nil,hun,e2];rfl
  ·rw[ih (by omega)];have e3:(listed.setIfInBounds i true).getD n false=listed.getD n false:=getD_set_ne false hin;simp only[List.filter_cons,List.filter_nil,e3];omega
theorem Cl {n:Nat} {a0:Act} {l:List Oper} (hB:iG ops needs n=true) (hl:l=ops.toList.take n) (H:∀ g (N:Nat→List Nat),(∀ k,∀ j ∈ needs k,j ∈ N k)→fO P ops w0 fr N vals g (fun _=>True) l 0 a0) {Q':Exit→Act→World→Prop}
  (fin:∀ g w,Below w0.heap.size w0 w→(∀ k f,k<n→fr k=some f→w0.heap.size≤g k∧w.heap[g k]? = some f.obj)→(∀ k k',k<n→k'<n→(fr k).isSome=true→(fr k').isSome=true→k≠k'→g k≠g k') →
   wpList P ops Q' (ops.toList.drop n) (actAt fr vals g l 0 a0) w) :
  ∀ (m:Nat) (listed:Array Bool) (g:Nat→Nat) (a:Act) (w:World),left n listed=m→Way ops w0 fr vals n a0 listed g a w→wpAny P .any ops Q' (m+(ops.size-n)) listed a w:=by
 have hB0:=hB;simp only[iG,Bool.and_eq_true,decide_eq_true_eq] at hB;obtain⟨⟨⟨⟨⟨⟨hsel,hn⟩,hsink⟩,hchain⟩,hdst⟩,hwait⟩,hseq⟩:=hB;intro m;induction m with
 | zero =>
  intro listed g a w hm h
  have hall:∀ k,k<n→listed.getD k false=true:=by
   intro k hk;cases hc:listed.getD k false with
   | true=>rfl
   | false =>
    have hmem:k ∈ (List.range n).filter fun k=>!listed.getD k false:=List.mem_filter.2 ⟨List.mem_range.2 hk,by simp only[hc];rfl⟩;have:((List.range n).filter fun k=>!listed.getD k false) = []:=List.length_eq_zero_iff.1 hm;rw[this] at hmem;cases hmem
  have hlist:=wi h.head hn hall;have hlen:l.length=n:=by rw[hl];simp;omega
  have hA:cH ops fr vals g n a0 (fun k=>k<n) (actAt fr vals g l 0 a0):=by
   have:=gh (vals:=vals) (fr:=fr) (g:=g) (a0:=a0) hdst l 0 a0 (fun j hj=>by rw[hlen] at hj;rw[hl];simp[hj]) (by omega) (cH.nil fun k _=>by omega);rw[hlen] at this;exact this.congr fun j _=>by omega
  have hae:a=actAt fr vals g l 0 a0:=(h.frame.congr (L':=fun k=>k<n) fun k hk=>⟨fun _=>hall k hk,fun _=>hk⟩).same hA;rw[hlist,hae];have:=fin g w h.low (fun k f hk hf=>h.has k f hk (hall k hk) hf) (fun k k' hk hk' hs hs' hne=>h.diff k k' hk hk' (hall k hk) (hall k' hk') hs hs' hne);have hdl:(ops.toList.drop n).length=ops.size-n:=by simp
  have hw:=wpAny_of_seq (md := .any) (Q':=Q') (ops.toList.drop n) n (iH n ops.size) (actAt fr vals g l 0 a0) w (fun j=>by simp[List.getElem?_drop]) (by rw[hdl];exact hseq) this;rw[hdl] at hw;rwa [Nat.zero_add]
 | succ m ih =>
  intro listed g a w hm h
  obtain⟨i0,hi0,hun0⟩:∃ i,i<n∧listed.getD i false=false:=by
   have hne:((List.range n).filter fun k=>!listed.getD k false) ≠ []:=by
    intro e;have:left n listed=0:=by unfold left;rw[e];rfl
    omega
   obtain⟨x,hx⟩:=List.exists_mem_of_ne_nil _ hne;have:=List.mem_filter.1 hx;exact⟨x,List.mem_range.1 this.1,by simpa using this.2⟩
  have hun0':=getD_in (by rw[h.head.size];omega) hun0;have notail:=tail_waits hsink hchain hn h.head _ i0 rfl hi0 hun0'
  -- the least that is not listed may come up
  have hex:∃ i,i<n∧i ∈ Region.ready .any ops listed:=by
   have:∀ d i,i=d→i<n→listed.getD i false=false→∃ i,i<n∧i ∈ Region.ready .any ops listed:=by
    intro d;induction d using Nat.strongRecOn with
    | _ d ihd =>
     intro i hid hin hui;have hio:i<ops.size:=by omega
     have ho:ops[i]? = some (ops[i]):=Array.getElem?_eq_getElem hio;by_cases hdeps:∀ e ∈ (ops[i]).after,Region.binds .any e=true→listed.getD e.on false=true
     ·exact⟨i,hin,mem_ready.2 ⟨getD_in (by rw[h.head.size];omega) hui,_,ho,hdeps⟩⟩
     · have hc : ∃ e, e ∈ (ops[i]).after ∧ Region.binds .any e = true ∧ listed.getD e.on false = false := by
         apply Classical.byContradiction;intro hno
         exact hdeps fun e he hb=>by
          cases hc:listed.getD e.on false with
          | true=>rfl
          | false=>exact absurd ⟨e,he,hb,hc⟩ hno
       obtain⟨e,he,hb,hue⟩:=hc;have hlt:=(jV hwait hin ho).2.2 e he hb;exact ihd e.on (by omega) e.on rfl (by omega) hue
   exact this i0 i0 rfl hi0 hun0
  obtain⟨i1,hi1,hr1⟩:=hex;rw[show m+1+(ops.size-n)=(m+(ops.size-n))+1 by omega];refine⟨fun h0=>(by rw[h0] at hr1;cases hr1),fun i hi=>?_⟩
  have hin:i<n:=by
   rcases Nat.lt_or_ge i n with h'|h'
   ·exact h'
   ·exact absurd hi (notail i h')
  have hui:=getD_both (mem_ready.1 hi).1;refine wT hB0 hl H h hin hi fun g' a' w' h'=>ih _ g' a' w' ?_ h';have:=yr hin (by rw[h.head.size];omega) hui;omega
theorem ik:∀ (l:List Oper) (k:Nat) (a:Act),fO P ops w0 fr needs vals g Q l k a→fO P ops w0 fr needs vals g (fun _=>True) l k a
 | [],_,_,_=>trivial
 | o :: l,k,a,h=>by
  unfold fO at h ⊢
  cases hf:fr k with
  | some f=>rw[hf] at h;exact⟨h.1,h.2.1,ik l _ _ h.2.2⟩
  | none =>
   rw[hf] at h
   simp only[wpQuiet] at h ⊢
   by_cases hw:Region.wanted o (yielded ops a.tmps)=true
   ·rw[if_pos hw] at h ⊢
    obtain⟨v,h1,h2,h3⟩:=h
    exact⟨v,h1,h2,ik l _ _ h3⟩
   ·rw[if_neg hw] at h ⊢
    exact⟨h.1,ik l _ _ h.2⟩
theorem kH {id:Nat} {Q':Exit→Act→World→Prop} {a:Act} {w:World} {l:List Oper} (n:Nat) (fr:Nat→Option eV) (needs:Nat→List Nat) (vals:List Value) (hm:P.follows .mixedOrders=true) (hB:iG l.toArray needs n=true)
  (H:∀ g (N:Nat→List Nat),(∀ k,∀ j ∈ needs k,j ∈ N k)→fO P l.toArray w.drew fr N vals g (fun a'=>∀ w',Below w.heap.size w w'→(∀ k f,k<n→fr k=some f→w.heap.size≤g k∧w'.heap[g k]? = some f.obj) →
   (∀ k k',k<n→k'<n→(fr k).isSome=true→(fr k').isSome=true→k≠k'→g k≠g k')→wpList P l.toArray Q' (l.drop n) a' w') (l.take n) 0 a):(Code.region id l.toArray true).wp P Q' a w:=by
 have hB0:=hB;simp only[iG,Bool.and_eq_true,decide_eq_true_eq] at hB;obtain⟨⟨⟨⟨⟨⟨hsel,hn⟩,hsink⟩,hchain⟩,hdst⟩,hwait⟩,hseq⟩:=hB;refine wp_region_any hm ?_;have hn':n<l.length:=by simpa using hn
 have:=Cl (P:=P) (ops:=l.toArray) (w0:=w.drew) (fr:=fr) (vals:=vals) (a0:=a) (l:=l.take n) (Q':=Q') hB0 rfl (fun g N hN=>ik _ _ _ (H g N hN)) (fun g w' hb hh hd=>by
  have:=(fN _ 0 _ (H g needs (fun _ _ h=>h))).1 w' ⟨hb.os,hb.tape,hb.output,hb.size,hb.block⟩ hh hd
  exact this) n (Array.replicate l.toArray.size false) (fun _=>0) a w.drew ?_ ⟨⟨by simp,fun j oj _ hl=>(by rw[getD_replicate_false] at hl;cases hl),fun t _ ht=>getD_in (by simpa using ht) (getD_replicate_false _ _)⟩,
   Below.refl _ _,fun k f _ hk=>(by rw[getD_replicate_false] at hk;cases hk),fun k k' _ _ hk=>(by rw[getD_replicate_false] at hk;cases hk),cH.nil fun k _ hk=>(by rw[getD_replicate_false] at hk;cases hk)⟩
 ·rw[show n+(l.toArray.size-n)=l.toArray.size by simp;omega] at this;exact this
 ·unfold left;rw[List.filter_eq_self.2 (fun k _=>by rw[getD_replicate_false];rfl)];simp
end
theorem Gk {p:List Value→Prop} (h:∃ v,∃ l,p (v :: l)):∃ l,p l:=by
 obtain⟨v,l,h⟩:=h;exact⟨v :: l,h⟩
theorem aB {P:Program} {id:Nat} {Q':Exit→Act→World→Prop} {a:Act} {w:World} {l:List Oper} (n:Nat) (fr:Nat→Option eV) (needs:Nat→List Nat) (hm:P.follows .mixedOrders=true) (hB:iG l.toArray needs n=true)
  (H:∃ vals:List Value,∀ g (N:Nat→List Nat),(∀ k,∀ j ∈ needs k,j ∈ N k)→fO P l.toArray w.drew fr N vals g (fun a'=>∀ w',Below w.heap.size w w'→(∀ k f,k<n→fr k=some f→w.heap.size≤g k∧w'.heap[g k]? = some f.obj) →
   (∀ k k',k<n→k'<n→(fr k).isSome=true→(fr k').isSome=true→k≠k'→g k≠g k')→wpList P l.toArray Q' (l.drop n) a' w') (l.take n) 0 a):(Code.region id l.toArray true).wp P Q' a w:=by
 obtain⟨vals,H⟩:=H;exact kH n fr needs vals hm hB H
theorem ci {w:World} {a:Addr} {v:Value} (h:w.cell? a=some v) {fr:Nat→Option eV} {g:Nat→Nat} {N:List Nat} (p:Inw w.drew fr g N):p.w.cell? a=some v:=by
 have hb:Below w.heap.size w p.w:=⟨p.low.os,p.low.tape,p.low.output,p.low.size,p.low.block⟩;rw[hb.cell (block_lt_of_cell h)];exact h
end Go.Proofs.YtnoidlacjiafdaaGreat
