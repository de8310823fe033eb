/- Laws and walks that the claim names. -/
import Derived.Test.YtnoidlacjiafdaaGreatRE
import Derived.Test.YtnoidlacjiafdaaGreatBE
import Derived.Test.YtnoidlacjiafdaaGreatRF
import Derived.Lib.QuietBelow
namespace Go.Proofs.YtnoidlacjiafdaaGreat
set_option maxRecDepth 100000
set_option maxHeartbeats 16000000
set_option linter.unusedSimpArgs false
set_option linter.unusedVariables false
open Go.RowKit
def wiB (n m:Int):Bool:=decide (-m≤n)&&decide (n≤m)
theorem vj (n m:Int) (hm:0≤m∧m≤9223372036854775807) (w:World) :
  Calls Tryz.prog 76 #[.int .i64 n,.int .i64 m] w fun e w'=>e = .returned (.bool (wiB n m))∧Below w.heap.size w w':=by
 have E:wiB n m=(decide (-m≤n)&&decide (n≤m)):=rfl;by_cases h1 : -m≤n
 ·have EV:Hid (wiB n m=decide (n≤m)):=by show _=_;rw[E];simp[h1]
  clear E;go_enter Tryz.func76,Tryz.ntmps76;go_wp2
  go_ret;exact⟨by rw[EV.out];rfl,ae⟩
 ·have EV:Hid (wiB n m=false):=by show _=_;rw[E];simp[h1]
  clear E;go_enter Tryz.func76,Tryz.ntmps76;go_wp2
  go_ret;exact⟨by rw[EV.out];rfl,ae⟩
theorem bW (n m:Int) (k:Bool) (h:wiB n m=k) (hm:0≤m∧m≤9223372036854775807) (w:World) :
  Calls Tryz.prog 76 #[.int .i64 n,.int .i64 m] w fun e w'=>e = .returned (.bool k)∧Below w.heap.size w w':=by
 subst h;exact vj n m hm w
theorem xy (x y:Int) (w:World) :
  Calls Tryz.prog 75 #[ptV x y] w fun e w'=>e = .returned (.bool (mayPt x y))∧Below w.heap.size w w':=by
 have E:mayPt x y=(wiB x 4194304&&wiB y 4194304):=by unfold mayPt wiB;simp[Bool.and_assoc]
 obtain⟨k,hk⟩:∃ k,wiB x 4194304=k:=⟨_,rfl⟩;obtain⟨l,hl⟩:∃ k,wiB y 4194304=k:=⟨_,rfl⟩;rw[hk,hl] at E;have HK:=Lh hk;have HL:=Lh hl;have HE:=Lh E;clear hk hl E;cases k with
 | true =>
  go_enter Tryz.func75,Tryz.ntmps75;go_wp2_with fail;refine(bW _ _ _ HK.out (by decide) _).mono ?_;rintro e w1 ⟨rfl,hb1⟩;have z_w1:=hb1.size;(try simp at z_w1);have Kw1aa:=bq hb1 (w.heap.size);go_wp2_with fail;refine(bW _ _ _ HL.out (by decide) _).mono ?_;rintro e w2 ⟨rfl,hb2⟩;have z_w2:=hb2.size;(try simp at z_w2);have Kw2aa:=bq hb2 (w.heap.size);go_wp2_with fail;go_ret;exact⟨by rw[HE.out];rfl,ad⟩
 | false =>
  go_enter Tryz.func75,Tryz.ntmps75;go_wp2_with fail;refine(bW _ _ _ HK.out (by decide) _).mono ?_;rintro e w1 ⟨rfl,hb1⟩;have z_w1:=hb1.size;(try simp at z_w1);have Kw1aa:=bq hb1 (w.heap.size);go_wp2_with fail;go_ret;exact⟨by rw[HE.out];rfl,ad⟩
theorem ef (x y:Int) (k:Bool) (h:mayPt x y=k) (w:World) :
  Calls Tryz.prog 75 #[ptV x y] w fun e w'=>e = .returned (.bool k)∧Below w.heap.size w w':=by
 subst h;exact xy x y w
theorem rmay_cases (m:Bool) (a b d:Int):(m=false)∨(m=true∧¬ 1≤a)∨(m=true∧1≤a∧¬ a≤70368744177664)∨(m=true∧1≤a∧a≤70368744177664∧¬ 1≤d)∨(m=true∧1≤a∧a≤70368744177664∧1≤d∧¬ d≤70368744177664) ∨
  (m=true∧1≤a∧a≤70368744177664∧1≤d∧d≤70368744177664∧wiB b 70368744177664=false)∨(m=true∧1≤a∧a≤70368744177664∧1≤d∧d≤70368744177664∧wiB b 70368744177664=true):=by
 cases m <;> cases wiB b 70368744177664 <;> simp <;> omega
theorem AN (x y a b d:Int) (w:World) :
  Calls Tryz.prog 22 #[elC x y a b d] w fun e w'=>e = .returned (.bool (El.may ⟨x,y,a,b,d⟩))∧Below w.heap.size w w':=by
 obtain⟨m,hm⟩:∃ m,mayPt x y=m:=⟨_,rfl⟩
 have E:Hid (El.may ⟨x,y,a,b,d⟩=(m&&(decide (1≤a)&&(decide (a≤70368744177664)&&(decide (1≤d)&&(decide (d≤70368744177664)&&(wiB b 70368744177664&&decide (0<a*d-b*b)))))))):=by
  show _=_;rw[← hm];unfold El.may wiB;simp[Bool.and_assoc]
 have HM:=Lh hm;clear hm;rcases rmay_cases m a b d with h0|⟨h0,h1⟩|⟨h0,h1,h2⟩|⟨h0,h1,h2,h3⟩|⟨h0,h1,h2,h3,h4⟩|⟨h0,h1,h2,h3,h4,h5⟩|⟨h0,h1,h2,h3,h4,h5⟩
 case inr.inr.inr.inr.inr.inr =>
  subst h0;have h6 : -70368744177664≤b∧b≤70368744177664:=by simpa [wiB] using h5
  have HW:=Lh h5;have HA:Hid (I64 a∧I64 b∧I64 d):=by unfold Hid I64;omega
  obtain⟨s,hs⟩:∃ s,s=a*d-b*b:=⟨_,rfl⟩;have S:Hid (Sm 260 s):=by show Sm 260 s;rw[hs];exact(HA.out.1.sm.mul HA.out.2.2.sm |>.sub (HA.out.2.1.sm.mul HA.out.2.1.sm)).mono (by decide)
  have HS:=Lh hs;clear hs h6;rw[← HS.out] at E;have EV:Hid (El.may ⟨x,y,a,b,d⟩=decide (0<s)):=by show _=_;rw[E.out];simp[h1,h2,h3,h4,h5]
  have e1:=Lh (WI.di (S.out.lim (by decide)));clear h5 E;go_enter Tryz.func22,Tryz.ntmps22;go_wp2_with fail;refine(ef _ _ _ HM.out _).mono ?_;rintro e w1 ⟨rfl,hb1⟩;have z_w1:=hb1.size;(try simp at z_w1);have K_w1_0:=bq2 hb1 (w.heap.size);go_wp2_with fail;refine(bW _ _ _ HW.out (by decide) _).mono ?_;rintro e w2 ⟨rfl,hb2⟩;have z_w2:=hb2.size;(try simp at z_w2);have K_w2_0:=bq2 hb2 (w.heap.size);go_wp2_with fail;refine(qQ _ _ _ HA.out.1 HA.out.2.1 HA.out.2.2 _).mono ?_;rintro e w3 ⟨⟨v3,rfl,hv3⟩,hb3⟩;have z_w3:=hb3.size;(try simp at z_w3);have K_w3_0:=bq2 hb3 (w.heap.size);rw[← HS.out] at hv3;have HV3:=Lh hv3;clear hv3;go_wp2_with fail;refine Calls.mono (xj _ _ _ HV3.out) ?_;rw[e1.out];rintro e w4 ⟨rfl,hb4⟩;have z_w4:=hb4.size;(try simp at z_w4);have K_w4_0:=bq2 hb4 (w.heap.size);go_wp2_with fail;go_ret;exact⟨by rw[EV.out];simp,ad⟩
 case inr.inr.inr.inr.inr.inl =>
  subst h0;have HW:=Lh h5;have EV:Hid (El.may ⟨x,y,a,b,d⟩=false):=by show _=_;rw[E.out,h5];simp
  clear h5 E;go_enter Tryz.func22,Tryz.ntmps22;go_wp2_with fail;refine(ef _ _ _ HM.out _).mono ?_;rintro e w1 ⟨rfl,hb1⟩;have z_w1:=hb1.size;(try simp at z_w1);have Kw1aa:=bq hb1 (w.heap.size);have Kw1ab:=bq hb1 (w.heap.size+1);go_wp2_with fail;refine(bW _ _ _ HW.out (by decide) _).mono ?_;rintro e w2 ⟨rfl,hb2⟩;have z_w2:=hb2.size;(try simp at z_w2);have Kw2aa:=bq hb2 (w.heap.size);have Kw2ab:=bq hb2 (w.heap.size+1);go_wp2_with fail;go_ret;exact⟨by rw[EV.out];rfl,ad⟩
 all_goals subst h0
 all_goals have EV:Hid (El.may ⟨x,y,a,b,d⟩=false):=by show _=_;rw[E.out];simp[*]
 all_goals clear E
 all_goals go_enter Tryz.func22,Tryz.ntmps22
 all_goals go_wp2_with fail
 all_goals (refine(ef _ _ _ HM.out _).mono ?_;rintro e w1 ⟨rfl,hb1⟩;have z_w1:=hb1.size;(try simp at z_w1);have Kw1aa:=bq hb1 (w.heap.size);have Kw1ab:=bq hb1 (w.heap.size+1))
 all_goals go_wp2_with fail
 all_goals go_ret
 all_goals exact⟨by rw[EV.out];rfl,ad⟩
theorem aH (x y a b d:Int) (k:Bool) (h:El.may ⟨x,y,a,b,d⟩=k) (w:World) :
  Calls Tryz.prog 22 #[elC x y a b d] w fun e w'=>e = .returned (.bool k)∧Below w.heap.size w w':=by
 subst h;exact AN x y a b d w
theorem xn (x y a b d:Int) (w:World) :
  Calls Tryz.prog 79 #[elC x y a b d] w fun e w'=>e = .returned (.int .i64 (El.tr ⟨x,y,a,b,d⟩))∧Below w.heap.size w w':=by
 have E:Hid (El.tr ⟨x,y,a,b,d⟩=if El.may ⟨x,y,a,b,d⟩=true then a+d else 0):=rfl;obtain⟨m,hm⟩:∃ m,m=El.may ⟨x,y,a,b,d⟩:=⟨_,rfl⟩;have HM:=Lh hm.symm;rw[HM.out] at E;cases m with
 | false =>
  clear hm;go_enter Tryz.func79,Tryz.ntmps79;go_wp2_with fail;refine(aH _ _ _ _ _ _ HM.out _).mono ?_;rintro e w1 ⟨rfl,hb1⟩;have z_w1:=hb1.size;(try simp at z_w1);have Kw1aa:=bq hb1 (w.heap.size);go_wp2
  go_ret;exact⟨by rw[E.out];rfl,ad⟩
 | true =>
  obtain⟨-,⟨b5,b6,b7,b8,-,-⟩,-⟩:=(El.aQ _).1 hm.symm;simp only at b5 b6 b7 b8;clear hm;go_enter Tryz.func79,Tryz.ntmps79;go_wp2_with fail;refine(aH _ _ _ _ _ _ HM.out _).mono ?_;rintro e w1 ⟨rfl,hb1⟩;have z_w1:=hb1.size;(try simp at z_w1);have Kw1aa:=bq hb1 (w.heap.size);go_wp2
  go_ret;exact⟨by rw[E.out];rfl,ad⟩
theorem bO (x y a b d k:Int) (h:El.tr ⟨x,y,a,b,d⟩=k) (w:World) :
  Calls Tryz.prog 79 #[elC x y a b d] w fun e w'=>e = .returned (.int .i64 k)∧Below w.heap.size w w':=by
 subst h;exact xn x y a b d w
theorem vn (x y a b d:Int) (w:World) :
  Calls Tryz.prog 24 #[elC x y a b d] w fun e w'=>e = .returned (.int .i64 (El.rad ⟨x,y,a,b,d⟩))∧Below w.heap.size w w':=by
 obtain⟨m,hm⟩:∃ m,El.tr ⟨x,y,a,b,d⟩=m:=⟨_,rfl⟩;have h:=El.wY ⟨x,y,a,b,d⟩;rw[hm] at h;have HM:=Lh hm;have HR:Hid (El.rad ⟨x,y,a,b,d⟩=((up m.toNat:Nat):Int)):=by show _=_;unfold El.rad;rw[HM.out]
 have HL:Hid (-9223372036854775808≤m∧m≤9223372036854775807):=by show _∧_;omega
 clear hm h;go_enter Tryz.func24,Tryz.ntmps24;go_wp2_with fail;refine(bO _ _ _ _ _ _ HM.out _).mono ?_;rintro e w1 ⟨rfl,hb1⟩;have z_w1:=hb1.size;(try simp at z_w1);have Kw1aa:=bq hb1 (w.heap.size);go_wp2_with fail;refine(Fa m HL.out.1 HL.out.2 _).mono ?_;rintro e w2 ⟨rfl,hb2⟩;have z_w2:=hb2.size;(try simp at z_w2);have Kw2aa:=bq hb2 (w.heap.size);go_wp2
 go_ret;exact⟨by rw[HR.out];rfl,ad⟩
theorem ep (x y a b d k:Int) (h:El.rad ⟨x,y,a,b,d⟩=k) (w:World) :
  Calls Tryz.prog 24 #[elC x y a b d] w fun e w'=>e = .returned (.int .i64 k)∧Below w.heap.size w w':=by
 subst h;exact vn x y a b d w
theorem AV (x y r:Int) (w:World) :
  Calls Tryz.prog 35 #[ptV x y,.int .i64 r] w fun e w'=>e = .returned (.tuple #[elV (ballE x y r).1,.int .i64 (ballE x y r).2])∧Below w.heap.size w w':=by
 have E:Hid (ballE x y r=if mayPt x y=true∧1≤r∧r≤4194304 then (⟨x,y,r*r,0,r*r⟩,0) else (El.zero,1)):=rfl;obtain⟨m,hm⟩:∃ m,m=mayPt x y:=⟨_,rfl⟩;have HM:=Lh hm.symm;clear hm;rw[HM.out] at E;cases m with
 | false =>
  go_enter Tryz.func35,Tryz.ntmps35;go_wp2_with fail;refine(ef _ _ _ HM.out _).mono ?_;rintro e w1 ⟨rfl,hb1⟩;have z_w1:=hb1.size;(try simp at z_w1);have Kw1aa:=bq hb1 (w.heap.size);have Kw1ab:=bq hb1 (w.heap.size+1);go_wp2
  exact rT 5 z5 (.int .i64 1) ⟨by rw[E.out];rfl,ad⟩
 | true =>
  by_cases h1:r<1
  ·have E2:Hid (ballE x y r=(El.zero,1)):=by show _=_;rw[E.out,if_neg];rintro⟨-,h,-⟩;omega
   clear E;go_enter Tryz.func35,Tryz.ntmps35;go_wp2_with fail;refine(ef _ _ _ HM.out _).mono ?_;rintro e w1 ⟨rfl,hb1⟩;have z_w1:=hb1.size;(try simp at z_w1);have Kw1aa:=bq hb1 (w.heap.size);have Kw1ab:=bq hb1 (w.heap.size+1);go_wp2
   exact rT 5 z5 (.int .i64 1) ⟨by rw[E2.out];rfl,ad⟩
  ·by_cases h2:4194304<r
   ·have E2:Hid (ballE x y r=(El.zero,1)):=by show _=_;rw[E.out,if_neg];rintro⟨-,-,h⟩;omega
    clear E;go_enter Tryz.func35,Tryz.ntmps35;go_wp2_with fail;refine(ef _ _ _ HM.out _).mono ?_;rintro e w1 ⟨rfl,hb1⟩;have z_w1:=hb1.size;(try simp at z_w1);have Kw1aa:=bq hb1 (w.heap.size);have Kw1ab:=bq hb1 (w.heap.size+1);go_wp2
    exact rT 5 z5 (.int .i64 1) ⟨by rw[E2.out];rfl,ad⟩
   ·have E2:Hid (ballE x y r=(⟨x,y,r*r,0,r*r⟩,0)):=by show _=_;rw[E.out,if_pos ⟨rfl,by omega,by omega⟩]
    obtain⟨s,hs⟩:∃ s,s=r*r:=⟨_,rfl⟩;have k2:r*r≤4194304*4194304:=Int.mul_le_mul (by omega) (by omega) (by omega) (by decide);have k3:=ax r;rw[← hs] at E2 k2 k3;have e1:r*r=s:=hs.symm;clear hs E;go_enter Tryz.func35,Tryz.ntmps35;go_wp2_with fail;refine(ef _ _ _ HM.out _).mono ?_;rintro e w1 ⟨rfl,hb1⟩;have z_w1:=hb1.size;(try simp at z_w1);have Kw1aa:=bq hb1 (w.heap.size);have Kw1ab:=bq hb1 (w.heap.size+1);go_wp2
    exact rT 5 #[.int .i64 x,.int .i64 y,.int .i64 s,.int .i64 0,.int .i64 s] (.int .i64 0) ⟨by rw[E2.out],ad⟩
theorem oY (x y r:Int) (x' y' a' b' d' k:Int) (h:ballE x y r=(⟨x',y',a',b',d'⟩,k)) (w:World) :
  Calls Tryz.prog 35 #[ptV x y,.int .i64 r] w fun e w'=>e = .returned (.tuple #[elC x' y' a' b' d',.int .i64 k])∧Below w.heap.size w w':=by
 have:=AV x y r w;rw[h] at this;exact this
theorem AM (a b c:Int) (V:Int × Int) (h:cn a b c=V) (ha : -9223372036854775808≤a∧a≤9223372036854775807) (hb : -9223372036854775808≤b∧b≤9223372036854775807) (hc : -9223372036854775808≤c∧c≤9223372036854775807) (w:World) :
  Calls Tryz.prog 148 #[.int .i64 a,.int .i64 b,.int .i64 c] w fun e w'=>e = .returned (.tuple #[.int .i64 V.1,.int .i64 V.2])∧Below w.heap.size w w':=by
 subst h;exact qJ a b c ha hb hc w
theorem Fx (a b c:Int) (V:Int × Int) (h:du a b c=V) (ha : -9223372036854775808≤a∧a≤9223372036854775807) (hb : -9223372036854775808≤b∧b≤9223372036854775807) (hc : -9223372036854775808≤c∧c≤9223372036854775807) (w:World) :
  Calls Tryz.prog 149 #[.int .i64 a,.int .i64 b,.int .i64 c] w fun e w'=>e = .returned (.tuple #[.int .i64 V.1,.int .i64 V.2])∧Below w.heap.size w w':=by
 subst h;exact vN a b c ha hb hc w
section
theorem Fp (a0 a1 a2 a3 a4 a5:Int) (w:World):Sem.run Tryz.prog (Instr.index 183 (.agg #[.int .i64 a0,.int .i64 a1,.int .i64 a2,.int .i64 a3,.int .i64 a4,.int .i64 a5]) (.int .i64 0)) w = .ok (.int .i64 a0) w:=by rfl
theorem Fo (a0 a1 a2 a3 a4 a5:Int) (w:World):Sem.run Tryz.prog (Instr.index 183 (.agg #[.int .i64 a0,.int .i64 a1,.int .i64 a2,.int .i64 a3,.int .i64 a4,.int .i64 a5]) (.int .i64 1)) w = .ok (.int .i64 a1) w:=by rfl
theorem Fm (a0 a1 a2 a3 a4 a5:Int) (w:World):Sem.run Tryz.prog (Instr.index 183 (.agg #[.int .i64 a0,.int .i64 a1,.int .i64 a2,.int .i64 a3,.int .i64 a4,.int .i64 a5]) (.int .i64 2)) w = .ok (.int .i64 a2) w:=by rfl
theorem Fl (a0 a1 a2 a3 a4 a5:Int) (w:World):Sem.run Tryz.prog (Instr.index 183 (.agg #[.int .i64 a0,.int .i64 a1,.int .i64 a2,.int .i64 a3,.int .i64 a4,.int .i64 a5]) (.int .i64 3)) w = .ok (.int .i64 a3) w:=by rfl
theorem Fk (a0 a1 a2 a3 a4 a5:Int) (w:World):Sem.run Tryz.prog (Instr.index 183 (.agg #[.int .i64 a0,.int .i64 a1,.int .i64 a2,.int .i64 a3,.int .i64 a4,.int .i64 a5]) (.int .i64 4)) w = .ok (.int .i64 a4) w:=by rfl
theorem Fj (a0 a1 a2 a3 a4 a5:Int) (w:World):Sem.run Tryz.prog (Instr.index 183 (.agg #[.int .i64 a0,.int .i64 a1,.int .i64 a2,.int .i64 a3,.int .i64 a4,.int .i64 a5]) (.int .i64 5)) w = .ok (.int .i64 a5) w:=by rfl
end
theorem five_ways (a b c d:Int):(70368744177664<a)∨(¬ 70368744177664<a∧70368744177664<b)∨(¬ 70368744177664<a∧¬ 70368744177664<b∧70368744177664<c)∨(¬ 70368744177664<a∧¬ 70368744177664<b∧¬ 70368744177664<c∧70368744177664<d)∨(¬ 70368744177664<a∧¬ 70368744177664<b∧¬ 70368744177664<c∧¬ 70368744177664<d):=by omega
theorem d9 {x y a b d:Int} (h:70368744177664<a∨70368744177664<d):El.may ⟨x,y,a,b,d⟩=false:=by
 cases hm:El.may ⟨x,y,a,b,d⟩ with
 | false=>rfl
 | true=>have:=(El.aQ _).1 hm;simp only at this;omega
theorem vm (x y a b d x' y' a' b' d':Int) (he:El.may ⟨x,y,a,b,d⟩=true) (hf:El.may ⟨x',y',a',b',d'⟩=true) (w:World) :
  Calls Tryz.prog 121 #[elC x y a b d,elC x' y' a' b' d'] w fun r w' =>
   r = .returned (.tuple #[elV (sumE ⟨x,y,a,b,d⟩ ⟨x',y',a',b',d'⟩).1,.int .i64 (sumE ⟨x,y,a,b,d⟩ ⟨x',y',a',b',d'⟩).2])∧Below w.heap.size w w':=by
 have HE:=Lh he;have HF:=Lh hf;obtain⟨s,hs⟩:∃ s,s=El.rad ⟨x,y,a,b,d⟩:=⟨_,rfl⟩;obtain⟨t,ht⟩:∃ t,t=El.rad ⟨x',y',a',b',d'⟩:=⟨_,rfl⟩;have HS:=Lh hs.symm;have HT:=Lh ht.symm;have me:=(El.aQ _).1 he;have mf:=(El.aQ _).1 hf;have re:=El.ml _ he;have rf:=El.ml _ hf;have qe:=El.b_sq _ he;have qf:=El.b_sq _ hf;have so:=(CF _ _ he hf).hs;simp only[← hs,← ht] at me mf re rf qe qf so;obtain⟨pa,hA⟩:∃ A,A=cdiv ((s+t)*a) s:=⟨_,rfl⟩;obtain⟨pb,hA'⟩:∃ A,A=cdiv ((s+t)*a') t:=⟨_,rfl⟩;obtain⟨pc,hD⟩:∃ A,A=cdiv ((s+t)*d) s:=⟨_,rfl⟩;obtain⟨pd,hD'⟩:∃ A,A=cdiv ((s+t)*d') t:=⟨_,rfl⟩;obtain⟨pg,hB⟩:∃ A,A=((s+t)*b).fdiv s:=⟨_,rfl⟩;obtain⟨ph,hB'⟩:∃ A,A=((s+t)*b').fdiv t:=⟨_,rfl⟩;have a1:=eX s t a so.1 so.2.1 so.2.2.1 so.2.2.2 (by omega) (by omega) (by omega);have a2:=eX t s a' so.2.2.1 so.2.2.2 so.1 so.2.1 (by omega) (by omega) (by omega);have a3:=eX s t d so.1 so.2.1 so.2.2.1 so.2.2.2 (by omega) (by omega) (by omega);have a4:=eX t s d' so.2.2.1 so.2.2.2 so.1 so.2.1 (by omega) (by omega) (by omega);have a5:=jh s t b so.1 so.2.1 so.2.2.1 so.2.2.2 (by omega) (by omega) (by omega) (by omega);have a6:=jh t s b' so.2.2.1 so.2.2.2 so.1 so.2.1 (by omega) (by omega) (by omega) (by omega);have z1:=(eG (s+t) a s so.1 (by omega) (by omega) (by omega)).1;have z2:=(eG (s+t) a' t so.2.2.1 (by omega) (by omega) (by omega)).1;have z3:=(eG (s+t) d s so.1 (by omega) (by omega) (by omega)).1;have z4:=(eG (s+t) d' t so.2.2.1 (by omega) (by omega) (by omega)).1;rw[Int.add_comm t s] at a2 a4 a6;rw[← hA] at a1 z1;rw[← hA'] at a2 z2;rw[← hD] at a3 z3;rw[← hD'] at a4 z4;rw[← hB] at a5;rw[← hB'] at a6
 have SU:dV ⟨x,y,a,b,d⟩ ⟨x',y',a',b',d'⟩=⟨x+x',y+y',pa+pb+2,pg+ph,pc+pd+2⟩:=by
  unfold dV;simp only[← hs,← ht,← hA,← hA',← hB,← hB',← hD,← hD']
 have E:Hid (sumE ⟨x,y,a,b,d⟩ ⟨x',y',a',b',d'⟩=if El.may ⟨x+x',y+y',pa+pb+2,pg+ph,pc+pd+2⟩=true then (⟨x+x',y+y',pa+pb+2,pg+ph,pc+pd+2⟩,0) else (El.zero,2)):=by
  show _=_;unfold sumE;rw[if_pos ⟨he,hf⟩,SU]
 obtain⟨h1,b1,b2⟩:=a1;obtain⟨h2,b3,b4⟩:=a2;obtain⟨h3,b5,b6⟩:=a3;obtain⟨h4,b7,b8⟩:=a4;obtain⟨h5,b9,b10⟩:=a5;obtain⟨h6,b11,b12⟩:=a6;have H1:=Lh h1;have H2:=Lh h2;have H3:=Lh h3;have H4:=Lh h4;have H5:=Lh h5;have H6:=Lh h6;obtain⟨⟨bx1,bx2,by1,by2⟩,⟨c1,c2,c3,c4,c5,c6⟩,-⟩:=me;obtain⟨⟨bx3,bx4,by3,by4⟩,⟨c7,c8,c9,c10,c11,c12⟩,-⟩:=mf;obtain⟨s1,s2,s3,s4⟩:=so;have i0:=fun w=>Fp 0 0 0 0 0 0 w;have i1:=fun w=>Fo 0 0 0 0 0 0 w;have i2:=fun w=>Fm 0 0 0 0 0 0 w;have i3:=fun w=>Fl 0 0 0 0 0 0 w;have i4:=fun w=>Fk 0 0 0 0 0 0 w;have i5:=fun w=>Fj 0 0 0 0 0 0 w;clear he hf hs ht re rf qe qf hA hA' hB hB' hD hD' SU h1 h2 h3 h4 h5 h6;go_enter Tryz.func121,Tryz.ntmps121;go_wp2_with fail;refine(aH _ _ _ _ _ _ HE.out _).mono ?_;rintro e w1 ⟨rfl,hb1⟩;have z_w1:=hb1.size;(try simp at z_w1);have K_w1_0:=bq3 hb1 (w.heap.size);go_wp2_with fail;refine(aH _ _ _ _ _ _ HF.out _).mono ?_;rintro e w2 ⟨rfl,hb2⟩;have z_w2:=hb2.size;(try simp at z_w2);have K_w2_0:=bq3 hb2 (w.heap.size);go_wp2_with fail;have c0:=cell_regrown (show w2.cell? ⟨w.heap.size,0,none⟩=some (.int .i64 x) from(by go_simp));have c1:=cell_regrown (show w2.cell? ⟨w.heap.size,1,none⟩=some (.int .i64 y) from(by go_simp));have c2:=cell_regrown (show w2.cell? ⟨w.heap.size,2,none⟩=some (.int .i64 a) from(by go_simp));have c3:=cell_regrown (show w2.cell? ⟨w.heap.size,3,none⟩=some (.int .i64 b) from(by go_simp));have c4:=cell_regrown (show w2.cell? ⟨w.heap.size,4,none⟩=some (.int .i64 d) from(by go_simp));have e0:=cell_regrown (show w2.cell? ⟨w.heap.size+1,0,none⟩=some (.int .i64 x') from(by go_simp));have e1:=cell_regrown (show w2.cell? ⟨w.heap.size+1,1,none⟩=some (.int .i64 y') from(by go_simp));have e2:=cell_regrown (show w2.cell? ⟨w.heap.size+1,2,none⟩=some (.int .i64 a') from(by go_simp));have e3:=cell_regrown (show w2.cell? ⟨w.heap.size+1,3,none⟩=some (.int .i64 b') from(by go_simp));have e4:=cell_regrown (show w2.cell? ⟨w.heap.size+1,4,none⟩=some (.int .i64 d') from(by go_simp));refine wp_region_quiet_below (by kernel_rfl) (by kernel_rfl) ?_
 repeat (go_big_quiet_step (first
  | (go_at_call 24;exact Calls.regrown_of (by first|with_reducible exact ep _ _ _ _ _ _ HS.out _|with_reducible exact ep _ _ _ _ _ _ HT.out _))))
 refine wpQuiet_nil ?_;intro w3 hw3;have hb3:=ay hw3;clear hw3 c0 c1 c2 c3 c4 e0 e1 e2 e3 e4;have z_w3:=hb3.size;(try simp at z_w3);have K_w3_0:=bq3 hb3 (w.heap.size);go_wp2_with fail;refine(AM _ _ _ _ H1.out (by omega) (by omega) (by omega) _).mono ?_;rintro e w4 ⟨rfl,hb4⟩;have z_w4:=hb4.size;(try simp at z_w4);have K_w4_0:=bq3 hb4 (w.heap.size);go_wp2_with fail;refine(AM _ _ _ _ H2.out (by omega) (by omega) (by omega) _).mono ?_;rintro e w5 ⟨rfl,hb5⟩;have z_w5:=hb5.size;(try simp at z_w5);have K_w5_0:=bq3 hb5 (w.heap.size);go_wp2_with fail;refine(AM _ _ _ _ H3.out (by omega) (by omega) (by omega) _).mono ?_;rintro e w6 ⟨rfl,hb6⟩;have z_w6:=hb6.size;(try simp at z_w6);have K_w6_0:=bq3 hb6 (w.heap.size);go_wp2_with fail;refine(AM _ _ _ _ H4.out (by omega) (by omega) (by omega) _).mono ?_;rintro e w7 ⟨rfl,hb7⟩;have z_w7:=hb7.size;(try simp at z_w7);have K_w7_0:=bq3 hb7 (w.heap.size);go_wp2_with fail;refine(Fx _ _ _ _ H5.out (by omega) (by omega) (by omega) _).mono ?_;rintro e w8 ⟨rfl,hb8⟩;have z_w8:=hb8.size;(try simp at z_w8);have K_w8_0:=bq3 hb8 (w.heap.size);go_wp2_with fail;refine(Fx _ _ _ _ H6.out (by omega) (by omega) (by omega) _).mono ?_;rintro e w9 ⟨rfl,hb9⟩;have z_w9:=hb9.size;(try simp at z_w9);have K_w9_0:=bq3 hb9 (w.heap.size);go_wp2_with fail;refine wp_loop_rounds 8 ?_;rw[rounds_succ];go_wp2_with fail;rw[rounds_succ];go_wp2_with fail;rw[rounds_succ];go_wp2_with fail;rw[rounds_succ];go_wp2_with fail;rw[rounds_succ];go_wp2_with fail;rw[rounds_succ];go_wp2_with fail;rcases five_ways pa pb pc pd with w1'|⟨w1',w2'⟩|⟨w1',w2',w3'⟩|⟨w1',w2',w3',w4'⟩|⟨w1',w2',w3',w4'⟩
 ·have EV:Hid (sumE ⟨x,y,a,b,d⟩ ⟨x',y',a',b',d'⟩=(El.zero,2)):=by show _=_;rw[E.out,d9 (by omega),if_neg (by decide)]
  clear E;rw[rounds_succ];go_wp2_with fail;exact rT 5 z5 (.int .i64 2) ⟨by rw[EV.out];rfl,ad⟩
 ·have EV:Hid (sumE ⟨x,y,a,b,d⟩ ⟨x',y',a',b',d'⟩=(El.zero,2)):=by show _=_;rw[E.out,d9 (by omega),if_neg (by decide)]
  clear E;rw[rounds_succ];go_wp2_with fail;exact rT 5 z5 (.int .i64 2) ⟨by rw[EV.out];rfl,ad⟩
 ·have EV:Hid (sumE ⟨x,y,a,b,d⟩ ⟨x',y',a',b',d'⟩=(El.zero,2)):=by show _=_;rw[E.out,d9 (by omega),if_neg (by decide)]
  clear E;rw[rounds_succ];go_wp2_with fail;exact rT 5 z5 (.int .i64 2) ⟨by rw[EV.out];rfl,ad⟩
 ·have EV:Hid (sumE ⟨x,y,a,b,d⟩ ⟨x',y',a',b',d'⟩=(El.zero,2)):=by show _=_;rw[E.out,d9 (by omega),if_neg (by decide)]
  clear E;rw[rounds_succ];go_wp2_with fail;exact rT 5 z5 (.int .i64 2) ⟨by rw[EV.out];rfl,ad⟩
 ·rw[rounds_succ];go_wp2_with fail;obtain⟨m,hm⟩:∃ m,El.may ⟨x+x',y+y',pa+pb+2,pg+ph,pc+pd+2⟩=m:=⟨_,rfl⟩;rw[hm] at E;refine(aH _ _ _ _ _ _ hm _).mono ?_;rintro e w10 ⟨rfl,hb10⟩;clear hm;have z_w10:=hb10.size;(try simp at z_w10);have K_w10_0:=bq3 hb10 (w.heap.size);have Kw10ba:=bq hb10 (w9.heap.size);cases m with
  | true =>
   go_wp2_with fail;exact rT 5 #[.int .i64 (x+x'),.int .i64 (y+y'),.int .i64 (pa+pb+2),.int .i64 (pg+ph),.int .i64 (pc+pd+2)] (.int .i64 0) ⟨by rw[E.out];rfl,ad⟩
  | false =>
   go_wp2_with fail;exact rT 5 z5 (.int .i64 2) ⟨by rw[E.out];rfl,ad⟩
theorem AC (x y a b d x' y' a' b' d':Int) (he:El.may ⟨x,y,a,b,d⟩=false) (w:World) :
  Calls Tryz.prog 121 #[elC x y a b d,elC x' y' a' b' d'] w fun r w' =>
   r = .returned (.tuple #[elV (sumE ⟨x,y,a,b,d⟩ ⟨x',y',a',b',d'⟩).1,.int .i64 (sumE ⟨x,y,a,b,d⟩ ⟨x',y',a',b',d'⟩).2])∧Below w.heap.size w w':=by
 have HE:=Lh he
 have E:Hid (sumE ⟨x,y,a,b,d⟩ ⟨x',y',a',b',d'⟩=(El.zero,1)):=by
  show _=_;unfold sumE;rw[if_neg];rintro⟨h,_⟩;rw[he] at h;cases h
 clear he;go_enter Tryz.func121,Tryz.ntmps121;go_wp2_with fail;refine(aH _ _ _ _ _ _ HE.out _).mono ?_;rintro e w1 ⟨rfl,hb1⟩;have z_w1:=hb1.size;(try simp at z_w1);have K_w1_0:=bq3 hb1 (w.heap.size);go_wp2_with fail;exact rT 5 z5 (.int .i64 1) ⟨by rw[E.out];rfl,ad⟩
theorem Aw (x y a b d x' y' a' b' d':Int) (he:El.may ⟨x,y,a,b,d⟩=true) (hf:El.may ⟨x',y',a',b',d'⟩=false) (w:World) :
  Calls Tryz.prog 121 #[elC x y a b d,elC x' y' a' b' d'] w fun r w' =>
   r = .returned (.tuple #[elV (sumE ⟨x,y,a,b,d⟩ ⟨x',y',a',b',d'⟩).1,.int .i64 (sumE ⟨x,y,a,b,d⟩ ⟨x',y',a',b',d'⟩).2])∧Below w.heap.size w w':=by
 have HE:=Lh he;have HF:=Lh hf
 have E:Hid (sumE ⟨x,y,a,b,d⟩ ⟨x',y',a',b',d'⟩=(El.zero,1)):=by
  show _=_;unfold sumE;rw[if_neg];rintro⟨_,h⟩;rw[hf] at h;cases h
 clear he hf;go_enter Tryz.func121,Tryz.ntmps121;go_wp2_with fail;refine(aH _ _ _ _ _ _ HE.out _).mono ?_;rintro e w1 ⟨rfl,hb1⟩;have z_w1:=hb1.size;(try simp at z_w1);have K_w1_0:=bq3 hb1 (w.heap.size);go_wp2_with fail;refine(aH _ _ _ _ _ _ HF.out _).mono ?_;rintro e w2 ⟨rfl,hb2⟩;have z_w2:=hb2.size;(try simp at z_w2);have K_w2_0:=bq3 hb2 (w.heap.size);go_wp2_with fail;exact rT 5 z5 (.int .i64 1) ⟨by rw[E.out];rfl,ad⟩
theorem Dl (e f:El) (w:World) :
  Calls Tryz.prog 121 #[elV e,elV f] w fun r w'=>r = .returned (.tuple #[elV (sumE e f).1,.int .i64 (sumE e f).2])∧Below w.heap.size w w':=by
 cases he:e.may with
 | false=>exact AC _ _ _ _ _ _ _ _ _ _ he w
 | true =>
  cases hf:f.may with
  | false=>exact Aw _ _ _ _ _ _ _ _ _ _ he hf w
  | true=>exact vm _ _ _ _ _ _ _ _ _ _ he hf w
theorem Dk (x y a b d x' y' a' b' d':Int) (o:El) (k:Int) (h:sumE ⟨x,y,a,b,d⟩ ⟨x',y',a',b',d'⟩=(o,k)) (w:World) :
  Calls Tryz.prog 121 #[elC x y a b d,elC x' y' a' b' d'] w fun r w'=>r = .returned (.tuple #[elV o,.int .i64 k])∧Below w.heap.size w w':=by
 have:=Dl ⟨x,y,a,b,d⟩ ⟨x',y',a',b',d'⟩ w;rw[h] at this;exact this
theorem AQ (x y a b d r:Int) (w:World) :
  Calls Tryz.prog 65 #[elC x y a b d,.int .i64 r] w fun e w'=>e = .returned (.tuple #[elV (growE ⟨x,y,a,b,d⟩ r).1,.int .i64 (growE ⟨x,y,a,b,d⟩ r).2])∧Below w.heap.size w w':=by
 have E:growE ⟨x,y,a,b,d⟩ r=if El.may ⟨x,y,a,b,d⟩=true∧0≤r∧r≤4194304 then (if r=0 then (⟨x,y,a,b,d⟩,0) else sumE ⟨x,y,a,b,d⟩ (ballE 0 0 r).1) else (El.zero,1):=rfl
 cases hm:El.may ⟨x,y,a,b,d⟩ with
 | false =>
  have HM:=Lh hm;have EV:Hid (growE ⟨x,y,a,b,d⟩ r=(El.zero,1)):=by show _=_;rw[E,hm,if_neg];rintro⟨h,_⟩;cases h
  clear E hm;go_enter Tryz.func65,Tryz.ntmps65;go_wp2_with fail;refine(aH _ _ _ _ _ _ HM.out _).mono ?_;rintro e w1 ⟨rfl,hb1⟩;have z_w1:=hb1.size;(try simp at z_w1);have Kw1aa:=bq hb1 (w.heap.size);have Kw1ab:=bq hb1 (w.heap.size+1);go_wp2_with fail;exact rT 5 z5 (.int .i64 1) ⟨by rw[EV.out];rfl,ad⟩
 | true =>
  have HM:=Lh hm;by_cases h1:r<0
  ·have EV:Hid (growE ⟨x,y,a,b,d⟩ r=(El.zero,1)):=by show _=_;rw[E,hm,if_neg];rintro⟨_,h,_⟩;omega
   clear E hm;go_enter Tryz.func65,Tryz.ntmps65;go_wp2_with fail;refine(aH _ _ _ _ _ _ HM.out _).mono ?_;rintro e w1 ⟨rfl,hb1⟩;have z_w1:=hb1.size;(try simp at z_w1);have Kw1aa:=bq hb1 (w.heap.size);have Kw1ab:=bq hb1 (w.heap.size+1);go_wp2_with fail;exact rT 5 z5 (.int .i64 1) ⟨by rw[EV.out];rfl,ad⟩
  ·by_cases h2:4194304<r
   ·have EV:Hid (growE ⟨x,y,a,b,d⟩ r=(El.zero,1)):=by show _=_;rw[E,hm,if_neg];rintro⟨_,_,h⟩;omega
    clear E hm;go_enter Tryz.func65,Tryz.ntmps65;go_wp2_with fail;refine(aH _ _ _ _ _ _ HM.out _).mono ?_;rintro e w1 ⟨rfl,hb1⟩;have z_w1:=hb1.size;(try simp at z_w1);have Kw1aa:=bq hb1 (w.heap.size);have Kw1ab:=bq hb1 (w.heap.size+1);go_wp2_with fail;exact rT 5 z5 (.int .i64 1) ⟨by rw[EV.out];rfl,ad⟩
   ·rw[hm,if_pos ⟨rfl,by omega,by omega⟩] at E;by_cases h3:r=0
    ·subst h3;have EV:Hid (growE ⟨x,y,a,b,d⟩ 0=(⟨x,y,a,b,d⟩,0)):=by show _=_;rw[E,if_pos rfl]
     clear E hm h1 h2;go_enter Tryz.func65,Tryz.ntmps65;go_wp2_with fail;refine(aH _ _ _ _ _ _ HM.out _).mono ?_;rintro e w1 ⟨rfl,hb1⟩;have z_w1:=hb1.size;(try simp at z_w1);have Kw1aa:=bq hb1 (w.heap.size);have Kw1ab:=bq hb1 (w.heap.size+1);go_wp2_with fail;exact rT 5 #[.int .i64 x,.int .i64 y,.int .i64 a,.int .i64 b,.int .i64 d] (.int .i64 0) ⟨by rw[EV.out],ad⟩
    ·rw[if_neg h3] at E;have hb:ballE 0 0 r=(⟨0,0,r*r,0,r*r⟩,0):=by unfold ballE;rw[if_pos ⟨by decide,by omega,by omega⟩]
     rw[hb] at E;obtain⟨s,hs⟩:∃ s,s=r*r:=⟨_,rfl⟩;simp only[← hs] at hb E;obtain⟨⟨ox,oy,oa,ob,od⟩,k,ho⟩:∃ o k,sumE ⟨x,y,a,b,d⟩ ⟨0,0,s,0,s⟩=(o,k):=⟨_,_,rfl⟩;have EV:Hid (growE ⟨x,y,a,b,d⟩ r=(⟨ox,oy,oa,ob,od⟩,k)):=by show _=_;rw[E,ho]
     have HB:=Lh hb;have HO:=Lh ho;clear E hm hb ho hs;go_enter Tryz.func65,Tryz.ntmps65;go_wp2_with fail;refine(aH _ _ _ _ _ _ HM.out _).mono ?_;rintro e w1 ⟨rfl,hb1⟩;have z_w1:=hb1.size;(try simp at z_w1);have Kw1aa:=bq hb1 (w.heap.size);have Kw1ab:=bq hb1 (w.heap.size+1);go_wp2_with fail;refine(oY _ _ _ _ _ _ _ _ _ HB.out _).mono ?_;rintro e w2 ⟨rfl,hb2⟩;have z_w2:=hb2.size;(try simp at z_w2);have Kw2aa:=bq hb2 (w.heap.size);have Kw2ab:=bq hb2 (w.heap.size+1);go_wp2_with fail;refine(Dk _ _ _ _ _ _ _ _ _ _ _ _ HO.out _).mono ?_;rintro e w3 ⟨rfl,hb3⟩;have z_w3:=hb3.size;(try simp at z_w3);have Kw3aa:=bq hb3 (w.heap.size);have Kw3ab:=bq hb3 (w.heap.size+1);go_wp2_with fail;exact rT 5 #[.int .i64 ox,.int .i64 oy,.int .i64 oa,.int .i64 ob,.int .i64 od] (.int .i64 k) ⟨by rw[EV.out],ad⟩
theorem AP (x y a b d r x' y' a' b' d' k:Int) (h:growE ⟨x,y,a,b,d⟩ r=(⟨x',y',a',b',d'⟩,k)) (w:World) :
  Calls Tryz.prog 65 #[elC x y a b d,.int .i64 r] w fun e w'=>e = .returned (.tuple #[elC x' y' a' b' d',.int .i64 k])∧Below w.heap.size w w':=by
 have:=AQ x y a b d r w;rw[h] at this;exact this
end Go.Proofs.YtnoidlacjiafdaaGreat
