/- Laws and walks that the claim names. -/
import Derived.Test.YtechbdnhalmobaaGreatDoorJb
set_option maxRecDepth 100000
set_option maxHeartbeats 16000000
namespace Go.Proofs.YtechbdnhalmobaaGreatDoor
set_option linter.unusedSimpArgs false
set_option linter.unusedVariables false
open Go.RowKit
def Iq.d (i:Iq):Int:=i.A*i.D-i.B*i.B
def Iq.x (i:Iq):Int:=i.D*i.U-i.B*i.V
def Iq.y (i:Iq):Int:=i.A*i.V-i.B*i.U
def Iq.lv (i:Iq):Int:=(i.N-i.Z)*i.d+(i.D*(i.U*i.U)+i.A*(i.V*i.V) + -(2*(i.B*(i.U*i.V))))
def nearI (a b:Int):Int × Int:=fitI ((2*a+b).fdiv (2*b))
def ceilI (a b:Int):Int × Int:=fitI (cdiv a b)
def floorI (a b:Int):Int × Int:=fitI (a.fdiv b)
def ellI (i:Iq):El × Int :=
 if i.A≤0∨i.d≤0 then (El.zero,1)
 else if i.lv<0 then (El.zero,3)
 else ellEnd (nearI i.x i.d).1 (nearI i.y i.d).1 (ceilI (i.lv*i.D) (i.d*i.d)).1 (floorI (-(i.lv*i.B)) (i.d*i.d)).1 (ceilI (i.lv*i.A) (i.d*i.d)).1
  (max (max (max (max (max 0 (nearI i.x i.d).2) (nearI i.y i.d).2) (ceilI (i.lv*i.D) (i.d*i.d)).2) (ceilI (i.lv*i.A) (i.d*i.d)).2) (floorI (-(i.lv*i.B)) (i.d*i.d)).2)
theorem WI.ov_of {a:Int} (h:a.natAbs<lim):(WI.of a).ov=false:=by unfold WI.ov;rw [WI.of_v h];rfl
theorem int_sign_pos (a:Int):a.sign≤0↔a≤0:=by
 rcases Int.lt_trichotomy a 0 with h|h|h
 ·rw [Int.sign_eq_neg_one_of_neg h];omega
 ·subst h;simp
 ·rw [Int.sign_eq_one_of_pos h];omega
theorem int_sign_neg (a:Int):a.sign<0↔a<0:=by
 rcases Int.lt_trichotomy a 0 with h|h|h
 ·rw [Int.sign_eq_neg_one_of_neg h];omega
 ·subst h;simp
 ·rw [Int.sign_eq_one_of_pos h];omega
structure Iq.Out (i:Iq):Prop where
 d:Sm 411 i.d
 x:Sm 411 i.x
 y:Sm 411 i.y
 lv:Sm 630 i.lv
theorem Iq.out {i:Iq} (h:i.Sml 205):i.Out:=by
 refine ⟨(h.A.mul h.D).sub (h.B.mul h.B),(h.D.mul h.U).sub (h.B.mul h.V),(h.A.mul h.V).sub (h.B.mul h.U),?_⟩
 have hd:Sm 411 i.d:=(h.A.mul h.D).sub (h.B.mul h.B)
 have h2:Sm 2 2:=by unfold Sm;decide
 have a1:=((h.N.sub h.Z).mul hd).mono (show 206+411≤628 by decide)
 have a2:=((h.D.mul (h.U.mul h.U)).add (h.A.mul (h.V.mul h.V))).mono (show 205+(205+205)+1≤627 by decide)
 have a3:=((h2.mul (h.B.mul (h.U.mul h.V))).neg).mono (show 2+(205+(205+205))≤627 by decide)
 have:=(a1.add (a2.add a3)).mono (show 628+1≤630 by decide)
 exact this
theorem ell_c (i:Iq) (h:i.Sml 205) (w:World) :
  Calls Tryz.prog 214 #[iqV i] w fun e w'=>e = .returned (.tuple #[elV (ellI i).1,.int .i64 (ellI i).2])∧Below w.heap.size w w':=by
 have o:=Iq.out h
 have lA:=h.A.lim (by decide)
 have lB:=h.B.lim (by decide)
 have lD:=h.D.lim (by decide)
 have lU:=h.U.lim (by decide)
 have lV:=h.V.lim (by decide)
 have lZ:=h.Z.lim (by decide)
 have lN:=h.N.lim (by decide)
 have ld:=o.d.lim (by decide)
 have lx:=o.x.lim (by decide)
 have ly:=o.y.lim (by decide)
 have ll:=o.lv.lim (by decide)
 have s2:Sm 205 2:=by unfold Sm;exact Nat.le_trans (by decide) (Nat.pow_le_pow_right (by decide) (show 1≤205 by decide))
 have HD:((WI.of i.A).mul (WI.of i.D)).sub ((WI.of i.B).mul (WI.of i.B))=WI.of i.d:=by
  rw [WI.of_mul lA lD,WI.of_mul lB lB,WI.of_sub ((h.A.mul h.D).lim (by decide)) ((h.B.mul h.B).lim (by decide))];rfl
 have HX:((WI.of i.D).mul (WI.of i.U)).sub ((WI.of i.B).mul (WI.of i.V))=WI.of i.x:=by
  rw [WI.of_mul lD lU,WI.of_mul lB lV,WI.of_sub ((h.D.mul h.U).lim (by decide)) ((h.B.mul h.V).lim (by decide))];rfl
 have HY:((WI.of i.A).mul (WI.of i.V)).sub ((WI.of i.B).mul (WI.of i.U))=WI.of i.y:=by
  rw [WI.of_mul lA lV,WI.of_mul lB lU,WI.of_sub ((h.A.mul h.V).lim (by decide)) ((h.B.mul h.U).lim (by decide))];rfl
 have HL:levW (WI.of i.A) (WI.of i.B) (WI.of i.D) (WI.of i.U) (WI.of i.V) (WI.of i.Z) (WI.of i.N) (WI.of i.d)=WI.of i.lv:=by
  unfold levW
  have a1:=((h.N.sub h.Z).mul o.d)
  have a2:=((h.D.mul (h.U.mul h.U)).add (h.A.mul (h.V.mul h.V)))
  have a3:=s2.mul (h.B.mul (h.U.mul h.V))
  rw [WI.of_sub lN lZ,WI.of_mul ((h.N.sub h.Z).lim (by decide)) ld,WI.of_mul lU lU,WI.of_mul lV lV,
   sum4_of (j:=410) _ _ _ _ (h.D.mono (by decide)) (h.U.mul h.U) (h.A.mono (by decide)) (h.V.mul h.V) (by decide),WI.of_mul lU lV,WI.of_mul lB ((h.U.mul h.V).lim (by decide)),
   WI.of_mul (s2.lim (by decide)) ((h.B.mul (h.U.mul h.V)).lim (by decide)),WI.of_neg (a3.lim (by decide)),WI.of_add (a2.lim (by decide)) (a3.neg.lim (by decide)),
   WI.of_add (a1.lim (by decide)) (((a2.mono (show 205+(205+205)+1≤900 by decide)).add (a3.neg.mono (show 205+(205+(205+205))≤900 by decide))).lim (by decide))]
  rfl
 have HS:(WI.of i.d).mul (WI.of i.d)=WI.of (i.d*i.d):=WI.of_mul ld ld
 have HP:(WI.of i.lv).mul (WI.of i.D)=WI.of (i.lv*i.D):=WI.of_mul ll lD
 have HQ:(WI.of i.lv).mul (WI.of i.A)=WI.of (i.lv*i.A):=WI.of_mul ll lA
 have HR:((WI.of i.lv).mul (WI.of i.B)).neg=WI.of (-(i.lv*i.B)):=by rw [WI.of_mul ll lB,WI.of_neg ((o.lv.mul h.B).lim (by decide))]
 have sP:=(o.lv.mul h.D)
 have sQ:=(o.lv.mul h.A)
 have sR:=(o.lv.mul h.B).neg
 have sS:=o.d.mul o.d
 have HV:overB [WI.of i.A,WI.of i.B,WI.of i.D,WI.of i.U,WI.of i.V,WI.of i.Z,WI.of i.N]=false:=by
  simp [overB,WI.ov_of lA,WI.ov_of lB,WI.ov_of lD,WI.ov_of lU,WI.ov_of lV,WI.ov_of lZ,WI.ov_of lN]
 have HW:overB [WI.of i.d,WI.of i.x,WI.of i.y,WI.of i.lv,WI.of (i.d*i.d),WI.of (i.lv*i.D),WI.of (i.lv*i.A),WI.of (-(i.lv*i.B))]=false:=by
  simp [overB,WI.ov_of ld,WI.ov_of lx,WI.ov_of ly,WI.ov_of ll,WI.ov_of (sS.lim (by decide)),WI.ov_of (sP.lim (by decide)),WI.ov_of (sQ.lim (by decide)),WI.ov_of (sR.lim (by decide))]
 have gA:(WI.of i.A).sign=i.A.sign:=WI.of_sign lA
 have gd:(WI.of i.d).sign=i.d.sign:=WI.of_sign ld
 have gl:(WI.of i.lv).sign=i.lv.sign:=WI.of_sign ll
 have N1:0<i.d→nearV (WI.of i.x) (WI.of i.d)=nearI i.x i.d:=fun hd=>nearV_of _ _ (o.x.mono (by decide)) (o.d.mono (by decide)) hd
 have N2:0<i.d→nearV (WI.of i.y) (WI.of i.d)=nearI i.y i.d:=fun hd=>nearV_of _ _ (o.y.mono (by decide)) (o.d.mono (by decide)) hd
 have p2:0<i.d→0<i.d*i.d:=fun hd=>Int.mul_pos hd hd
 have N3:0<i.d→ceilV (WI.of (i.lv*i.D)) (WI.of (i.d*i.d))=ceilI (i.lv*i.D) (i.d*i.d):=fun hd=>ceilV_of _ _ (sP.mono (by decide)) (sS.mono (by decide)) (p2 hd)
 have N4:0<i.d→ceilV (WI.of (i.lv*i.A)) (WI.of (i.d*i.d))=ceilI (i.lv*i.A) (i.d*i.d):=fun hd=>ceilV_of _ _ (sQ.mono (by decide)) (sS.mono (by decide)) (p2 hd)
 have N5:0<i.d→floorV (WI.of (-(i.lv*i.B))) (WI.of (i.d*i.d))=floorI (-(i.lv*i.B)) (i.d*i.d):=fun hd=>floorV_of _ _ (sR.mono (by decide)) (sS.mono (by decide)) (p2 hd)
 have pos:∀ a:Int,0<a.sign→0<a:=fun a ha=>by have:=int_sign_pos a;omega
 have nng:∀ a:Int,0≤a.sign→0≤a:=fun a ha=>by have:=int_sign_neg a;omega
 refine ell_walk _ _ _ _ _ _ _ _ _ _ _ _ _ _ _ HD HX HY HL HS HP HQ HR HV HW (ellI i) ?_ ?_ (nearV (WI.of i.x) (WI.of i.d)).1 (nearV (WI.of i.y) (WI.of i.d)).1 (ceilV (WI.of (i.lv*i.D)) (WI.of (i.d*i.d))).1 (floorV (WI.of (-(i.lv*i.B))) (WI.of (i.d*i.d))).1 (ceilV (WI.of (i.lv*i.A)) (WI.of (i.d*i.d))).1 (nearV (WI.of i.x) (WI.of i.d)).2 (nearV (WI.of i.y) (WI.of i.d)).2 (ceilV (WI.of (i.lv*i.D)) (WI.of (i.d*i.d))).2 (ceilV (WI.of (i.lv*i.A)) (WI.of (i.d*i.d))).2 (floorV (WI.of (-(i.lv*i.B))) (WI.of (i.d*i.d))).2 rfl rfl rfl rfl rfl ?_ w
 ·intro hs
  rw [gA,gd,int_sign_pos,int_sign_pos] at hs
  unfold ellI;rw [if_pos hs]
 ·intro h1 h2 h3
  rw [gA] at h1;rw [gd] at h2;rw [gl,int_sign_neg] at h3
  have:=pos _ h1;have:=pos _ h2
  unfold ellI;rw [if_neg (by omega),if_pos h3]
 ·intro h1 h2 h3
  rw [gA] at h1;rw [gd] at h2;rw [gl] at h3
  have q1:=pos _ h1;have q2:=pos _ h2;have q3:=nng _ h3
  rw [N1 q2,N2 q2,N3 q2,N4 q2,N5 q2]
  unfold ellI;rw [if_neg (by omega),if_neg (by omega)]
open Go.RowKit
def mixedV (i j:Iq) (k bad:Int):El × Int:=if bad=0 then (if (mixQ i j k).2=0 then ellI (mixQ i j k).1 else (El.zero,1)) else (El.zero,1)
theorem mix_v (i j m:Iq) (e:Int) (hi:i.Sml 120) (hj:j.Sml 120) (k:Int) (h:mixQ i j k=(m,e)) (w:World) :
  Calls Tryz.prog 213 #[.agg (blk i.ws),.agg (blk j.ws),.int .i64 k] w fun r w'=>r = .returned (.tuple #[.agg (blk m.ws),.int .i64 e])∧Below w.heap.size w w':=by
 have:=mix_c i j hi hj k w
 rw [h] at this;exact this
theorem ell_v (m:Iq) (h:m.Sml 205) (o:El) (e:Int) (ho:ellI m=(o,e)) (w:World) :
  Calls Tryz.prog 214 #[.agg (blk m.ws)] w fun r w'=>r = .returned (.tuple #[elV o,.int .i64 e])∧Below w.heap.size w w':=by
 have:=ell_c m h w
 rw [ho] at this;exact this
theorem mixed_c (i j:Iq) (hi:i.Sml 120) (hj:j.Sml 120) (k bad:Int) (hm:(mixQ i j k).1.Sml 205) (w:World) :
  Calls Tryz.prog 160 #[.agg (blk i.ws),.agg (blk j.ws),.int .i64 k,.int .i64 bad] w fun r w'=>r = .returned (.tuple #[elV (mixedV i j k bad).1,.int .i64 (mixedV i j k bad).2])∧Below w.heap.size w w':=by
 obtain ⟨m,e,hq⟩:∃ m e,mixQ i j k=(m,e):=⟨_,_,rfl⟩
 have E0:mixedV i j k bad=if bad=0 then (if e=0 then ellI m else (El.zero,1)) else (El.zero,1):=by unfold mixedV;rw [hq]
 rw [hq] at hm
 have HQ:=Lib.hid hq
 have HI:=Lib.hid hi
 have HJ:=Lib.hid hj
 have HM:=Lib.hid hm
 clear hq hi hj hm
 have lI:i.ws.length=7:=rfl
 have lJ:j.ws.length=7:=rfl
 have lM:m.ws.length=7:=rfl
 obtain ⟨LI,eI⟩:∃ l,l=i.ws:=⟨_,rfl⟩
 obtain ⟨LJ,eJ⟩:∃ l,l=j.ws:=⟨_,rfl⟩
 obtain ⟨LM,eM⟩:∃ l,l=m.ws:=⟨_,rfl⟩
 have C1:Hid (∀ w,Calls Tryz.prog 213 #[.agg (blk LI),.agg (blk LJ),.int .i64 k] w fun r w'=>r = .returned (.tuple #[.agg (blk LM),.int .i64 e])∧Below w.heap.size w w'):=by
  rw [eI,eJ,eM];exact fun w=>mix_v i j m e HI.out HJ.out k HQ.out w
 obtain ⟨⟨ox,oy,oa,ob,od⟩,f,ho⟩:∃ o f,ellI m=(o,f):=⟨_,_,rfl⟩
 have C2:Hid (∀ w,Calls Tryz.prog 214 #[.agg (blk LM)] w fun r w'=>r = .returned (.tuple #[elC ox oy oa ob od,.int .i64 f])∧Below w.heap.size w w'):=by
  rw [eM];exact fun w=>ell_v m HM.out _ _ ho w
 rw [← eI] at lI;rw [← eJ] at lJ;rw [← eM] at lM
 rw [← eI,← eJ]
 rw [ho] at E0
 have E:=Lib.hid E0
 clear E0 ho eI eJ eM HQ HI HJ HM
 by_cases hb:bad=0
 ·subst hb
  by_cases he:e=0
  ·subst he
   go_enter Tryz.func160,Tryz.ntmps160
   go_wp2_with fail
   refine (C1.out _).mono ?_;rintro e w1 ⟨rfl,hb1⟩;have z_w1:=hb1.size;(try simp at z_w1);obtain ⟨yw1aa,cw1aa,fw1aa,rw1aa,tw1aa,pw1aa⟩:=bq hb1 (w.heap.size);obtain ⟨yw1ab,cw1ab,fw1ab,rw1ab,tw1ab,pw1ab⟩:=bq hb1 (w.heap.size+1);obtain ⟨yw1ac,cw1ac,fw1ac,rw1ac,tw1ac,pw1ac⟩:=bq hb1 (w.heap.size+1+1)
   go_wp2_with fail
   refine (C2.out _).mono ?_;rintro e w2 ⟨rfl,hb2⟩;have z_w2:=hb2.size;(try simp at z_w2);obtain ⟨yw2aa,cw2aa,fw2aa,rw2aa,tw2aa,pw2aa⟩:=bq hb2 (w.heap.size);obtain ⟨yw2ab,cw2ab,fw2ab,rw2ab,tw2ab,pw2ab⟩:=bq hb2 (w.heap.size+1);obtain ⟨yw2ac,cw2ac,fw2ac,rw2ac,tw2ac,pw2ac⟩:=bq hb2 (w.heap.size+1+1)
   go_wp2_with fail
   exact bodyPost_row_t 5 #[.int .i64 ox,.int .i64 oy,.int .i64 oa,.int .i64 ob,.int .i64 od] (.int .i64 f) rfl rfl rfl rfl Tryz.underlying35 rfl (by kernel_rfl) (rc5 (by go_simp) (by go_simp) (by go_simp) (by go_simp) (by go_simp)) ⟨by rw [E.out];rfl,below_byR⟩
  ·have ne:(e != 0)=true:=by simp [he]
   have EV:Hid (mixedV i j k 0=(El.zero,1)):=by show _=_;rw [E.out,if_pos rfl,if_neg he]
   clear E
   go_enter Tryz.func160,Tryz.ntmps160
   go_wp2_with fail
   refine (C1.out _).mono ?_;rintro e w1 ⟨rfl,hb1⟩;have z_w1:=hb1.size;(try simp at z_w1);obtain ⟨yw1aa,cw1aa,fw1aa,rw1aa,tw1aa,pw1aa⟩:=bq hb1 (w.heap.size);obtain ⟨yw1ab,cw1ab,fw1ab,rw1ab,tw1ab,pw1ab⟩:=bq hb1 (w.heap.size+1);obtain ⟨yw1ac,cw1ac,fw1ac,rw1ac,tw1ac,pw1ac⟩:=bq hb1 (w.heap.size+1+1)
   go_wp2_with fail
   exact bodyPost_row_t 5 #[.int .i64 0,.int .i64 0,.int .i64 0,.int .i64 0,.int .i64 0] (.int .i64 1) rfl rfl rfl rfl Tryz.underlying35 rfl (by kernel_rfl) (rc5 (by go_simp) (by go_simp) (by go_simp) (by go_simp) (by go_simp)) ⟨by rw [EV.out];rfl,below_byR⟩
 ·have nb:(bad != 0)=true:=by simp [hb]
  have EV:Hid (mixedV i j k bad=(El.zero,1)):=by show _=_;rw [E.out,if_neg hb]
  clear E
  go_enter Tryz.func160,Tryz.ntmps160
  go_wp2_with fail
  refine (C1.out _).mono ?_;rintro e w1 ⟨rfl,hb1⟩;have z_w1:=hb1.size;(try simp at z_w1);obtain ⟨yw1aa,cw1aa,fw1aa,rw1aa,tw1aa,pw1aa⟩:=bq hb1 (w.heap.size);obtain ⟨yw1ab,cw1ab,fw1ab,rw1ab,tw1ab,pw1ab⟩:=bq hb1 (w.heap.size+1);obtain ⟨yw1ac,cw1ac,fw1ac,rw1ac,tw1ac,pw1ac⟩:=bq hb1 (w.heap.size+1+1)
  go_wp2_with fail
  exact bodyPost_row_t 5 #[.int .i64 0,.int .i64 0,.int .i64 0,.int .i64 0,.int .i64 0] (.int .i64 1) rfl rfl rfl rfl Tryz.underlying35 rfl (by kernel_rfl) (rc5 (by go_simp) (by go_simp) (by go_simp) (by go_simp) (by go_simp)) ⟨by rw [EV.out];rfl,below_byR⟩
def Iq.hom (i:Iq) (p q t:Int):Int:=i.A*(p*p)+2*(i.B*(p*q))+i.D*(q*q)-2*((i.U*p+i.V*q)*t)+i.Z*(t*t)
theorem hom_ofEl (e:El) (p q t:Int):(ofEl e).hom p q t=form e.d (-e.b) e.a (p-e.x*t) (q-e.y*t):=by
 unfold Iq.hom ofEl form;grind
theorem hom_mix (i j:Iq) (k p q t:Int):(mixI i j k).hom p q t=k*j.N*i.hom p q t+(34-k)*i.N*j.hom p q t:=by
 unfold Iq.hom mixI;simp only;grind
theorem mixI_comm (i j:Iq) (k:Int):mixI i j k=mixI j i (34-k):=by
 unfold mixI
 have h:34-(34-k)=k:=by omega
 rw [h]
 congr 1 <;> grind
theorem hom_form (i:Iq) (p q t:Int):form i.A i.B i.D (i.d*p-i.x*t) (i.d*q-i.y*t)=i.d*(i.d*(i.hom p q t-i.N*(t*t))+i.lv*(t*t)):=by
 unfold form Iq.hom Iq.lv Iq.x Iq.y Iq.d;grind
theorem form_pos (a b d h k:Int) (ha:0<a) (hd:0<a*d-b*b):0≤form a b d h k:=by
 have e:a*form a b d h k=(a*h+b*k)*(a*h+b*k)+(a*d-b*b)*(k*k):=by unfold form;grind
 have h1:=int_sq_nonneg (a*h+b*k)
 have h2:=Int.mul_nonneg (show 0≤a*d-b*b by omega) (int_sq_nonneg k)
 have h3:a*0≤a*form a b d h k:=by rw [e,Int.mul_zero];omega
 exact Int.le_of_mul_le_mul_left h3 ha
theorem centre_in (i:Iq) (hd:0<i.d) (hl:0≤i.lv):i.hom i.x i.y i.d≤i.N*(i.d*i.d):=by
 have h0:=hom_form i i.x i.y i.d
 have e1:i.d*i.x-i.x*i.d=0:=by grind
 have e2:i.d*i.y-i.y*i.d=0:=by grind
 have e0:form i.A i.B i.D 0 0=0:=by unfold form;simp
 rw [e1,e2,e0] at h0
 have h1:i.d*(i.hom i.x i.y i.d-i.N*(i.d*i.d))+i.lv*(i.d*i.d)=0:=by
  rcases Int.mul_eq_zero.1 h0.symm with h|h
  ·omega
  ·exact h
 have h2:=Int.mul_nonneg hl (int_sq_nonneg i.d)
 have h3:i.d*(i.hom i.x i.y i.d-i.N*(i.d*i.d))≤i.d*0:=by rw [Int.mul_zero];omega
 have:=Int.le_of_mul_le_mul_left h3 hd
 omega
theorem lv_nonneg (i:Iq) (hA:0<i.A) (hd:0<i.d) (p q:Int) (h:i.hom p q 1≤i.N) :
  0≤i.lv∧form i.A i.B i.D (i.d*p-i.x) (i.d*q-i.y)≤i.d*i.lv:=by
 have h1:=hom_form i p q 1
 rw [Int.mul_one,Int.mul_one,Int.mul_one,Int.mul_one,Int.mul_one] at h1
 have h2:=form_pos i.A i.B i.D (i.d*p-i.x) (i.d*q-i.y) hA hd
 have h3:=Int.mul_nonneg (show 0≤i.d by omega) (show 0≤i.N-i.hom p q 1 by omega)
 have h4:i.d*(i.d*(i.hom p q 1-i.N)+i.lv)=i.d*i.lv-i.d*(i.d*(i.N-i.hom p q 1)):=by grind
 have h5:=Int.mul_nonneg (show 0≤i.d by omega) h3
 rw [h4] at h1
 refine ⟨?_,by omega⟩
 have h6:i.d*0≤i.d*i.lv:=by rw [Int.mul_zero];omega
 exact Int.le_of_mul_le_mul_left h6 hd
theorem cs_form (a b d x y h k:Int) (_ha:0<a) (_hd:0<a*d-b*b):(a*d-b*b)*((x*h+y*k)*(x*h+y*k))≤form a b d x y*form d (-b) a h k:=by
 have e:form a b d x y*form d (-b) a h k=(a*d-b*b)*((x*h+y*k)*(x*h+y*k))+(k*(a*x+b*y)-h*(b*x+d*y))*(k*(a*x+b*y)-h*(b*x+d*y)):=by
  unfold form;grind
 have:=int_sq_nonneg (k*(a*x+b*y)-h*(b*x+d*y))
 omega
/-! ### Ellipses and strips as inequalities -/
theorem may_of (e:El) (h:e.may=true):0<(ofEl e).A∧0<(ofEl e).D∧0<(ofEl e).d∧0<(ofEl e).N:=by
 have m:=(El.may_iff e).1 h
 have h1:(ofEl e).d=e.a*e.d-e.b*e.b:=by unfold Iq.d ofEl;simp only;grind
 exact ⟨by show 0<e.d;omega,by show 0<e.a;omega,by rw [h1];omega,by show 0<e.a*e.d-e.b*e.b;omega⟩
theorem axis_x (a b d u v T:Int) (hm:0<a) (hn:0<a*d-b*b) (h:form d (-b) a u v≤T*(a*d-b*b)):u*u≤T*a:=by
 have e:a*form d (-b) a u v=(a*d-b*b)*(u*u)+(a*v-b*u)*(a*v-b*u):=by unfold form;grind
 have h1:=int_sq_nonneg (a*v-b*u)
 have h2:=Int.mul_le_mul_of_nonneg_left h (show 0≤a by omega)
 have h3:a*(T*(a*d-b*b))=(a*d-b*b)*(T*a):=by grind
 have h4:(a*d-b*b)*(u*u)≤(a*d-b*b)*(T*a):=by omega
 exact Int.le_of_mul_le_mul_left h4 hn
theorem axis_y (a b d u v T:Int) (hm:0<d) (hn:0<a*d-b*b) (h:form d (-b) a u v≤T*(a*d-b*b)):v*v≤T*d:=by
 have e:form d (-b) a u v=form a (-b) d v u:=by unfold form;grind
 rw [e] at h
 have e2:a*d-b*b=d*a-b*b:=by grind
 exact axis_x d b a v u T hm (by omega) (by rw [e2] at h;exact h)
theorem form_el_nonneg (e:El) (h:e.may=true) (u v:Int):0≤form e.d (-e.b) e.a u v:=by
 have m:=(El.may_iff e).1 h
 have h1:e.d*e.a - -e.b * -e.b=e.a*e.d-e.b*e.b:=by grind
 exact form_pos _ _ _ _ _ (by omega) (by omega)
theorem centre_near (e:El) (he:e.may=true) (j:Iq) (hj:0<j.N) (k:Int) (h1:1≤k) (h2:k≤34) (X Y t:Int) (hn:0≤j.hom X Y t)
  (h:(mixI (ofEl e) j k).hom X Y t≤(mixI (ofEl e) j k).N*(t*t)):k*form e.d (-e.b) e.a (X-e.x*t) (Y-e.y*t)≤34*(t*t)*(e.a*e.d-e.b*e.b):=by
 have o:=may_of e he
 have hN:(ofEl e).N=e.a*e.d-e.b*e.b:=rfl
 rw [hom_mix,hom_ofEl] at h
 have h3:(mixI (ofEl e) j k).N=34*((ofEl e).N*j.N):=rfl
 rw [h3] at h
 rw [← hN]
 obtain ⟨F,hF⟩:∃ F,form e.d (-e.b) e.a (X-e.x*t) (Y-e.y*t)=F:=⟨_,rfl⟩
 obtain ⟨N,hN'⟩:∃ F,(ofEl e).N=F:=⟨_,rfl⟩
 rw [hF] at h ⊢
 rw [hN'] at h ⊢
 have hNp:0<N:=by rw [← hN'];exact o.2.2.2
 have p1:0≤(34-k)*N*j.hom X Y t:=Int.mul_nonneg (Int.mul_nonneg (by omega) (by omega)) hn
 have p3:34*(N*j.N)*(t*t)=j.N*(34*(t*t)*N):=by grind
 have p2:k*j.N*F=j.N*(k*F):=by grind
 have p4:j.N*(k*F)≤j.N*(34*(t*t)*N):=by omega
 exact Int.le_of_mul_le_mul_left p4 hj
theorem root_le {z m:Int} (hm:0≤m) (h:z*z≤m*m) : -m≤z∧z≤m:=sq_bound hm h
theorem near_fits (X d c:Int) (hd:0<d) (hc : -4194304≤c∧c≤4194304) (h:(X-c*d)*(X-c*d)≤34*(d*d)*70368744177664):(nearI X d).2=0:=by
 have h1:(X-c*d)*(X-c*d)≤(67108864*d)*(67108864*d):=by
  have h2:=int_sq_nonneg d
  have e:(67108864*d)*(67108864*d)=4503599627370496*(d*d):=by grind
  rw [e]
  omega
 have h3:=root_le (by omega) h1
 have c1:=Int.mul_le_mul_of_nonneg_right hc.1 (show 0≤d by omega)
 have c2:=Int.mul_le_mul_of_nonneg_right hc.2 (show 0≤d by omega)
 have f:=floor_spec (2*X+d) (2*d) (by omega)
 obtain ⟨Q,hQ⟩:∃ Q,(2*X+d).fdiv (2*d)=Q:=⟨_,rfl⟩
 rw [hQ] at f
 have q1:Q≤1073741824:=by
  rcases Int.lt_or_le 1073741824 Q with h5|h5
  ·have:=Int.mul_le_mul_of_nonneg_left (show 1073741825≤Q by omega) (show 0≤2*d by omega)
   omega
  ·exact h5
 have q2 : -1073741824≤Q:=by
  rcases Int.lt_or_le Q (-1073741824) with h5|h5
  ·have:=Int.mul_le_mul_of_nonneg_left (show Q ≤ -1073741825 by omega) (show 0≤2*d by omega)
   omega
  ·exact h5
 unfold nearI;rw [hQ];unfold fitI;rw [if_pos (by omega)]
/-! ### How great the numbers are -/
structure Iq.Cls (zs ns:Nat) (i:Iq):Prop where
 A:Sm 80 i.A
 B:Sm 80 i.B
 D:Sm 80 i.D
 U:Sm 80 i.U
 V:Sm 80 i.V
 Z:Sm zs i.Z
 N:Sm ns i.N
theorem sm_zero (n:Nat):Sm n 0:=Nat.zero_le _
theorem Iq.zero_cls (zs ns:Nat):Iq.zero.Cls zs ns:=⟨sm_zero _,sm_zero _,sm_zero _,sm_zero _,sm_zero _,sm_zero _,sm_zero _⟩
theorem Iq.Cls.sml {zs ns:Nat} {i:Iq} (h:i.Cls zs ns) (h1:zs≤120) (h2:ns≤120):i.Sml 120 :=
 ⟨h.A.mono (by decide),h.B.mono (by decide),h.D.mono (by decide),h.U.mono (by decide),h.V.mono (by decide),h.Z.mono h1,h.N.mono h2⟩
theorem ofE_cls (e:El):(ofE e).1.Cls 93 93:=by
 unfold ofE;split
 ·rename_i h
  have m:=(El.may_iff e).1 h
  have sx:Sm 22 e.x:=by show e.x.natAbs≤2^22;omega
  have sy:Sm 22 e.y:=by show e.y.natAbs≤2^22;omega
  have sa:Sm 46 e.a:=by show e.a.natAbs≤2^46;omega
  have sb:Sm 46 e.b:=by show e.b.natAbs≤2^46;omega
  have sd:Sm 46 e.d:=by show e.d.natAbs≤2^46;omega
  refine ⟨sd.mono (by decide),sb.neg.mono (by decide),sa.mono (by decide),((sd.mul sx).add (sb.neg.mul sy)).mono (by decide),((sb.neg.mul sx).add (sa.mul sy)).mono (by decide),?_,?_⟩
  ·exact (((sd.mul (sx.mul sx)).add (sa.mul (sy.mul sy))).add ((sb.neg.mul (sx.mul sy)).add (sb.neg.mul (sx.mul sy)))).mono (by decide)
  ·exact ((sa.mul sd).sub (sb.mul sb)).mono (by decide)
 ·exact Iq.zero_cls _ _
theorem mixI_sml {i j:Iq} {a b c d:Nat} (hi:i.Cls a b) (hj:j.Cls c d) (k:Int) (h0:0≤k) (h1:k≤34) (q1:a+d≤198) (q2:c+b≤198) (q3:b≤118) (q4:d≤118) (q5:b+d≤199):(mixI i j k).Sml 205:=by
 have sk:Sm 6 k:=by show k.natAbs≤2^6;omega
 have sl:Sm 6 (34-k):=by show (34-k).natAbs≤2^6;omega
 have s34:Sm 6 34:=by show (34:Int).natAbs≤2^6;decide
 have P:=sk.mul hj.N
 have Q:=sl.mul hi.N
 have key:∀ x y,Sm 80 x→Sm 80 y→Sm 205 (x*(k*j.N)+y*((34-k)*i.N)):=fun x y hx hy =>
  ((hx.mul P).mono (show 80+(6+d)≤204 by omega)).add ((hy.mul Q).mono (show 80+(6+b)≤204 by omega))
 refine ⟨key _ _ hi.A hj.A,key _ _ hi.B hj.B,key _ _ hi.D hj.D,key _ _ hi.U hj.U,key _ _ hi.V hj.V,?_,?_⟩
 ·exact ((hi.Z.mul P).mono (show a+(6+d)≤204 by omega)).add ((hj.Z.mul Q).mono (show c+(6+b)≤204 by omega))
 ·exact (s34.mul (hi.N.mul hj.N)).mono (by omega)
def Iq.Fits (i:Iq):Prop:=0<i.A→0<i.d→0≤i.lv→(nearI i.x i.d).2=0∧(nearI i.y i.d).2=0
theorem mixI_fits (e:El) (he:e.may=true) (j:Iq) (hj:0<j.N) (hn:∀ X Y t,0≤j.hom X Y t) (k:Int) (h1:1≤k) (h2:k≤34):(mixI (ofEl e) j k).Fits:=by
 intro hA hd hl
 have m:=(El.may_iff e).1 he
 have c:=centre_in _ hd hl
 have c2:=centre_near e he j hj k h1 h2 _ _ _ (hn _ _ _) c
 generalize hi:mixI (ofEl e) j k=i at *
 have n0:=form_el_nonneg e he (i.x-e.x*i.d) (i.y-e.y*i.d)
 have n1:=Int.mul_le_mul_of_nonneg_right h1 n0
 have n2:form e.d (-e.b) e.a (i.x-e.x*i.d) (i.y-e.y*i.d)≤34*(i.d*i.d)*(e.a*e.d-e.b*e.b):=by omega
 have a1:=axis_x _ _ _ _ _ _ (by omega) m.2.2 n2
 have a2:=axis_y _ _ _ _ _ _ (by omega) m.2.2 n2
 have dd:=int_sq_nonneg i.d
 have b1:=Int.mul_le_mul_of_nonneg_left (show e.a≤70368744177664 by omega) (show 0≤34*(i.d*i.d) by omega)
 have b2:=Int.mul_le_mul_of_nonneg_left (show e.d≤70368744177664 by omega) (show 0≤34*(i.d*i.d) by omega)
 exact ⟨near_fits _ _ e.x hd ⟨by omega,by omega⟩ (by omega),near_fits _ _ e.y hd ⟨by omega,by omega⟩ (by omega)⟩
theorem zero_fits:Iq.zero.Fits:=fun h=>absurd h (by decide)
theorem mixI_zero_left (j:Iq) (k:Int):(mixI Iq.zero j k).Fits:=by
 intro h
 have:(mixI Iq.zero j k).A=0:=by unfold mixI Iq.zero;simp only;grind
 omega
theorem mixI_zero_right (j:Iq) (k:Int):(mixI j Iq.zero k).Fits:=by
 rw [mixI_comm];exact mixI_zero_left _ _
theorem el_hom_nonneg (e:El) (h:e.may=true) (X Y t:Int):0≤(ofEl e).hom X Y t:=by rw [hom_ofEl];exact form_el_nonneg e h _ _
theorem fuse_fits (e f:El) (k:Int):(mixQ (ofE e).1 (ofE f).1 k).1.Fits:=by
 unfold mixQ;split
 ·rename_i hk
  show (mixI (ofE e).1 (ofE f).1 k).Fits
  cases he:e.may with
  | false => have : ofE e = (Iq.zero, 1) := by unfold ofE; rw [if_neg (by rw [he]; decide)]
             rw [this];exact mixI_zero_left _ _
  | true =>
   have e1:ofE e=(ofEl e,0):=by unfold ofE;rw [if_pos he]
   cases hf:f.may with
   | false => have : ofE f = (Iq.zero, 1) := by unfold ofE; rw [if_neg (by rw [hf]; decide)]
              rw [this];exact mixI_zero_right _ _
   | true =>
    have e2:ofE f=(ofEl f,0):=by unfold ofE;rw [if_pos hf]
    rw [e1,e2]
    by_cases h1:1≤k
    ·exact mixI_fits e he _ (may_of f hf).2.2.2 (el_hom_nonneg f hf) k h1 hk.2
    ·rw [mixI_comm]
     exact mixI_fits f hf _ (may_of e he).2.2.2 (el_hom_nonneg e he) _ (by omega) (by omega)
 ·exact zero_fits
theorem fuse_sml (e f:El) (k:Int):(mixQ (ofE e).1 (ofE f).1 k).1.Sml 205:=by
 unfold mixQ;split
 ·rename_i hk;exact mixI_sml (ofE_cls e) (ofE_cls f) k hk.1 hk.2 (by decide) (by decide) (by decide) (by decide) (by decide)
 ·exact ⟨sm_zero _,sm_zero _,sm_zero _,sm_zero _,sm_zero _,sm_zero _,sm_zero _⟩
/-! ### What an inequality's ellipse holds -/
theorem fitI_ok {z:Int} (h:(fitI z).2=0):(fitI z).1=z:=by
 unfold fitI at *;split at h
 ·rename_i h1;rw [if_pos h1]
 ·cases h
theorem fitI_err (z:Int):(fitI z).2=0∨(fitI z).2=2:=by
 unfold fitI;split
 ·exact .inl rfl
 ·exact .inr rfl
theorem sumE_errs (e f:El):(sumE e f).2=0∨(sumE e f).2=1∨(sumE e f).2=2:=by
 unfold sumE;split
 ·split
  ·exact .inl rfl
  ·exact .inr (.inr rfl)
 ·exact .inr (.inl rfl)
theorem growE_errs (e:El) (r:Int):(growE e r).2=0∨(growE e r).2=1∨(growE e r).2=2:=by
 unfold growE;split
 ·split
  ·exact .inl rfl
  ·exact sumE_errs _ _
 ·exact .inr (.inl rfl)
theorem ellEnd_errs (cx cy a b d e:Int):(ellEnd cx cy a b d e).2=0∨(ellEnd cx cy a b d e).2=1∨(ellEnd cx cy a b d e).2=2:=by
 unfold ellEnd;split
 ·exact .inr (.inr rfl)
 ·split
  ·exact growE_errs _ _
  ·exact .inr (.inr rfl)
theorem ellEnd_ok {cx cy a b d e:Int} {o:El} (h:ellEnd cx cy a b d e=(o,0)):e=0∧growE ⟨cx,cy,a+1,b,d+1⟩ 1=(o,0):=by
 unfold ellEnd at h;split at h
 ·injection h with _ h2;cases h2
 ·rename_i h1
  split at h
  ·exact ⟨by omega,h⟩
  ·injection h with _ h2;cases h2
theorem near_half (x d:Int) (hd:0<d) : -d≤2*(x-d*(2*x+d).fdiv (2*d))∧2*(x-d*(2*x+d).fdiv (2*d))≤d:=by
 have f:=floor_spec (2*x+d) (2*d) (by omega)
 have e:2*d*(2*x+d).fdiv (2*d)=2*(d*(2*x+d).fdiv (2*d)):=by grind
 omega
theorem half_dir (s t d h k:Int) (_hd:0<d) (h1 : -d≤2*s) (h2:2*s≤d) (h3 : -d≤2*t) (h4:2*t≤d):(s*h+t*k)*(s*h+t*k)≤d*d*form 1 0 1 h k:=by
 have a1:=Int.mul_nonneg (show 0≤d-2*s by omega) (show 0≤d+2*s by omega)
 have a2:=Int.mul_nonneg (show 0≤d-2*t by omega) (show 0≤d+2*t by omega)
 have e1:(d-2*s)*(d+2*s)=d*d-4*(s*s):=by grind
 have e2:(d-2*t)*(d+2*t)=d*d-4*(t*t):=by grind
 have q:0≤h*h+k*k:=by have:=int_sq_nonneg h;have:=int_sq_nonneg k;omega
 have s1:=int_sq_nonneg s
 have s2:=int_sq_nonneg t
 have a3:=Int.mul_nonneg (show 0≤d*d-s*s-t*t by omega) q
 have e3:form 1 0 1 h k=h*h+k*k:=by unfold form;grind
 have e4:(s*h+t*k)*(s*h+t*k)=(s*s+t*t)*(h*h+k*k)-(s*k-t*h)*(s*k-t*h):=by grind
 have s3:=int_sq_nonneg (s*k-t*h)
 have e5:(d*d-s*s-t*t)*(h*h+k*k)=d*d*(h*h+k*k)-(s*s+t*t)*(h*h+k*k):=by grind
 rw [e3,e4];omega
theorem ellI_meets (i:Iq) (_hk:i.Fits) (p q:Int) (hp : -1073741824≤p∧p≤1073741824 ∧ -1073741824≤q∧q≤1073741824) (h:i.hom p q 1≤i.N) {o:El} {e:Int} (ho:ellI i=(o,e)) :
  e≠3∧(e=0→o.has p q=true):=by
 unfold ellI at ho
 split at ho
 ·injection ho with _ h2;subst h2;exact ⟨by decide,fun h=>by cases h⟩
 ·rename_i h1
  have hA:0<i.A:=by omega
  have hd:0<i.d:=by omega
  obtain ⟨hl,hf⟩:=lv_nonneg i hA hd p q h
  rw [if_neg (by omega)] at ho
  refine ⟨?_,?_⟩
  ·have:=ellEnd_errs (nearI i.x i.d).1 (nearI i.y i.d).1 (ceilI (i.lv*i.D) (i.d*i.d)).1 (floorI (-(i.lv*i.B)) (i.d*i.d)).1 (ceilI (i.lv*i.A) (i.d*i.d)).1 (max (max (max (max (max 0 (nearI i.x i.d).2) (nearI i.y i.d).2) (ceilI (i.lv*i.D) (i.d*i.d)).2) (ceilI (i.lv*i.A) (i.d*i.d)).2) (floorI (-(i.lv*i.B)) (i.d*i.d)).2)
   rw [ho] at this
   simp only at this
   omega
  ·rintro rfl
   obtain ⟨he,hg⟩:=ellEnd_ok ho
   have f1:=fitI_err ((2*i.x+i.d).fdiv (2*i.d))
   have f2:=fitI_err ((2*i.y+i.d).fdiv (2*i.d))
   have f3:=fitI_err (cdiv (i.lv*i.D) (i.d*i.d))
   have f4:=fitI_err (cdiv (i.lv*i.A) (i.d*i.d))
   have f5:=fitI_err ((-(i.lv*i.B)).fdiv (i.d*i.d))
   have g1:(nearI i.x i.d).2=0:=by unfold nearI ceilI floorI at *;omega
   have g2:(nearI i.y i.d).2=0:=by unfold nearI ceilI floorI at *;omega
   have g3:(ceilI (i.lv*i.D) (i.d*i.d)).2=0:=by unfold nearI ceilI floorI at *;omega
   have g4:(ceilI (i.lv*i.A) (i.d*i.d)).2=0:=by unfold nearI ceilI floorI at *;omega
   have g5:(floorI (-(i.lv*i.B)) (i.d*i.d)).2=0:=by unfold nearI ceilI floorI at *;omega
   have v1:(nearI i.x i.d).1=(2*i.x+i.d).fdiv (2*i.d):=fitI_ok g1
   have v2:(nearI i.y i.d).1=(2*i.y+i.d).fdiv (2*i.d):=fitI_ok g2
   have v3:(ceilI (i.lv*i.D) (i.d*i.d)).1=cdiv (i.lv*i.D) (i.d*i.d):=fitI_ok g3
   have v4:(ceilI (i.lv*i.A) (i.d*i.d)).1=cdiv (i.lv*i.A) (i.d*i.d):=fitI_ok g4
   have v5:(floorI (-(i.lv*i.B)) (i.d*i.d)).1=(-(i.lv*i.B)).fdiv (i.d*i.d):=fitI_ok g5
   rw [v1,v2,v3,v4,v5] at hg
   obtain ⟨-,-,-,⟨h0,-⟩|⟨-,hs⟩⟩:=growE_ok hg
   ·cases h0
   have hs':=hs
   obtain ⟨hE,hB,rfl,hm⟩:=sumE_ok hs
   have n1:=near_half i.x i.d hd
   have n2:=near_half i.y i.d hd
   obtain ⟨cx,hcx⟩:∃ c,(2*i.x+i.d).fdiv (2*i.d)=c:=⟨_,rfl⟩
   obtain ⟨cy,hcy⟩:∃ c,(2*i.y+i.d).fdiv (2*i.d)=c:=⟨_,rfl⟩
   rw [hcx] at n1 hE hm ⊢
   rw [hcy] at n2 hE hm ⊢
   have S0:0<i.d*i.d:=Int.mul_pos hd hd
   refine (El.has_iff _ _ _).2 ⟨hm,hp,(holds_form _ _ _ _ _).2 fun a b=>?_⟩
   have c1:=cdiv_spec (i.lv*i.D) (i.d*i.d) S0
   have c2:=cdiv_spec (i.lv*i.A) (i.d*i.d) S0
   have c3:=floor_spec (-(i.lv*i.B)) (i.d*i.d) S0
   have e3 : -(i.lv*i.B)=i.lv * -i.B:=by grind
   have pf:=part_form (i.d*i.d) i.lv i.D (-i.B) i.A (cdiv (i.lv*i.D) (i.d*i.d)) ((-(i.lv*i.B)).fdiv (i.d*i.d)) (cdiv (i.lv*i.A) (i.d*i.d)) a b c1.1 c2.1 (by rw [← e3];exact c3.1) (by rw [← e3];exact c3.2)
   have hu0:=cs_form i.A i.B i.D (i.d*p-i.x) (i.d*q-i.y) a b hA hd
   have fn:0≤form i.D (-i.B) i.A a b:=by
    have hD:0<i.D:=by
     rcases Int.lt_or_le 0 i.D with h5|h5
     ·exact h5
     ·have h6:=Int.mul_nonneg (show 0≤i.A by omega) (show 0 ≤ -i.D by omega)
      have h7:=int_sq_nonneg i.B
      have h8:i.A * -i.D = -(i.A*i.D):=by grind
      have h9:0<i.A*i.D-i.B*i.B:=hd
      omega
    refine form_pos _ _ _ _ _ hD ?_
    have h9:0<i.A*i.D-i.B*i.B:=hd
    have h10:i.D*i.A - -i.B * -i.B=i.A*i.D-i.B*i.B:=by grind
    omega
   have hu1:=Int.mul_le_mul_of_nonneg_right hf fn
   have hu2:i.d*(((i.d*p-i.x)*a+(i.d*q-i.y)*b)*((i.d*p-i.x)*a+(i.d*q-i.y)*b))≤i.d*(i.lv*form i.D (-i.B) i.A a b):=by
    have e4:i.d*i.lv*form i.D (-i.B) i.A a b=i.d*(i.lv*form i.D (-i.B) i.A a b):=by grind
    have e5:i.A*i.D-i.B*i.B=i.d:=rfl
    rw [e5] at hu0
    omega
   have hu3:=Int.le_of_mul_le_mul_left hu2 hd
   have hv:=half_dir (i.x-i.d*cx) (i.y-i.d*cy) i.d a b hd n1.1 n1.2 n2.1 n2.2
   have key:=sumEl_dir _ _ hE hB a b ((i.d*p-i.x)*a+(i.d*q-i.y)*b) ((i.x-i.d*cx)*a+(i.y-i.d*cy)*b) (i.d*i.d) (by omega) (by show _≤i.d*i.d*form (cdiv (i.lv*i.D) (i.d*i.d)+1) ((-(i.lv*i.B)).fdiv (i.d*i.d)) (cdiv (i.lv*i.A) (i.d*i.d)+1) a b;omega) hv
   have e6:((i.d*p-i.x)*a+(i.d*q-i.y)*b+((i.x-i.d*cx)*a+(i.y-i.d*cy)*b))*((i.d*p-i.x)*a+(i.d*q-i.y)*b+((i.x-i.d*cx)*a+(i.y-i.d*cy)*b))=i.d*i.d*(((p-cx)*a+(q-cy)*b)*((p-cx)*a+(q-cy)*b)):=by grind
   rw [e6] at key
   have key2:=Int.le_of_mul_le_mul_left key S0
   have e7:(sumEl ⟨cx,cy,cdiv (i.lv*i.D) (i.d*i.d)+1,(-(i.lv*i.B)).fdiv (i.d*i.d),cdiv (i.lv*i.A) (i.d*i.d)+1⟩ ⟨0,0,1*1,0,1*1⟩).x=cx:=by show cx+0=cx;omega
   have e8:(sumEl ⟨cx,cy,cdiv (i.lv*i.D) (i.d*i.d)+1,(-(i.lv*i.B)).fdiv (i.d*i.d),cdiv (i.lv*i.A) (i.d*i.d)+1⟩ ⟨0,0,1*1,0,1*1⟩).y=cy:=by show cy+0=cy;omega
   rw [e7,e8]
   exact key2
open Go.RowKit
def fuseE (e f:El) (k:Int):El × Int:=mixedV (ofE e).1 (ofE f).1 k (max (ofE e).2 (ofE f).2)
def cutE (e:El) (s:St) (k:Int):El × Int:=mixedV (ofE e).1 (ofSt s).1 k (max (ofE e).2 (ofSt s).2)
theorem of_v (x y a b d:Int) (L:List WI) (e:Int) (hL:(ofE ⟨x,y,a,b,d⟩).1.ws=L) (he:(ofE ⟨x,y,a,b,d⟩).2=e) (w:World) :
  Calls Tryz.prog 159 #[elC x y a b d] w fun r w'=>r = .returned (.tuple #[.agg (blk L),.int .i64 e])∧Below w.heap.size w w':=by
 subst hL;subst he;exact infoOf_c ⟨x,y,a,b,d⟩ w
theorem fuse_c (x y a b d x' y' a' b' d' k:Int) (w:World) :
  Calls Tryz.prog 91 #[elC x y a b d,elC x' y' a' b' d',.int .i64 k] w fun r w'=>r = .returned (.tuple #[elV (fuseE ⟨x,y,a,b,d⟩ ⟨x',y',a',b',d'⟩ k).1,.int .i64 (fuseE ⟨x,y,a,b,d⟩ ⟨x',y',a',b',d'⟩ k).2])∧Below w.heap.size w w':=by
 obtain ⟨LI,eI⟩:∃ l,(ofE ⟨x,y,a,b,d⟩).1.ws=l:=⟨_,rfl⟩
 obtain ⟨LJ,eJ⟩:∃ l,(ofE ⟨x',y',a',b',d'⟩).1.ws=l:=⟨_,rfl⟩
 obtain ⟨e1,h1⟩:∃ e,(ofE ⟨x,y,a,b,d⟩).2=e:=⟨_,rfl⟩
 obtain ⟨e2,h2⟩:∃ e,(ofE ⟨x',y',a',b',d'⟩).2=e:=⟨_,rfl⟩
 have lI:LI.length=7:=by rw [← eI];rfl
 have lJ:LJ.length=7:=by rw [← eJ];rfl
 have H1:Hid (∀ w,Calls Tryz.prog 159 #[elC x y a b d] w fun r w'=>r = .returned (.tuple #[.agg (blk LI),.int .i64 e1])∧Below w.heap.size w w'):=of_v _ _ _ _ _ _ _ eI h1
 have H2:Hid (∀ w,Calls Tryz.prog 159 #[elC x' y' a' b' d'] w fun r w'=>r = .returned (.tuple #[.agg (blk LJ),.int .i64 e2])∧Below w.heap.size w w'):=of_v _ _ _ _ _ _ _ eJ h2
 obtain ⟨⟨ox,oy,oa,ob,od⟩,f,ho⟩:∃ o f,fuseE ⟨x,y,a,b,d⟩ ⟨x',y',a',b',d'⟩ k=(o,f):=⟨_,_,rfl⟩
 have H3:Hid (∀ w,Calls Tryz.prog 160 #[.agg (blk LI),.agg (blk LJ),.int .i64 k,.int .i64 (max e1 e2)] w fun r w'=>r = .returned (.tuple #[elC ox oy oa ob od,.int .i64 f])∧Below w.heap.size w w'):=by
  intro w
  have:=mixed_c (ofE ⟨x,y,a,b,d⟩).1 (ofE ⟨x',y',a',b',d'⟩).1 ((ofE_cls _).sml (by decide) (by decide)) ((ofE_cls _).sml (by decide) (by decide)) k (max e1 e2) (fuse_sml _ _ k) w
  have e:mixedV (ofE ⟨x,y,a,b,d⟩).1 (ofE ⟨x',y',a',b',d'⟩).1 k (max e1 e2)=(⟨ox,oy,oa,ob,od⟩,f):=by rw [← h1,← h2];exact ho
  rw [e] at this
  rw [← eI,← eJ];exact this
 have EV:=Lib.hid ho
 clear ho eI eJ h1 h2
 go_enter Tryz.func91,Tryz.ntmps91
 go_wp2_with fail
 refine (H1.out _).mono ?_;rintro e w1 ⟨rfl,hb1⟩;have z_w1:=hb1.size;(try simp at z_w1);obtain ⟨yw1aa,cw1aa,fw1aa,rw1aa,tw1aa,pw1aa⟩:=bq hb1 (w.heap.size);obtain ⟨yw1ab,cw1ab,fw1ab,rw1ab,tw1ab,pw1ab⟩:=bq hb1 (w.heap.size+1);obtain ⟨yw1ac,cw1ac,fw1ac,rw1ac,tw1ac,pw1ac⟩:=bq hb1 (w.heap.size+1+1)
 go_wp2_with fail
 refine (H2.out _).mono ?_;rintro e w2 ⟨rfl,hb2⟩;have z_w2:=hb2.size;(try simp at z_w2);obtain ⟨yw2aa,cw2aa,fw2aa,rw2aa,tw2aa,pw2aa⟩:=bq hb2 (w.heap.size);obtain ⟨yw2ab,cw2ab,fw2ab,rw2ab,tw2ab,pw2ab⟩:=bq hb2 (w.heap.size+1);obtain ⟨yw2ac,cw2ac,fw2ac,rw2ac,tw2ac,pw2ac⟩:=bq hb2 (w.heap.size+1+1);obtain ⟨yw2ba,cw2ba,fw2ba,rw2ba,tw2ba,pw2ba⟩:=bq hb2 (w1.heap.size)
 go_wp2_with fail
 refine (H3.out _).mono ?_;rintro e w3 ⟨rfl,hb3⟩;have z_w3:=hb3.size;(try simp at z_w3);obtain ⟨yw3aa,cw3aa,fw3aa,rw3aa,tw3aa,pw3aa⟩:=bq hb3 (w.heap.size);obtain ⟨yw3ab,cw3ab,fw3ab,rw3ab,tw3ab,pw3ab⟩:=bq hb3 (w.heap.size+1);obtain ⟨yw3ac,cw3ac,fw3ac,rw3ac,tw3ac,pw3ac⟩:=bq hb3 (w.heap.size+1+1)
 go_wp2_with fail
 exact bodyPost_row_t 5 #[.int .i64 ox,.int .i64 oy,.int .i64 oa,.int .i64 ob,.int .i64 od] (.int .i64 f) rfl rfl rfl rfl Tryz.underlying35 rfl (by kernel_rfl) (rc5 (by go_simp) (by go_simp) (by go_simp) (by go_simp) (by go_simp)) ⟨by rw [EV.out],below_byR⟩
theorem fuse_v (x y a b d x' y' a' b' d' k ox oy oa ob od f:Int) (h:fuseE ⟨x,y,a,b,d⟩ ⟨x',y',a',b',d'⟩ k=(⟨ox,oy,oa,ob,od⟩,f)) (w:World) :
  Calls Tryz.prog 91 #[elC x y a b d,elC x' y' a' b' d',.int .i64 k] w fun r w'=>r = .returned (.tuple #[elC ox oy oa ob od,.int .i64 f])∧Below w.heap.size w w':=by
 have:=fuse_c x y a b d x' y' a' b' d' k w
 rw [h] at this;exact this
theorem ofE_may (e:El) (h:e.may=true):ofE e=(ofEl e,0):=by unfold ofE;rw [if_pos h]
theorem fuseE_may (e f:El) (k:Int) (he:e.may=true) (hf:f.may=true) (h0:0≤k) (h1:k≤34):fuseE e f k=ellI (mixI (ofEl e) (ofEl f) k):=by
 unfold fuseE mixedV;rw [ofE_may e he,ofE_may f hf]
 show (if max (0:Int) 0=0 then (if (mixQ (ofEl e) (ofEl f) k).2=0 then _ else _) else _)=_
 have:mixQ (ofEl e) (ofEl f) k=(mixI (ofEl e) (ofEl f) k,0):=by unfold mixQ;rw [if_pos ⟨h0,h1⟩]
 rw [this];rfl
/-! ### What is in both is in what is fused -/
theorem hom_el (e:El) (p q:Int):(ofEl e).hom p q 1=form e.d (-e.b) e.a (p-e.x) (q-e.y):=by
 rw [hom_ofEl,Int.mul_one,Int.mul_one]
theorem has_hom (e:El) (p q:Int) (h:e.has p q=true):(ofEl e).hom p q 1≤(ofEl e).N:=by
 have h1:=((El.has_iff e p q).1 h).2.2
 unfold holdsB at h1
 have h2:=((psdB_iff _ _ _).1 h1).2.2
 rw [hom_el]
 show _≤e.a*e.d-e.b*e.b
 have e1:form e.d (-e.b) e.a (p-e.x) (q-e.y)=(e.a*e.d-e.b*e.b)-((e.a-(p-e.x)*(p-e.x))*(e.d-(q-e.y)*(q-e.y))-(e.b-(p-e.x)*(q-e.y))*(e.b-(p-e.x)*(q-e.y))):=by unfold form;grind
 omega
theorem mix_hom_le (i j:Iq) (k p q:Int) (h0:0≤k) (h1:k≤34) (hi:0<i.N) (hj:0<j.N) (a:i.hom p q 1≤i.N) (b:j.hom p q 1≤j.N):(mixI i j k).hom p q 1≤(mixI i j k).N:=by
 rw [hom_mix]
 show _≤34*(i.N*j.N)
 have a1:=Int.mul_le_mul_of_nonneg_left a (Int.mul_nonneg h0 (show 0≤j.N by omega))
 have a2:=Int.mul_le_mul_of_nonneg_left b (Int.mul_nonneg (show 0≤34-k by omega) (show 0≤i.N by omega))
 have e:34*(i.N*j.N)=k*j.N*i.N+(34-k)*i.N*j.N:=by grind
 omega
theorem fuse_meets (e f:El) (k p q:Int) (h0:0≤k) (h1:k≤34) (he:e.has p q=true) (hf:f.has p q=true) {o:El} {er:Int} (ho:fuseE e f k=(o,er)):er≠3∧(er=0→o.has p q=true):=by
 have me:=(El.has_iff _ _ _).1 he
 have mf:=(El.has_iff _ _ _).1 hf
 rw [fuseE_may e f k me.1 mf.1 h0 h1] at ho
 have fits:=fuse_fits e f k
 have:(mixQ (ofE e).1 (ofE f).1 k).1=mixI (ofEl e) (ofEl f) k:=by rw [ofE_may e me.1,ofE_may f mf.1];unfold mixQ;rw [if_pos ⟨h0,h1⟩]
 rw [this] at fits
 exact ellI_meets _ fits p q me.2.1 (mix_hom_le _ _ k p q h0 h1 (may_of e me.1).2.2.2 (may_of f mf.1).2.2.2 (has_hom e p q he) (has_hom f p q hf)) ho
/-! ### Far from each other: nothing -/
/-! ### Shifted -/
/-! ### Two balls -/
open Go.RowKit
end Go.Proofs.YtechbdnhalmobaaGreatDoor
