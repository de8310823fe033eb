/- Has, In of every point; same, by the whole numbers. -/
import Derived.Test.YtilginoibhfeiaaGreatYl
import Derived.Test.YtilginoibhfeiaaGreatYh
import Derived.Test.YtilginoibhfeiaaGreatYi
import Derived.Test.YtilginoibhfeiaaGreatI11
set_option maxRecDepth 100000
set_option maxHeartbeats 16000000
namespace Go.Proofs.YtilginoibhfeiaaGreat
open Go.RowKit
theorem Iq.Sml.wide {m n:Nat} {i:Iq} (h:i.Sml m) (hn:m≤n):i.Sml n:=⟨h.A.mono hn,h.B.mono hn,h.D.mono hn,h.U.mono hn,h.V.mono hn,h.Z.mono hn,h.N.mono hn⟩
def hasQ (i:Iq) (p q:Int):Bool:=(wiB p 1073741824&&wiB q 1073741824)&&decide (i.hom p q 1≤i.N)
theorem within_wi (p q:Int):withinB p q 1073741824=(wiB p 1073741824&&wiB q 1073741824):=by unfold withinB wiB;simp [Bool.and_assoc]
theorem Iq.noOver {i:Iq} (h:i.Sml 205):overB [WI.of i.A,WI.of i.B,WI.of i.D,WI.of i.U,WI.of i.V,WI.of i.Z,WI.of i.N]=false:=by
 simp [overB,WI.ov_of (h.A.lim (by decide)),WI.ov_of (h.B.lim (by decide)),WI.ov_of (h.D.lim (by decide)),WI.ov_of (h.U.lim (by decide)),WI.ov_of (h.V.lim (by decide)),WI.ov_of (h.Z.lim (by decide)),WI.ov_of (h.N.lim (by decide))]
theorem in_far (a0 a1 a2 a3 a4 a5 a6:WI) (p q:Int) (HV:Hid (overB [a0,a1,a2,a3,a4,a5,a6]=false)) (HF:Hid (withinB p q 1073741824=false)) (w:World) :
  Calls Tryz.prog 38 #[.agg (blk [a0,a1,a2,a3,a4,a5,a6]),ptV p q] w fun e w'=>e = .returned (.bool false)∧Below w.heap.size w w':=by
 go_enter Tryz.func38,Tryz.ntmps38
 go_wp2_with fail
 refine (any_c _ _ _ _ _ _ _ HV.out _).mono ?_;rintro e w1 ⟨rfl,hb1⟩;have z_w1:=hb1.size;(try simp at z_w1);obtain ⟨yw1aa,cw1aa,fw1aa,rw1aa,tw1aa,pw1aa⟩:=bq hb1 (w.heap.size);obtain ⟨yw1ab,cw1ab,fw1ab,rw1ab,tw1ab,pw1ab⟩:=bq hb1 (w.heap.size+1)
 go_wp2_with fail
 refine (iwithin_v _ _ _ _ (by decide) HF.out _).mono ?_;rintro e w2 ⟨rfl,hb2⟩;have z_w2:=hb2.size;(try simp at z_w2);obtain ⟨yw2aa,cw2aa,fw2aa,rw2aa,tw2aa,pw2aa⟩:=bq hb2 (w.heap.size);obtain ⟨yw2ab,cw2ab,fw2ab,rw2ab,tw2ab,pw2ab⟩:=bq hb2 (w.heap.size+1)
 go_wp2_with fail
 go_ret
 exact ⟨rfl,below_byR⟩
theorem in_q (i:Iq) (h:i.Sml 205) (p q:Int) (w:World) :
  Calls Tryz.prog 38 #[iqV i,ptV p q] w fun e w'=>e = .returned (.bool (hasQ i p q))∧Below w.heap.size w w':=by
 cases hw:withinB p q 1073741824 with
 | false =>
  have e:hasQ i p q=false:=by unfold hasQ;rw [← within_wi,hw];rfl
  rw [e];exact in_far _ _ _ _ _ _ _ p q (Lh (Iq.noOver h)) (Lh hw) w
 | true =>
  have e:hasQ i p q=decide (i.hom p q 1≤i.N):=by unfold hasQ;rw [← within_wi,hw];rfl
  rw [e];exact infoIn_c i h p q ((withinB_iff _ _ _).1 hw) w
theorem rhas_q (i:Iq) (h:i.Sml 205) (p q:Int) (u:Value) (w:World) (hu:InfoQ w u i) :
  Calls Tryz.prog 39 #[u,ptV p q] w fun e w'=>e = .returned (.bool (hasQ i p q))∧Below w.heap.size w w':=by
 cases hw:withinB p q 1073741824 with
 | false =>
  have e:hasQ i p q=false:=by unfold hasQ;rw [← within_wi,hw];rfl
  rw [e];exact rhas_far u _ _ _ _ _ _ _ p q w (Lh (Iq.noOver h)) hu (Lh (by rw [← within_wi];exact hw))
 | true =>
  have e:hasQ i p q=decide (i.hom p q 1≤i.N):=by unfold hasQ;rw [← within_wi,hw];rfl
  rw [e]
  have hp:=(withinB_iff _ _ _).1 hw
  have hw2:=hw
  rw [within_wi,Bool.and_eq_true] at hw2
  have lA:=h.A.lim (by decide)
  have lB:=h.B.lim (by decide)
  have lD:=h.D.lim (by decide)
  have lU:=h.U.lim (by decide)
  have lV:=h.V.lim (by decide)
  have lZ:=h.Z.lim (by decide)
  have lN:=h.N.lim (by decide)
  have sp:Sm 63 p:=Sm.of64 (by omega) (by omega)
  have sq:Sm 63 q:=Sm.of64 (by omega) (by omega)
  have s2:Sm 63 2:=Sm.of64 (by decide) (by decide)
  have pp:=sp.mul sp
  have qq:=sq.mul sq
  have pq:=sp.mul sq
  have b1:=(h.A.mul pp).add ((h.D.mul qq).mono (show 205+(63+63)≤205+(63+63) by decide))
  have b2:=h.B.mul (s2.mul pq)
  have b3:=(b1.mono (show 205+(63+63)+1≤400 by decide)).add (b2.mono (show 205+(63+(63+63))≤400 by decide))
  have b4:=(h.U.mul sp).add (h.V.mul sq)
  have b5:=s2.mul b4
  have b6:=(b3.mono (show 400+1≤402 by decide)).sub (b5.mono (show 63+(205+63+1)≤402 by decide))
  have b7:=(b6.mono (show 402+1≤410 by decide)).add (h.Z.mono (show 205≤410 by decide))
  have HW:((((((WI.of i.A).mul ((WI.of p).mul (WI.of p))).add ((WI.of i.D).mul ((WI.of q).mul (WI.of q)))).add ((WI.of i.B).mul ((WI.of 2).mul ((WI.of p).mul (WI.of q))))).sub ((WI.of 2).mul (((WI.of i.U).mul (WI.of p)).add ((WI.of i.V).mul (WI.of q))))).add (WI.of i.Z))=WI.of (i.hom p q 1):=by
   rw [WI.of_mul (sp.lim (by decide)) (sp.lim (by decide)),WI.of_mul (sq.lim (by decide)) (sq.lim (by decide)),WI.of_mul (sp.lim (by decide)) (sq.lim (by decide)),WI.of_mul lA (pp.lim (by decide)),WI.of_mul lD (qq.lim (by decide)),WI.of_add ((h.A.mul pp).lim (by decide)) ((h.D.mul qq).lim (by decide)),
    WI.of_mul (s2.lim (by decide)) (pq.lim (by decide)),WI.of_mul lB ((s2.mul pq).lim (by decide)),WI.of_add (b1.lim (by decide)) (b2.lim (by decide)),WI.of_mul lU (sp.lim (by decide)),WI.of_mul lV (sq.lim (by decide)),WI.of_add ((h.U.mul sp).lim (by decide)) ((h.V.mul sq).lim (by decide)),WI.of_mul (s2.lim (by decide)) (b4.lim (by decide)),
    WI.of_sub (b3.lim (by decide)) (b5.lim (by decide)),WI.of_add (b6.lim (by decide)) lZ]
   congr 1
   unfold Iq.hom;grind
  have HH:Sm 411 (i.hom p q 1):=by
   have e:i.hom p q 1=(i.A*(p*p)+i.D*(q*q)+i.B*(2*(p*q))-2*(i.U*p+i.V*q))+i.Z:=by unfold Iq.hom;grind
   rw [e];exact b7
  have HC:=WI.of_cmp (i.hom p q 1) i.N (HH.lim (by decide)) lN
  have:=rhas_main u (WI.of i.A) (WI.of i.B) (WI.of i.D) (WI.of i.U) (WI.of i.V) (WI.of i.Z) (WI.of i.N) p q _ _ _ _ _ _ _ _ _ _ (WI.of (i.hom p q 1)) w (Lh rfl) (Lh rfl) (Lh rfl) (Lh rfl) (Lh rfl) (Lh rfl) (Lh rfl) (Lh rfl) (Lh rfl) (Lh rfl) (Lh HW)
   (if i.hom p q 1<i.N then -1 else if i.N<i.hom p q 1 then 1 else 0) (Lh HC) (Lh (WI.ov_of (HH.lim (by decide)))) (Lh (Iq.noOver h)) hu (Lh hw2.1) (Lh hw2.2)
  have e:decide ((if i.hom p q 1<i.N then (-1:Int) else if i.N<i.hom p q 1 then 1 else 0)≤0)=decide (i.hom p q 1≤i.N):=by
   by_cases h1:i.hom p q 1<i.N
   ·rw [if_pos h1];simp;omega
   ·by_cases h2:i.N<i.hom p q 1
    ·rw [if_neg h1,if_pos h2];simp;omega
    ·rw [if_neg h1,if_neg h2];simp;omega
  rw [e] at this
  exact this
theorem same_q (i:Iq) (J:Value) (w:World) (hj:InfoQ w J i) :
  Calls Tryz.prog 35 #[iqV i,J] w fun e w'=>e = .returned (.bool true)∧Below w.heap.size w w':=same_c _ _ _ _ _ _ _ J w hj
end Go.Proofs.YtilginoibhfeiaaGreat
