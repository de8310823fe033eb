/- Laws. -/
import Derived.Test.YtilginoibhfeiaaGreatH5
set_option maxRecDepth 100000
set_option maxHeartbeats 16000000
namespace Go.Proofs.YtilginoibhfeiaaGreat
open Go.RowKit
theorem gcut_yes (e:El) (f:St) (he:e.may=true) (hf:f.may=true):gcutE e f=foundE e (cutE e f) []:=by unfold gcutE;rw [if_pos ⟨he,hf⟩]
theorem gcut_no (e:El) (f:St) (h:e.may=false∨f.may=false):gcutE e f=(El.zero,1):=by
 unfold gcutE;rw [if_neg];rintro ⟨h1,h2⟩;rcases h with h|h
 ·rw [h1] at h;cases h
 ·rw [h2] at h;cases h
theorem gcut_c (x y a b d s1 s2 s3 s4 s5 s6:Int) (w:World) :
  Calls Tryz.prog 53 #[elC x y a b d,stC s1 s2 s3 s4 s5 s6] w fun e w'=>e = .returned (.tuple #[elV (gcutE ⟨x,y,a,b,d⟩ ⟨s1,s2,s3,s4,s5,s6⟩).1,.int .i64 (gcutE ⟨x,y,a,b,d⟩ ⟨s1,s2,s3,s4,s5,s6⟩).2])∧Below w.heap.size w w':=by
 cases hm:El.may ⟨x,y,a,b,d⟩ with
 | false =>
  have HM:=Lh hm
  have EV:=Lh (gcut_no ⟨x,y,a,b,d⟩ ⟨s1,s2,s3,s4,s5,s6⟩ (.inl hm))
  clear hm
  go_enter Tryz.func53,Tryz.ntmps53
  go_wp2_with fail
  refine (ellmay_v _ _ _ _ _ _ HM.out _).mono ?_;rintro e w1 ⟨rfl,hb1⟩;have z_w1:=hb1.size;(try simp at z_w1);have Kw1aa:=bq hb1 (w.heap.size);have Kw1ab:=bq hb1 (w.heap.size+1);have Kw1ac:=bq hb1 (w.heap.size+1+1)
  go_wp2_with fail
  exact bodyPost_row_t 5 #[.int .i64 0,.int .i64 0,.int .i64 0,.int .i64 0,.int .i64 0] (.int .i64 1) rfl rfl rfl rfl Tryz.underlying27 rfl (by kernel_rfl) (rc5 (by go_simp) (by go_simp) (by go_simp) (by go_simp) (by go_simp)) ⟨by rw [EV.out];rfl,below_byR⟩
 | true =>
  have HM:=Lh hm
  cases hf:St.may ⟨s1,s2,s3,s4,s5,s6⟩ with
  | false =>
   have HF:=Lh hf
   have EV:=Lh (gcut_no ⟨x,y,a,b,d⟩ ⟨s1,s2,s3,s4,s5,s6⟩ (.inr hf))
   clear hm hf
   go_enter Tryz.func53,Tryz.ntmps53
   go_wp2_with fail
   refine (ellmay_v _ _ _ _ _ _ HM.out _).mono ?_;rintro e w1 ⟨rfl,hb1⟩;have z_w1:=hb1.size;(try simp at z_w1);have Kw1aa:=bq hb1 (w.heap.size);have Kw1ab:=bq hb1 (w.heap.size+1);have Kw1ac:=bq hb1 (w.heap.size+1+1)
   go_wp2_with fail
   refine (mayStrip_v _ _ _ _ _ _ _ HF.out _).mono ?_;rintro e w2 ⟨rfl,hb2⟩;have z_w2:=hb2.size;(try simp at z_w2);have Kw2aa:=bq hb2 (w.heap.size);have Kw2ab:=bq hb2 (w.heap.size+1);have Kw2ac:=bq hb2 (w.heap.size+1+1)
   go_wp2_with fail
   exact bodyPost_row_t 5 #[.int .i64 0,.int .i64 0,.int .i64 0,.int .i64 0,.int .i64 0] (.int .i64 1) rfl rfl rfl rfl Tryz.underlying27 rfl (by kernel_rfl) (rc5 (by go_simp) (by go_simp) (by go_simp) (by go_simp) (by go_simp)) ⟨by rw [EV.out];rfl,below_byR⟩
  | true =>
   have HF:=Lh hf
   obtain ⟨⟨ox,oy,oa,ob,od⟩,k,ho⟩:∃ o k,foundE ⟨x,y,a,b,d⟩ (cutE ⟨x,y,a,b,d⟩ ⟨s1,s2,s3,s4,s5,s6⟩) []=(o,k):=⟨_,_,rfl⟩
   have EV:Hid (gcutE ⟨x,y,a,b,d⟩ ⟨s1,s2,s3,s4,s5,s6⟩=(⟨ox,oy,oa,ob,od⟩,k)):=by show _=_;rw [gcut_yes _ _ hm hf,ho]
   have HO:=Lh ho
   clear hm hf ho
   go_enter Tryz.func53,Tryz.ntmps53
   go_wp2_with fail
   refine (ellmay_v _ _ _ _ _ _ HM.out _).mono ?_;rintro e w1 ⟨rfl,hb1⟩;have z_w1:=hb1.size;(try simp at z_w1);have Kw1aa:=bq hb1 (w.heap.size);have Kw1ab:=bq hb1 (w.heap.size+1);have Kw1ac:=bq hb1 (w.heap.size+1+1)
   go_wp2_with fail
   refine (mayStrip_v _ _ _ _ _ _ _ HF.out _).mono ?_;rintro e w2 ⟨rfl,hb2⟩;have z_w2:=hb2.size;(try simp at z_w2);have Kw2aa:=bq hb2 (w.heap.size);have Kw2ab:=bq hb2 (w.heap.size+1);have Kw2ac:=bq hb2 (w.heap.size+1+1)
   have BE:=((((Blk.new w #[.int .i64 x,.int .i64 y,.int .i64 a,.int .i64 b,.int .i64 d] 27).alloc _).alloc _).keep hb1).keep hb2
   have BF:=(((Blk.new' (w.alloc _) #[.int .i64 s1,.int .i64 s2,.int .i64 s3,.int .i64 s4,.int .i64 s5,.int .i64 s6] 39 (b:=w.heap.size+1) (by simp)).alloc _).keep hb1).keep hb2
   go_wp2_with fail
   have FC:=found0_c x y a b d 126 #[.pointer (some ⟨w.heap.size,0,none⟩),.pointer (some ⟨w.heap.size+1,0,none⟩)] (cutE ⟨x,y,a,b,d⟩ ⟨s1,s2,s3,s4,s5,s6⟩) w2 (by intro args w;rfl)
    (fun k w' _ _ hb=>gc1_c x y a b d s1 s2 s3 s4 s5 s6 k _ _ w' (BE.keep hb) (BF.keep hb))
   rw [HO.out] at FC
   clear BE BF
   refine FC.mono ?_;rintro e w3 ⟨rfl,hb3⟩;have z_w3:=hb3.size;(try simp at z_w3);have Kw3aa:=bq hb3 (w.heap.size);have Kw3ab:=bq hb3 (w.heap.size+1);have Kw3ac:=bq hb3 (w.heap.size+1+1)
   go_wp2_with fail
   exact bodyPost_row_t 5 #[.int .i64 ox,.int .i64 oy,.int .i64 oa,.int .i64 ob,.int .i64 od] (.int .i64 k) rfl rfl rfl rfl Tryz.underlying27 rfl (by kernel_rfl) (rc5 (by go_simp) (by go_simp) (by go_simp) (by go_simp) (by go_simp)) ⟨by rw [EV.out],below_byR⟩
theorem gcut_v (x y a b d s1 s2 s3 s4 s5 s6 ox oy oa ob od k:Int) (h:gcutE ⟨x,y,a,b,d⟩ ⟨s1,s2,s3,s4,s5,s6⟩=(⟨ox,oy,oa,ob,od⟩,k)) (w:World) :
  Calls Tryz.prog 53 #[elC x y a b d,stC s1 s2 s3 s4 s5 s6] w fun e w'=>e = .returned (.tuple #[elC ox oy oa ob od,.int .i64 k])∧Below w.heap.size w w':=by
 have:=gcut_c x y a b d s1 s2 s3 s4 s5 s6 w
 rw [h] at this;exact this
end Go.Proofs.YtilginoibhfeiaaGreat
