/- The walks of track.Merge and TrackMerges. -/
import Derived.Test.YtilginoibhfeiaaGreatK2
import Derived.Test.YtilginoibhfeiaaGreatHA
import Derived.Test.YtilginoibhfeiaaGreatX0
import Derived.Lib.QuietBelow
set_option maxRecDepth 100000
set_option maxHeartbeats 16000000
namespace Go.Proofs.YtilginoibhfeiaaGreat
open Go.RowKit
def mergeE (e f:El):El × Int:=if f.may=true then (if (gfuseE e f).2=0 then ((gfuseE e f).1,0) else (f,0)) else (El.zero,1)
theorem mergeE_no (e f:El) (h:f.may=false):mergeE e f=(El.zero,1):=by unfold mergeE;rw [h,if_neg (by decide)]
theorem merge_c (x y a b d x' y' a' b' d':Int) (w:World) :
  Calls Tryz.prog 12 #[elC x y a b d,elC x' y' a' b' d'] w fun e w'=>e = .returned (.tuple #[elV (mergeE ⟨x,y,a,b,d⟩ ⟨x',y',a',b',d'⟩).1,.int .i64 (mergeE ⟨x,y,a,b,d⟩ ⟨x',y',a',b',d'⟩).2])∧Below w.heap.size w w':=by
 cases hf:El.may ⟨x',y',a',b',d'⟩ with
 | false =>
  have HF:=Lib.hid hf
  have EV:=Lib.hid (mergeE_no ⟨x,y,a,b,d⟩ _ hf)
  clear hf
  go_enter Tryz.func12,Tryz.ntmps12
  go_wp2_with fail
  refine (ellmay_e _ _ HF.out _).mono ?_;rintro e w1 ⟨rfl,hb1⟩;have z_w1:=hb1.size;(try simp at z_w1);obtain ⟨yw1aa,cw1aa,fw1aa,rw1aa,tw1aa,pw1aa⟩:=bq hb1 (w.heap.size);obtain ⟨yw1ab,cw1ab,fw1ab,rw1ab,tw1ab,pw1ab⟩:=bq hb1 (w.heap.size+1);obtain ⟨yw1ac,cw1ac,fw1ac,rw1ac,tw1ac,pw1ac⟩:=bq hb1 (w.heap.size+1+1)
  go_wp2_with fail
  exact bodyPost_row_t 5 #[.int .i64 0,.int .i64 0,.int .i64 0,.int .i64 0,.int .i64 0] (.int .i64 1) rfl rfl rfl rfl Tryz.underlying27 rfl (by kernel_rfl) (rc5 (by go_simp) (by go_simp) (by go_simp) (by go_simp) (by go_simp)) ⟨by rw [EV.out];rfl,below_byR⟩
 | true =>
  have HF:=Lib.hid hf
  obtain ⟨⟨ox,oy,oa,ob,od⟩,k,hg⟩:∃ o k,gfuseE ⟨x,y,a,b,d⟩ ⟨x',y',a',b',d'⟩=(o,k):=⟨_,_,rfl⟩
  have HG:=Lib.hid hg
  by_cases hk:k=0
  ·subst hk
   have EV:Hid (mergeE ⟨x,y,a,b,d⟩ ⟨x',y',a',b',d'⟩=(⟨ox,oy,oa,ob,od⟩,0)):=by show _=_;unfold mergeE;rw [if_pos hf,hg,if_pos rfl]
   clear hf hg
   go_enter Tryz.func12,Tryz.ntmps12
   go_wp2_with fail
   refine (ellmay_e _ _ HF.out _).mono ?_;rintro e w1 ⟨rfl,hb1⟩;have z_w1:=hb1.size;(try simp at z_w1);obtain ⟨yw1aa,cw1aa,fw1aa,rw1aa,tw1aa,pw1aa⟩:=bq hb1 (w.heap.size);obtain ⟨yw1ab,cw1ab,fw1ab,rw1ab,tw1ab,pw1ab⟩:=bq hb1 (w.heap.size+1);obtain ⟨yw1ac,cw1ac,fw1ac,rw1ac,tw1ac,pw1ac⟩:=bq hb1 (w.heap.size+1+1)
   go_wp2_with fail
   refine (gfuse_v _ _ _ _ _ _ _ _ _ _ _ _ _ _ _ _ HG.out _).mono ?_;rintro e w2 ⟨rfl,hb2⟩;have z_w2:=hb2.size;(try simp at z_w2);obtain ⟨yw2aa,cw2aa,fw2aa,rw2aa,tw2aa,pw2aa⟩:=bq hb2 (w.heap.size);obtain ⟨yw2ab,cw2ab,fw2ab,rw2ab,tw2ab,pw2ab⟩:=bq hb2 (w.heap.size+1);obtain ⟨yw2ac,cw2ac,fw2ac,rw2ac,tw2ac,pw2ac⟩:=bq hb2 (w.heap.size+1+1)
   go_wp2_with fail
   exact bodyPost_row_t 5 #[.int .i64 ox,.int .i64 oy,.int .i64 oa,.int .i64 ob,.int .i64 od] (.int .i64 0) rfl rfl rfl rfl Tryz.underlying27 rfl (by kernel_rfl) (rc5 (by go_simp) (by go_simp) (by go_simp) (by go_simp) (by go_simp)) ⟨by rw [EV.out],below_byR⟩
  ·have EV:Hid (mergeE ⟨x,y,a,b,d⟩ ⟨x',y',a',b',d'⟩=(⟨x',y',a',b',d'⟩,0)):=by show _=_;unfold mergeE;rw [if_pos hf,hg,if_neg hk]
   have hk2:(k==0)=false:=by simp [hk]
   clear hf hg
   go_enter Tryz.func12,Tryz.ntmps12
   go_wp2_with fail
   refine (ellmay_e _ _ HF.out _).mono ?_;rintro e w1 ⟨rfl,hb1⟩;have z_w1:=hb1.size;(try simp at z_w1);obtain ⟨yw1aa,cw1aa,fw1aa,rw1aa,tw1aa,pw1aa⟩:=bq hb1 (w.heap.size);obtain ⟨yw1ab,cw1ab,fw1ab,rw1ab,tw1ab,pw1ab⟩:=bq hb1 (w.heap.size+1);obtain ⟨yw1ac,cw1ac,fw1ac,rw1ac,tw1ac,pw1ac⟩:=bq hb1 (w.heap.size+1+1)
   go_wp2_with fail
   refine (gfuse_v _ _ _ _ _ _ _ _ _ _ _ _ _ _ _ _ HG.out _).mono ?_;rintro e w2 ⟨rfl,hb2⟩;have z_w2:=hb2.size;(try simp at z_w2);obtain ⟨yw2aa,cw2aa,fw2aa,rw2aa,tw2aa,pw2aa⟩:=bq hb2 (w.heap.size);obtain ⟨yw2ab,cw2ab,fw2ab,rw2ab,tw2ab,pw2ab⟩:=bq hb2 (w.heap.size+1);obtain ⟨yw2ac,cw2ac,fw2ac,rw2ac,tw2ac,pw2ac⟩:=bq hb2 (w.heap.size+1+1)
   go_wp2_with fail
   exact bodyPost_row_t 5 #[.int .i64 x',.int .i64 y',.int .i64 a',.int .i64 b',.int .i64 d'] (.int .i64 0) rfl rfl rfl rfl Tryz.underlying27 rfl (by kernel_rfl) (rc5 (by go_simp) (by go_simp) (by go_simp) (by go_simp) (by go_simp)) ⟨by rw [EV.out],below_byR⟩
theorem merge_v (x y a b d x' y' a' b' d' ox oy oa ob od k:Int) (h:mergeE ⟨x,y,a,b,d⟩ ⟨x',y',a',b',d'⟩=(⟨ox,oy,oa,ob,od⟩,k)) (w:World) :
  Calls Tryz.prog 12 #[elC x y a b d,elC x' y' a' b' d'] w fun e w'=>e = .returned (.tuple #[elC ox oy oa ob od,.int .i64 k])∧Below w.heap.size w w':=by
 have:=merge_c x y a b d x' y' a' b' d' w
 rw [h] at this;exact this
end Go.Proofs.YtilginoibhfeiaaGreat
