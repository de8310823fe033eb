/- The walks of track: time, Ticks, At. -/
import Derived.Test.YtechbdnhalmobaaGreatDoorHA
import Derived.Lib.QuietBelow
namespace Go.Proofs.YtechbdnhalmobaaGreatDoor
set_option maxRecDepth 100000
set_option maxHeartbeats 16000000
set_option linter.unusedSimpArgs false
set_option linter.unusedVariables false
open Go.RowKit
def timeB (t:Int):Bool:=decide (0≤t∧t≤1000000)
theorem timeB_iff (t:Int):timeB t=true↔0≤t∧t≤1000000:=by unfold timeB;simp
def ticksE (a b s:Int):Int:=if timeB a=true∧timeB b=true∧timeB s=true then max 0 (b-a)+2*s+1 else 0
def atE (e:El) (a b v s:Int):El × Int :=
 if e.may=true∧timeB a=true∧timeB b=true∧timeB s=true∧0≤v∧v≤4194304 then ageE e v (ticksE a b s) else (El.zero,1)
theorem ticksE_le (a b s:Int):0≤ticksE a b s∧ticksE a b s≤3000001:=by
 unfold ticksE;split
 ·rename_i h;simp only [timeB_iff] at h;omega
 ·omega
theorem time_c (t:Int) (w:World) :
  Calls Tryz.prog 39 #[.int .i64 t] w fun e w'=>e = .returned (.bool (timeB t))∧Below w.heap.size w w':=by
 by_cases h1:0≤t
 ·have E:Hid (timeB t=decide (t≤1000000)):=by show _=_;unfold timeB;simp [h1]
  go_enter Tryz.func39,Tryz.ntmps39
  go_wp2
  go_ret
  exact ⟨by rw [E.out];rfl,below_byR⟩
 ·have E:Hid (timeB t=false):=by show _=_;unfold timeB;simp [h1]
  go_enter Tryz.func39,Tryz.ntmps39
  go_wp2
  go_ret
  exact ⟨by rw [E.out];rfl,below_byR⟩
theorem time_v (t:Int) (k:Bool) (h:timeB t=k) (w:World) :
  Calls Tryz.prog 39 #[.int .i64 t] w fun e w'=>e = .returned (.bool k)∧Below w.heap.size w w':=by
 subst h;exact time_c t w
theorem ticks_cases (a b s:Int):timeB a=false∨(timeB a=true∧timeB b=false)∨(timeB a=true∧timeB b=true∧timeB s=false)∨(timeB a=true∧timeB b=true∧timeB s=true):=by
 cases timeB a <;> cases timeB b <;> cases timeB s <;> simp
theorem ticks_c (a b s:Int) (w:World) :
  Calls Tryz.prog 41 #[.int .i64 a,.int .i64 b,.int .i64 s] w fun e w'=>e = .returned (.int .i64 (ticksE a b s))∧Below w.heap.size w w':=by
 rcases ticks_cases a b s with h|⟨h,h'⟩|⟨h,h',h''⟩|⟨h,h',h''⟩
 ·have H:=Lib.hid h
  have E:Hid (ticksE a b s=0):=by show _=_;unfold ticksE;rw [if_neg (by rw [h];simp)]
  clear h
  go_enter Tryz.func41,Tryz.ntmps41
  go_wp2_with fail
  refine (time_v _ _ H.out _).mono ?_;rintro e w1 ⟨rfl,hb1⟩;have s1:=hb1.size
  go_wp2
  go_ret
  exact ⟨by rw [E.out];rfl,below_byR⟩
 ·have H:=Lib.hid h
  have H':=Lib.hid h'
  have E:Hid (ticksE a b s=0):=by show _=_;unfold ticksE;rw [if_neg (by rw [h'];simp)]
  clear h h'
  go_enter Tryz.func41,Tryz.ntmps41
  go_wp2_with fail
  refine (time_v _ _ H.out _).mono ?_;rintro e w1 ⟨rfl,hb1⟩;have s1:=hb1.size
  go_wp2_with fail
  refine (time_v _ _ H'.out _).mono ?_;rintro e w2 ⟨rfl,hb2⟩;have s2:=hb2.size
  go_wp2
  go_ret
  exact ⟨by rw [E.out];rfl,below_byR⟩
 ·have H:=Lib.hid h
  have H':=Lib.hid h'
  have H'':=Lib.hid h''
  have E:Hid (ticksE a b s=0):=by show _=_;unfold ticksE;rw [if_neg (by rw [h''];simp)]
  clear h h' h''
  go_enter Tryz.func41,Tryz.ntmps41
  go_wp2_with fail
  refine (time_v _ _ H.out _).mono ?_;rintro e w1 ⟨rfl,hb1⟩;have s1:=hb1.size
  go_wp2_with fail
  refine (time_v _ _ H'.out _).mono ?_;rintro e w2 ⟨rfl,hb2⟩;have s2:=hb2.size
  go_wp2_with fail
  refine (time_v _ _ H''.out _).mono ?_;rintro e w3 ⟨rfl,hb3⟩;have s3:=hb3.size
  go_wp2
  go_ret
  exact ⟨by rw [E.out];rfl,below_byR⟩
 ·have H:=Lib.hid h
  have H':=Lib.hid h'
  have H'':=Lib.hid h''
  have E:Hid (ticksE a b s=max 0 (b-a)+2*s+1):=by show _=_;unfold ticksE;rw [if_pos ⟨h,h',h''⟩]
  obtain ⟨a1,a2⟩:=(timeB_iff a).1 h
  obtain ⟨b1,b2⟩:=(timeB_iff b).1 h'
  obtain ⟨q1,q2⟩:=(timeB_iff s).1 h''
  clear h h' h''
  go_enter Tryz.func41,Tryz.ntmps41
  go_wp2_with fail
  refine (time_v _ _ H.out _).mono ?_;rintro e w1 ⟨rfl,hb1⟩;have s1:=hb1.size
  go_wp2_with fail
  refine (time_v _ _ H'.out _).mono ?_;rintro e w2 ⟨rfl,hb2⟩;have s2:=hb2.size
  go_wp2_with fail
  refine (time_v _ _ H''.out _).mono ?_;rintro e w3 ⟨rfl,hb3⟩;have s3:=hb3.size
  go_wp2
  go_ret
  exact ⟨by rw [E.out];rfl,below_byR⟩
theorem ticks_v (a b s k:Int) (h:ticksE a b s=k) (w:World) :
  Calls Tryz.prog 41 #[.int .i64 a,.int .i64 b,.int .i64 s] w fun e w'=>e = .returned (.int .i64 k)∧Below w.heap.size w w':=by
 subst h;exact ticks_c a b s w
theorem at_cases (m:Bool) (a b v s:Int):m=false∨(m=true∧timeB a=false)∨(m=true∧timeB a=true∧timeB b=false)∨(m=true∧timeB a=true∧timeB b=true∧timeB s=false) ∨
  (m=true∧timeB a=true∧timeB b=true∧timeB s=true∧v<0)∨(m=true∧timeB a=true∧timeB b=true∧timeB s=true∧¬ v<0∧4194304<v)∨(m=true∧timeB a=true∧timeB b=true∧timeB s=true∧¬ v<0∧¬ 4194304<v):=by
 cases m <;> cases timeB a <;> cases timeB b <;> cases timeB s <;> simp <;> omega
theorem at_c (x y a b d t u v s:Int) (w:World) :
  Calls Tryz.prog 16 #[elC x y a b d,.int .i64 t,.int .i64 u,.int .i64 v,.int .i64 s] w fun e w'=>e = .returned (.tuple #[elV (atE ⟨x,y,a,b,d⟩ t u v s).1,.int .i64 (atE ⟨x,y,a,b,d⟩ t u v s).2])∧Below w.heap.size w w':=by
 obtain ⟨m,hm⟩:∃ m,El.may ⟨x,y,a,b,d⟩=m:=⟨_,rfl⟩
 have HM:=Lib.hid hm
 rcases at_cases m t u v s with rfl|⟨rfl,h1⟩|⟨rfl,h1,h2⟩|⟨rfl,h1,h2,h3⟩|⟨rfl,h1,h2,h3,h4⟩|⟨rfl,h1,h2,h3,h4,h5⟩|⟨rfl,h1,h2,h3,h4,h5⟩
 case inl =>
  have EV:Hid (atE ⟨x,y,a,b,d⟩ t u v s=(El.zero,1)):=by show _=_;unfold atE;rw [if_neg (by rw [hm];simp)]
  clear hm
  go_enter Tryz.func16,Tryz.ntmps16
  go_wp2_with fail
  refine (ellmay_v _ _ _ _ _ _ HM.out _).mono ?_;rintro e w1 ⟨rfl,hb1⟩;have z_w1:=hb1.size;(try simp at z_w1);obtain ⟨yw1aa,cw1aa,fw1aa,rw1aa,tw1aa,pw1aa⟩:=bq hb1 (w.heap.size);obtain ⟨yw1ab,cw1ab,fw1ab,rw1ab,tw1ab,pw1ab⟩:=bq hb1 (w.heap.size+1)
  go_wp2_with fail
  exact bodyPost_row_t 5 #[.int .i64 0,.int .i64 0,.int .i64 0,.int .i64 0,.int .i64 0] (.int .i64 1) rfl rfl rfl rfl Tryz.underlying35 rfl (by kernel_rfl) (rc5 (by go_simp) (by go_simp) (by go_simp) (by go_simp) (by go_simp)) ⟨by rw [EV.out];rfl,below_byR⟩
 case inr.inr.inr.inr.inr.inr =>
  obtain ⟨n,hn⟩:∃ n,ticksE t u s=n:=⟨_,rfl⟩
  have nl:=ticksE_le t u s
  rw [hn] at nl
  obtain ⟨⟨ox,oy,oa,ob,od⟩,k,ho⟩:∃ o k,ageE ⟨x,y,a,b,d⟩ v n=(o,k):=⟨_,_,rfl⟩
  have EV:Hid (atE ⟨x,y,a,b,d⟩ t u v s=(⟨ox,oy,oa,ob,od⟩,k)):=by show _=_;unfold atE;rw [if_pos ⟨hm,h1,h2,h3,by omega,by omega⟩,hn,ho]
  have H1:=Lib.hid h1
  have H2:=Lib.hid h2
  have H3:=Lib.hid h3
  have HN:=Lib.hid hn
  have HO:=Lib.hid ho
  have NL:Hid (n≤9223372036854775807):=by show n≤_;omega
  clear hm h1 h2 h3 hn ho nl
  go_enter Tryz.func16,Tryz.ntmps16
  go_wp2_with fail
  refine (ellmay_v _ _ _ _ _ _ HM.out _).mono ?_;rintro e w1 ⟨rfl,hb1⟩;have z_w1:=hb1.size;(try simp at z_w1);obtain ⟨yw1aa,cw1aa,fw1aa,rw1aa,tw1aa,pw1aa⟩:=bq hb1 (w.heap.size);obtain ⟨yw1ab,cw1ab,fw1ab,rw1ab,tw1ab,pw1ab⟩:=bq hb1 (w.heap.size+1)
  go_wp2_with fail
  refine (time_v _ _ H1.out _).mono ?_;rintro e w2 ⟨rfl,hb2⟩;have z_w2:=hb2.size;(try simp at z_w2);obtain ⟨yw2aa,cw2aa,fw2aa,rw2aa,tw2aa,pw2aa⟩:=bq hb2 (w.heap.size);obtain ⟨yw2ab,cw2ab,fw2ab,rw2ab,tw2ab,pw2ab⟩:=bq hb2 (w.heap.size+1)
  go_wp2_with fail
  refine (time_v _ _ H2.out _).mono ?_;rintro e w3 ⟨rfl,hb3⟩;have z_w3:=hb3.size;(try simp at z_w3);obtain ⟨yw3aa,cw3aa,fw3aa,rw3aa,tw3aa,pw3aa⟩:=bq hb3 (w.heap.size);obtain ⟨yw3ab,cw3ab,fw3ab,rw3ab,tw3ab,pw3ab⟩:=bq hb3 (w.heap.size+1)
  go_wp2_with fail
  refine (time_v _ _ H3.out _).mono ?_;rintro e w4 ⟨rfl,hb4⟩;have z_w4:=hb4.size;(try simp at z_w4);obtain ⟨yw4aa,cw4aa,fw4aa,rw4aa,tw4aa,pw4aa⟩:=bq hb4 (w.heap.size);obtain ⟨yw4ab,cw4ab,fw4ab,rw4ab,tw4ab,pw4ab⟩:=bq hb4 (w.heap.size+1)
  go_wp2_with fail
  have c0:=@inw_cell _ _ _ (show w4.cell? ⟨w.heap.size,0,none⟩=some (.int .i64 x) from (by go_simp));have c1:=@inw_cell _ _ _ (show w4.cell? ⟨w.heap.size,1,none⟩=some (.int .i64 y) from (by go_simp));have c2:=@inw_cell _ _ _ (show w4.cell? ⟨w.heap.size,2,none⟩=some (.int .i64 a) from (by go_simp));have c3:=@inw_cell _ _ _ (show w4.cell? ⟨w.heap.size,3,none⟩=some (.int .i64 b) from (by go_simp));have c4:=@inw_cell _ _ _ (show w4.cell? ⟨w.heap.size,4,none⟩=some (.int .i64 d) from (by go_simp))
  refine wp_region_fresh' 9 (fun _=>none) (fun _=>[]) (by kernel_rfl) (by kernel_rfl) ?_;refine ex_list ?_;apply Exists.intro;refine ex_list ?_;apply Exists.intro;refine ex_list ?_;apply Exists.intro;refine ex_list ?_;apply Exists.intro;refine ex_list ?_;apply Exists.intro;refine ex_list ?_;apply Exists.intro;refine ex_list ?_;apply Exists.intro;refine ex_list ?_;apply Exists.intro;refine ex_list ?_;apply Exists.intro;refine ⟨[],fun gg NN hN=>?_⟩;simp only [List.take_succ_cons,List.take_zero,List.drop_succ_cons,List.drop_zero];(repeat (refine lexF_quiet rfl ?_;go_big_quiet_step (first|exact rfl|(first|(go_at_call 41;exact calls_in (ticks_v _ _ _ _ HN.out _))|(go_at_call 40;exact calls_in (age_v _ _ _ _ _ _ _ _ _ _ _ _ _ NL.out HO.out _))));refine wpQuiet_nil ⟨rfl,?_⟩))
  refine lexF_nil ?_
  intro w5 hb5 hh _
  clear hh
  have z_w5:=hb5.size;(try simp at z_w5);obtain ⟨yw5aa,cw5aa,fw5aa,rw5aa,tw5aa,pw5aa⟩:=bq hb5 (w.heap.size);obtain ⟨yw5ab,cw5ab,fw5ab,rw5ab,tw5ab,pw5ab⟩:=bq hb5 (w.heap.size+1)
  go_wp2_with fail
  exact bodyPost_row_t 5 #[.int .i64 ox,.int .i64 oy,.int .i64 oa,.int .i64 ob,.int .i64 od] (.int .i64 k) rfl rfl rfl rfl Tryz.underlying35 rfl (by kernel_rfl) (rc5 (by go_simp) (by go_simp) (by go_simp) (by go_simp) (by go_simp)) ⟨by rw [EV.out],below_byR⟩
 case inr.inl =>
  have EV:Hid (atE ⟨x,y,a,b,d⟩ t u v s=(El.zero,1)):=by show _=_;unfold atE;rw [if_neg (by rintro ⟨-,h,-⟩;rw [h1] at h;cases h)]
  have H1:=Lib.hid h1
  clear hm h1
  go_enter Tryz.func16,Tryz.ntmps16
  go_wp2_with fail
  refine (ellmay_v _ _ _ _ _ _ HM.out _).mono ?_;rintro e w1 ⟨rfl,hb1⟩;have z_w1:=hb1.size;(try simp at z_w1);obtain ⟨yw1aa,cw1aa,fw1aa,rw1aa,tw1aa,pw1aa⟩:=bq hb1 (w.heap.size);obtain ⟨yw1ab,cw1ab,fw1ab,rw1ab,tw1ab,pw1ab⟩:=bq hb1 (w.heap.size+1)
  go_wp2_with fail
  refine (time_v _ _ H1.out _).mono ?_;rintro e w2 ⟨rfl,hb2⟩;have z_w2:=hb2.size;(try simp at z_w2);obtain ⟨yw2aa,cw2aa,fw2aa,rw2aa,tw2aa,pw2aa⟩:=bq hb2 (w.heap.size);obtain ⟨yw2ab,cw2ab,fw2ab,rw2ab,tw2ab,pw2ab⟩:=bq hb2 (w.heap.size+1)
  go_wp2_with fail
  exact bodyPost_row_t 5 #[.int .i64 0,.int .i64 0,.int .i64 0,.int .i64 0,.int .i64 0] (.int .i64 1) rfl rfl rfl rfl Tryz.underlying35 rfl (by kernel_rfl) (rc5 (by go_simp) (by go_simp) (by go_simp) (by go_simp) (by go_simp)) ⟨by rw [EV.out];rfl,below_byR⟩
 case inr.inr.inl =>
  have EV:Hid (atE ⟨x,y,a,b,d⟩ t u v s=(El.zero,1)):=by show _=_;unfold atE;rw [if_neg (by rintro ⟨-,-,h,-⟩;rw [h2] at h;cases h)]
  have H1:=Lib.hid h1
  have H2:=Lib.hid h2
  clear hm h1 h2
  go_enter Tryz.func16,Tryz.ntmps16
  go_wp2_with fail
  refine (ellmay_v _ _ _ _ _ _ HM.out _).mono ?_;rintro e w1 ⟨rfl,hb1⟩;have z_w1:=hb1.size;(try simp at z_w1);obtain ⟨yw1aa,cw1aa,fw1aa,rw1aa,tw1aa,pw1aa⟩:=bq hb1 (w.heap.size);obtain ⟨yw1ab,cw1ab,fw1ab,rw1ab,tw1ab,pw1ab⟩:=bq hb1 (w.heap.size+1)
  go_wp2_with fail
  refine (time_v _ _ H1.out _).mono ?_;rintro e w2 ⟨rfl,hb2⟩;have z_w2:=hb2.size;(try simp at z_w2);obtain ⟨yw2aa,cw2aa,fw2aa,rw2aa,tw2aa,pw2aa⟩:=bq hb2 (w.heap.size);obtain ⟨yw2ab,cw2ab,fw2ab,rw2ab,tw2ab,pw2ab⟩:=bq hb2 (w.heap.size+1)
  go_wp2_with fail
  refine (time_v _ _ H2.out _).mono ?_;rintro e w3 ⟨rfl,hb3⟩;have z_w3:=hb3.size;(try simp at z_w3);obtain ⟨yw3aa,cw3aa,fw3aa,rw3aa,tw3aa,pw3aa⟩:=bq hb3 (w.heap.size);obtain ⟨yw3ab,cw3ab,fw3ab,rw3ab,tw3ab,pw3ab⟩:=bq hb3 (w.heap.size+1)
  go_wp2_with fail
  exact bodyPost_row_t 5 #[.int .i64 0,.int .i64 0,.int .i64 0,.int .i64 0,.int .i64 0] (.int .i64 1) rfl rfl rfl rfl Tryz.underlying35 rfl (by kernel_rfl) (rc5 (by go_simp) (by go_simp) (by go_simp) (by go_simp) (by go_simp)) ⟨by rw [EV.out];rfl,below_byR⟩
 case inr.inr.inr.inl =>
  have EV:Hid (atE ⟨x,y,a,b,d⟩ t u v s=(El.zero,1)):=by show _=_;unfold atE;rw [if_neg (by rintro ⟨-,-,-,h,-⟩;rw [h3] at h;cases h)]
  have H1:=Lib.hid h1
  have H2:=Lib.hid h2
  have H3:=Lib.hid h3
  clear hm h1 h2 h3
  go_enter Tryz.func16,Tryz.ntmps16
  go_wp2_with fail
  refine (ellmay_v _ _ _ _ _ _ HM.out _).mono ?_;rintro e w1 ⟨rfl,hb1⟩;have z_w1:=hb1.size;(try simp at z_w1);obtain ⟨yw1aa,cw1aa,fw1aa,rw1aa,tw1aa,pw1aa⟩:=bq hb1 (w.heap.size);obtain ⟨yw1ab,cw1ab,fw1ab,rw1ab,tw1ab,pw1ab⟩:=bq hb1 (w.heap.size+1)
  go_wp2_with fail
  refine (time_v _ _ H1.out _).mono ?_;rintro e w2 ⟨rfl,hb2⟩;have z_w2:=hb2.size;(try simp at z_w2);obtain ⟨yw2aa,cw2aa,fw2aa,rw2aa,tw2aa,pw2aa⟩:=bq hb2 (w.heap.size);obtain ⟨yw2ab,cw2ab,fw2ab,rw2ab,tw2ab,pw2ab⟩:=bq hb2 (w.heap.size+1)
  go_wp2_with fail
  refine (time_v _ _ H2.out _).mono ?_;rintro e w3 ⟨rfl,hb3⟩;have z_w3:=hb3.size;(try simp at z_w3);obtain ⟨yw3aa,cw3aa,fw3aa,rw3aa,tw3aa,pw3aa⟩:=bq hb3 (w.heap.size);obtain ⟨yw3ab,cw3ab,fw3ab,rw3ab,tw3ab,pw3ab⟩:=bq hb3 (w.heap.size+1)
  go_wp2_with fail
  refine (time_v _ _ H3.out _).mono ?_;rintro e w4 ⟨rfl,hb4⟩;have z_w4:=hb4.size;(try simp at z_w4);obtain ⟨yw4aa,cw4aa,fw4aa,rw4aa,tw4aa,pw4aa⟩:=bq hb4 (w.heap.size);obtain ⟨yw4ab,cw4ab,fw4ab,rw4ab,tw4ab,pw4ab⟩:=bq hb4 (w.heap.size+1)
  go_wp2_with fail
  exact bodyPost_row_t 5 #[.int .i64 0,.int .i64 0,.int .i64 0,.int .i64 0,.int .i64 0] (.int .i64 1) rfl rfl rfl rfl Tryz.underlying35 rfl (by kernel_rfl) (rc5 (by go_simp) (by go_simp) (by go_simp) (by go_simp) (by go_simp)) ⟨by rw [EV.out];rfl,below_byR⟩
 case inr.inr.inr.inr.inl =>
  have EV:Hid (atE ⟨x,y,a,b,d⟩ t u v s=(El.zero,1)):=by show _=_;unfold atE;rw [if_neg (by rintro ⟨-,-,-,-,h,-⟩;omega)]
  have H1:=Lib.hid h1
  have H2:=Lib.hid h2
  have H3:=Lib.hid h3
  clear hm h1 h2 h3
  go_enter Tryz.func16,Tryz.ntmps16
  go_wp2_with fail
  refine (ellmay_v _ _ _ _ _ _ HM.out _).mono ?_;rintro e w1 ⟨rfl,hb1⟩;have z_w1:=hb1.size;(try simp at z_w1);obtain ⟨yw1aa,cw1aa,fw1aa,rw1aa,tw1aa,pw1aa⟩:=bq hb1 (w.heap.size);obtain ⟨yw1ab,cw1ab,fw1ab,rw1ab,tw1ab,pw1ab⟩:=bq hb1 (w.heap.size+1)
  go_wp2_with fail
  refine (time_v _ _ H1.out _).mono ?_;rintro e w2 ⟨rfl,hb2⟩;have z_w2:=hb2.size;(try simp at z_w2);obtain ⟨yw2aa,cw2aa,fw2aa,rw2aa,tw2aa,pw2aa⟩:=bq hb2 (w.heap.size);obtain ⟨yw2ab,cw2ab,fw2ab,rw2ab,tw2ab,pw2ab⟩:=bq hb2 (w.heap.size+1)
  go_wp2_with fail
  refine (time_v _ _ H2.out _).mono ?_;rintro e w3 ⟨rfl,hb3⟩;have z_w3:=hb3.size;(try simp at z_w3);obtain ⟨yw3aa,cw3aa,fw3aa,rw3aa,tw3aa,pw3aa⟩:=bq hb3 (w.heap.size);obtain ⟨yw3ab,cw3ab,fw3ab,rw3ab,tw3ab,pw3ab⟩:=bq hb3 (w.heap.size+1)
  go_wp2_with fail
  refine (time_v _ _ H3.out _).mono ?_;rintro e w4 ⟨rfl,hb4⟩;have z_w4:=hb4.size;(try simp at z_w4);obtain ⟨yw4aa,cw4aa,fw4aa,rw4aa,tw4aa,pw4aa⟩:=bq hb4 (w.heap.size);obtain ⟨yw4ab,cw4ab,fw4ab,rw4ab,tw4ab,pw4ab⟩:=bq hb4 (w.heap.size+1)
  go_wp2_with fail
  exact bodyPost_row_t 5 #[.int .i64 0,.int .i64 0,.int .i64 0,.int .i64 0,.int .i64 0] (.int .i64 1) rfl rfl rfl rfl Tryz.underlying35 rfl (by kernel_rfl) (rc5 (by go_simp) (by go_simp) (by go_simp) (by go_simp) (by go_simp)) ⟨by rw [EV.out];rfl,below_byR⟩
 case inr.inr.inr.inr.inr.inl =>
  have EV:Hid (atE ⟨x,y,a,b,d⟩ t u v s=(El.zero,1)):=by show _=_;unfold atE;rw [if_neg (by rintro ⟨-,-,-,-,-,h⟩;omega)]
  have H1:=Lib.hid h1
  have H2:=Lib.hid h2
  have H3:=Lib.hid h3
  clear hm h1 h2 h3
  go_enter Tryz.func16,Tryz.ntmps16
  go_wp2_with fail
  refine (ellmay_v _ _ _ _ _ _ HM.out _).mono ?_;rintro e w1 ⟨rfl,hb1⟩;have z_w1:=hb1.size;(try simp at z_w1);obtain ⟨yw1aa,cw1aa,fw1aa,rw1aa,tw1aa,pw1aa⟩:=bq hb1 (w.heap.size);obtain ⟨yw1ab,cw1ab,fw1ab,rw1ab,tw1ab,pw1ab⟩:=bq hb1 (w.heap.size+1)
  go_wp2_with fail
  refine (time_v _ _ H1.out _).mono ?_;rintro e w2 ⟨rfl,hb2⟩;have z_w2:=hb2.size;(try simp at z_w2);obtain ⟨yw2aa,cw2aa,fw2aa,rw2aa,tw2aa,pw2aa⟩:=bq hb2 (w.heap.size);obtain ⟨yw2ab,cw2ab,fw2ab,rw2ab,tw2ab,pw2ab⟩:=bq hb2 (w.heap.size+1)
  go_wp2_with fail
  refine (time_v _ _ H2.out _).mono ?_;rintro e w3 ⟨rfl,hb3⟩;have z_w3:=hb3.size;(try simp at z_w3);obtain ⟨yw3aa,cw3aa,fw3aa,rw3aa,tw3aa,pw3aa⟩:=bq hb3 (w.heap.size);obtain ⟨yw3ab,cw3ab,fw3ab,rw3ab,tw3ab,pw3ab⟩:=bq hb3 (w.heap.size+1)
  go_wp2_with fail
  refine (time_v _ _ H3.out _).mono ?_;rintro e w4 ⟨rfl,hb4⟩;have z_w4:=hb4.size;(try simp at z_w4);obtain ⟨yw4aa,cw4aa,fw4aa,rw4aa,tw4aa,pw4aa⟩:=bq hb4 (w.heap.size);obtain ⟨yw4ab,cw4ab,fw4ab,rw4ab,tw4ab,pw4ab⟩:=bq hb4 (w.heap.size+1)
  go_wp2_with fail
  exact bodyPost_row_t 5 #[.int .i64 0,.int .i64 0,.int .i64 0,.int .i64 0,.int .i64 0] (.int .i64 1) rfl rfl rfl rfl Tryz.underlying35 rfl (by kernel_rfl) (rc5 (by go_simp) (by go_simp) (by go_simp) (by go_simp) (by go_simp)) ⟨by rw [EV.out];rfl,below_byR⟩
theorem at_v (x y a b d t u v s x' y' a' b' d' k:Int) (h:atE ⟨x,y,a,b,d⟩ t u v s=(⟨x',y',a',b',d'⟩,k)) (w:World) :
  Calls Tryz.prog 16 #[elC x y a b d,.int .i64 t,.int .i64 u,.int .i64 v,.int .i64 s] w fun e w'=>e = .returned (.tuple #[elC x' y' a' b' d',.int .i64 k])∧Below w.heap.size w w':=by
 have:=at_c x y a b d t u v s w
 rw [h] at this;exact this
theorem atE_ok {e g:El} {t u v s:Int} (h:atE e t u v s=(g,0)):growE e (v*ticksE t u s)=(g,0):=by
 unfold atE at h;split at h
 ·exact (ageE_ok h).1
 ·injection h with _ h2;cases h2
def mergeE (e f:El):El × Int:=if f.may=true then (if (gfuseE e f).2=0 then ((gfuseE e f).1,0) else (f,0)) else (El.zero,1)
theorem mergeE_no (e f:El) (h:f.may=false):mergeE e f=(El.zero,1):=by unfold mergeE;rw [h,if_neg (by decide)]
theorem merge_holds (e f:El) (hf:f.may=true) (p q:Int) {m:El} {k:Int} (h:mergeE e f=(m,k)) :
  k=0∧m.may=true∧m.tr≤f.tr∧(f.has p q=true→(e.may=true→e.has p q=true)→m.has p q=true):=by
 unfold mergeE at h
 rw [if_pos hf] at h
 obtain ⟨g,l,hg⟩:∃ g l,gfuseE e f=(g,l):=⟨_,_,rfl⟩
 rw [hg] at h
 simp only at h
 cases he:e.may with
 | false =>
  rw [gfuse_no e f (.inl he)] at hg
  injection hg with h1 h2
  subst h2
  rw [if_neg (by decide)] at h
  injection h with h3 h4
  subst h3;subst h4
  exact ⟨rfl,hf,Int.le_refl _,fun h _=>h⟩
 | true =>
  rcases gholds e f he hf p q hg with ⟨h1,h2⟩|⟨h1,h2,h3,h4,h5⟩
  ·rw [if_neg (by omega)] at h
   injection h with h3 h4
   subst h3;subst h4
   exact ⟨rfl,hf,Int.le_refl _,fun h _=>h⟩
  ·rw [if_pos h1] at h
   injection h with h6 h7
   subst h6;subst h7
   exact ⟨rfl,h3,h5,fun a b=>h2 (b rfl) a⟩
theorem merge_c (x y a b d x' y' a' b' d':Int) (w:World) :
  Calls Tryz.prog 17 #[elC x y a b d,elC x' y' a' b' d'] w fun e w'=>e = .returned (.tuple #[elV (mergeE ⟨x,y,a,b,d⟩ ⟨x',y',a',b',d'⟩).1,.int .i64 (mergeE ⟨x,y,a,b,d⟩ ⟨x',y',a',b',d'⟩).2])∧Below w.heap.size w w':=by
 cases hf:El.may ⟨x',y',a',b',d'⟩ with
 | false =>
  have HF:=Lib.hid hf
  have EV:=Lib.hid (mergeE_no ⟨x,y,a,b,d⟩ _ hf)
  clear hf
  go_enter Tryz.func17,Tryz.ntmps17
  go_wp2_with fail
  refine (ellmay_e _ _ HF.out _).mono ?_;rintro e w1 ⟨rfl,hb1⟩;have z_w1:=hb1.size;(try simp at z_w1);obtain ⟨yw1aa,cw1aa,fw1aa,rw1aa,tw1aa,pw1aa⟩:=bq hb1 (w.heap.size);obtain ⟨yw1ab,cw1ab,fw1ab,rw1ab,tw1ab,pw1ab⟩:=bq hb1 (w.heap.size+1);obtain ⟨yw1ac,cw1ac,fw1ac,rw1ac,tw1ac,pw1ac⟩:=bq hb1 (w.heap.size+1+1)
  go_wp2_with fail
  exact bodyPost_row_t 5 #[.int .i64 0,.int .i64 0,.int .i64 0,.int .i64 0,.int .i64 0] (.int .i64 1) rfl rfl rfl rfl Tryz.underlying35 rfl (by kernel_rfl) (rc5 (by go_simp) (by go_simp) (by go_simp) (by go_simp) (by go_simp)) ⟨by rw [EV.out];rfl,below_byR⟩
 | true =>
  have HF:=Lib.hid hf
  obtain ⟨⟨ox,oy,oa,ob,od⟩,k,hg⟩:∃ o k,gfuseE ⟨x,y,a,b,d⟩ ⟨x',y',a',b',d'⟩=(o,k):=⟨_,_,rfl⟩
  have HG:=Lib.hid hg
  by_cases hk:k=0
  ·subst hk
   have EV:Hid (mergeE ⟨x,y,a,b,d⟩ ⟨x',y',a',b',d'⟩=(⟨ox,oy,oa,ob,od⟩,0)):=by show _=_;unfold mergeE;rw [if_pos hf,hg,if_pos rfl]
   clear hf hg
   go_enter Tryz.func17,Tryz.ntmps17
   go_wp2_with fail
   refine (ellmay_e _ _ HF.out _).mono ?_;rintro e w1 ⟨rfl,hb1⟩;have z_w1:=hb1.size;(try simp at z_w1);obtain ⟨yw1aa,cw1aa,fw1aa,rw1aa,tw1aa,pw1aa⟩:=bq hb1 (w.heap.size);obtain ⟨yw1ab,cw1ab,fw1ab,rw1ab,tw1ab,pw1ab⟩:=bq hb1 (w.heap.size+1);obtain ⟨yw1ac,cw1ac,fw1ac,rw1ac,tw1ac,pw1ac⟩:=bq hb1 (w.heap.size+1+1)
   go_wp2_with fail
   refine (gfuse_v _ _ _ _ _ _ _ _ _ _ _ _ _ _ _ _ HG.out _).mono ?_;rintro e w2 ⟨rfl,hb2⟩;have z_w2:=hb2.size;(try simp at z_w2);obtain ⟨yw2aa,cw2aa,fw2aa,rw2aa,tw2aa,pw2aa⟩:=bq hb2 (w.heap.size);obtain ⟨yw2ab,cw2ab,fw2ab,rw2ab,tw2ab,pw2ab⟩:=bq hb2 (w.heap.size+1);obtain ⟨yw2ac,cw2ac,fw2ac,rw2ac,tw2ac,pw2ac⟩:=bq hb2 (w.heap.size+1+1)
   go_wp2_with fail
   exact bodyPost_row_t 5 #[.int .i64 ox,.int .i64 oy,.int .i64 oa,.int .i64 ob,.int .i64 od] (.int .i64 0) rfl rfl rfl rfl Tryz.underlying35 rfl (by kernel_rfl) (rc5 (by go_simp) (by go_simp) (by go_simp) (by go_simp) (by go_simp)) ⟨by rw [EV.out],below_byR⟩
  ·have EV:Hid (mergeE ⟨x,y,a,b,d⟩ ⟨x',y',a',b',d'⟩=(⟨x',y',a',b',d'⟩,0)):=by show _=_;unfold mergeE;rw [if_pos hf,hg,if_neg hk]
   have hk2:(k==0)=false:=by simp [hk]
   clear hf hg
   go_enter Tryz.func17,Tryz.ntmps17
   go_wp2_with fail
   refine (ellmay_e _ _ HF.out _).mono ?_;rintro e w1 ⟨rfl,hb1⟩;have z_w1:=hb1.size;(try simp at z_w1);obtain ⟨yw1aa,cw1aa,fw1aa,rw1aa,tw1aa,pw1aa⟩:=bq hb1 (w.heap.size);obtain ⟨yw1ab,cw1ab,fw1ab,rw1ab,tw1ab,pw1ab⟩:=bq hb1 (w.heap.size+1);obtain ⟨yw1ac,cw1ac,fw1ac,rw1ac,tw1ac,pw1ac⟩:=bq hb1 (w.heap.size+1+1)
   go_wp2_with fail
   refine (gfuse_v _ _ _ _ _ _ _ _ _ _ _ _ _ _ _ _ HG.out _).mono ?_;rintro e w2 ⟨rfl,hb2⟩;have z_w2:=hb2.size;(try simp at z_w2);obtain ⟨yw2aa,cw2aa,fw2aa,rw2aa,tw2aa,pw2aa⟩:=bq hb2 (w.heap.size);obtain ⟨yw2ab,cw2ab,fw2ab,rw2ab,tw2ab,pw2ab⟩:=bq hb2 (w.heap.size+1);obtain ⟨yw2ac,cw2ac,fw2ac,rw2ac,tw2ac,pw2ac⟩:=bq hb2 (w.heap.size+1+1)
   go_wp2_with fail
   exact bodyPost_row_t 5 #[.int .i64 x',.int .i64 y',.int .i64 a',.int .i64 b',.int .i64 d'] (.int .i64 0) rfl rfl rfl rfl Tryz.underlying35 rfl (by kernel_rfl) (rc5 (by go_simp) (by go_simp) (by go_simp) (by go_simp) (by go_simp)) ⟨by rw [EV.out],below_byR⟩
theorem merge_v (x y a b d x' y' a' b' d' ox oy oa ob od k:Int) (h:mergeE ⟨x,y,a,b,d⟩ ⟨x',y',a',b',d'⟩=(⟨ox,oy,oa,ob,od⟩,k)) (w:World) :
  Calls Tryz.prog 17 #[elC x y a b d,elC x' y' a' b' d'] w fun e w'=>e = .returned (.tuple #[elC ox oy oa ob od,.int .i64 k])∧Below w.heap.size w w':=by
 have:=merge_c x y a b d x' y' a' b' d' w
 rw [h] at this;exact this
def Leq (e o:El):Prop:=∀ h k,form e.a e.b e.d h k≤form o.a o.b o.d h k
theorem Leq.refl (e:El):Leq e e:=fun _ _=>Int.le_refl _
theorem Leq.trans {e f o:El} (h:Leq e f) (h':Leq f o):Leq e o:=fun a b=>Int.le_trans (h a b) (h' a b)
theorem Leq.tr {e o:El} (h:Leq e o) (he:e.may=true) (ho:o.may=true):e.tr≤o.tr:=by
 have h1:=h 1 0
 have h2:=h 0 1
 unfold form at h1 h2
 unfold El.tr
 rw [if_pos he,if_pos ho]
 omega
theorem Leq.of_sum {e f o:El} (h:sumE e f=(o,0)):Leq e o:=by
 intro x y
 have h1:=psd_form _ _ _ x y (sum_least h)
 have e1:form (o.a-e.a) (o.b-e.b) (o.d-e.d) x y=form o.a o.b o.d x y-form e.a e.b e.d x y:=by unfold form;grind
 omega
theorem Leq.of_grow {e g:El} {r:Int} (h:growE e r=(g,0)):Leq e g∧g.x=e.x∧g.y=e.y∧g.may=true:=by
 obtain ⟨he,h0,h1,⟨h2,h3⟩|⟨h2,h3⟩⟩:=growE_ok h
 ·subst h3;exact ⟨Leq.refl _,rfl,rfl,he⟩
 ·have m:=grow_more h (by omega)
  exact ⟨Leq.of_sum h3,m.1,m.2.1,m.2.2.2⟩
theorem cs_two (a b d x y u v:Int) (hd:0≤a*d-b*b) :
  (u*(a*x+b*y)+v*(b*x+d*y))*(u*(a*x+b*y)+v*(b*x+d*y))≤form a b d u v*form a b d x y:=by
 have e:form a b d u v*form a b d x y-(u*(a*x+b*y)+v*(b*x+d*y))*(u*(a*x+b*y)+v*(b*x+d*y))=(a*d-b*b)*((u*y-v*x)*(u*y-v*x)):=by unfold form;grind
 have:=Int.mul_nonneg hd (int_sq_nonneg (u*y-v*x))
 omega
theorem el_det (e:El) (he:e.may=true):0<e.a∧0<e.d∧0<e.a*e.d-e.b*e.b:=by
 obtain ⟨h1,h2,h3,h4⟩:=may_of e he
 have a1:0<e.d:=h1
 have a2:0<e.a:=h2
 have a3:0<e.a*e.d-e.b*e.b:=h4
 exact ⟨a2,a1,a3⟩
theorem sq_le_cancel {s c:Int} (hs:0≤s) (hc:0≤c) (h:s*s≤s*c):s≤c:=by
 rcases Int.lt_or_eq_of_le hs with h1|h1
 ·exact Int.le_of_mul_le_mul_left h h1
 ·omega
theorem adj_le {e P:El} (he:e.may=true) (hP:P.may=true) (hL:Leq e P) (h k:Int) :
  form P.d (-P.b) P.a (e.a*h+e.b*k) (e.b*h+e.d*k)≤(P.a*P.d-P.b*P.b)*form e.a e.b e.d h k:=by
 obtain ⟨g1,hg1⟩:∃ g,e.a*h+e.b*k=g:=⟨_,rfl⟩
 obtain ⟨g2,hg2⟩:∃ g,e.b*h+e.d*k=g:=⟨_,rfl⟩
 rw [hg1,hg2]
 have de:=el_det e he
 have dP:=el_det P hP
 obtain ⟨u1,hu1⟩:∃ u,P.d*g1-P.b*g2=u:=⟨_,rfl⟩
 obtain ⟨u2,hu2⟩:∃ u,P.a*g2-P.b*g1=u:=⟨_,rfl⟩
 obtain ⟨N,hN⟩:∃ N,P.a*P.d-P.b*P.b=N:=⟨_,rfl⟩
 obtain ⟨s,hs⟩:∃ s,form P.d (-P.b) P.a g1 g2=s:=⟨_,rfl⟩
 have s1:u1*g1+u2*g2=s:=by rw [← hs,← hu1,← hu2];unfold form;grind
 have s0:0≤s:=by rw [← hs];exact form_el_nonneg P hP g1 g2
 have f1:form P.a P.b P.d u1 u2=N*s:=by rw [← s1,← hN,← hu1,← hu2];unfold form;grind
 have c1:=cs_two e.a e.b e.d h k u1 u2 (by omega)
 rw [hg1,hg2,s1] at c1
 have c2:=hL u1 u2
 rw [f1] at c2
 have F0:0≤form e.a e.b e.d h k:=form_pos _ _ _ _ _ de.1 de.2.2
 have c3:=Int.mul_le_mul_of_nonneg_right c2 F0
 rw [hs,hN]
 refine sq_le_cancel s0 (Int.mul_nonneg (by omega) F0) ?_
 have e1:s*(N*form e.a e.b e.d h k)=N*s*form e.a e.b e.d h k:=by grind
 omega
theorem mix_leq {e P Q:El} (he:e.may=true) (hP:P.may=true) (hQ:Q.may=true) (lP:Leq e P) (lQ:Leq e Q) (k:Int) (h0:0≤k) (h1:k≤34)
  (hA:0<(mixI (ofEl P) (ofEl Q) k).A) (hd:0<(mixI (ofEl P) (ofEl Q) k).d) (x y:Int) :
  (mixI (ofEl P) (ofEl Q) k).d*form e.a e.b e.d x y≤(mixI (ofEl P) (ofEl Q) k).N*form (mixI (ofEl P) (ofEl Q) k).D (-(mixI (ofEl P) (ofEl Q) k).B) (mixI (ofEl P) (ofEl Q) k).A x y:=by
 obtain ⟨g1,hg1⟩:∃ g,e.a*x+e.b*y=g:=⟨_,rfl⟩
 obtain ⟨g2,hg2⟩:∃ g,e.b*x+e.d*y=g:=⟨_,rfl⟩
 have aP:=adj_le he hP lP x y
 have aQ:=adj_le he hQ lQ x y
 rw [hg1,hg2] at aP aQ
 have de:=el_det e he
 have dP:=el_det P hP
 have dQ:=el_det Q hQ
 obtain ⟨F,hF⟩:∃ F,form e.a e.b e.d x y=F:=⟨_,rfl⟩
 have F0:0≤F:=by rw [← hF];exact form_pos _ _ _ _ _ de.1 de.2.2
 have F1:x*g1+y*g2=F:=by rw [← hF,← hg1,← hg2];unfold form;grind
 rw [hF] at aP aQ ⊢
 obtain ⟨NP,hNP⟩:∃ N,P.a*P.d-P.b*P.b=N:=⟨_,rfl⟩
 obtain ⟨NQ,hNQ⟩:∃ N,Q.a*Q.d-Q.b*Q.b=N:=⟨_,rfl⟩
 rw [hNP] at aP dP
 rw [hNQ] at aQ dQ
 have nP:(ofEl P).N=NP:=hNP
 have nQ:(ofEl Q).N=NQ:=hNQ
 obtain ⟨A,hAe⟩:∃ A,(mixI (ofEl P) (ofEl Q) k).A=A:=⟨_,rfl⟩
 obtain ⟨B,hBe⟩:∃ A,(mixI (ofEl P) (ofEl Q) k).B=A:=⟨_,rfl⟩
 obtain ⟨D,hDe⟩:∃ A,(mixI (ofEl P) (ofEl Q) k).D=A:=⟨_,rfl⟩
 have eA:A=P.d*(k*NQ)+Q.d*((34-k)*NP):=by rw [← hAe,← nP,← nQ];rfl
 have eB:B = -P.b*(k*NQ) + -Q.b*((34-k)*NP):=by rw [← hBe,← nP,← nQ];rfl
 have eD:D=P.a*(k*NQ)+Q.a*((34-k)*NP):=by rw [← hDe,← nP,← nQ];rfl
 have eN:(mixI (ofEl P) (ofEl Q) k).N=34*(NP*NQ):=by rw [← nP,← nQ];rfl
 have ed:(mixI (ofEl P) (ofEl Q) k).d=A*D-B*B:=by rw [← hAe,← hBe,← hDe];rfl
 rw [eN,hAe,hBe,hDe,ed]
 rw [hAe] at hA
 rw [ed] at hd
 have q1:form A B D g1 g2≤34*(NP*NQ)*F:=by
  have e1:form A B D g1 g2=k*NQ*form P.d (-P.b) P.a g1 g2+(34-k)*NP*form Q.d (-Q.b) Q.a g1 g2:=by rw [eA,eB,eD];unfold form;grind
  have r1:=Int.mul_le_mul_of_nonneg_left aP (Int.mul_nonneg h0 (by omega:0≤NQ))
  have r2:=Int.mul_le_mul_of_nonneg_left aQ (Int.mul_nonneg (by omega:0≤34-k) (by omega:0≤NP))
  have e2:k*NQ*(NP*F)+(34-k)*NP*(NQ*F)=34*(NP*NQ)*F:=by grind
  omega
 have c:=cs_form A B D g1 g2 x y hA hd
 have e3:g1*x+g2*y=F:=by rw [← F1];grind
 rw [e3] at c
 have hD0:0<D:=by
  rcases Int.lt_or_le 0 D with h5|h5
  ·exact h5
  ·have h6:=Int.mul_nonneg (show 0≤A by omega) (show 0 ≤ -D by omega)
   have h7:=int_sq_nonneg B
   have h8:A * -D = -(A*D):=by grind
   omega
 have G0:0≤form D (-B) A x y:=by
  refine form_pos _ _ _ _ _ hD0 ?_
  have h10:D*A - -B * -B=A*D-B*B:=by grind
  omega
 obtain ⟨G,hG⟩:∃ G,form D (-B) A x y=G:=⟨_,rfl⟩
 rw [hG] at c G0 ⊢
 have r3:=Int.mul_le_mul_of_nonneg_right q1 G0
 have c2:(A*D-B*B)*(F*F)≤34*(NP*NQ)*F*G:=Int.le_trans c r3
 rcases Int.lt_or_eq_of_le F0 with h5|h5
 ·have e4:(A*D-B*B)*(F*F)=F*((A*D-B*B)*F):=by grind
  have e5:34*(NP*NQ)*F*G=F*(34*(NP*NQ)*G):=by grind
  rw [e4,e5] at c2
  exact Int.le_of_mul_le_mul_left c2 h5
 ·rw [← h5,Int.mul_zero]
  exact Int.mul_nonneg (Int.mul_nonneg (by decide) (Int.mul_nonneg (by omega) (by omega))) G0
theorem near_exact (d c:Int) (hd:0<d):(2*(d*c)+d).fdiv (2*d)=c:=by
 have f:=floor_spec (2*(d*c)+d) (2*d) (by omega)
 obtain ⟨q,hq⟩:∃ q,(2*(d*c)+d).fdiv (2*d)=q:=⟨_,rfl⟩
 rw [hq] at f ⊢
 have e1:2*d*q=d*(2*q):=by grind
 have e2:2*(d*c)=d*(2*c):=by grind
 rw [e1,e2] at f
 have h1 : d * (2 * q) < d * (2 * c + 2) := by have e3 : d * (2 * c + 2) = d * (2 * c) + 2 * d := by grind
                                               omega
 have h2 : d * (2 * c) < d * (2 * q + 2) := by have e3 : d * (2 * q + 2) = d * (2 * q) + 2 * d := by grind
                                               omega
 have h3:=Int.lt_of_mul_lt_mul_left h1 (by omega)
 have h4:=Int.lt_of_mul_lt_mul_left h2 (by omega)
 omega
theorem fuse_leq {e P Q o:El} (he:e.may=true) (hP:P.may=true) (hQ:Q.may=true) (lP:Leq e P) (lQ:Leq e Q) (xP:P.x=e.x) (yP:P.y=e.y) (xQ:Q.x=e.x) (yQ:Q.y=e.y) (k:Int) (h0:0≤k) (h1:k≤34)
  (ho:fuseE P Q k=(o,0)):Leq e o∧o.x=e.x∧o.y=e.y∧o.may=true:=by
 rw [fuseE_may P Q k hP hQ h0 h1] at ho
 have ML:=mix_leq he hP hQ lP lQ k h0 h1
 obtain ⟨i,hi⟩:∃ i,mixI (ofEl P) (ofEl Q) k=i:=⟨_,rfl⟩
 have iU:i.U=i.A*e.x+i.B*e.y:=by rw [← hi];unfold mixI ofEl;simp only;rw [xP,yP,xQ,yQ];grind
 have iV:i.V=i.B*e.x+i.D*e.y:=by rw [← hi];unfold mixI ofEl;simp only;rw [xP,yP,xQ,yQ];grind
 have iZ:i.Z=i.A*(e.x*e.x)+i.D*(e.y*e.y)+2*(i.B*(e.x*e.y)):=by rw [← hi];unfold mixI ofEl;simp only;rw [xP,yP,xQ,yQ];grind
 rw [hi] at ML ho
 have ix:i.x=i.d*e.x:=by unfold Iq.x Iq.d;rw [iU,iV];grind
 have iy:i.y=i.d*e.y:=by unfold Iq.y Iq.d;rw [iU,iV];grind
 have il:i.lv=i.N*i.d:=by unfold Iq.lv Iq.d;rw [iU,iV,iZ];grind
 unfold ellI at ho
 split at ho
 ·injection ho with _ h2;cases h2
 ·rename_i h2
  have hA:0<i.A:=by omega
  have hd:0<i.d:=by omega
  split at ho
  ·injection ho with _ h2;cases h2
  ·obtain ⟨hz,hg⟩:=ellEnd_ok ho
   have f1:=fitI_err ((2*i.x+i.d).fdiv (2*i.d))
   have f2:=fitI_err ((2*i.y+i.d).fdiv (2*i.d))
   have f3:=fitI_err (cdiv (i.lv*i.D) (i.d*i.d))
   have f4:=fitI_err (cdiv (i.lv*i.A) (i.d*i.d))
   have f5:=fitI_err ((-(i.lv*i.B)).fdiv (i.d*i.d))
   have g1:(nearI i.x i.d).2=0:=by unfold nearI ceilI floorI at *;omega
   have g2:(nearI i.y i.d).2=0:=by unfold nearI ceilI floorI at *;omega
   have g3:(ceilI (i.lv*i.D) (i.d*i.d)).2=0:=by unfold nearI ceilI floorI at *;omega
   have g4:(ceilI (i.lv*i.A) (i.d*i.d)).2=0:=by unfold nearI ceilI floorI at *;omega
   have g5:(floorI (-(i.lv*i.B)) (i.d*i.d)).2=0:=by unfold nearI ceilI floorI at *;omega
   have v1:(nearI i.x i.d).1=(2*i.x+i.d).fdiv (2*i.d):=fitI_ok g1
   have v2:(nearI i.y i.d).1=(2*i.y+i.d).fdiv (2*i.d):=fitI_ok g2
   have v3:(ceilI (i.lv*i.D) (i.d*i.d)).1=cdiv (i.lv*i.D) (i.d*i.d):=fitI_ok g3
   have v4:(ceilI (i.lv*i.A) (i.d*i.d)).1=cdiv (i.lv*i.A) (i.d*i.d):=fitI_ok g4
   have v5:(floorI (-(i.lv*i.B)) (i.d*i.d)).1=(-(i.lv*i.B)).fdiv (i.d*i.d):=fitI_ok g5
   rw [v1,v2,v3,v4,v5,ix,iy,near_exact _ _ hd,near_exact _ _ hd] at hg
   obtain ⟨lg,gx,gy,gm⟩:=Leq.of_grow hg
   refine ⟨Leq.trans ?_ lg,gx,gy,gm⟩
   intro a b
   have S0:0<i.d*i.d:=Int.mul_pos hd hd
   have c1:=cdiv_spec (i.lv*i.D) (i.d*i.d) S0
   have c2:=cdiv_spec (i.lv*i.A) (i.d*i.d) S0
   have c3:=floor_spec (-(i.lv*i.B)) (i.d*i.d) S0
   have e3 : -(i.lv*i.B)=i.lv * -i.B:=by grind
   have pf:=part_form (i.d*i.d) i.lv i.D (-i.B) i.A (cdiv (i.lv*i.D) (i.d*i.d)) ((-(i.lv*i.B)).fdiv (i.d*i.d)) (cdiv (i.lv*i.A) (i.d*i.d)) a b c1.1 c2.1 (by rw [← e3];exact c3.1) (by rw [← e3];exact c3.2)
   have m:=ML hA hd a b
   have m2:=Int.mul_le_mul_of_nonneg_left m (by omega:0≤i.d)
   rw [il] at pf
   have e4:i.d*(i.N*form i.D (-i.B) i.A a b)=i.N*i.d*form i.D (-i.B) i.A a b:=by grind
   have e5:i.d*(i.d*form e.a e.b e.d a b)=i.d*i.d*form e.a e.b e.d a b:=by grind
   rw [e4,e5] at m2
   rw [il]
   exact Int.le_of_mul_le_mul_left (Int.le_trans m2 pf) S0
theorem at_leq {e g:El} {t u v s:Int} (h:atE e t u v s=(g,0)):Leq e g∧g.x=e.x∧g.y=e.y∧g.may=true:=Leq.of_grow (atE_ok h)
theorem at_has {e g:El} {t u v s:Int} (h:atE e t u v s=(g,0)) (p q:Int) (hp:e.has p q=true):g.has p q=true:=by
 have:=grow_holds (atE_ok h) p q 0 0 hp (by have:=int_sq_nonneg (v*ticksE t u s);omega)
 simpa using this
structure Rum (e:El) (p q:Int) (t:El):Prop where
 may:t.may=true
 leq:Leq e t
 x:t.x=e.x
 y:t.y=e.y
 has:t.has p q=true
theorem Rum.at {e t g:El} {p q a b v s:Int} (h:Rum e p q t) (ha:atE t a b v s=(g,0)):Rum e p q g:=by
 obtain ⟨l,x,y,m⟩:=at_leq ha
 exact ⟨m,h.leq.trans l,x.trans h.x,y.trans h.y,at_has ha p q h.has⟩
theorem Rum.merge {e f g:El} {p q:Int} (he:e.may=true) (hf:Rum e p q f) (hg:Rum e p q g):∃ m,mergeE f g=(m,0)∧Rum e p q m∧m.has p q=true∧e.tr≤m.tr:=by
 obtain ⟨m,k,hm⟩:∃ m k,mergeE f g=(m,k):=⟨_,_,rfl⟩
 obtain ⟨rfl,mm,-,mh⟩:=merge_holds f g hg.may p q hm
 have hm':=hm
 have hh:=mh hg.has (fun _=>hf.has)
 have key:Leq e m∧m.x=e.x∧m.y=e.y:=by
  unfold mergeE at hm
  rw [if_pos hg.may] at hm
  split at hm
  ·rename_i h1
   injection hm with h2 _
   subst h2
   unfold gfuseE at h1 ⊢
   rw [if_pos ⟨hf.may,hg.may⟩] at h1 ⊢
   rcases found_cases f (fuseE f g) [g] with ⟨-,h⟩|⟨o,h,hc,-⟩
   ·rw [h] at h1;cases h1
   ·rw [h]
    rcases hc with rfl|⟨x,x0,x1,hx⟩|hc
    ·exact ⟨hf.leq,hf.x,hf.y⟩
    ·have:=fuse_leq he hf.may hg.may hf.leq hg.leq hf.x hf.y hg.x hg.y x x0 x1 hx
     exact ⟨this.1,this.2.1,this.2.2.1⟩
    ·have:o=g:=by simpa using hc
     subst this;exact ⟨hg.leq,hg.x,hg.y⟩
  ·injection hm with h2 _
   subst h2;exact ⟨hg.leq,hg.x,hg.y⟩
 exact ⟨m,hm',⟨mm,key.1,key.2.1,key.2.2,hh⟩,hh,key.1.tr he mm⟩
end Go.Proofs.YtechbdnhalmobaaGreatDoor
