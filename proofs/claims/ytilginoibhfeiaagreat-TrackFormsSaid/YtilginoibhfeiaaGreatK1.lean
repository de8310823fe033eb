/- The walks of track: time, Ticks, At. -/
import Derived.Test.YtilginoibhfeiaaGreatBE
set_option maxRecDepth 100000
set_option maxHeartbeats 16000000
namespace Go.Proofs.YtilginoibhfeiaaGreat
open Go.RowKit
def timeB (t:Int):Bool:=decide (0≤t∧t≤1000000)
theorem timeB_iff (t:Int):timeB t=true↔0≤t∧t≤1000000:=by unfold timeB;simp
def ticksE (a b s:Int):Int:=if timeB a=true∧timeB b=true∧timeB s=true then max 0 (b-a)+2*s+1 else 0
def atE (e:El) (a b v s:Int):El × Int :=
 if e.may=true∧timeB a=true∧timeB b=true∧timeB s=true∧0≤v∧v≤4194304 then ageE e v (ticksE a b s) else (El.zero,1)
theorem ticksE_le (a b s:Int):0≤ticksE a b s∧ticksE a b s≤3000001:=by
 unfold ticksE;split
 ·rename_i h;simp only [timeB_iff] at h;omega
 ·omega
theorem time_c (t:Int) (w:World) :
  Calls Tryz.prog 129 #[.int .i64 t] w fun e w'=>e = .returned (.bool (timeB t))∧Below w.heap.size w w':=by
 by_cases h1:0≤t
 ·have E:Hid (timeB t=decide (t≤1000000)):=by show _=_;unfold timeB;simp [h1]
  go_enter Tryz.func129,Tryz.ntmps129
  go_wp2
  go_ret
  exact ⟨by rw [E.out];rfl,below_byR⟩
 ·have E:Hid (timeB t=false):=by show _=_;unfold timeB;simp [h1]
  go_enter Tryz.func129,Tryz.ntmps129
  go_wp2
  go_ret
  exact ⟨by rw [E.out];rfl,below_byR⟩
theorem time_v (t:Int) (k:Bool) (h:timeB t=k) (w:World) :
  Calls Tryz.prog 129 #[.int .i64 t] w fun e w'=>e = .returned (.bool k)∧Below w.heap.size w w':=by
 subst h;exact time_c t w
theorem ticks_cases (a b s:Int):timeB a=false∨(timeB a=true∧timeB b=false)∨(timeB a=true∧timeB b=true∧timeB s=false)∨(timeB a=true∧timeB b=true∧timeB s=true):=by
 cases timeB a <;> cases timeB b <;> cases timeB s <;> simp
theorem ticks_c (a b s:Int) (w:World) :
  Calls Tryz.prog 59 #[.int .i64 a,.int .i64 b,.int .i64 s] w fun e w'=>e = .returned (.int .i64 (ticksE a b s))∧Below w.heap.size w w':=by
 rcases ticks_cases a b s with h|⟨h,h'⟩|⟨h,h',h''⟩|⟨h,h',h''⟩
 ·have H:=Lib.hid h
  have E:Hid (ticksE a b s=0):=by show _=_;unfold ticksE;rw [if_neg (by rw [h];simp)]
  clear h
  go_enter Tryz.func59,Tryz.ntmps59
  go_wp2_with fail
  refine (time_v _ _ H.out _).mono ?_;rintro e w1 ⟨rfl,hb1⟩;have s1:=hb1.size
  go_wp2
  go_ret
  exact ⟨by rw [E.out];rfl,below_byR⟩
 ·have H:=Lib.hid h
  have H':=Lib.hid h'
  have E:Hid (ticksE a b s=0):=by show _=_;unfold ticksE;rw [if_neg (by rw [h'];simp)]
  clear h h'
  go_enter Tryz.func59,Tryz.ntmps59
  go_wp2_with fail
  refine (time_v _ _ H.out _).mono ?_;rintro e w1 ⟨rfl,hb1⟩;have s1:=hb1.size
  go_wp2_with fail
  refine (time_v _ _ H'.out _).mono ?_;rintro e w2 ⟨rfl,hb2⟩;have s2:=hb2.size
  go_wp2
  go_ret
  exact ⟨by rw [E.out];rfl,below_byR⟩
 ·have H:=Lib.hid h
  have H':=Lib.hid h'
  have H'':=Lib.hid h''
  have E:Hid (ticksE a b s=0):=by show _=_;unfold ticksE;rw [if_neg (by rw [h''];simp)]
  clear h h' h''
  go_enter Tryz.func59,Tryz.ntmps59
  go_wp2_with fail
  refine (time_v _ _ H.out _).mono ?_;rintro e w1 ⟨rfl,hb1⟩;have s1:=hb1.size
  go_wp2_with fail
  refine (time_v _ _ H'.out _).mono ?_;rintro e w2 ⟨rfl,hb2⟩;have s2:=hb2.size
  go_wp2_with fail
  refine (time_v _ _ H''.out _).mono ?_;rintro e w3 ⟨rfl,hb3⟩;have s3:=hb3.size
  go_wp2
  go_ret
  exact ⟨by rw [E.out];rfl,below_byR⟩
 ·have H:=Lib.hid h
  have H':=Lib.hid h'
  have H'':=Lib.hid h''
  have E:Hid (ticksE a b s=max 0 (b-a)+2*s+1):=by show _=_;unfold ticksE;rw [if_pos ⟨h,h',h''⟩]
  obtain ⟨a1,a2⟩:=(timeB_iff a).1 h
  obtain ⟨b1,b2⟩:=(timeB_iff b).1 h'
  obtain ⟨q1,q2⟩:=(timeB_iff s).1 h''
  clear h h' h''
  go_enter Tryz.func59,Tryz.ntmps59
  go_wp2_with fail
  refine (time_v _ _ H.out _).mono ?_;rintro e w1 ⟨rfl,hb1⟩;have s1:=hb1.size
  go_wp2_with fail
  refine (time_v _ _ H'.out _).mono ?_;rintro e w2 ⟨rfl,hb2⟩;have s2:=hb2.size
  go_wp2_with fail
  refine (time_v _ _ H''.out _).mono ?_;rintro e w3 ⟨rfl,hb3⟩;have s3:=hb3.size
  go_wp2
  go_ret
  exact ⟨by rw [E.out];rfl,below_byR⟩
theorem ticks_v (a b s k:Int) (h:ticksE a b s=k) (w:World) :
  Calls Tryz.prog 59 #[.int .i64 a,.int .i64 b,.int .i64 s] w fun e w'=>e = .returned (.int .i64 k)∧Below w.heap.size w w':=by
 subst h;exact ticks_c a b s w
theorem at_cases (m:Bool) (a b v s:Int):m=false∨(m=true∧timeB a=false)∨(m=true∧timeB a=true∧timeB b=false)∨(m=true∧timeB a=true∧timeB b=true∧timeB s=false) ∨
  (m=true∧timeB a=true∧timeB b=true∧timeB s=true∧v<0)∨(m=true∧timeB a=true∧timeB b=true∧timeB s=true∧¬ v<0∧4194304<v)∨(m=true∧timeB a=true∧timeB b=true∧timeB s=true∧¬ v<0∧¬ 4194304<v):=by
 cases m <;> cases timeB a <;> cases timeB b <;> cases timeB s <;> simp <;> omega
theorem at_c (x y a b d t u v s:Int) (w:World) :
  Calls Tryz.prog 56 #[elC x y a b d,.int .i64 t,.int .i64 u,.int .i64 v,.int .i64 s] w fun e w'=>e = .returned (.tuple #[elV (atE ⟨x,y,a,b,d⟩ t u v s).1,.int .i64 (atE ⟨x,y,a,b,d⟩ t u v s).2])∧Below w.heap.size w w':=by
 obtain ⟨m,hm⟩:∃ m,El.may ⟨x,y,a,b,d⟩=m:=⟨_,rfl⟩
 have HM:=Lib.hid hm
 rcases at_cases m t u v s with rfl|⟨rfl,h1⟩|⟨rfl,h1,h2⟩|⟨rfl,h1,h2,h3⟩|⟨rfl,h1,h2,h3,h4⟩|⟨rfl,h1,h2,h3,h4,h5⟩|⟨rfl,h1,h2,h3,h4,h5⟩
 case inl =>
  have EV:Hid (atE ⟨x,y,a,b,d⟩ t u v s=(El.zero,1)):=by show _=_;unfold atE;rw [if_neg (by rw [hm];simp)]
  clear hm
  go_enter Tryz.func56,Tryz.ntmps56
  go_wp2_with fail
  refine (ellmay_v _ _ _ _ _ _ HM.out _).mono ?_;rintro e w1 ⟨rfl,hb1⟩;have z_w1:=hb1.size;(try simp at z_w1);obtain ⟨yw1aa,cw1aa,fw1aa,rw1aa,tw1aa,pw1aa⟩:=bq hb1 (w.heap.size);obtain ⟨yw1ab,cw1ab,fw1ab,rw1ab,tw1ab,pw1ab⟩:=bq hb1 (w.heap.size+1)
  go_wp2_with fail
  exact bodyPost_row_t 5 #[.int .i64 0,.int .i64 0,.int .i64 0,.int .i64 0,.int .i64 0] (.int .i64 1) rfl rfl rfl rfl Tryz.underlying27 rfl (by kernel_rfl) (rc5 (by go_simp) (by go_simp) (by go_simp) (by go_simp) (by go_simp)) ⟨by rw [EV.out];rfl,below_byR⟩
 case inr.inr.inr.inr.inr.inr =>
  obtain ⟨n,hn⟩:∃ n,ticksE t u s=n:=⟨_,rfl⟩
  have nl:=ticksE_le t u s
  rw [hn] at nl
  obtain ⟨⟨ox,oy,oa,ob,od⟩,k,ho⟩:∃ o k,ageE ⟨x,y,a,b,d⟩ v n=(o,k):=⟨_,_,rfl⟩
  have EV:Hid (atE ⟨x,y,a,b,d⟩ t u v s=(⟨ox,oy,oa,ob,od⟩,k)):=by show _=_;unfold atE;rw [if_pos ⟨hm,h1,h2,h3,by omega,by omega⟩,hn,ho]
  have H1:=Lib.hid h1
  have H2:=Lib.hid h2
  have H3:=Lib.hid h3
  have HN:=Lib.hid hn
  have HO:=Lib.hid ho
  have NL:Hid (n≤9223372036854775807):=by show n≤_;omega
  clear hm h1 h2 h3 hn ho nl
  go_enter Tryz.func56,Tryz.ntmps56
  go_wp2_with fail
  refine (ellmay_v _ _ _ _ _ _ HM.out _).mono ?_;rintro e w1 ⟨rfl,hb1⟩;have z_w1:=hb1.size;(try simp at z_w1);obtain ⟨yw1aa,cw1aa,fw1aa,rw1aa,tw1aa,pw1aa⟩:=bq hb1 (w.heap.size);obtain ⟨yw1ab,cw1ab,fw1ab,rw1ab,tw1ab,pw1ab⟩:=bq hb1 (w.heap.size+1)
  go_wp2_with fail
  refine (time_v _ _ H1.out _).mono ?_;rintro e w2 ⟨rfl,hb2⟩;have z_w2:=hb2.size;(try simp at z_w2);obtain ⟨yw2aa,cw2aa,fw2aa,rw2aa,tw2aa,pw2aa⟩:=bq hb2 (w.heap.size);obtain ⟨yw2ab,cw2ab,fw2ab,rw2ab,tw2ab,pw2ab⟩:=bq hb2 (w.heap.size+1)
  go_wp2_with fail
  refine (time_v _ _ H2.out _).mono ?_;rintro e w3 ⟨rfl,hb3⟩;have z_w3:=hb3.size;(try simp at z_w3);obtain ⟨yw3aa,cw3aa,fw3aa,rw3aa,tw3aa,pw3aa⟩:=bq hb3 (w.heap.size);obtain ⟨yw3ab,cw3ab,fw3ab,rw3ab,tw3ab,pw3ab⟩:=bq hb3 (w.heap.size+1)
  go_wp2_with fail
  refine (time_v _ _ H3.out _).mono ?_;rintro e w4 ⟨rfl,hb4⟩;have z_w4:=hb4.size;(try simp at z_w4);obtain ⟨yw4aa,cw4aa,fw4aa,rw4aa,tw4aa,pw4aa⟩:=bq hb4 (w.heap.size);obtain ⟨yw4ab,cw4ab,fw4ab,rw4ab,tw4ab,pw4ab⟩:=bq hb4 (w.heap.size+1)
  go_wp2_with fail
  have c0:=@inw_cell _ _ _ (show w4.cell? ⟨w.heap.size,0,none⟩=some (.int .i64 x) from (by go_simp));have c1:=@inw_cell _ _ _ (show w4.cell? ⟨w.heap.size,1,none⟩=some (.int .i64 y) from (by go_simp));have c2:=@inw_cell _ _ _ (show w4.cell? ⟨w.heap.size,2,none⟩=some (.int .i64 a) from (by go_simp));have c3:=@inw_cell _ _ _ (show w4.cell? ⟨w.heap.size,3,none⟩=some (.int .i64 b) from (by go_simp));have c4:=@inw_cell _ _ _ (show w4.cell? ⟨w.heap.size,4,none⟩=some (.int .i64 d) from (by go_simp))
  refine wp_region_fresh' 9 (fun _=>none) (fun _=>[]) (by kernel_rfl) (by kernel_rfl) ?_;refine ex_list ?_;apply Exists.intro;refine ex_list ?_;apply Exists.intro;refine ex_list ?_;apply Exists.intro;refine ex_list ?_;apply Exists.intro;refine ex_list ?_;apply Exists.intro;refine ex_list ?_;apply Exists.intro;refine ex_list ?_;apply Exists.intro;refine ex_list ?_;apply Exists.intro;refine ex_list ?_;apply Exists.intro;refine ⟨[],fun gg NN hN=>?_⟩;simp only [List.take_succ_cons,List.take_zero,List.drop_succ_cons,List.drop_zero];(repeat (refine lexF_quiet rfl ?_;go_big_quiet_step (first|exact rfl|(first|(go_at_call 59;exact calls_in (ticks_v _ _ _ _ HN.out _))|(go_at_call 130;exact calls_in (age_v _ _ _ _ _ _ _ _ _ _ _ _ _ NL.out HO.out _))));refine wpQuiet_nil ⟨rfl,?_⟩))
  refine lexF_nil ?_
  intro w5 hb5 hh _
  clear hh
  have z_w5:=hb5.size;(try simp at z_w5);obtain ⟨yw5aa,cw5aa,fw5aa,rw5aa,tw5aa,pw5aa⟩:=bq hb5 (w.heap.size);obtain ⟨yw5ab,cw5ab,fw5ab,rw5ab,tw5ab,pw5ab⟩:=bq hb5 (w.heap.size+1)
  go_wp2_with fail
  exact bodyPost_row_t 5 #[.int .i64 ox,.int .i64 oy,.int .i64 oa,.int .i64 ob,.int .i64 od] (.int .i64 k) rfl rfl rfl rfl Tryz.underlying27 rfl (by kernel_rfl) (rc5 (by go_simp) (by go_simp) (by go_simp) (by go_simp) (by go_simp)) ⟨by rw [EV.out],below_byR⟩
 case inr.inl =>
  have EV:Hid (atE ⟨x,y,a,b,d⟩ t u v s=(El.zero,1)):=by show _=_;unfold atE;rw [if_neg (by rintro ⟨-,h,-⟩;rw [h1] at h;cases h)]
  have H1:=Lib.hid h1
  clear hm h1
  go_enter Tryz.func56,Tryz.ntmps56
  go_wp2_with fail
  refine (ellmay_v _ _ _ _ _ _ HM.out _).mono ?_;rintro e w1 ⟨rfl,hb1⟩;have z_w1:=hb1.size;(try simp at z_w1);obtain ⟨yw1aa,cw1aa,fw1aa,rw1aa,tw1aa,pw1aa⟩:=bq hb1 (w.heap.size);obtain ⟨yw1ab,cw1ab,fw1ab,rw1ab,tw1ab,pw1ab⟩:=bq hb1 (w.heap.size+1)
  go_wp2_with fail
  refine (time_v _ _ H1.out _).mono ?_;rintro e w2 ⟨rfl,hb2⟩;have z_w2:=hb2.size;(try simp at z_w2);obtain ⟨yw2aa,cw2aa,fw2aa,rw2aa,tw2aa,pw2aa⟩:=bq hb2 (w.heap.size);obtain ⟨yw2ab,cw2ab,fw2ab,rw2ab,tw2ab,pw2ab⟩:=bq hb2 (w.heap.size+1)
  go_wp2_with fail
  exact bodyPost_row_t 5 #[.int .i64 0,.int .i64 0,.int .i64 0,.int .i64 0,.int .i64 0] (.int .i64 1) rfl rfl rfl rfl Tryz.underlying27 rfl (by kernel_rfl) (rc5 (by go_simp) (by go_simp) (by go_simp) (by go_simp) (by go_simp)) ⟨by rw [EV.out];rfl,below_byR⟩
 case inr.inr.inl =>
  have EV:Hid (atE ⟨x,y,a,b,d⟩ t u v s=(El.zero,1)):=by show _=_;unfold atE;rw [if_neg (by rintro ⟨-,-,h,-⟩;rw [h2] at h;cases h)]
  have H1:=Lib.hid h1
  have H2:=Lib.hid h2
  clear hm h1 h2
  go_enter Tryz.func56,Tryz.ntmps56
  go_wp2_with fail
  refine (ellmay_v _ _ _ _ _ _ HM.out _).mono ?_;rintro e w1 ⟨rfl,hb1⟩;have z_w1:=hb1.size;(try simp at z_w1);obtain ⟨yw1aa,cw1aa,fw1aa,rw1aa,tw1aa,pw1aa⟩:=bq hb1 (w.heap.size);obtain ⟨yw1ab,cw1ab,fw1ab,rw1ab,tw1ab,pw1ab⟩:=bq hb1 (w.heap.size+1)
  go_wp2_with fail
  refine (time_v _ _ H1.out _).mono ?_;rintro e w2 ⟨rfl,hb2⟩;have z_w2:=hb2.size;(try simp at z_w2);obtain ⟨yw2aa,cw2aa,fw2aa,rw2aa,tw2aa,pw2aa⟩:=bq hb2 (w.heap.size);obtain ⟨yw2ab,cw2ab,fw2ab,rw2ab,tw2ab,pw2ab⟩:=bq hb2 (w.heap.size+1)
  go_wp2_with fail
  refine (time_v _ _ H2.out _).mono ?_;rintro e w3 ⟨rfl,hb3⟩;have z_w3:=hb3.size;(try simp at z_w3);obtain ⟨yw3aa,cw3aa,fw3aa,rw3aa,tw3aa,pw3aa⟩:=bq hb3 (w.heap.size);obtain ⟨yw3ab,cw3ab,fw3ab,rw3ab,tw3ab,pw3ab⟩:=bq hb3 (w.heap.size+1)
  go_wp2_with fail
  exact bodyPost_row_t 5 #[.int .i64 0,.int .i64 0,.int .i64 0,.int .i64 0,.int .i64 0] (.int .i64 1) rfl rfl rfl rfl Tryz.underlying27 rfl (by kernel_rfl) (rc5 (by go_simp) (by go_simp) (by go_simp) (by go_simp) (by go_simp)) ⟨by rw [EV.out];rfl,below_byR⟩
 case inr.inr.inr.inl =>
  have EV:Hid (atE ⟨x,y,a,b,d⟩ t u v s=(El.zero,1)):=by show _=_;unfold atE;rw [if_neg (by rintro ⟨-,-,-,h,-⟩;rw [h3] at h;cases h)]
  have H1:=Lib.hid h1
  have H2:=Lib.hid h2
  have H3:=Lib.hid h3
  clear hm h1 h2 h3
  go_enter Tryz.func56,Tryz.ntmps56
  go_wp2_with fail
  refine (ellmay_v _ _ _ _ _ _ HM.out _).mono ?_;rintro e w1 ⟨rfl,hb1⟩;have z_w1:=hb1.size;(try simp at z_w1);obtain ⟨yw1aa,cw1aa,fw1aa,rw1aa,tw1aa,pw1aa⟩:=bq hb1 (w.heap.size);obtain ⟨yw1ab,cw1ab,fw1ab,rw1ab,tw1ab,pw1ab⟩:=bq hb1 (w.heap.size+1)
  go_wp2_with fail
  refine (time_v _ _ H1.out _).mono ?_;rintro e w2 ⟨rfl,hb2⟩;have z_w2:=hb2.size;(try simp at z_w2);obtain ⟨yw2aa,cw2aa,fw2aa,rw2aa,tw2aa,pw2aa⟩:=bq hb2 (w.heap.size);obtain ⟨yw2ab,cw2ab,fw2ab,rw2ab,tw2ab,pw2ab⟩:=bq hb2 (w.heap.size+1)
  go_wp2_with fail
  refine (time_v _ _ H2.out _).mono ?_;rintro e w3 ⟨rfl,hb3⟩;have z_w3:=hb3.size;(try simp at z_w3);obtain ⟨yw3aa,cw3aa,fw3aa,rw3aa,tw3aa,pw3aa⟩:=bq hb3 (w.heap.size);obtain ⟨yw3ab,cw3ab,fw3ab,rw3ab,tw3ab,pw3ab⟩:=bq hb3 (w.heap.size+1)
  go_wp2_with fail
  refine (time_v _ _ H3.out _).mono ?_;rintro e w4 ⟨rfl,hb4⟩;have z_w4:=hb4.size;(try simp at z_w4);obtain ⟨yw4aa,cw4aa,fw4aa,rw4aa,tw4aa,pw4aa⟩:=bq hb4 (w.heap.size);obtain ⟨yw4ab,cw4ab,fw4ab,rw4ab,tw4ab,pw4ab⟩:=bq hb4 (w.heap.size+1)
  go_wp2_with fail
  exact bodyPost_row_t 5 #[.int .i64 0,.int .i64 0,.int .i64 0,.int .i64 0,.int .i64 0] (.int .i64 1) rfl rfl rfl rfl Tryz.underlying27 rfl (by kernel_rfl) (rc5 (by go_simp) (by go_simp) (by go_simp) (by go_simp) (by go_simp)) ⟨by rw [EV.out];rfl,below_byR⟩
 case inr.inr.inr.inr.inl =>
  have EV:Hid (atE ⟨x,y,a,b,d⟩ t u v s=(El.zero,1)):=by show _=_;unfold atE;rw [if_neg (by rintro ⟨-,-,-,-,h,-⟩;omega)]
  have H1:=Lib.hid h1
  have H2:=Lib.hid h2
  have H3:=Lib.hid h3
  clear hm h1 h2 h3
  go_enter Tryz.func56,Tryz.ntmps56
  go_wp2_with fail
  refine (ellmay_v _ _ _ _ _ _ HM.out _).mono ?_;rintro e w1 ⟨rfl,hb1⟩;have z_w1:=hb1.size;(try simp at z_w1);obtain ⟨yw1aa,cw1aa,fw1aa,rw1aa,tw1aa,pw1aa⟩:=bq hb1 (w.heap.size);obtain ⟨yw1ab,cw1ab,fw1ab,rw1ab,tw1ab,pw1ab⟩:=bq hb1 (w.heap.size+1)
  go_wp2_with fail
  refine (time_v _ _ H1.out _).mono ?_;rintro e w2 ⟨rfl,hb2⟩;have z_w2:=hb2.size;(try simp at z_w2);obtain ⟨yw2aa,cw2aa,fw2aa,rw2aa,tw2aa,pw2aa⟩:=bq hb2 (w.heap.size);obtain ⟨yw2ab,cw2ab,fw2ab,rw2ab,tw2ab,pw2ab⟩:=bq hb2 (w.heap.size+1)
  go_wp2_with fail
  refine (time_v _ _ H2.out _).mono ?_;rintro e w3 ⟨rfl,hb3⟩;have z_w3:=hb3.size;(try simp at z_w3);obtain ⟨yw3aa,cw3aa,fw3aa,rw3aa,tw3aa,pw3aa⟩:=bq hb3 (w.heap.size);obtain ⟨yw3ab,cw3ab,fw3ab,rw3ab,tw3ab,pw3ab⟩:=bq hb3 (w.heap.size+1)
  go_wp2_with fail
  refine (time_v _ _ H3.out _).mono ?_;rintro e w4 ⟨rfl,hb4⟩;have z_w4:=hb4.size;(try simp at z_w4);obtain ⟨yw4aa,cw4aa,fw4aa,rw4aa,tw4aa,pw4aa⟩:=bq hb4 (w.heap.size);obtain ⟨yw4ab,cw4ab,fw4ab,rw4ab,tw4ab,pw4ab⟩:=bq hb4 (w.heap.size+1)
  go_wp2_with fail
  exact bodyPost_row_t 5 #[.int .i64 0,.int .i64 0,.int .i64 0,.int .i64 0,.int .i64 0] (.int .i64 1) rfl rfl rfl rfl Tryz.underlying27 rfl (by kernel_rfl) (rc5 (by go_simp) (by go_simp) (by go_simp) (by go_simp) (by go_simp)) ⟨by rw [EV.out];rfl,below_byR⟩
 case inr.inr.inr.inr.inr.inl =>
  have EV:Hid (atE ⟨x,y,a,b,d⟩ t u v s=(El.zero,1)):=by show _=_;unfold atE;rw [if_neg (by rintro ⟨-,-,-,-,-,h⟩;omega)]
  have H1:=Lib.hid h1
  have H2:=Lib.hid h2
  have H3:=Lib.hid h3
  clear hm h1 h2 h3
  go_enter Tryz.func56,Tryz.ntmps56
  go_wp2_with fail
  refine (ellmay_v _ _ _ _ _ _ HM.out _).mono ?_;rintro e w1 ⟨rfl,hb1⟩;have z_w1:=hb1.size;(try simp at z_w1);obtain ⟨yw1aa,cw1aa,fw1aa,rw1aa,tw1aa,pw1aa⟩:=bq hb1 (w.heap.size);obtain ⟨yw1ab,cw1ab,fw1ab,rw1ab,tw1ab,pw1ab⟩:=bq hb1 (w.heap.size+1)
  go_wp2_with fail
  refine (time_v _ _ H1.out _).mono ?_;rintro e w2 ⟨rfl,hb2⟩;have z_w2:=hb2.size;(try simp at z_w2);obtain ⟨yw2aa,cw2aa,fw2aa,rw2aa,tw2aa,pw2aa⟩:=bq hb2 (w.heap.size);obtain ⟨yw2ab,cw2ab,fw2ab,rw2ab,tw2ab,pw2ab⟩:=bq hb2 (w.heap.size+1)
  go_wp2_with fail
  refine (time_v _ _ H2.out _).mono ?_;rintro e w3 ⟨rfl,hb3⟩;have z_w3:=hb3.size;(try simp at z_w3);obtain ⟨yw3aa,cw3aa,fw3aa,rw3aa,tw3aa,pw3aa⟩:=bq hb3 (w.heap.size);obtain ⟨yw3ab,cw3ab,fw3ab,rw3ab,tw3ab,pw3ab⟩:=bq hb3 (w.heap.size+1)
  go_wp2_with fail
  refine (time_v _ _ H3.out _).mono ?_;rintro e w4 ⟨rfl,hb4⟩;have z_w4:=hb4.size;(try simp at z_w4);obtain ⟨yw4aa,cw4aa,fw4aa,rw4aa,tw4aa,pw4aa⟩:=bq hb4 (w.heap.size);obtain ⟨yw4ab,cw4ab,fw4ab,rw4ab,tw4ab,pw4ab⟩:=bq hb4 (w.heap.size+1)
  go_wp2_with fail
  exact bodyPost_row_t 5 #[.int .i64 0,.int .i64 0,.int .i64 0,.int .i64 0,.int .i64 0] (.int .i64 1) rfl rfl rfl rfl Tryz.underlying27 rfl (by kernel_rfl) (rc5 (by go_simp) (by go_simp) (by go_simp) (by go_simp) (by go_simp)) ⟨by rw [EV.out];rfl,below_byR⟩
theorem at_v (x y a b d t u v s x' y' a' b' d' k:Int) (h:atE ⟨x,y,a,b,d⟩ t u v s=(⟨x',y',a',b',d'⟩,k)) (w:World) :
  Calls Tryz.prog 56 #[elC x y a b d,.int .i64 t,.int .i64 u,.int .i64 v,.int .i64 s] w fun e w'=>e = .returned (.tuple #[elC x' y' a' b' d',.int .i64 k])∧Below w.heap.size w w':=by
 have:=at_c x y a b d t u v s w
 rw [h] at this;exact this
end Go.Proofs.YtilginoibhfeiaaGreat
