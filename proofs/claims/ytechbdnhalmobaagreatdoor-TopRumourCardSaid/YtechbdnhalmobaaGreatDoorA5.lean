/- Gossip: whose turn it is; what is too old. -/
import Derived.Test.YtechbdnhalmobaaGreatDoorAc
import Derived.BigRegion
namespace Go.Proofs.YtechbdnhalmobaaGreatDoor
set_option maxRecDepth 100000
set_option maxHeartbeats 16000000
set_option linter.unusedSimpArgs false
set_option linter.unusedVariables false
open Go.RowKit
def IntsL (w:World) (A:Option Addr) (l:List Int):Prop :=
 ∀ i:Nat,i<l.length→∃ b o,A=some ⟨b,o,none⟩∧b<w.heap.size∧w.cell? ⟨b,o+i,none⟩=some (.int .i64 (l.getD i 0))
def nxAt (after:Int) (l:List Int) (k:Nat):NxD:=(l.take k).foldl (nxStep after) ⟨0,false,0,false⟩
theorem nxAt_succ (after:Int) (l:List Int) (k:Nat) (h:k<l.length):nxAt after l (k+1)=nxStep after (nxAt after l k) (l.getD k 0):=by
 unfold nxAt
 have e:l.take (k+1)=l.take k ++ [l.getD k 0]:=by rw [List.take_add_one,List.getElem?_eq_getElem h];simp [List.getD,h]
 rw [e,List.foldl_append];rfl
theorem next_c (A:Option Addr) (l:List Int) (cap:Nat) (after:Int) (w:World) (hl:l.length≤1000000) (h:IntsL w A l) :
  Calls Tryz.prog 188 #[.slice A l.length cap,.int .i64 after] w fun e w'=>e = .returned (.tuple #[.int .i64 (nextF l after).1,.bool (nextF l after).2])∧w'=w:=by
 have EV:Hid (nextF l after=if (nxAt after l l.length).behind then ((nxAt after l l.length).next,true) else ((nxAt after l l.length).least,(nxAt after l l.length).any)):=by
  show _=_;unfold nextF nxAt;rw [List.take_length]
 have HI:=Lib.hid h
 have hl':(l.length:Int)≤9223372036854775807:=by omega
 clear h
 go_enter Tryz.func188,Tryz.ntmps188
 go_wp2_with fail
 go_loop [6,7,8,9,14] (fun a b c d i=>∃ k:Nat,k≤l.length∧i = .int .i64 k∧∃ s:NxD,Hid (nxAt after l k=s)∧a = .int .i64 s.least∧b = .int .i64 s.next∧c = .bool s.any∧d = .bool s.behind) (fun _ _ _ _ i=>l.length-(intOf i).toNat)
 case atStart=>exact ⟨0,by omega,rfl,⟨0,false,0,false⟩,rfl,rfl,rfl,rfl,rfl⟩
 case round =>
  obtain ⟨k,hk,rfl,⟨least,any,next,behind⟩,HS,rfl,rfl,rfl,rfl⟩:=hrel
  simp only
  by_cases hlt:k<l.length
  ·obtain ⟨b,o,rfl,hb,hc⟩:=HI.out k hlt
   obtain ⟨n,hn⟩:∃ n,l.getD k 0=n:=⟨_,rfl⟩
   rw [hn] at hc
   have E:nxAt after l (k+1)=nxStep after ⟨least,any,next,behind⟩ n:=by rw [nxAt_succ _ _ _ hlt,HS.out,hn]
   have hk1:(k:Int)<(l.length:Int):=by omega
   have hk0:(0:Int)≤k:=by omega
   have hk3:=Lib.hid hlt
   clear hn hlt
   rcases any with _|_ <;> rcases behind with _|_ <;> by_cases h1:n<least <;> by_cases h2:after<n <;> by_cases h3:n<next
   all_goals (simp [nxStep,h1,h2,h3] at E;replace E:=Lib.hid E)
   all_goals go_wp2_with fail
   all_goals go_round
   all_goals (have hlt:=hk3.out)
   all_goals first
    | exact ⟨k+1,by omega,by go_num,_,E,rfl,rfl,rfl,rfl⟩
    | (simp [intOf];omega)
  ·have hk2:¬ (k:Int)<(l.length:Int):=by omega
   obtain rfl:k=l.length:=by omega
   rw [HS.out] at EV
   cases behind with
   | true =>
    go_wp2_with fail
    go_ret2
    exact ⟨by rw [EV.out];rfl,rfl⟩
   | false =>
    go_wp2_with fail
    go_ret2
    exact ⟨by rw [EV.out];rfl,rfl⟩
theorem gtime_c (t:Int) (h0:0≤t) (h1:t≤1000000) (w:World):Calls Tryz.prog 251 #[.int .i64 t] w fun e w'=>e = .returned (.bool true)∧w'=w:=by
 go_enter Tryz.func251,Tryz.ntmps251
 go_wp2
 go_ret
 exact ⟨by simp [h1],rfl⟩
theorem fresh_c (stamp now stale skew:Int) (k:Int) (hk:freshF stamp now stale skew=k) (h1:0≤stamp∧stamp≤1000000) (h2:0≤now∧now≤1000000) (h3:0≤stale∧stale≤1000000) (h4:0≤skew∧skew≤1000000) (w:World) :
  Calls Tryz.prog 194 #[.int .i64 stamp,.int .i64 now,.int .i64 stale,.int .i64 skew] w fun e w'=>e = .returned (.int .i64 k)∧w'=w:=by
 have E:freshF stamp now stale skew=if stamp+stale<now∨now+2*skew<stamp then 9 else 0:=by
  unfold freshF;rw [if_neg];simp [timeB,h1,h2,h3,h4]
 rw [E] at hk
 clear E
 obtain ⟨⟨h11,h12⟩,⟨h21,h22⟩,⟨h31,h32⟩,⟨h41,h42⟩⟩:=And.intro h1 (And.intro h2 (And.intro h3 h4))
 clear h1 h2 h3 h4
 have w1:IntKind.i64.wrap (stamp+stale)=stamp+stale:=by rw [IntKind.wrap_i64];omega
 have w2:IntKind.i64.wrap (2*skew)=2*skew:=by rw [IntKind.wrap_i64];omega
 have w3:IntKind.i64.wrap (now+2*skew)=now+2*skew:=by rw [IntKind.wrap_i64];omega
 by_cases c1:stamp+stale<now
 ·rw [if_pos (.inl c1)] at hk
  subst hk
  go_enter Tryz.func194,Tryz.ntmps194
  go_wp2_with (first|(go_at_call 251;refine (gtime_c _ (by omega) (by omega) _).mono ?_;rintro e w' ⟨rfl,rfl⟩))
  go_ret
  exact ⟨rfl,rfl⟩
 ·by_cases c2:now+2*skew<stamp
  ·rw [if_pos (.inr c2)] at hk
   subst hk
   go_enter Tryz.func194,Tryz.ntmps194
   go_wp2_with (first|(go_at_call 251;refine (gtime_c _ (by omega) (by omega) _).mono ?_;rintro e w' ⟨rfl,rfl⟩))
   go_ret
   exact ⟨rfl,rfl⟩
  ·rw [if_neg (fun h=>h.elim c1 c2)] at hk
   subst hk
   go_enter Tryz.func194,Tryz.ntmps194
   go_wp2_with (first|(go_at_call 251;refine (gtime_c _ (by omega) (by omega) _).mono ?_;rintro e w' ⟨rfl,rfl⟩))
   go_ret
   exact ⟨rfl,rfl⟩
abbrev flt (most:Int) (v:Bool) (x y a b d:Int):Array Value:=#[.int .i64 most,.bool v,.int .i64 x,.int .i64 y,.int .i64 a,.int .i64 b,.int .i64 d]
theorem new_c (n:Int) (w:World):Calls Tryz.prog 117 #[.int .i64 n] w fun e w'=>∃ g,e = .returned (.pointer (some ⟨g,0,none⟩))∧w.heap.size≤g∧Blk w' g (flt (max 2 n) false 0 0 0 0 0) 119∧Below w.heap.size w w':=by
 go_enter Tryz.func117,Tryz.ntmps117
 go_wp2_with fail
 go_ret
 exact ⟨_,rfl,(by first|omega|(simp;done)|(simp;omega)|fail),Blk.new _ _ _,below_byR⟩
section
variable (g:Nat) (m:Int) (v:Bool) (x y a b d:Int) (w:World) (B:Blk w g (flt m v x y a b d) 119)
include B
theorem valid_c:Calls Tryz.prog 25 #[.pointer (some ⟨g,0,none⟩)] w fun e w'=>e = .returned (.bool v)∧Below w.heap.size w w':=by
 obtain ⟨y1,c1,f1,r1⟩:=(show g<w.heap.size∧(∀ o,w.cell? ⟨g,o,none⟩=(flt m v x y a b d)[o]?)∧(∀ o,w.frozen? ⟨g,o,none⟩=false)∧w.row? g 0 7=some (flt m v x y a b d) from ⟨B.lt,B.at,B.frozen,B.row?_all _ rfl⟩)
 go_enter Tryz.func25,Tryz.ntmps25
 go_wp2_with fail
 go_ret
 exact ⟨rfl,below_byR⟩
theorem e_c:Calls Tryz.prog 26 #[.pointer (some ⟨g,0,none⟩)] w fun e w'=>e = .returned (elC x y a b d)∧Below w.heap.size w w':=by
 obtain ⟨y1,c1,f1,r1⟩:=(show g<w.heap.size∧(∀ o,w.cell? ⟨g,o,none⟩=(flt m v x y a b d)[o]?)∧(∀ o,w.frozen? ⟨g,o,none⟩=false)∧w.row? g 0 7=some (flt m v x y a b d) from ⟨B.lt,B.at,B.frozen,B.row?_all _ rfl⟩)
 go_enter Tryz.func26,Tryz.ntmps26
 go_wp2_with fail
 exact bodyPost_row 5 #[.int .i64 x,.int .i64 y,.int .i64 a,.int .i64 b,.int .i64 d] rfl rfl rfl Tryz.underlying35 rfl (by kernel_rfl) (rc5 (by go_simp) (by go_simp) (by go_simp) (by go_simp) (by go_simp)) ⟨rfl,below_byR⟩
theorem lose_c:Calls Tryz.prog 130 #[.pointer (some ⟨g,0,none⟩)] w fun e w'=>e = .returned (.tuple #[])∧OnlyAt g w w'∧Blk w' g (flt m false 0 0 0 0 0) 119:=by
 obtain ⟨y1,c1,f1,r1⟩:=(show g<w.heap.size∧(∀ o,w.cell? ⟨g,o,none⟩=(flt m v x y a b d)[o]?)∧(∀ o,w.frozen? ⟨g,o,none⟩=false)∧w.row? g 0 7=some (flt m v x y a b d) from ⟨B.lt,B.at,B.frozen,B.row?_all _ rfl⟩)
 go_enter Tryz.func130,Tryz.ntmps130
 go_wp2_with fail
 refine bodyPost_end (results_none rfl _ _ _) rfl ?_
 refine ⟨rfl,(by repeat (first|with_reducible exact OnlyAt.refl|with_reducible refine OnlyAt.drew ?_|with_reducible refine OnlyAt.setCell ?_ _ _|(with_reducible refine OnlyAt.setNew ?_ ?hB _ _;case hB=>(first|omega|(simp;done)|(simp;omega)))|with_reducible refine OnlyAt.alloc ?_ _|with_reducible refine OnlyAt.trans ?_ (OnlyAt.of_below (by assumption))|with_reducible refine OnlyAt.trans ?_ (by assumption))),?_⟩
 refine Blk.of_eq (((((((B.setCell_same 1 _).setCell_same 2 _).setCell_same 3 _).setCell_same 4 _).setCell_same 5 _).setCell_same 6 _)) ?_
 rfl
end
def setS (m:Int) (v:Bool) (e f:El):(Bool × El) × Int:=if f.may=true then (if m<f.tr then ((v,e),2) else ((true,f),0)) else ((v,e),1)
theorem set_c (g:Nat) (m:Int) (v:Bool) (x y a b d x' y' a' b' d':Int) (w:World) (B:Blk w g (flt m v x y a b d) 119) :
  Calls Tryz.prog 122 #[.pointer (some ⟨g,0,none⟩),elC x' y' a' b' d'] w fun e w'=>∃ v1 e1 k,setS m v ⟨x,y,a,b,d⟩ ⟨x',y',a',b',d'⟩=((v1,e1),k)∧e = .returned (.int .i64 k)∧OnlyAt g w w'∧Blk w' g (flt m v1 e1.x e1.y e1.a e1.b e1.d) 119:=by
 obtain ⟨y1,c1,f1,r1⟩:=(show g<w.heap.size∧(∀ o,w.cell? ⟨g,o,none⟩=(flt m v x y a b d)[o]?)∧(∀ o,w.frozen? ⟨g,o,none⟩=false)∧w.row? g 0 7=some (flt m v x y a b d) from ⟨B.lt,B.at,B.frozen,B.row?_all _ rfl⟩)
 have HB:=Lib.hid B
 cases hm:El.may ⟨x',y',a',b',d'⟩ with
 | false =>
  have HM:=Lib.hid hm
  have E:Hid (setS m v ⟨x,y,a,b,d⟩ ⟨x',y',a',b',d'⟩=((v,⟨x,y,a,b,d⟩),1)):=by show _=_;unfold setS;rw [if_neg (by rw [hm];decide)]
  clear hm B
  go_enter Tryz.func122,Tryz.ntmps122
  go_wp2_with fail
  refine (ellmay_v _ _ _ _ _ _ HM.out _).mono ?_;rintro e w1 ⟨rfl,hb1⟩
  have B1:=(HB.out.alloc _).keep hb1
  go_wp2_with fail
  go_ret
  exact ⟨_,_,_,E.out,rfl,(by repeat (first|with_reducible exact OnlyAt.refl|with_reducible refine OnlyAt.drew ?_|with_reducible refine OnlyAt.setCell ?_ _ _|(with_reducible refine OnlyAt.setNew ?_ ?hB _ _;case hB=>(first|omega|(simp;done)|(simp;omega)))|with_reducible refine OnlyAt.alloc ?_ _|with_reducible refine OnlyAt.trans ?_ (OnlyAt.of_below (by assumption))|with_reducible refine OnlyAt.trans ?_ (by assumption))),B1⟩
 | true =>
  have HM:=Lib.hid hm
  by_cases ht:m<El.tr ⟨x',y',a',b',d'⟩
  ·obtain ⟨t,hT⟩:∃ t,El.tr ⟨x',y',a',b',d'⟩=t:=⟨_,rfl⟩
   have HT:=Lib.hid hT
   have E:Hid (setS m v ⟨x,y,a,b,d⟩ ⟨x',y',a',b',d'⟩=((v,⟨x,y,a,b,d⟩),2)):=by show _=_;unfold setS;rw [if_pos hm,if_pos ht]
   rw [hT] at ht
   clear hm hT B
   go_enter Tryz.func122,Tryz.ntmps122
   go_wp2_with fail
   refine (ellmay_v _ _ _ _ _ _ HM.out _).mono ?_;rintro e w1 ⟨rfl,hb1⟩;have z_w1:=hb1.size;(try simp at z_w1);obtain ⟨yw1aa,cw1aa,fw1aa,rw1aa,tw1aa,pw1aa⟩:=bq hb1 (w.heap.size);obtain ⟨y_w1_g,c_w1_g,f_w1_g,r_w1_g,t_w1_g,p_w1_g⟩:=bq hb1 (g)
   have B1:=(HB.out.alloc _).keep hb1
   go_wp2_with fail
   have c0:=cell_regrown (show w1.cell? ⟨w.heap.size,0,none⟩=some (.int .i64 x') from (by go_simp));have c1:=cell_regrown (show w1.cell? ⟨w.heap.size,1,none⟩=some (.int .i64 y') from (by go_simp));have c2:=cell_regrown (show w1.cell? ⟨w.heap.size,2,none⟩=some (.int .i64 a') from (by go_simp));have c3:=cell_regrown (show w1.cell? ⟨w.heap.size,3,none⟩=some (.int .i64 b') from (by go_simp));have c4:=cell_regrown (show w1.cell? ⟨w.heap.size,4,none⟩=some (.int .i64 d') from (by go_simp))
   have m0:=cell_regrown (show w1.cell? ⟨g,0,none⟩=some (.int .i64 m) from (by go_simp))
   refine wp_region_quiet_below (by kernel_rfl) (by kernel_rfl) ?_
   repeat (go_big_quiet_step (first|(go_at_call 13;exact Calls.regrown_of (trace_v _ _ _ _ _ _ HT.out _))))
   refine wpQuiet_nil ?_
   intro wq hwq
   have hbq:=below_of_regrown hwq
   have B2:=B1.keep hbq
   clear hwq
   go_wp2_with fail
   go_ret
   exact ⟨_,_,_,E.out,rfl,(by repeat (first|with_reducible exact OnlyAt.refl|with_reducible refine OnlyAt.drew ?_|with_reducible refine OnlyAt.setCell ?_ _ _|(with_reducible refine OnlyAt.setNew ?_ ?hB _ _;case hB=>(first|omega|(simp;done)|(simp;omega)))|with_reducible refine OnlyAt.alloc ?_ _|with_reducible refine OnlyAt.trans ?_ (OnlyAt.of_below (by assumption))|with_reducible refine OnlyAt.trans ?_ (by assumption))),B2⟩
  ·obtain ⟨t,hT⟩:∃ t,El.tr ⟨x',y',a',b',d'⟩=t:=⟨_,rfl⟩
   have HT:=Lib.hid hT
   have E:Hid (setS m v ⟨x,y,a,b,d⟩ ⟨x',y',a',b',d'⟩=((true,⟨x',y',a',b',d'⟩),0)):=by show _=_;unfold setS;rw [if_pos hm,if_neg ht]
   rw [hT] at ht
   clear hm hT B
   go_enter Tryz.func122,Tryz.ntmps122
   go_wp2_with fail
   refine (ellmay_v _ _ _ _ _ _ HM.out _).mono ?_;rintro e w1 ⟨rfl,hb1⟩;have z_w1:=hb1.size;(try simp at z_w1);obtain ⟨yw1aa,cw1aa,fw1aa,rw1aa,tw1aa,pw1aa⟩:=bq hb1 (w.heap.size);obtain ⟨y_w1_g,c_w1_g,f_w1_g,r_w1_g,t_w1_g,p_w1_g⟩:=bq hb1 (g)
   have B1:=(HB.out.alloc _).keep hb1
   go_wp2_with fail
   have c0:=cell_regrown (show w1.cell? ⟨w.heap.size,0,none⟩=some (.int .i64 x') from (by go_simp));have c1:=cell_regrown (show w1.cell? ⟨w.heap.size,1,none⟩=some (.int .i64 y') from (by go_simp));have c2:=cell_regrown (show w1.cell? ⟨w.heap.size,2,none⟩=some (.int .i64 a') from (by go_simp));have c3:=cell_regrown (show w1.cell? ⟨w.heap.size,3,none⟩=some (.int .i64 b') from (by go_simp));have c4:=cell_regrown (show w1.cell? ⟨w.heap.size,4,none⟩=some (.int .i64 d') from (by go_simp))
   have m0:=cell_regrown (show w1.cell? ⟨g,0,none⟩=some (.int .i64 m) from (by go_simp))
   refine wp_region_quiet_below (by kernel_rfl) (by kernel_rfl) ?_
   repeat (go_big_quiet_step (first|(go_at_call 13;exact Calls.regrown_of (trace_v _ _ _ _ _ _ HT.out _))))
   refine wpQuiet_nil ?_
   intro wq hwq
   have hbq:=below_of_regrown hwq
   have B2:=B1.keep hbq
   have z_wq:=hbq.size;(try simp at z_wq);obtain ⟨y_wq_0_0,c_wq_0_0,f_wq_0_0,r_wq_0_0,t_wq_0_0,p_wq_0_0⟩:=bq hbq (w.heap.size);obtain ⟨y_wq_g,c_wq_g,f_wq_g,r_wq_g,t_wq_g,p_wq_g⟩:=bq hbq (g)
   clear hwq
   go_wp2_with fail
   go_region
   go_wp2_with fail
   go_ret
   refine ⟨_,_,_,E.out,rfl,(by repeat (first|with_reducible exact OnlyAt.refl|with_reducible refine OnlyAt.drew ?_|with_reducible refine OnlyAt.setCell ?_ _ _|(with_reducible refine OnlyAt.setNew ?_ ?hB _ _;case hB=>(first|omega|(simp;done)|(simp;omega)))|with_reducible refine OnlyAt.alloc ?_ _|with_reducible refine OnlyAt.trans ?_ (OnlyAt.of_below (by assumption))|with_reducible refine OnlyAt.trans ?_ (by assumption))),?_⟩
   apply Blk.of_eq
   ·repeat (first|with_reducible exact B2|with_reducible apply Blk.drew|with_reducible apply blk_drewN|with_reducible apply Blk.setCell_same)
   ·first|rfl|trace_state
end Go.Proofs.YtechbdnhalmobaaGreatDoor
