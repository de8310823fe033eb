/- The air: Take. -/
import Derived.Test.YtechbdnhalmobaaGreatDoorA17
import Derived.BigQuiet
import Derived.Lib.QuietBelow
import Derived.Deep.OwnRows
import Derived.Laws.OwnMore
namespace Go.Proofs.YtechbdnhalmobaaGreatDoor
set_option maxRecDepth 100000
set_option maxHeartbeats 16000000
set_option linter.unusedSimpArgs false
set_option linter.unusedVariables false
open Go.RowKit Go.Maps
theorem flat_drop (l:List (MailD × Value)) (k:Nat):(l.flatMap mailL).drop (k*5)=(l.drop k).flatMap mailL:=by
 induction l generalizing k with
 | nil=>simp
 | cons q r ih =>
  cases k with
  | zero=>simp
  | succ k =>
   rw [show (k+1)*5=5+k*5 by omega,List.flatMap_cons,← List.drop_drop,show (mailL q++r.flatMap mailL).drop 5=r.flatMap mailL from rfl]
   simpa using ih k
theorem flat_take (l:List (MailD × Value)) (k:Nat):(l.flatMap mailL).take (k*5)=(l.take k).flatMap mailL:=by
 induction l generalizing k with
 | nil=>simp
 | cons q r ih =>
  cases k with
  | zero=>simp
  | succ k =>
   rw [show (k+1)*5=k*5+5 by omega,List.flatMap_cons,List.take_succ_cons (i:=k),List.flatMap_cons,← ih k]
   rfl
theorem mail_one {S:Nat→Prop} {w:World} {a:Nat} {v:Value} {lp:List (MailD × Value)} (H:AirIn S w a v lp):∀ u ∈ lp.flatMap mailL,u.oneCell'=true:=by
 intro u hu
 obtain ⟨p,hp,hu⟩:=List.mem_flatMap.1 hu
 obtain ⟨ao,cap,e⟩:=(H.data p hp).1.form
 simp [e] at hu
 rcases hu with rfl|rfl|rfl|rfl|rfl <;> rfl
theorem post_world {P:Program} {f:Func} {Q:Ending→World→Prop} {x:Exit} {a:Act} {w:World} (h:∀ u,w=u→bodyPost P f Q x a u):bodyPost P f Q x a w:=h w rfl
theorem airDel_c {S:Nat→Prop} {w:World} {a:Nat} {v:Value} {lp:List (MailD × Value)} (H:AirIn S w a v lp) (i:Nat) (hi:i<lp.length) :
  Calls Tryz.prog 145 #[v,.int .i64 i,.int .i64 ((i:Int)+1)] w fun e w'=>∃ g cap,v = .slice (some ⟨g,0,none⟩) lp.length cap∧e = .returned (.slice (some ⟨g,0,none⟩) (lp.length-1) cap)∧OnlyAt g w w' ∧
   w'.ownsRow 0 143 5 (.slice (some ⟨g,0,none⟩) (lp.length-1) cap) (lp.length-1) ((lp.eraseIdx i).flatMap mailL):=by
 have h1:=mail_one H
 obtain ⟨hl,⟨-,h0⟩|⟨g,cap,cur,rfl,hB,hg,hn,hc,hs,ht⟩⟩:=H.row
 ·omega
 ·refine (mailDel_c g cap lp.length i cur w hg hs hn hc hi (by rw [ht];exact h1)).mono ?_
  rintro e w' ⟨rfl,hO,cur',hb',hs',ht'⟩
  have e1:cur'.toList.take ((lp.length-1)*5)=(lp.eraseIdx i).flatMap mailL:=by
   rw [ht',ht,flat_drop,List.eraseIdx_eq_take_drop_succ,List.flatMap_append,← flat_take,← ht,List.take_take,Nat.min_eq_left (by omega)]
  refine ⟨g,cap,rfl,rfl,hO,?_,.inr ⟨g,cap,cur',rfl,Nat.zero_le _,hb',by omega,hc,hs',e1⟩⟩
  rw [← e1,List.length_take]
  simp
  omega
theorem row_heap {w w':World} {B e size n g cap:Nat} {xs:List Value} (h:w.ownsRow B e size (.slice (some ⟨g,0,none⟩) n cap) n xs) (hb:w'.heap[g]? = w.heap[g]?):w'.ownsRow B e size (.slice (some ⟨g,0,none⟩) n cap) n xs:=by
 obtain ⟨h1,⟨h2,-⟩|⟨b,c,cur,h2,h3,h4,h5⟩⟩:=h
 ·cases h2
 ·injection h2 with h2 _ h6
  injection h2 with h2
  injection h2 with h2
  subst h2;subst h6
  exact ⟨h1,.inr ⟨g,cap,cur,rfl,h3,hb.trans h4,h5⟩⟩
theorem airTake_c {S:Nat→Prop} {w:World} {a:Nat} {v:Value} {lp:List (MailD × Value)} (H:AirIn S w a v lp) (i:Nat) (hi:i<lp.length) (hl:lp.length≤1000) :
  Calls Tryz.prog 71 #[ptr a,.int .i64 i] w fun e w'=>(∃ v',e = .returned v')∧Turns S w w'∧AirAt S w' a ((lp.map (·.1)).eraseIdx i):=by
 obtain ⟨ao,cap0,rfl⟩:=own_shape H.row
 obtain ⟨p,hp⟩:∃ p,lp[i]? = some p:=⟨_,List.getElem?_eq_getElem hi⟩
 have HK:Hid (∀ w1,Below w.heap.size w w1→AirIn S w1 a (.slice ao lp.length cap0) lp):=fun w1 hb=>H.kept hb.size (fun k hk _=>hb.block k hk) (fun _ _ h=>h)
 have HG:Hid (∀ w1,Below w.heap.size w w1→Calls Tryz.prog 70 #[ptr a,.int .i64 i] w1 fun e w'=>∃ v',e = .returned (.tuple #[mailV p.1 v',.bool true])∧RdS (fun k=>w1.heap.size≤k) w' v' p.1.data∧Below w1.heap.size w1 w'):=fun w1 hb=>airGet_c (HK.out w1 hb) i p hp hl
 have HD : Hid (∀ w1, Below w.heap.size w w1 → Calls Tryz.prog 145 #[.slice ao lp.length cap0, .int .i64 i, .int .i64 ((i : Int) + 1)] w1 fun e w' => ∃ g cap, (.slice ao lp.length cap0 : Value) = .slice (some ⟨g, 0, none⟩) lp.length cap ∧ e = .returned (.slice (some ⟨g, 0, none⟩) (lp.length - 1) cap) ∧ OnlyAt g w1 w' ∧
     w'.ownsRow 0 143 5 (.slice (some ⟨g,0,none⟩) (lp.length-1) cap) (lp.length-1) ((lp.eraseIdx i).flatMap mailL)):=fun w1 hb=>airDel_c (HK.out w1 hb) i hi
 obtain ⟨m,u⟩:=p
 have wk:IntKind.i64.wrap ((i:Int)+1)=(i:Int)+1:=IntWalk.i64_in _ (by omega)
 have HH:=Lib.hid H
 obtain ⟨y1,c1,f1,-⟩:=bk_o H.blk
 clear H hp
 go_enter Tryz.func71,Tryz.ntmps71
 go_wp2_with fail
 refine (HG.out _ below_byR).mono ?_;rintro e w1 ⟨v1,rfl,hv1,hb1⟩;have z_w1:=hb1.size;(try simp at z_w1);obtain ⟨yw1aa,cw1aa,fw1aa,rw1aa,tw1aa,pw1aa⟩:=bq hb1 (w.heap.size);obtain ⟨y_w1_a,c_w1_a,f_w1_a,r_w1_a,t_w1_a,p_w1_a⟩:=bq hb1 (a)
 obtain ⟨ao1,cap1,rfl⟩:=hv1.form
 clear hv1
 go_wp2_with fail
 refine (HD.out _ below_byR).mono ?_;rintro e w2 ⟨g,cap,hvv,rfl,hO,hr⟩
 injection hvv with hvv1 _ hvv2
 subst hvv1;subst hvv2
 have W5:=(HK.out (w1.alloc (.cells #[.int .i64 m.til,.slice ao1 m.data.length cap1,.int .i64 m.at_,.int .i64 m.tru,.bool m.bent] 143)) below_byR)
 have HW5:=Lib.hid W5
 have hgS:S g:=HH.out.sr g rfl
 have hagl:g<w.heap.size:=by
  obtain ⟨-,⟨h2,-⟩|⟨b,c,cur,h2,-,h4,-⟩⟩:=HH.out.row
  ·cases h2
  ·injection h2 with h2;injection h2 with h2;injection h2 with h2;subst h2;exact (Array.getElem?_eq_some_iff.1 h4).1
 have hb5:Below w.heap.size w (w1.alloc (.cells #[.int .i64 m.til,.slice ao1 m.data.length cap1,.int .i64 m.at_,.int .i64 m.tru,.bool m.bent] 143)):=below_byR
 have B4:Hid (Blk w2 w.heap.size #[.int .i64 0,.slice none 0 0,.int .i64 0,.int .i64 0,.bool false] 143):=hO.blk ((Blk.keep (Blk.new w _ _) hb1).alloc _) (by omega)
 have B6:Hid (Blk w2 w1.heap.size #[.int .i64 m.til,.slice ao1 m.data.length cap1,.int .i64 m.at_,.int .i64 m.tru,.bool m.bent] 143):=hO.blk (Blk.new w1 _ _) (by omega)
 have BA:Hid (Blk w2 a #[.slice (some ⟨g,0,none⟩) lp.length cap0] 180):=by
  obtain ⟨-,⟨h2,-⟩|⟨b,c,cur,h2,-,h4,-⟩⟩:=W5.row
  ·cases h2
  ·injection h2 with h2;injection h2 with h2;injection h2 with h2;subst h2
   exact hO.blk W5.blk (Blk.ne W5.blk (show Blk _ g cur 143 from h4) (by decide))
 have HO:=Lib.hid hO
 have HRW:=Lib.hid hr
 have hya:=HH.out.blk.lt
 have hyw:w.heap.size<w1.heap.size:=by omega
 have hn1:a≠w.heap.size:=by omega
 have hn2:a≠w1.heap.size:=by omega
 have hn3:w.heap.size≠w1.heap.size:=by omega
 clear hO hr W5 y1 c1 f1 hb1
 obtain ⟨y1,c1,f1,-⟩:=bk_o BA.out
 obtain ⟨y2,c2,f2,-⟩:=bk_o B4.out
 obtain ⟨y3,c3,f3,-⟩:=bk_o B6.out
 go_wp2_with fail
 have hT5:Turns S w w2:=((Turns.of_below (S:=S) hb5).then_only HO.out (.inl hgS))
 have hng:g≠a:=by
  obtain ⟨-,⟨h2,-⟩|⟨b,c,cur,h2,-,h4,-⟩⟩:=HW5.out.row
  ·cases h2
  ·injection h2 with h2;injection h2 with h2;injection h2 with h2;subst h2
   exact Blk.ne (show Blk _ g cur 143 from h4) HW5.out.blk (by decide)
 have hz2:w1.heap.size<w2.heap.size:=B6.out.lt
 refine post_world ?_;intro v hv
 obtain ⟨z,hz⟩:∃ z,w2.setCell ⟨a,0,none⟩ (.slice (some ⟨g,0,none⟩) (lp.length-1) cap0)=z:=⟨_,rfl⟩
 rw [hz] at hv
 have E1:OnlyAt a w2 z:=by rw [← hz];exact OnlyAt.refl.setCell 0 _
 have ZW:Blk z w.heap.size #[.int .i64 0,.slice none 0 0,.int .i64 0,.int .i64 0,.bool false] 143:=E1.blk B4.out (fun e=>hn1 e.symm)
 have ZA:Blk z a #[.slice (some ⟨g,0,none⟩) (lp.length-1) cap0] 180:=by rw [← hz];exact BA.out.setCell_same 0 _
 have E2:OnlyAt w.heap.size z v:=by rw [← hv];exact ((((OnlyAt.refl.setCell 0 _).setCell 1 _).setCell 2 _).setCell 3 _).setCell 4 _
 have VW:Blk v w.heap.size #[.int .i64 m.til,.slice ao1 m.data.length cap1,.int .i64 m.at_,.int .i64 m.tru,.bool m.bent] 143:=by
  rw [← hv]
  exact ((((ZW.setCell_same 0 _).setCell_same 1 _).setCell_same 2 _).setCell_same 3 _).setCell_same 4 _
 have gB:∃ cs,Blk (w1.alloc (.cells #[.int .i64 m.til,.slice ao1 m.data.length cap1,.int .i64 m.at_,.int .i64 m.tru,.bool m.bent] 143)) g cs 143:=by
  obtain ⟨-,⟨h2,-⟩|⟨b,c,cur,h2,-,h4,-⟩⟩:=HW5.out.row
  ·cases h2
  ·injection h2 with h2;injection h2 with h2;injection h2 with h2;subst h2
   exact ⟨cur,h4⟩
 obtain ⟨gc,gB⟩:=gB
 have hll:(lp.eraseIdx i).length=lp.length-1:=by rw [List.length_eraseIdx_of_lt hi]
 have hgz:v.heap[g]? = w2.heap[g]?:=by
  have g2:g<w2.heap.size:=by omega
  rw [E2.block g (Nat.lt_of_lt_of_le g2 E1.size) (by omega),E1.block g g2 hng]
 refine bodyPost_row_t 5 #[.int .i64 m.til,.slice ao1 m.data.length cap1,.int .i64 m.at_,.int .i64 m.tru,.bool m.bent] (.bool true) rfl rfl rfl rfl Tryz.underlying143 rfl (by kernel_rfl) (VW.row?_all 5 rfl) ⟨⟨_,rfl⟩,?_,?_⟩
 ·exact (hT5.then_only E1 (.inl HH.out.sa)).then_only E2 (.inr (Nat.le_refl _))
 ·refine ⟨.slice (some ⟨g,0,none⟩) (lp.length-1) cap0,lp.eraseIdx i,by rw [List.eraseIdx_eq_take_drop_succ,List.eraseIdx_eq_take_drop_succ,List.map_append,List.map_take,List.map_drop],E2.blk ZA hn1,HH.out.sa,?_,?_,?_⟩
  ·rw [hll];exact row_heap HRW.out hgz
  ·intro g' e;injection e with e;simp only at e;subst e;exact hgS
  ·intro p hp
   have hp':=List.mem_of_mem_eraseIdx hp
   obtain ⟨k1,k2⟩:=HW5.out.data p hp'
   exact ⟨((k1.only HO.out gB (by decide)).only E1 BA.out (by decide)).only E2 ZW (by decide),k2⟩
theorem step_append_own_at {P:Program} {ops:Array Oper} {o:Oper} {a:Act} {w:World} {K:Act→World→Prop} {Q:Exit→Act→World→Prop} {E:Prop} (hg:o.guard=none) (s x:Operand) (t:TypeId)
  (ho:o.op = .call { callee := .builtin .append,args:=#[s,x],argTypes:=#[t,t] })
  (base:Nat) (e:TypeId) (i:TypeInfo) (z:Value) (size bytes:Nat) (ht:P.underlying t=some (.slice e)) (hi:P.info? e=some i) (hz:i.zero=some z)
  (hsize:i.size=size) (hby:i.bytes=bytes) (hzs:z.cells.size=size) (hsz:0<size)
  (v:Value) (n:Nat) (xs:List Value) (hs:a.eval s=v) (hown:w.ownsRow base e size v n xs)
  (ad:Addr) (m c:Nat) (news:List Value) (hx:a.eval x = .slice (some ad) m c) (hl:news.length=m*size) (hnews:∀ j u,news[j]? = some u→w.cell? (ad.add j)=some u) (h1:∀ u ∈ news,u.oneCell'=true)
  (h63:n+m≤maxLen) (hbytes:(n+m)*bytes≤140737488355328) (hbase:base≤w.heap.size)
  (h:∀ v' w',w'.ownsRow base e size v' (n+m) (xs++news)→w.grownBy w' v.ownBlock→(v'.ownBlock=v.ownBlock∨v'.ownBlock=some w.heap.size)→K (a.put o.dst v') w') :
  if Region.wanted o (yielded ops a.tmps)=true then Oper.wp P o a w K Q else E:=by
 rw [if_pos (by simp [Region.wanted,hg])]
 obtain ⟨v',w',hr,h2,h3,h4,h5⟩:=run_append_own_at (P:=P) w base t o.type e i z size bytes ht hi hz hsize hby hzs hsz v n xs hown ad m c news hl hnews h1 h63 hbytes hbase
 unfold Oper.wp execOp
 simp only [ho,resolve,invoke,builtin,Sem.run_bind,Sem.run_pure,Result.andThen_ok,List.map_toArray,List.map_cons,List.map_nil,hs,hx,hr]
 exact h v' w' h2 h3 h5
theorem mailL_one (m:MailD) (ao:Option Addr) (n cap:Nat):∀ u ∈ mailL (m,.slice ao n cap),u.oneCell'=true:=by intro u hu;simp only [mailL,List.mem_cons,List.mem_nil_iff,or_false] at hu;rcases hu with rfl|rfl|rfl|rfl|rfl <;> rfl
theorem grown_only {W w5:World} {g:Nat} (h:W.grownBy w5 (some g)):OnlyAt g W w5:=⟨h.os,h.tape,h.output,h.size,fun k hk hn=>h.block k hk (fun e=>hn (Option.some.inj e))⟩
theorem grown_below {W w5:World} (h:W.grownBy w5 none):Below W.heap.size W w5:=⟨h.os,h.tape,h.output,h.size,fun k hk=>h.block k hk (fun e=>by cases e)⟩
theorem RdS.grown {S:Nat→Prop} {W w5:World} {v u:Value} {xs:List Nat} {e n:Nat} {ys:List Value} (h:RdS S W u xs) (hr:W.ownsRow 0 143 5 v n ys) (hg:W.grownBy w5 v.ownBlock):RdS S w5 u xs:=by
 obtain ⟨-,⟨rfl,-⟩|⟨g,cap,cur,rfl,-,h2,-⟩⟩:=hr
 ·exact h.below (grown_below hg)
 ·exact h.only (grown_only hg) (show Blk W g cur 143 from h2) (by decide)
theorem put_blk {S:Nat→Prop} {x W w5:World} {a:Nat} {v:Value} {lp:List (MailD × Value)} (HX:AirIn S x a v lp) (hb:Below x.heap.size x W) (hg:W.grownBy w5 v.ownBlock):Blk w5 a #[v] 180:=by
 have hrW:=row_below HX.row hb
 have hAW:=HX.blk.keep hb
 obtain ⟨-,⟨rfl,-⟩|⟨g,cap,cur,rfl,-,h2,-⟩⟩:=hrW
 ·exact hAW.keep (grown_below hg)
 ·exact (grown_only hg).blk hAW (Blk.ne hAW (show Blk W g cur 143 from h2) (by decide))
theorem put_end {S:Nat→Prop} {x W w5:World} {a:Nat} {v v1 v2:Value} {lp:List (MailD × Value)} {m:MailD} (HX:AirIn S x a v lp) (hb:Below x.heap.size x W) (hrow:w5.ownsRow 0 143 5 v2 (lp.length+1) (lp.flatMap mailL++mailL (m,v1))) (hg:W.grownBy w5 v.ownBlock)
  (hat:v2.ownBlock=v.ownBlock∨v2.ownBlock=some W.heap.size) (hd:RdS (fun k=>x.heap.size≤k) W v1 m.data) (hl:m.data.length≤1000) :
  Turns S x (w5.setCell ⟨a,0,none⟩ v2)∧AirAt (Sn S x) (w5.setCell ⟨a,0,none⟩ v2) a (lp.map (·.1) ++ [m]):=by
 have hrW:=row_below HX.row hb
 have hT:Turns S x w5:=(Turns.of_below (S:=S) hb).trans (S':=fun k=>v.ownBlock=some k) ⟨hg.os,hg.tape,hg.output,hg.size,fun k hk hn=>hg.block k hk (fun e=>hn e.symm)⟩ (fun k _ e=>HX.sr k e)
 have hA5:Blk w5 a #[v] 180:=put_blk HX hb hg
 have O:OnlyAt a w5 (w5.setCell ⟨a,0,none⟩ v2):=OnlyAt.refl.setCell 0 _
 refine ⟨hT.then_only O (.inl HX.sa),v2,lp ++ [(m,v1)],by simp,hA5.setCell_same 0 _,.inl HX.sa,?_,?_,?_⟩
 ·have:=row_turns hrow (TurnsT.of_only (S:=fun _=>True) (mp:=false) O hA5 (List.mem_singleton.2 rfl) trivial) (by decide)
  simpa using this
 ·intro b e
  rcases hat with h|h
  ·exact .inl (HX.sr b (h ▸ e))
  ·rw [h] at e;injection e with e
   have:=hb.size
   exact .inr (by omega)
 ·intro p hp
  simp only [List.mem_append,List.mem_singleton] at hp
  rcases hp with hp|rfl
  ·obtain ⟨k1,k2⟩:=HX.data p hp
   have k3:RdS (Sn S x) x p.2 p.1.data:=k1.kept (Nat.le_refl _) (fun _ _ _=>rfl) (fun k _ h => .inl h)
   exact ⟨((k3.below hb).grown (e:=0) hrW hg).only O hA5 (by decide),k2⟩
  ·have k3:RdS (Sn S x) W v1 m.data:=hd.kept (Nat.le_refl _) (fun _ _ _=>rfl) (fun k _ h => .inr h)
   exact ⟨(k3.grown (e:=0) hrW hg).only O hA5 (by decide),hl⟩
theorem airPut_c {S:Nat→Prop} {w:World} {a:Nat} {l:List MailD} (H:AirAt S w a l) (hl:l.length≤1000) (m:MailD) (u:Value) (hu:RdB w u m.data) (h1000:m.data.length≤1000000) :
  Calls Tryz.prog 133 #[ptr a,mailV m u] w fun e w'=>e = .returned (.bool (airPut l m).2)∧Turns S w w'∧AirAt (Sn S w) w' a (airPut l m).1:=by
 obtain ⟨v,lp,rfl,HX⟩:=H
 obtain ⟨ao,cap0,rfl⟩:=own_shape HX.row
 obtain ⟨au,cu,rfl⟩:=hu.form
 have hlp:lp.length≤1000:=by simpa using hl
 have hlm:(lp.map (·.1)).length=lp.length:=by simp
 have HH:=Lib.hid HX
 obtain ⟨y1,c1,f1,-⟩:=bk_o HX.blk
 by_cases hno:512≤lp.length∨1000<m.data.length
 ·have EV:Hid (airPut (lp.map (·.1)) m=(lp.map (·.1),false)):=by show _=_;unfold airPut;rw [hlm,if_pos hno]
  have hno':(512:Int)≤(lp.length:Int)∨(¬ (512:Int)≤(lp.length:Int)∧(1000:Int)<(m.data.length:Int)):=by omega
  clear HX hu hno hlm
  rcases hno' with k1|⟨k1,k2⟩
  all_goals go_enter Tryz.func133,Tryz.ntmps133
  all_goals go_wp2_with fail
  all_goals go_ret
  all_goals rw [EV.out]
  all_goals exact ⟨rfl,(Turns.refl).alloc _,_,lp,rfl,HH.out.kept (by simp) (fun k hk _=>Below.heap_alloc _ _ k hk) (fun _ _ h => .inl h)⟩
 ·have EV:Hid (airPut (lp.map (·.1)) m=(lp.map (·.1) ++ [m],true)):=by show _=_;unfold airPut;rw [hlm,if_neg hno]
  have k1:¬ (512:Int)≤(lp.length:Int):=by omega
  have k2:¬ (1000:Int)<(m.data.length:Int):=by omega
  have hd1000:m.data.length≤1000:=by omega
  obtain ⟨i0,hi,hz0,hz1,hz2⟩:=info_parts infoMail
  have HU:=Lib.hid hu
  clear HX hu hno hlm
  go_enter Tryz.func133,Tryz.ntmps133
  go_wp2_with fail
  refine name_wp ?_;intro x hx
  have XB:Hid (Below w.heap.size w x):=by rw [hx];show Below _ _ _;exact below_byR
  have XX:Hid (AirIn S x a (.slice ao lp.length cap0) lp):=HH.out.kept XB.out.size (fun k hk _=>XB.out.block k hk) (fun _ _ h=>h)
  have XM:Hid (Blk x w.heap.size #[.int .i64 m.til,.slice au m.data.length cu,.int .i64 m.at_,.int .i64 m.tru,.bool m.bent] 143):=by rw [hx];exact Blk.new _ _ _
  have HO:Hid (∀ w1,Below x.heap.size x w1→Calls Tryz.prog 144 #[mailV m (.slice au m.data.length cu)] w1 fun e w'=>∃ ao' cap',e = .returned (mailV m (.slice ao' m.data.length cap'))∧RdS (fun k=>w1.heap.size≤k) w' (.slice ao' m.data.length cap') m.data∧Below w1.heap.size w1 w'):=fun w1 hb =>
   (own_c m _ w1 (HU.out.below (XB.out.trans (hb.mono XB.out.size))) hd1000).mono (by
    rintro e w' ⟨v',rfl,h1,h2⟩
    obtain ⟨ao',cap',rfl⟩:=h1.form
    exact ⟨ao',cap',rfl,h1,h2⟩)
  clear hx y1 c1 f1
  obtain ⟨y1,c1,f1,-⟩:=bk_o XX.out.blk
  obtain ⟨y2,c2,f2,-⟩:=bk_o XM.out
  have r2:=XM.out.row?_all 5 rfl
  go_region_law (first
   | (go_simp;go_at_call 144;refine (HO.out _ below_byR).mono ?_;rintro e w1 ⟨ao',cap',rfl,hv',hb1⟩;have z_w1:=hb1.size;(try simp at z_w1);obtain ⟨y_w1_a,c_w1_a,f_w1_a,r_w1_a,t_w1_a,p_w1_a⟩:=bq hb1 (a))
   | (refine step_append_own_at rfl (.tmp 25) (.tmp 28) 178 rfl 0 143 i0 (.agg #[.int .i64 0,.slice none 0 0,.int .i64 0,.int .i64 0,.bool false]) 5 56 Tryz.underlying178 hi hz0 hz1 hz2 rfl (by decide) (.slice ao lp.length cap0) lp.length (lp.flatMap mailL) (by simp [Act.eval,Act.put]) (row_below XX.out.row (show Below _ _ _ from below_byR)) ⟨w1.heap.size,0,none⟩ 1 1 (mailL (m,.slice ao' m.data.length cap')) (by simp [Act.eval,Act.put]) rfl (news_of (Blk.new _ _ 143)) (mailL_one _ _ _ _) (by unfold maxLen;omega) (by omega) (by simp) ?_;intro v' w5 hown hgrow hat;obtain ⟨g',cap2,rfl⟩:=own_some hown (by omega);have YA:=put_blk XX.out (by exact (show Below _ _ _ from below_byR)) hgrow;obtain ⟨y3,c3,f3,-⟩:=bk_o YA;have YE:=Lib.hid (put_end (m:=m) XX.out (by exact (show Below _ _ _ from below_byR)) hown hgrow hat (hv'.kept (by simp) (fun k hk _=>Below.heap_alloc _ _ k hk) (fun k _ h=>by simpa using h)) hd1000);clear hgrow hown YA))
  all_goals go_wp2_with fail
  all_goals go_ret
  all_goals rw [EV.out]
  all_goals exact ⟨rfl,(Turns.of_below (S:=S) XB.out).trans YE.out.1 (fun _ _ h=>h),YE.out.2.imp (fun v2 h=>h.imp (fun lp2 h=>⟨h.1,h.2.kept (Nat.le_refl _) (fun _ _ _=>rfl) (fun k _ hk=>hk.elim .inl (fun h2 => .inr (Nat.le_trans XB.out.size h2)))⟩))⟩
theorem own_lt {w:World} {B e size n:Nat} {v:Value} {xs:List Value} (h:w.ownsRow B e size v n xs):∀ b,v.ownBlock=some b→b<w.heap.size:=by
 intro b hb
 obtain ⟨-,⟨rfl,-⟩|⟨g,cap,cur,rfl,-,h2,-⟩⟩:=h
 ·cases hb
 ·injection hb with hb;subst hb;exact (Array.getElem?_eq_some_iff.1 h2).1
theorem row_kept {S:Nat→Prop} {w w':World} {B e size n:Nat} {v:Value} {xs:List Value} (h:w.ownsRow B e size v n xs) (hs:∀ b,v.ownBlock=some b→S b) (hb:∀ k,k<w.heap.size→S k→w'.heap[k]? = w.heap[k]?):w'.ownsRow B e size v n xs:=by
 have hl:=own_lt h
 obtain ⟨h1,h2|⟨g,cap,cur,h2,h3,h4,h5⟩⟩:=h
 ·exact ⟨h1,.inl h2⟩
 ·have e:v.ownBlock=some g:=by rw [h2];rfl
  exact ⟨h1,.inr ⟨g,cap,cur,h2,h3,(hb g (hl g e) (hs g e)).trans h4,h5⟩⟩
theorem row_zero {w:World} {B e size n:Nat} {v:Value} {xs:List Value} (h:w.ownsRow B e size v n xs):w.ownsRow 0 e size v n xs:=by
 obtain ⟨h1,h2|⟨g,cap,cur,h2,h3,h4,h5⟩⟩:=h
 ·exact ⟨h1,.inl h2⟩
 ·exact ⟨h1,.inr ⟨g,cap,cur,h2,Nat.zero_le _,h4,h5⟩⟩
/- the truth -/
abbrev ptL (p:Int × Int):List Value:=[.int .i64 p.1,.int .i64 p.2]
def truC (T:TruD) (pv mv:Value):Array Value:=(cfgL T.c ++ [pv,mv,.int .i64 T.time,.int .i64 T.steps]).toArray
structure TruIn (S:Nat→Prop) (w:World) (g:Nat) (T:TruD) (pv mv:Value):Prop where
 blk:Blk w g (truC T pv mv) 134
 sg:S g
 rp:w.ownsRow 0 31 2 pv T.p.length (T.p.flatMap ptL)
 sp:∀ b,pv.ownBlock=some b→S b
 rm:w.ownsRow 0 4 1 mv T.moved.length (T.moved.map Value.bool)
 sm:∀ b,mv.ownBlock=some b→S b
def TruAt (S:Nat→Prop) (w:World) (g:Nat) (T:TruD):Prop:=∃ pv mv,TruIn S w g T pv mv
section
variable {S S':Nat→Prop} {w w':World}
theorem TruIn.kept {g:Nat} {T:TruD} {pv mv:Value} (h:TruIn S w g T pv mv) (hb:∀ k,k<w.heap.size→S k→w'.heap[k]? = w.heap[k]?) (hS:∀ k,k<w.heap.size→S k→S' k):TruIn S' w' g T pv mv :=
 ⟨(hb g h.blk.lt h.sg).trans h.blk,hS g h.blk.lt h.sg,row_kept h.rp h.sp hb,fun b e=>hS b (own_lt h.rp b e) (h.sp b e),row_kept h.rm h.sm hb,fun b e=>hS b (own_lt h.rm b e) (h.sm b e)⟩
theorem TruIn.below {g:Nat} {T:TruD} {pv mv:Value} (h:TruIn S w g T pv mv) (hb:Below w.heap.size w w'):TruIn S w' g T pv mv:=h.kept (fun k hk _=>hb.block k hk) (fun _ _ a=>a)
theorem TruAt.kept {g:Nat} {T:TruD} (h:TruAt S w g T) (hb:∀ k,k<w.heap.size→S k→w'.heap[k]? = w.heap[k]?) (hS:∀ k,k<w.heap.size→S k→S' k):TruAt S' w' g T:=by
 obtain ⟨pv,mv,h⟩:=h;exact ⟨pv,mv,h.kept hb hS⟩
theorem TruAt.mono {g:Nat} {T:TruD} (h:TruAt S w g T) (hS:∀ k,k<w.heap.size→S k→S' k):TruAt S' w g T:=h.kept (fun _ _ _=>rfl) hS
theorem AirAt.mono {a:Nat} {l:List MailD} (h:AirAt S w a l) (hS:∀ k,k<w.heap.size→S k→S' k):AirAt S' w a l:=h.kept (Nat.le_refl _) (fun _ _ _=>rfl) hS
theorem NodeAt.kept {g:Nat} {L:NLay} {n:NodeD} (h:NodeAt S w g L n) (hb:∀ k,k<w.heap.size→S k→w'.heap[k]? = w.heap[k]?) (hS:∀ k,k<w.heap.size→S k→S' k):NodeAt S' w' g L n :=
 ⟨(hb g h.blk.lt h.sg).trans h.blk,hS g h.blk.lt h.sg,(hb _ h.f.lt h.sf).trans h.f,hS _ h.f.lt h.sf,h.t.kept hb hS,
  fun i hi=>⟨(hb _ (h.s i hi).1.lt (h.s i hi).2).trans (h.s i hi).1,hS _ (h.s i hi).1.lt (h.s i hi).2⟩,h.si,(hb _ h.b.lt h.sb).trans h.b,hS _ h.b.lt h.sb,(hb _ h.tm.lt h.stm).trans h.tm,hS _ h.tm.lt h.stm⟩
end
/- the fleet -/
def flC (F:FleetD) (tw ta:Nat) (nv bv:Value):Array Value:=([ptr tw,ptr ta]++cfgL F.c ++ [nv,bv,.int .i64 F.lost]).toArray
structure FleetIn (ow:Nat→Nat) (w:World) (g tw ta:Nat) (gs:List Nat) (nv bv:Value) (F:FleetD):Prop where
 blk:Blk w g (flC F tw ta nv bv) 73
 og:ow g=1
 ln:gs.length=F.n.length
 rn:w.ownsRow 0 43 1 nv gs.length (gs.map ptr)
 sn:∀ b,nv.ownBlock=some b→ow b=1
 rb:w.ownsRow 0 4 1 bv F.on.length (F.on.map Value.bool)
 sb:∀ b,bv.ownBlock=some b→ow b=1
 a:AirAt (fun k=>ow k=2) w ta F.a
 t:TruAt (fun k=>ow k=3) w tw F.w
 n:∀ i n,F.n[i]? = some n→∃ L,NodeAt (fun k=>ow k=i+4) w (gs.getD i 0) L n
def ext (ow:Nat→Nat) (m o:Nat) (k:Nat):Nat:=if k<m then ow k else o
theorem ext_lt {ow:Nat→Nat} {m o k:Nat} (h:k<m):ext ow m o k=ow k:=by simp [ext,h]
theorem ext_sn {ow:Nat→Nat} {w:World} {o k:Nat} (h:Sn (fun k=>ow k=o) w k):ext ow w.heap.size o k=o:=by
 unfold ext
 split
 ·rcases h with h|h
  ·exact h
  ·omega
 ·rfl
structure FT (R:Nat→Prop) (ow ow':Nat→Nat) (w w':World):Prop where
 t:Turns (fun k=>R (ow k)) w w'
 e:∀ k,k<w.heap.size→ow' k=ow k
section
variable {R R':Nat→Prop} {ow ow' ow'':Nat→Nat} {w w' w'':World}
theorem FT.refl:FT R ow ow w w:=⟨Turns.refl,fun _ _=>rfl⟩
theorem FT.trans (h:FT R ow ow' w w') (h':FT R ow' ow'' w' w''):FT R ow ow'' w w'' :=
 ⟨h.t.trans h'.t (fun k hk hn=>by have hn:R (ow' k):=hn;rw [h.e k hk] at hn;exact hn),fun k hk=>(h'.e k (Nat.lt_of_lt_of_le hk h.t.size)).trans (h.e k hk)⟩
theorem FT.mono (h:FT R ow ow' w w') (hR:∀ o,R o→R' o):FT R' ow ow' w w':=⟨h.t.mono (fun k _ e=>hR _ e),h.e⟩
theorem FT.of_turns {o:Nat} (ho:R o) (h:Turns (fun k=>ow k=o) w w') (o':Nat):FT R ow (ext ow w.heap.size o') w w' :=
 ⟨h.mono (fun k _ e=>by show R (ow k);rw [e];exact ho),fun k hk=>ext_lt hk⟩
theorem FT.of_below (h:Below w.heap.size w w') (o':Nat):FT R ow (ext ow w.heap.size o') w w':=⟨Turns.of_below h,fun k hk=>ext_lt hk⟩
theorem FT.blk (h:FT R ow ow' w w') {b:Nat} {c:Array Value} {t:TypeId} (hb:Blk w b c t) (h0:¬ R (ow b)):Blk w' b c t∧ow' b=ow b :=
 ⟨h.t.blk hb h0,h.e b hb.lt⟩
theorem FT.below (h:FT R ow ow' w w') {B:Nat} {w0:World} (hb:Below B w0 w) (hB:B≤w0.heap.size) (h0:∀ k,k<B→¬ R (ow k)):Below B w0 w' :=
 h.t.below hb hB (fun k hk=>by
  rcases Nat.lt_or_ge k B with h1|h1
  ·exact absurd hk (h0 k h1)
  ·exact h1)
theorem FT.rdS (h:FT R ow ow' w w') (h0:¬ R 0) {v:Value} {xs:List Nat} (hr:RdS (fun k=>ow k=0) w v xs):RdS (fun k=>ow' k=0) w' v xs :=
 hr.kept h.t.size (fun k hk e=>h.t.block k hk (fun hn=>by have hn:R (ow k):=hn;rw [e] at hn;exact h0 hn)) (fun k hk e=>(h.e k hk).trans e)
theorem FT.row (h:FT R ow ow' w w') {B e size n:Nat} {v:Value} {xs:List Value} (hr:w.ownsRow B e size v n xs) (hs:∀ b,v.ownBlock=some b→¬ R (ow b)):w'.ownsRow B e size v n xs∧∀ b,v.ownBlock=some b→ow' b=ow b :=
 ⟨row_kept hr (S:=fun k=>¬ R (ow k)) hs (fun k hk hn=>h.t.block k hk hn),fun b e=>h.e b (own_lt hr b e)⟩
variable {g tw ta:Nat} {gs:List Nat} {nv bv:Value} {F:FleetD}
theorem kept_hb {o o':Nat} (ht:Turns (fun k=>ow k=o) w w') (hne:o'≠o):∀ k,k<w.heap.size→ow k=o'→w'.heap[k]? = w.heap[k]? :=
 fun k hk e=>ht.block k hk (fun e2=>hne (e.symm.trans e2))
theorem kept_hS {o o':Nat} : ∀ k,k<w.heap.size→ow k=o'→ext ow w.heap.size o k=o':=fun k hk e=>(ext_lt hk).trans e
theorem FleetIn.turn_air (h:FleetIn ow w g tw ta gs nv bv F) (ht:Turns (fun k=>ow k=2) w w') {l:List MailD} (ha:AirAt (Sn (fun k=>ow k=2) w) w' ta l):FleetIn (ext ow w.heap.size 2) w' g tw ta gs nv bv { F with a:=l } :=
 ⟨ht.blk h.blk (by show ¬ ow g=2;rw [h.og];decide),(ext_lt h.blk.lt).trans h.og,h.ln,row_kept h.rn h.sn (kept_hb ht (by decide)),fun b e=>kept_hS b (own_lt h.rn b e) (h.sn b e),row_kept h.rb h.sb (kept_hb ht (by decide)),fun b e=>kept_hS b (own_lt h.rb b e) (h.sb b e),
  ha.mono (fun k _ hk=>ext_sn hk),h.t.kept (kept_hb ht (by decide)) kept_hS,fun i n hn=>by obtain ⟨L,h1⟩:=h.n i n hn;exact ⟨L,h1.kept (kept_hb ht (by omega)) kept_hS⟩⟩
theorem FleetIn.turn_tru (h:FleetIn ow w g tw ta gs nv bv F) (ht:Turns (fun k=>ow k=3) w w') {T:TruD} (ha:TruAt (Sn (fun k=>ow k=3) w) w' tw T):FleetIn (ext ow w.heap.size 3) w' g tw ta gs nv bv { F with w:=T } :=
 ⟨ht.blk h.blk (by show ¬ ow g=3;rw [h.og];decide),(ext_lt h.blk.lt).trans h.og,h.ln,row_kept h.rn h.sn (kept_hb ht (by decide)),fun b e=>kept_hS b (own_lt h.rn b e) (h.sn b e),row_kept h.rb h.sb (kept_hb ht (by decide)),fun b e=>kept_hS b (own_lt h.rb b e) (h.sb b e),
  h.a.kept ht.size (kept_hb ht (by decide)) kept_hS,ha.mono (fun k _ hk=>ext_sn hk),fun i n hn=>by obtain ⟨L,h1⟩:=h.n i n hn;exact ⟨L,h1.kept (kept_hb ht (by omega)) kept_hS⟩⟩
theorem FleetIn.turn_node (h:FleetIn ow w g tw ta gs nv bv F) (i:Nat) (hi:i<F.n.length) (ht:Turns (fun k=>ow k=i+4) w w') {n:NodeD} (ha:∃ L,NodeAt (Sn (fun k=>ow k=i+4) w) w' (gs.getD i 0) L n):FleetIn (ext ow w.heap.size (i+4)) w' g tw ta gs nv bv (F.setN i n) :=
 ⟨ht.blk h.blk (by show ¬ ow g=i+4;rw [h.og];omega),(ext_lt h.blk.lt).trans h.og,by show _=(F.n.set i n).length;rw [List.length_set];exact h.ln,
  row_kept h.rn h.sn (kept_hb ht (by omega)),fun b e=>kept_hS b (own_lt h.rn b e) (h.sn b e),row_kept h.rb h.sb (kept_hb ht (by omega)),fun b e=>kept_hS b (own_lt h.rb b e) (h.sb b e),
  h.a.kept ht.size (kept_hb ht (by omega)) kept_hS,h.t.kept (kept_hb ht (by omega)) kept_hS,fun j m hm=>by
   have hm2:(F.n.set i n)[j]? = some m:=hm
   rcases Nat.decEq i j with e|e
   ·rw [List.getElem?_set,if_neg e] at hm2
    obtain ⟨L,h1⟩:=h.n j m hm2
    exact ⟨L,h1.kept (kept_hb ht (by omega)) kept_hS⟩
   ·subst e
    rw [List.getElem?_set,if_pos rfl,if_pos hi] at hm2
    injection hm2 with hm2;subst hm2
    obtain ⟨L,h1⟩:=ha
    exact ⟨L,h1.mono (fun k _ hk=>ext_sn hk)⟩⟩
theorem FleetIn.below (h:FleetIn ow w g tw ta gs nv bv F) (hb:Below w.heap.size w w') (o:Nat):FleetIn (ext ow w.heap.size o) w' g tw ta gs nv bv F :=
 have hk:∀ {o':Nat},∀ k,k<w.heap.size→ow k=o'→w'.heap[k]? = w.heap[k]?:=fun k hk _=>hb.block k hk
 ⟨h.blk.keep hb,(ext_lt h.blk.lt).trans h.og,h.ln,row_kept h.rn h.sn hk,fun b e=>kept_hS b (own_lt h.rn b e) (h.sn b e),row_kept h.rb h.sb hk,fun b e=>kept_hS b (own_lt h.rb b e) (h.sb b e),
  h.a.kept hb.size hk kept_hS,h.t.kept hk kept_hS,fun i n hn=>by obtain ⟨L,h1⟩:=h.n i n hn;exact ⟨L,h1.kept hk kept_hS⟩⟩
theorem FleetIn.turn_self (h:FleetIn ow w g tw ta gs nv bv F) (ht:Turns (fun k=>ow k=1) w w') {nv' bv':Value} {lost:Int} {on':List Bool} (hg:Blk w' g (flC { F with on:=on',lost:=lost } tw ta nv' bv') 73)
  (hn:w'.ownsRow 0 43 1 nv' gs.length (gs.map ptr)) (hn2:∀ b,nv'.ownBlock=some b→Sn (fun k=>ow k=1) w b) (hb:w'.ownsRow 0 4 1 bv' on'.length (on'.map Value.bool)) (hb2:∀ b,bv'.ownBlock=some b→Sn (fun k=>ow k=1) w b) :
  FleetIn (ext ow w.heap.size 1) w' g tw ta gs nv' bv' { F with on:=on',lost:=lost } :=
 ⟨hg,(ext_lt h.blk.lt).trans h.og,h.ln,hn,fun b e=>ext_sn (hn2 b e),hb,fun b e=>ext_sn (hb2 b e),
  h.a.kept ht.size (kept_hb ht (by decide)) kept_hS,h.t.kept (kept_hb ht (by decide)) kept_hS,fun i n hn=>by obtain ⟨L,h1⟩:=h.n i n hn;exact ⟨L,h1.kept (kept_hb ht (by omega)) kept_hS⟩⟩
theorem FleetIn.push (h:FleetIn ow w g tw ta gs nv bv F) {gN:Nat} {L:NLay} {n:NodeD} (hN:NodeAt (fun k=>ow k=F.n.length+4) w gN L n) (ht:Turns (fun k=>ow k=1) w w') {nv' bv':Value} {on':List Bool} (hg:Blk w' g (flC { F with n:=F.n ++ [n],on:=on' } tw ta nv' bv') 73)
  (hn:w'.ownsRow 0 43 1 nv' (gs.length+1) (gs.map ptr ++ [ptr gN])) (hn2:∀ b,nv'.ownBlock=some b→Sn (fun k=>ow k=1) w b) (hb:w'.ownsRow 0 4 1 bv' on'.length (on'.map Value.bool)) (hb2:∀ b,bv'.ownBlock=some b→Sn (fun k=>ow k=1) w b) :
  FleetIn (ext ow w.heap.size 1) w' g tw ta (gs ++ [gN]) nv' bv' { F with n:=F.n ++ [n],on:=on' } :=
 ⟨hg,(ext_lt h.blk.lt).trans h.og,by simp [h.ln],by simpa using hn,fun b e=>ext_sn (hn2 b e),hb,fun b e=>ext_sn (hb2 b e),
  h.a.kept ht.size (kept_hb ht (by decide)) kept_hS,h.t.kept (kept_hb ht (by decide)) kept_hS,fun i m hm=>by
   have hl:=h.ln
   have hm:(F.n ++ [n])[i]? = some m:=hm
   rcases Nat.lt_trichotomy i F.n.length with h1|h1|h1
   ·rw [List.getElem?_append_left h1] at hm
    obtain ⟨L2,h2⟩:=h.n i m hm
    rw [List.getD_eq_getElem?_getD,List.getElem?_append_left (by omega),← List.getD_eq_getElem?_getD]
    exact ⟨L2,h2.kept (kept_hb ht (by omega)) kept_hS⟩
   ·subst h1
    rw [List.getElem?_append_right (Nat.le_refl _),Nat.sub_self] at hm
    injection hm with hm;subst hm
    rw [List.getD_eq_getElem?_getD,List.getElem?_append_right (by omega),hl,Nat.sub_self]
    exact ⟨L,hN.kept (kept_hb ht (by omega)) kept_hS⟩
   ·rw [List.getElem?_eq_none (by simp;omega)] at hm
    cases hm⟩
end
theorem flat_row {α:Type} (f : α→List Value) (s:Nat) (hf:∀ a,(f a).length=s) (l:List α):∀ (k:Nat) (a : α),l[k]? = some a→((l.flatMap f).drop (k*s)).take s=f a:=by
 induction l with
 | nil=>intro k p h;simp at h
 | cons q r ih =>
  intro k p h
  cases k with
  | zero=>simp at h;subst h;rw [List.flatMap_cons,Nat.zero_mul,List.drop_zero,List.take_append_of_le_length (by rw [hf];exact Nat.le_refl _),List.take_of_length_le (by rw [hf];exact Nat.le_refl _)]
  | succ k =>
   have e2:((q :: r).flatMap f).drop ((k+1)*s)=(r.flatMap f).drop (k*s):=by
    rw [List.flatMap_cons,show (k+1)*s=(f q).length+k*s by rw [hf,Nat.succ_mul,Nat.add_comm],List.drop_append]
    simp
   rw [e2]
   exact ih k p (by simpa using h)
theorem row_cells {α:Type} {f : α→List Value} {s:Nat} (hf:∀ a,(f a).length=s) (hs:0<s) {w:World} {B e n:Nat} {v:Value} {l:List α} (h:w.ownsRow B e s v n (l.flatMap f)) {k:Nat} {p : α} (hk:l[k]? = some p) (hl:l.length=n) :
  ∃ g cap,v = .slice (some ⟨g,0,none⟩) n cap∧g<w.heap.size∧w.row? g (k*s) s=some (f p).toArray∧∀ o,o<s→w.cell? ⟨g,k*s+o,none⟩=(f p)[o]?:=by
 have hkl:=(List.getElem?_eq_some_iff.1 hk).1
 obtain ⟨h1,⟨-,rfl⟩|⟨g,cap,cur,rfl,hB,hg,hn,hc,hcs,ht⟩⟩:=h
 ·omega
 ·have hB2:Blk w g cur e:=hg
  have hks:(k+1)*s≤n*s:=Nat.mul_le_mul_right _ (by omega)
  have hns:n*s≤cap*s:=Nat.mul_le_mul_right _ (by omega)
  rw [Nat.succ_mul] at hks
  refine ⟨g,cap,rfl,hB2.lt,?_,?_⟩
  case refine_2 =>
   intro o ho
   have e1:=flat_row f s hf l k p hk
   rw [← ht] at e1
   rw [hB2.at,← Array.getElem?_toList,← e1,List.getElem?_take,if_pos ho,List.getElem?_drop,List.getElem?_take,if_pos (by omega)]
  rw [hB2.row? (k*s) s (by omega)]
  congr 1
  apply Array.ext'
  have e1:=flat_row f s hf l k p hk
  rw [← ht] at e1
  have e2:(cur.extract (k*s) (k*s+s)).toList=(cur.toList.drop (k*s)).take s:=by simp
  rw [e2,← e1,List.drop_take,List.take_take]
  congr 1
  omega
structure TruOK (T:TruD):Prop where
 c:T.c.may=true
 n:T.p.length=T.c.nodes.toNat
 p:∀ p ∈ T.p,(-4194304≤p.1∧p.1≤4194304) ∧ -4194304≤p.2∧p.2≤4194304
 time:0≤T.time∧T.time≤750000
 steps:0≤T.steps∧T.steps≤16777215
theorem TruOK.len {T:TruD} (h:TruOK T):T.p.length≤64:=by
 have:=h.n
 have:=(cfg_bd T.c h.c)
 have h2:T.c.nodes≤64:=by
  have:=h.c
  simp only [Cfg.may,inRg,Bool.and_eq_true,decide_eq_true_eq] at this
  omega
 omega
theorem TruOK.bd {T:TruD} (h:TruOK T) (i:Nat) (x y:Int) (hi:T.p[i]? = some (x,y)):(-4194304≤x∧x≤4194304) ∧ -4194304≤y∧y≤4194304:=h.p (x,y) (List.mem_of_getElem? hi)
theorem off_bd (i:Nat) (b m:Int) (hb:0≤b∧b≤13) (hm:0≤m∧m≤1000) : -m≤offF i b m∧offF i b m≤m:=by
 have b0:0≤b*(i:Int):=Int.mul_nonneg hb.1 (by omega)
 have t1:=Int.tmod_nonneg (2*m+1) b0
 have t2:=Int.tmod_lt_of_pos (b*(i:Int)) (show 0<2*m+1 by omega)
 unfold offF
 omega
theorem off_c (i:Nat) (b m:Int) (hi:i≤64) (hb:0≤b∧b≤13) (hm:0≤m∧m≤1000) (w:World):Calls Tryz.prog 142 #[.int .i64 i,.int .i64 b,.int .i64 m] w fun e w'=>e = .returned (.int .i64 (offF i b m))∧w'=w:=by
 have b0:0≤b*(i:Int):=Int.mul_nonneg hb.1 (by omega)
 have b1:b*(i:Int)≤13*64:=Int.mul_le_mul hb.2 (by omega) (by omega) (by decide)
 have w1:IntKind.i64.wrap (b*(i:Int))=b*i:=IntWalk.i64_in _ (by omega)
 have w2:IntKind.i64.wrap (2*m)=2*m:=IntWalk.i64_in _ (by omega)
 have w3:IntKind.i64.wrap (2*m+1)=2*m+1:=IntWalk.i64_in _ (by omega)
 have hz:¬ (2*m+1=0):=by omega
 have t1:=Int.tmod_nonneg (2*m+1) b0
 have t2:=Int.tmod_lt_of_pos (b*(i:Int)) (show 0<2*m+1 by omega)
 have HW:Hid (wrap64 (b*(i:Int)%(2*m+1)-m)=offF i b m):=by
  show _=_
  unfold offF
  rw [Int.tmod_eq_emod_of_nonneg b0] at t1 t2 ⊢
  obtain ⟨z,hz⟩:∃ z,b*(i:Int)%(2*m+1)=z:=⟨_,rfl⟩
  rw [hz] at t1 t2 ⊢
  unfold wrap64
  omega
 clear t1 t2
 go_enter Tryz.func142,Tryz.ntmps142
 go_wp2
 go_ret
 exact ⟨by rw [← HW.out];rfl,rfl⟩
theorem cin_c (n l m:Int) (h1:l≤n) (h2:n≤m) (w:World):Calls Tryz.prog 191 #[.int .i64 n,.int .i64 l,.int .i64 m] w fun e w'=>e = .returned (.bool true)∧w'=w:=by
 go_enter Tryz.func191,Tryz.ntmps191
 go_wp2
 go_ret
 exact ⟨by simp [h2],rfl⟩
theorem fine_bd (dr of_ g:Int) (h1 : -1000≤dr∧dr≤1000) (h2:0≤of_∧of_≤70368744177664) (h3:0≤g∧g≤70368744177664):mulDivV g (1000000+dr) 1000000=((g*(1000000+dr)).fdiv 1000000,0)∧0≤(g*(1000000+dr)).fdiv 1000000∧(g*(1000000+dr)).fdiv 1000000≤70439112921842∧fineF dr of_ g=((g*(1000000+dr)).fdiv 1000000+of_,0):=by
 have p0:0≤g*(1000000+dr):=Int.mul_nonneg h3.1 (by omega)
 have p1:g*(1000000+dr)≤70368744177664*1001000:=Int.mul_le_mul h3.2 (by omega) (by omega) (by decide)
 have e:(g*(1000000+dr)).fdiv 1000000=(g*(1000000+dr))/1000000:=Int.fdiv_eq_ediv_of_nonneg _ (by decide)
 obtain ⟨P,hP⟩:∃ P,g*(1000000+dr)=P:=⟨_,rfl⟩
 have q0:0≤P.fdiv 1000000∧P.fdiv 1000000≤70439112921842:=by rw [hP] at e p0 p1;rw [e];omega
 refine ⟨?_,by rw [hP];exact q0.1,by rw [hP];exact q0.2,?_⟩
 ·rw [mulDiv_eq _ _ _ (Sm.of64 (by omega) (by omega)) (Sm.of64 (by omega) (by omega)) (Sm.of64 (by decide) (by decide)),if_neg (by decide),hP]
  unfold fitI
  rw [if_pos (by omega)]
 ·unfold fineF
  rw [if_pos (by simp [inRg];omega)]
theorem cFine_c (dr of_ g:Int) (h1 : -1000≤dr∧dr≤1000) (h2:0≤of_∧of_≤70368744177664) (h3:0≤g∧g≤70368744177664) (w:World):Calls Tryz.prog 143 #[.int .i64 dr,.int .i64 of_,.int .i64 g] w fun e w'=>e = .returned (.tuple #[.int .i64 (fineF dr of_ g).1,.int .i64 0])∧Below w.heap.size w w':=by
 obtain ⟨hm,q0,q1,hf⟩:=fine_bd dr of_ g h1 h2 h3
 have EV:Hid ((fineF dr of_ g).1=(g*(1000000+dr)).fdiv 1000000+of_):=by show _=_;rw [hf]
 obtain ⟨q,hq⟩:∃ q,(g*(1000000+dr)).fdiv 1000000=q:=⟨_,rfl⟩
 rw [hq] at hm q0 q1
 have HQ:=Lib.hid hq
 have HM:Hid (∀ w,Calls Tryz.prog 83 #[.int .i64 g,.int .i64 (1000000+dr),.int .i64 1000000] w fun e w'=>e = .returned (.tuple #[.int .i64 q,.int .i64 0])∧Below w.heap.size w w'):=fun w=>(mulDiv_c _ _ _ (by omega) (by omega) (by decide) w).mono (by rintro e w' ⟨rfl,hb⟩;rw [hm];exact ⟨rfl,hb⟩)
 have w1:IntKind.i64.wrap (1000000+dr)=1000000+dr:=IntWalk.i64_in _ (by omega)
 have w2:IntKind.i64.wrap (q+of_)=q+of_:=IntWalk.i64_in _ (by omega)
 obtain ⟨h11,h12⟩:=h1
 obtain ⟨h21,h22⟩:=h2
 obtain ⟨h31,h32⟩:=h3
 clear hq hm hf
 go_enter Tryz.func143,Tryz.ntmps143
 go_wp2_with (first
  | (go_at_call 191;refine (cin_c _ _ _ ?h1 ?h2 _).mono ?_;(case h1=>first|assumption|decide);(case h2=>first|assumption|decide);rintro e w1 ⟨rfl,h⟩;have h9:=h.symm;subst h9)
  | (go_at_call 83;refine (HM.out _).mono ?_;rintro e w2 ⟨rfl,hb2⟩))
 go_ret2
 exact ⟨by rw [EV.out,HQ.out] <;> rfl,hb2⟩
theorem sq_bx (u m:Int) (h1 : -m≤u) (h2:u≤m):0≤u*u∧u*u≤m*m:=by
 refine ⟨int_sq_nonneg u,?_⟩
 have h3:=Int.mul_nonneg (show 0≤m-u by omega) (show 0≤m+u by omega)
 have e:(m-u)*(m+u)=m*m-u*u:=by grind
 omega
theorem rsqrt_n (n:Int) (h0:0≤n) (h:n≤9223372036854775807) (w:World):Calls Tryz.prog 246 #[.int .i64 n] w fun e w'=>e = .returned (.int .i64 (rtI n))∧Below w.heap.size w w':=by
 obtain ⟨m,rfl⟩:=Int.eq_ofNat_of_zero_le h0
 have:=rsqrt_v m (rt m) (by omega) rfl w
 simpa [rtI] using this
theorem turnIn_c (n m:Int) (h1 : -m≤n) (h2:n≤m) (hm:0≤m∧m≤4611686018427387904) (w:World):Calls Tryz.prog 179 #[.int .i64 n,.int .i64 m] w fun e w'=>e = .returned (.bool true)∧w'=w:=by
 have w1:IntKind.i64.wrap (-m) = -m:=IntWalk.i64_in _ (by omega)
 go_enter Tryz.func179,Tryz.ntmps179
 go_wp2
 go_ret
 exact ⟨by simp [h2],rfl⟩
theorem dist_c (x y u v:Int) (h1 : -4194304≤x∧x≤4194304) (h2 : -4194304≤y∧y≤4194304) (h3 : -4194304≤u∧u≤4194304) (h4 : -4194304≤v∧v≤4194304) (w:World) :
  Calls Tryz.prog 184 #[.agg #[.int .i64 x,.int .i64 y],.agg #[.int .i64 u,.int .i64 v]] w fun e w'=>e = .returned (.int .i64 (distF (x,y) (u,v)))∧Below w.heap.size w w':=by
 have s1:0≤(x-u)*(x-u)∧(x-u)*(x-u)≤8388608*8388608:=sq_bx (x-u) 8388608 (by omega) (by omega)
 have s2:0≤(y-v)*(y-v)∧(y-v)*(y-v)≤8388608*8388608:=sq_bx (y-v) 8388608 (by omega) (by omega)
 have EV:Hid (distF (x,y) (u,v)=rtI ((x-u)*(x-u)+(y-v)*(y-v))):=by show _=_;unfold distF;rw [if_pos (by simp [inRg];omega),rtI_f _ (by omega)]
 have w1:IntKind.i64.wrap (x-u)=x-u:=IntWalk.i64_in _ (by omega)
 have w2:IntKind.i64.wrap (y-v)=y-v:=IntWalk.i64_in _ (by omega)
 have w3:IntKind.i64.wrap ((x-u)*(x-u))=(x-u)*(x-u):=IntWalk.i64_in _ (by omega)
 have w4:IntKind.i64.wrap ((y-v)*(y-v))=(y-v)*(y-v):=IntWalk.i64_in _ (by omega)
 have w5:IntKind.i64.wrap ((x-u)*(x-u)+(y-v)*(y-v))=(x-u)*(x-u)+(y-v)*(y-v):=IntWalk.i64_in _ (by omega)
 have HS:Hid (∀ w,Calls Tryz.prog 246 #[.int .i64 ((x-u)*(x-u)+(y-v)*(y-v))] w fun e w'=>e = .returned (.int .i64 (rtI ((x-u)*(x-u)+(y-v)*(y-v))))∧Below w.heap.size w w'):=fun w=>rsqrt_n _ (by omega) (by omega) w
 obtain ⟨h11,h12⟩:=h1
 obtain ⟨h21,h22⟩:=h2
 obtain ⟨h31,h32⟩:=h3
 obtain ⟨h41,h42⟩:=h4
 have i0:=fun w=>(ix4l x y u v w).1
 have i1:=fun w=>(ix4l x y u v w).2.1
 have i2:=fun w=>(ix4l x y u v w).2.2.1
 have i3:=fun w=>(ix4l x y u v w).2.2.2
 clear s1 s2
 go_enter Tryz.func184,Tryz.ntmps184
 go_wp2_with fail
 refine name_wp ?_;intro wd hwd
 have BX:Blk wd w.heap.size #[.int .i64 x,.int .i64 y] 31:=by rw [hwd];exact (Blk.new _ _ _).alloc _
 have BY:Blk wd (w.heap.size+1) #[.int .i64 u,.int .i64 v] 31:=by rw [hwd];exact Blk.new1 _ _ _ _
 have HB:Hid (Below w.heap.size w wd):=by rw [hwd];show Below _ _ _;exact below_byR
 clear hwd
 go_loopw [18] (fun t18 wr=>∃ j:Nat,j≤4∧t18 = .int .i64 j∧wr=wd) (fun t18 _=>4-(intOf t18).toNat)
 case atStart=>exact ⟨0,by omega,rfl,rfl⟩
 case round =>
  obtain ⟨j,hj,rfl,h⟩:=hrel
  have h9:=h.symm
  subst h9
  obtain ⟨y1,c1,f1,-⟩:=bk_o BX
  obtain ⟨y2,c2,f2,-⟩:=bk_o BY
  by_cases hlt:j<4
  ·rcases j with _|_|_|_|j
   all_goals first|(exfalso;omega)|skip
   all_goals go_wp2_with (go_at_call 179;refine (turnIn_c _ _ ?h1 ?h2 (by decide) _).mono ?_;(case h1=>assumption);(case h2=>assumption);rintro e w1 ⟨rfl,h⟩;have h9:=h.symm;subst h9)
   all_goals go_roundw
   all_goals first|exact ⟨1,by omega,rfl,trivial⟩|exact ⟨2,by omega,rfl,trivial⟩|exact ⟨3,by omega,rfl,trivial⟩|exact ⟨4,by omega,rfl,trivial⟩|(simp [intOf];done)
  ·have h4:j=4:=by omega
   subst h4
   go_wp2_with fail
   go_region
   all_goals go_wp2_with (go_at_call 246;refine (HS.out _).mono ?_;rintro e w2 ⟨rfl,hb2⟩)
   all_goals go_ret
   all_goals exact ⟨by rw [EV.out] <;> rfl,HB.out.drew.trans (Below.mono hb2 (by have:=HB.out.size;first|omega|(simp;omega)))⟩
theorem TruIn.set_g {S:Nat→Prop} {w w':World} {g:Nat} {T T':TruD} {pv mv:Value} (h:TruIn S w g T pv mv) (ho:OnlyAt g w w') (hb:Blk w' g (truC T' pv mv) 134) (e1:T'.p=T.p) (e2:T'.moved=T.moved):TruIn S w' g T' pv mv :=
 have ht:TurnsT (fun _=>True) [134] false w w':=TurnsT.of_only ho h.blk (List.mem_singleton.2 rfl) trivial
 ⟨hb,h.sg,by rw [e1];exact row_turns h.rp ht (by decide),h.sp,by rw [e2];exact row_turns h.rm ht (by decide),h.sm⟩
section
variable {S:Nat→Prop} {w:World} {g:Nat} {T:TruD} {pv mv:Value} (H:TruIn S w g T pv mv)
include H
theorem tHas_c (i:Nat) (hi:i<T.p.length):Calls Tryz.prog 59 #[ptr g,.int .i64 i] w fun e w'=>e = .returned (.bool true)∧w'=w:=by
 obtain ⟨ao,cap,rfl⟩:=row_form H.rp
 have q:w.cell? ⟨g,11,none⟩=some (.slice ao T.p.length cap):=H.blk.cell rfl
 have h1:(i:Int)<(T.p.length:Int):=by omega
 have h2:¬ (i:Int)<0:=by omega
 have h3:(0:Int)≤(i:Int):=by omega
 clear H hi
 go_enter Tryz.func59,Tryz.ntmps59
 go_wp2
 go_ret
 exact ⟨by first|rfl|(simp [h1];done),rfl⟩
theorem tPlace_c (i:Nat) (x y:Int) (hi:T.p[i]? = some (x,y)):Calls Tryz.prog 55 #[ptr g,.int .i64 i] w fun e w'=>e = .returned (.tuple #[.agg #[.int .i64 x,.int .i64 y],.bool true])∧Below w.heap.size w w':=by
 have hil:=(List.getElem?_eq_some_iff.1 hi).1
 obtain ⟨b,cap,rfl,hbl,hr,hcc⟩:=row_cells (f:=ptL) (s:=2) (fun _=>rfl) (by decide) H.rp hi rfl
 have HH:Hid (∀ w1,Below w.heap.size w w1→Calls Tryz.prog 59 #[ptr g,.int .i64 i] w1 fun e w'=>e = .returned (.bool true)∧w'=w1):=fun w1 hb=>tHas_c (H.below hb) i hil
 have q:w.cell? ⟨g,11,none⟩=some (.slice (some ⟨b,0,none⟩) T.p.length cap):=H.blk.cell rfl
 have hgl:=H.blk.lt
 have r0:w.cell? ⟨b,i*2,none⟩=some (.int .i64 x):=hcc 0 (by omega)
 have r1:w.cell? ⟨b,i*2+1,none⟩=some (.int .i64 y):=hcc 1 (by omega)
 have r2:w.row? b (i*2) 2=some #[.int .i64 x,.int .i64 y]:=hr
 have h1:(i:Int)<(T.p.length:Int):=by omega
 have h3:(0:Int)≤(i:Int):=by omega
 clear H hi hcc hr
 go_enter Tryz.func55,Tryz.ntmps55
 go_wp2_with (go_at_call 59;refine (HH.out _ below_byR).mono ?_;rintro e w1 ⟨rfl,h⟩;have h9:=h.symm;subst h9)
 exact bodyPost_row_t 2 #[.int .i64 x,.int .i64 y] (.bool true) rfl rfl rfl rfl Tryz.underlying31 rfl (by kernel_rfl) (rc2 (by go_simp) (by go_simp)) ⟨rfl,below_byR⟩
theorem tStep_c (OK:TruOK T):Calls Tryz.prog 65 #[ptr g] w fun e w'=>e = .returned (.int .i64 T.step.2)∧OnlyAt g w w'∧TruIn S w' g T.step.1 pv mv:=by
 have ht1:=OK.time.1
 have ht2:=OK.time.2
 have hs1:=OK.steps.1
 have hs2:=OK.steps.2
 have q13:w.cell? ⟨g,13,none⟩=some (.int .i64 T.time):=H.blk.cell rfl
 have q14:w.cell? ⟨g,14,none⟩=some (.int .i64 T.steps):=H.blk.cell rfl
 have f1:=H.blk.frozen
 have y1:=H.blk.lt
 have w1:IntKind.i64.wrap (T.steps+1)=T.steps+1:=IntWalk.i64_in _ (by omega)
 have w2:IntKind.i64.wrap (T.time*16777216)=T.time*16777216:=IntWalk.i64_in _ (by omega)
 have w3:IntKind.i64.wrap (T.time*16777216+min (T.steps+1) 16777215)=T.time*16777216+min (T.steps+1) 16777215:=IntWalk.i64_in _ (by omega)
 have HH:=Lib.hid H
 clear H OK
 go_enter Tryz.func65,Tryz.ntmps65
 go_wp2_with fail
 go_region
 all_goals go_wp2_with fail
 all_goals go_ret
 all_goals (have O:OnlyAt g w (w.setCell ⟨g,14,none⟩ (.int .i64 (min (T.steps+1) 16777215))):=OnlyAt.refl.setCell 14 _)
 all_goals exact ⟨rfl,O.drew,(HH.out.set_g O.drew ((HH.out.blk.setCell_same 14 _).of_eq rfl).drew rfl rfl)⟩
theorem tNow_c (OK:TruOK T) (i:Nat) (hi:i<T.p.length):Calls Tryz.prog 68 #[ptr g,.int .i64 i] w fun e w'=>e = .returned (.int .i64 (T.now i))∧Below w.heap.size w w':=by
 have hc:=cfg_bd T.c OK.c
 have hl:=OK.len
 have EV:Hid (T.now i=localF (offF i 7 T.c.skew) T.time):=by show _=_;unfold TruD.now;rw [if_pos hi]
 have HH:Hid (∀ w1,Below w.heap.size w w1→Calls Tryz.prog 59 #[ptr g,.int .i64 i] w1 fun e w'=>e = .returned (.bool true)∧w'=w1):=fun w1 hb=>tHas_c (H.below hb) i hi
 have HO:Hid (∀ w1,Calls Tryz.prog 142 #[.int .i64 i,.int .i64 7,.int .i64 T.c.skew] w1 fun e w'=>e = .returned (.int .i64 (offF i 7 T.c.skew))∧w'=w1):=fun w1=>off_c i 7 T.c.skew (by omega) (by decide) (by omega) w1
 have q4:w.cell? ⟨g,4,none⟩=some (.int .i64 T.c.skew):=H.blk.cell rfl
 have q13:w.cell? ⟨g,13,none⟩=some (.int .i64 T.time):=H.blk.cell rfl
 have hgl:=H.blk.lt
 clear H OK hc hl hi
 go_enter Tryz.func68,Tryz.ntmps68
 go_wp2_with (go_at_call 59;refine (HH.out _ below_byR).mono ?_;rintro e w1 ⟨rfl,h⟩;have h9:=h.symm;subst h9)
 go_region_held3 (fun w'=>w'.cell? ⟨g,4,none⟩=some (.int .i64 T.c.skew)∧w'.cell? ⟨g,13,none⟩=some (.int .i64 T.time)) (go_simp)
  (first
  | (go_at_call 142;refine (HO.out _).mono ?_;rintro e w1 ⟨rfl,h⟩;have h9:=h.symm;subst h9)
  | (go_at_call 141;refine (local_c _ _ _).mono ?_;rintro e w2 ⟨rfl,hb2⟩;have z_w2:=hb2.size;(try simp at z_w2);obtain ⟨y_w2_g,c_w2_g,f_w2_g,r_w2_g,t_w2_g,p_w2_g⟩:=bq hb2 (g)))
 all_goals go_wp2_with fail
 all_goals go_ret
 all_goals exact ⟨by rw [EV.out] <;> rfl,below_byR⟩
theorem tFine_c (OK:TruOK T) (i:Nat) (hi:i<T.p.length) (G:Int) (hg:0≤G∧G≤70368744177664):Calls Tryz.prog 69 #[ptr g,.int .i64 i,.int .i64 G] w fun e w'=>e = .returned (.int .i64 (T.fine i G))∧Below w.heap.size w w':=by
 have hc:=cfg_bd T.c OK.c
 have hl:=OK.len
 have EV:Hid (T.fine i G=(fineF (offF i 13 T.c.drift) (12345*i) G).1):=by show _=_;unfold TruD.fine;rw [if_pos hi]
 have HH:Hid (∀ w1,Below w.heap.size w w1→Calls Tryz.prog 59 #[ptr g,.int .i64 i] w1 fun e w'=>e = .returned (.bool true)∧w'=w1):=fun w1 hb=>tHas_c (H.below hb) i hi
 have HO:Hid (∀ w1,Calls Tryz.prog 142 #[.int .i64 i,.int .i64 13,.int .i64 T.c.drift] w1 fun e w'=>e = .returned (.int .i64 (offF i 13 T.c.drift))∧w'=w1):=fun w1=>off_c i 13 T.c.drift (by omega) (by decide) (by omega) w1
 have ob:=off_bd i 13 T.c.drift (by decide) (by omega)
 have HF:Hid (∀ w1,Calls Tryz.prog 143 #[.int .i64 (offF i 13 T.c.drift),.int .i64 (12345*(i:Int)),.int .i64 G] w1 fun e w'=>e = .returned (.tuple #[.int .i64 (fineF (offF i 13 T.c.drift) (12345*i) G).1,.int .i64 0])∧Below w1.heap.size w1 w'):=fun w1=>cFine_c _ _ _ (by omega) (by omega) hg w1
 have w1:IntKind.i64.wrap (12345*(i:Int))=12345*(i:Int):=IntWalk.i64_in _ (by omega)
 have q5:w.cell? ⟨g,5,none⟩=some (.int .i64 T.c.drift):=H.blk.cell rfl
 have hgl:=H.blk.lt
 clear H OK hc hl hi hg ob
 go_enter Tryz.func69,Tryz.ntmps69
 go_wp2_with (first
  | (go_at_call 59;refine (HH.out _ below_byR).mono ?_;rintro e w1 ⟨rfl,h⟩;have h9:=h.symm;subst h9)
  | (go_at_call 142;refine (HO.out _).mono ?_;rintro e w1 ⟨rfl,h⟩;have h9:=h.symm;subst h9)
  | (go_at_call 143;refine (HF.out _).mono ?_;rintro e w2 ⟨rfl,hb2⟩))
 go_ret
 exact ⟨by rw [EV.out] <;> rfl,below_byR⟩
theorem tFlight_c (OK:TruOK T) (i j:Nat) (hi:i<T.p.length) (hj:j<T.p.length):Calls Tryz.prog 132 #[ptr g,.int .i64 i,.int .i64 j] w fun e w'=>e = .returned (.int .i64 (T.flight i j))∧Below w.heap.size w w':=by
 obtain ⟨⟨x,y⟩,h1⟩:∃ p,T.p[i]? = some p:=⟨_,List.getElem?_eq_getElem hi⟩
 obtain ⟨⟨u,v⟩,h2⟩:∃ p,T.p[j]? = some p:=⟨_,List.getElem?_eq_getElem hj⟩
 have b1:=OK.bd i x y h1
 have b2:=OK.bd j u v h2
 have EV:Hid (T.flight i j=distF (x,y) (u,v)):=by show _=_;unfold TruD.flight;rw [h1,h2]
 have HI:Hid (∀ w1,Below w.heap.size w w1→Calls Tryz.prog 59 #[ptr g,.int .i64 i] w1 fun e w'=>e = .returned (.bool true)∧w'=w1):=fun w1 hb=>tHas_c (H.below hb) i hi
 have HJ:Hid (∀ w1,Below w.heap.size w w1→Calls Tryz.prog 59 #[ptr g,.int .i64 j] w1 fun e w'=>e = .returned (.bool true)∧w'=w1):=fun w1 hb=>tHas_c (H.below hb) j hj
 have HD:Hid (∀ w1,Calls Tryz.prog 184 #[.agg #[.int .i64 x,.int .i64 y],.agg #[.int .i64 u,.int .i64 v]] w1 fun e w'=>e = .returned (.int .i64 (distF (x,y) (u,v)))∧Below w1.heap.size w1 w'):=fun w1=>dist_c x y u v b1.1 b1.2 b2.1 b2.2 w1
 obtain ⟨b,cap,rfl,hbl,hr1,hcc1⟩:=row_cells (f:=ptL) (s:=2) (fun _=>rfl) (by decide) H.rp h1 rfl
 obtain ⟨b',cap',hbb,-,hr2,hcc2⟩:=row_cells (f:=ptL) (s:=2) (fun _=>rfl) (by decide) H.rp h2 rfl
 injection hbb with hb3 _ hb4
 injection hb3 with hb3
 injection hb3 with hb3
 subst hb3;subst hb4
 have q:w.cell? ⟨g,11,none⟩=some (.slice (some ⟨b,0,none⟩) T.p.length cap):=H.blk.cell rfl
 have hgl:=H.blk.lt
 have u1:w.cell? ⟨b,i*2,none⟩=some (.int .i64 x):=hcc1 0 (by omega)
 have u2:w.cell? ⟨b,i*2+1,none⟩=some (.int .i64 y):=hcc1 1 (by omega)
 have v1:w.cell? ⟨b,j*2,none⟩=some (.int .i64 u):=hcc2 0 (by omega)
 have v2:w.cell? ⟨b,j*2+1,none⟩=some (.int .i64 v):=hcc2 1 (by omega)
 have k1:(i:Int)<(T.p.length:Int):=by omega
 have k2:(0:Int)≤(i:Int):=by omega
 have k3:(j:Int)<(T.p.length:Int):=by omega
 have k4:(0:Int)≤(j:Int):=by omega
 clear H OK h1 h2 hcc1 hcc2 hr1 hr2 b1 b2
 go_enter Tryz.func132,Tryz.ntmps132
 go_wp2_with fail
 refine (HI.out _ below_byR).mono ?_;rintro e w1 ⟨rfl,h⟩;have h9:=h.symm;subst h9
 go_wp2_with fail
 refine (HJ.out _ below_byR).mono ?_;rintro e w1 ⟨rfl,h⟩;have h9:=h.symm;subst h9
 go_wp2_with fail
 replace q:=cell_regrown q
 replace u1:=cell_regrown u1
 replace u2:=cell_regrown u2
 replace v1:=cell_regrown v1
 replace v2:=cell_regrown v2
 refine wp_region_quiet_below (by kernel_rfl) (by kernel_rfl) ?_
 repeat (go_big_quiet_step (first|(go_at_call 184;exact Calls.regrown_of (HD.out _))))
 refine wpQuiet_nil ?_
 intro wq hwq
 have hbq:=below_of_regrown hwq
 clear hwq q u1 u2 v1 v2
 go_wp2_with fail
 go_ret
 exact ⟨by rw [EV.out] <;> rfl,below_byR⟩
end
theorem infoBool:(Tryz.prog.info? 4).map (fun i=>(i.zero,i.size,i.bytes))=some (some (.bool false),1,1):=by kernel_rfl
theorem madeL (n:Nat):(madeCells #[Value.bool false] n).toList=(List.replicate n false).map Value.bool:=by
 rw [toList_madeCells_one];simp
theorem made_own (w:World) (n:Nat) (h:n≤maxLen):(w.alloc (.cells (madeCells #[.bool false] n) 4)).ownsRow 0 4 1 (.slice (some ⟨w.heap.size,0,none⟩) n n) n ((List.replicate n false).map Value.bool):=by
 have hs:(madeCells #[Value.bool false] n).size=n:=by rw [← Array.length_toList,madeL];simp
 exact ⟨by simp,.inr ⟨w.heap.size,n,_,rfl,Nat.zero_le _,heap_alloc_new w _,Nat.le_refl _,h,by rw [hs,Nat.mul_one],by rw [madeL,Nat.mul_one,List.take_of_length_le (by simp)]⟩⟩
section
variable {S:Nat→Prop} {w:World} {g:Nat} {T:TruD} {pv mv:Value} (H:TruIn S w g T pv mv)
include H
theorem tTick_c (OK:TruOK T) (ht:T.time<750000):Calls Tryz.prog 64 #[ptr g] w fun e w'=>e = .returned (.bool true)∧Turns S w w'∧TruAt (Sn S w) w' g T.tick.1:=by
 have hl:=OK.len
 have ht1:=OK.time.1
 have EV:Hid (T.tick.1 = { T with time:=T.time+1,steps:=0,moved:=List.replicate T.p.length false }):=by show _=_;unfold TruD.tick;rw [if_neg (by omega)]
 obtain ⟨ao,cap,rfl⟩:=row_form H.rp
 have q13:w.cell? ⟨g,13,none⟩=some (.int .i64 T.time):=H.blk.cell rfl
 have q11:w.cell? ⟨g,11,none⟩=some (.slice ao T.p.length cap):=H.blk.cell rfl
 have q14:w.cell? ⟨g,14,none⟩=some (.int .i64 T.steps):=H.blk.cell rfl
 have q12:w.cell? ⟨g,12,none⟩=some mv:=H.blk.cell rfl
 have f1:=H.blk.frozen
 have y1:=H.blk.lt
 have h1:¬ (750000:Int)≤T.time:=by omega
 have w1:IntKind.i64.wrap (T.time+1)=T.time+1:=IntWalk.i64_in _ (by omega)
 have hm:=run_make_row' (P:=Tryz.prog) 71 4 (.bool false) 1 Tryz.underlying71 infoBool rfl .i64 .i64 T.p.length (by omega) (by omega)
 have HH:=Lib.hid H
 have HL:=Lib.hid hl
 clear H OK
 go_enter Tryz.func64,Tryz.ntmps64
 go_wp2_with fail
 go_ret
 obtain ⟨z,hz⟩:∃ z,((w.setCell ⟨g,13,none⟩ (.int .i64 (T.time+1))).setCell ⟨g,14,none⟩ (.int .i64 0)).setCell ⟨g,12,none⟩ (.slice (some ⟨w.heap.size,0,none⟩) T.p.length T.p.length)=z:=⟨_,rfl⟩
 have O1:OnlyAt g w z:=by rw [← hz];exact ((OnlyAt.refl.setCell 13 _).setCell 14 _).setCell 12 _
 have B1:Blk z g (truC { T with time:=T.time+1,steps:=0,moved:=List.replicate T.p.length false } (.slice ao T.p.length cap) (.slice (some ⟨w.heap.size,0,none⟩) T.p.length T.p.length)) 134:=by
  rw [← hz];exact (((HH.out.blk.setCell_same 13 _).setCell_same 14 _).setCell_same 12 _).of_eq rfl
 have hzs:z.heap.size=w.heap.size:=by rw [← hz];simp
 rw [hz]
 have MO:=made_own z T.p.length (by have:=HL.out;unfold maxLen;omega)
 rw [hzs] at MO
 have TO:TurnsT (fun _=>True) [134] false w _:=TurnsT.of_only (O1.alloc (.cells (madeCells #[.bool false] T.p.length) 4)) HH.out.blk (List.mem_singleton.2 rfl) trivial
 rw [EV.out]
 refine ⟨rfl,Turns.of_only (O1.alloc _) (.inl HH.out.sg),.slice ao T.p.length cap,.slice (some ⟨w.heap.size,0,none⟩) T.p.length T.p.length,?_⟩
 refine ⟨B1.alloc _,.inl HH.out.sg,row_turns HH.out.rp TO (by decide),fun b e => .inl (HH.out.sp b e),?_,fun b e => .inr (by injection e with e;simp only at e;omega)⟩
 simpa using MO
end
end Go.Proofs.YtechbdnhalmobaaGreatDoor
