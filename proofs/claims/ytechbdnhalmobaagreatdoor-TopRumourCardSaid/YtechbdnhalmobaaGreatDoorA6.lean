/- Tables: New, Get, Put, Leave. -/
import Derived.Test.YtechbdnhalmobaaGreatDoorA5
set_option maxRecDepth 100000
set_option maxHeartbeats 16000000
namespace Go.Proofs.YtechbdnhalmobaaGreatDoor
set_option linter.unusedSimpArgs false
set_option linter.unusedVariables false
open Go.RowKit Go.Maps
theorem lk_ents (t:TabD) (n:Int):lk (t.ents.map fun p=>(p.1,entV p.2)) n=(lk t.ents n).map entV:=lk_map (fun _ x=>entV x) _ _
theorem getD_ent (r:Option EntD):(r.map entV).getD (entV .zero)=entV (r.getD .zero):=by cases r <;> rfl
theorem some_ent (r:Option EntD):(r.map entV).isSome=r.isSome:=by cases r <;> rfl
theorem tabNew_c (n:Int) (w:World):Calls Tryz.prog 118 #[.int .i64 n] w fun e w'=>∃ g L,e = .returned (.pointer (some ⟨g,0,none⟩))∧TabAt (fun k=>w.heap.size≤k) w' g L (.new n)∧Below w.heap.size w w':=by
 have hmm:=@run_makeMap Tryz.prog
 go_enter Tryz.func118,Tryz.ntmps118
 go_wp2_with fail
 go_ret
 refine ⟨_,⟨w.heap.size,w.heap.size+1,fun _=>0⟩,rfl,⟨?_,?_,?_,?_,?_,?_,?_,?_,?_⟩,below_byR⟩
 ·exact Blk.new' _ _ _ (by simp)
 ·exact ((MapAt.new w).below ((Below.refl _ _).alloc (Nat.le_refl _) _)).below ((Below.refl _ _).alloc (Nat.le_refl _) _)
 ·have h:=(MapAt.new (w.alloc (.map #[] 0))).below ((Below.refl _ _).alloc (Nat.le_refl _) (Obj.cells #[.int .i64 (max 1 (min n 64)),.map (some w.heap.size),.map (some (w.heap.size+1))] 128))
  have e:(w.alloc (.map #[] 0)).heap.size=w.heap.size+1:=by simp
  rw [e] at h
  exact h
 ·exact Nat.ne_of_lt (Nat.lt_succ_self _)
 ·show w.heap.size≤_;omega
 ·exact Nat.le_refl _
 ·exact Nat.le_succ _
 ·intro p hp;cases hp
 ·intro p hp;cases hp
theorem asc_len {α:Type} {m:List (Int × α)} (h:∀ p ∈ m,0≤p.1∧p.1<64) (ha:m.Pairwise (fun p q=>p.1<q.1)):m.length≤64:=by
 have key:∀ (l:List (Int × α)) (b:Int),b≤64→(∀ p ∈ l,b≤p.1∧p.1<64)→l.Pairwise (fun p q=>p.1<q.1)→(l.length:Int)≤64-b:=by
  intro l
  induction l with
  | nil=>intro b hb _ _;simp;omega
  | cons x r ih =>
   intro b hb hx hp
   obtain ⟨h1,h2⟩:=List.pairwise_cons.1 hp
   have hx0:=hx x (by simp)
   have:=ih (x.1+1) (by omega) (fun p hp=>⟨by have:=h1 p hp;omega,(hx p (by simp [hp])).2⟩) h2
   simp only [List.length_cons];omega
 have:=key m 0 (by decide) h ha
 omega
section
variable {S:Nat→Prop} {w:World} {g:Nat} {L:TLay} {t:TabD} (H:TabAt S w g L t)
include H
theorem tabGet_c (n:Int) (hn : -9223372036854775808≤n∧n≤9223372036854775807) (r:Option EntD) (hr:lk t.ents n=r) :
  Calls Tryz.prog 93 #[.pointer (some ⟨g,0,none⟩),.int .i64 n] w fun e w'=>e = .returned (.tuple #[entV (r.getD .zero),.bool r.isSome])∧Below w.heap.size w w':=by
 have HL:Hid (lk (t.ents.map fun p=>(p.1,entV p.2)) n=r.map entV):=by show _=_;rw [lk_ents,hr]
 have HH:=Lib.hid H
 have HN:=Lib.hid hn
 obtain ⟨y1,c1,f1,-⟩:=bk_o H.blk
 obtain ⟨⟨x0,x1,x2,x3,⟨e0,e1,e2,e3,e4⟩,x5⟩,hx⟩:∃ x,r.getD .zero=x:=⟨_,rfl⟩
 obtain ⟨ok,hok⟩:∃ b,r.isSome=b:=⟨_,rfl⟩
 have HX:=Lib.hid hx
 have HO:=Lib.hid hok
 clear H hn hr hx hok
 go_enter Tryz.func93,Tryz.ntmps93
 go_wp2_with (first|(at_lookup;refine wpList_lookM rfl _ _ 125 99 rfl Tryz.underlying125 _ zeroEnt L.me _ rfl (HH.out.me.below below_byR) n rfl HN.out _ HL.out ?_;rw [getD_ent,some_ent,HX.out,HO.out]))
 rw [HX.out,HO.out]
 exact bodyPost_row_t 10 #[.int .i64 x0,.int .i64 x1,.int .i64 x2,.bool x3,.int .i64 e0,.int .i64 e1,.int .i64 e2,.int .i64 e3,.int .i64 e4,.int .i64 x5] (.bool ok) rfl rfl rfl rfl Tryz.underlying99 rfl (by kernel_rfl) (by go_simp) ⟨rfl,below_byR⟩
omit H in
theorem tabTime_c (k:Int) (h:timeB k=true) (w:World):Calls Tryz.prog 253 #[.int .i64 k] w fun e w'=>e = .returned (.bool true)∧w'=w:=by
 have h':0≤k∧k≤1000000:=by simpa [timeB] using h
 obtain ⟨h1,h2⟩:=h'
 go_enter Tryz.func253,Tryz.ntmps253
 go_wp2
 go_ret
 exact ⟨by simp [h2],rfl⟩
omit H in
theorem TabOK.len (h:TabOK t):t.ents.length≤64∧t.lives.length≤64:=⟨asc_len (fun p hp=>⟨(h.ents p hp).2.1,(h.ents p hp).2.2.1⟩) h.asc,asc_len (fun p hp=>⟨(h.lives p hp).1,(h.lives p hp).2.1⟩) h.lasc⟩
theorem tabPut_c (OK:TabOK t) (n:Int) (hn : -9223372036854775808≤n∧n≤9223372036854775807) (v:EntD) (hr:lk t.ents n=some v) (x y a b d when:Int) (hm:El.may ⟨x,y,a,b,d⟩=true) (hw:timeB when=true) :
  Calls Tryz.prog 310 #[.pointer (some ⟨g,0,none⟩),.int .i64 n,elC x y a b d,.int .i64 when] w fun e w'=>e = .returned (.int .i64 0)∧OnlyAt L.me w w'∧TabAt S w' g L (t.put n ⟨x,y,a,b,d⟩ when).1:=by
 have HL:Hid (lk (t.ents.map fun p=>(p.1,entV p.2)) n=some (entV v)):=by show _=_;rw [lk_ents,hr];rfl
 have EV:Hid ((t.put n ⟨x,y,a,b,d⟩ when).1 = { t with ents:=ins t.ents n { v with has:=true,e:=⟨x,y,a,b,d⟩,when:=when } }):=by
  show _=_;unfold TabD.put;rw [hr];simp only;rw [if_neg (by simp [hm,hw])]
 have HH:=Lib.hid H
 have HN:=Lib.hid hn
 have HW:=Lib.hid hw
 have HM:=Lib.hid hm
 have HK:=Lib.hid OK.len.1
 obtain ⟨y1,c1,f1,-⟩:=bk_o H.blk
 obtain ⟨x0,x1,x2,x3,⟨e0,e1,e2,e3,e4⟩,x5⟩:=v
 clear H hn hr hw hm OK
 go_enter Tryz.func310,Tryz.ntmps310
 go_wp2_with (first
  | (at_lookup;refine wpList_lookM rfl _ _ 125 99 rfl Tryz.underlying125 _ zeroEnt L.me _ rfl (HH.out.me.below below_byR) n rfl HN.out _ HL.out ?_)
  | (go_at_call 34;refine (ellmay_n _ _ _ _ _ _ HM.out _).mono ?_;rintro e w1 ⟨rfl,hb1⟩)
  | (go_at_call 253;refine (tabTime_c _ HW.out _).mono ?_;rintro e w2 ⟨rfl,h2⟩;have h3:=h2.symm;subst h3))
 have B0:Hid (Blk w1 w.heap.size #[.int .i64 x,.int .i64 y,.int .i64 a,.int .i64 b,.int .i64 d] 35):=((Blk.new w _ _).alloc _).keep hb1
 have B1:Hid (Blk w1 (w.heap.size+1) (entC ⟨x0,x1,x2,x3,⟨e0,e1,e2,e3,e4⟩,x5⟩) 99):=(Blk.new' (w.alloc (Obj.cells #[.int .i64 x,.int .i64 y,.int .i64 a,.int .i64 b,.int .i64 d] 35)) _ _ (by simp)).keep hb1
 have z1:=hb1.size;simp at z1
 have HB:Hid (Below w.heap.size w w1):=(show Below _ _ _ from below_byR)
 clear y1 c1 f1 hb1
 obtain ⟨y1,c1,f1,-⟩:=bk_o (HH.out.below HB.out).blk
 obtain ⟨y2,c2,f2,-⟩:=bk_o B0.out
 obtain ⟨y3,c3,f3,-⟩:=bk_o B1.out
 go_region
 refine name_then ?_;intro u hu
 have U1:Hid (Blk u (w.heap.size+1) (entC ⟨x0,x1,x2,true,⟨x,y,a,b,d⟩,when⟩) 99):=by rw [hu];have XX:=B1.out;exact (by apply Blk.of_eq;(focus (repeat (first|with_reducible exact XX|with_reducible apply Blk.drew|with_reducible apply blk_drewN|with_reducible apply Blk.alloc|with_reducible apply Blk.setCell_same)));first|rfl|(simp;done))
 have UB:Hid (Below w.heap.size w u):=by rw [hu];exact (show Below _ _ _ from below_byR)
 have UH:=HH.out.below UB.out
 obtain ⟨w9,hrun,hO,hT⟩:=UH.store n HN.out HK.out ⟨x0,x1,x2,true,⟨x,y,a,b,d⟩,when⟩
 rw [← EV.out] at hT
 have RO:=Lib.hid ((OnlyAt.of_below UB.out).trans hO)
 have RT:=Lib.hid hT
 clear hu hO hT y1 c1 f1 y2 c2 f2 y3 c3 f3
 obtain ⟨y1,c1,f1,-⟩:=bk_o UH.blk
 have r3:=U1.out.row?_all 10 rfl
 clear UH
 go_wp2_with fail
 go_region
 go_wp2_with fail
 go_ret
 exact ⟨rfl,RO.out,RT.out⟩
end
end Go.Proofs.YtechbdnhalmobaaGreatDoor
