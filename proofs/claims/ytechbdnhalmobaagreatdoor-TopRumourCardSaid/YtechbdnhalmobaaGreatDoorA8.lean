/- Tables: All. -/
import Derived.Test.YtechbdnhalmobaaGreatDoorA7
import Derived.Deep.LoopGhost
namespace Go.Proofs.YtechbdnhalmobaaGreatDoor
set_option maxRecDepth 100000
set_option maxHeartbeats 16000000
set_option linter.unusedSimpArgs false
set_option linter.unusedVariables false
open Go.RowKit Go.Maps
theorem sorted_c {S:Nat→Prop} {w:World} {g:Nat} {L:TLay} {t:TabD} (H:TabAt S w g L t) (OK:TabOK t) :
  Calls Tryz.prog 57 #[.func (.func 125) #[] #[.pointer (some ⟨w.heap.size,0,none⟩)]] (w.alloc (.cells #[.map (some L.me)] 125)) fun e w'=>∃ v,e = .returned v ∧
   w'.ownsRow w.heap.size 3 1 v t.ents.length (t.ents.map fun p => .int .i64 p.1)∧Below w.heap.size w w':=by
 refine Calls.mono (sorted_raw L.me _ w H.me (by rw [List.length_map];exact OK.len.1)) ?_
 rintro e w' ⟨v,ss,rfl,hp,hrow,-,hb⟩
 rw [keys_sorted entV _ OK.asc ss hp] at hrow
 have hl:ss.length=t.ents.length:=by rw [hp.length_eq];simp [intKeys,mapD]
 rw [hl,List.map_map] at hrow
 refine ⟨v,rfl,?_,((Below.refl _ w).alloc (Nat.le_refl _) _).trans (hb.mono (by simp))⟩
 have hs:(w.alloc (.cells #[.map (some L.me)] 125)).heap.size=w.heap.size+1:=by simp
 rw [hs] at hrow
 rcases hrow with ⟨h1,h2⟩
 refine ⟨h1,?_⟩
 rcases h2 with h2|⟨g',cap,cur,h3,h4,h5⟩
 ·exact .inl h2
 ·exact .inr ⟨g',cap,cur,h3,by omega,h5⟩
theorem infoEnt:(Tryz.prog.info? 99).map (fun i=>(i.zero,i.size,i.bytes))=some (some (entV .zero),10,80):=by kernel_rfl
abbrev entLs (x:EntD):List Value:=(entC x).toList
theorem row_cell {w:World} {B:Nat} {e:TypeId} {v:Value} {n:Nat} {xs:List Value} (h:w.ownsRow B e 1 v n xs) {k:Nat} {x:Value} (hk:xs[k]? = some x):∃ g cap,v = .slice (some ⟨g,0,none⟩) n cap∧g<w.heap.size∧B≤g∧w.cell? ⟨g,k,none⟩=some x:=by
 obtain ⟨h1,⟨-,rfl⟩|⟨g,cap,cur,rfl,hB,hg,hn,hc,hs,ht⟩⟩:=h
 ·have:=(List.getElem?_eq_some_iff.1 hk).1;omega
 ·have hB2:Blk w g cur e:=hg
  refine ⟨g,cap,rfl,hB2.lt,hB,(hB2.at k).trans ?_⟩
  have hkl:=(List.getElem?_eq_some_iff.1 hk).1
  rw [← ht,List.getElem?_take,if_pos (by omega)] at hk
  simpa using hk
theorem row_below {w w':World} {B e size n:Nat} {v:Value} {xs:List Value} (h:w.ownsRow B e size v n xs) (hb:Below w.heap.size w w'):w'.ownsRow B e size v n xs:=by
 obtain ⟨h1,h2|⟨g,cap,cur,rfl,hB,hg,h3⟩⟩:=h
 ·exact ⟨h1,.inl h2⟩
 ·have hB2:Blk w g cur e:=hg
  exact ⟨h1,.inr ⟨g,cap,cur,rfl,hB,hB2.keep hb,h3⟩⟩
theorem row_grown {w w':World} {B e size n:Nat} {v:Value} {xs:List Value} {row:Option Nat} (h:w.ownsRow B e size v n xs) (hg:w.grownBy w' row) (hne:∀ g,v.ownBlock=some g→row≠some g):w'.ownsRow B e size v n xs:=by
 obtain ⟨h1,h2|⟨g,cap,cur,rfl,hB,hg',h3⟩⟩:=h
 ·exact ⟨h1,.inl h2⟩
 ·have hB2:Blk w g cur e:=hg'
  exact ⟨h1,.inr ⟨g,cap,cur,rfl,hB,(hg.block g hB2.lt (Ne.symm (hne g rfl))).trans hB2,h3⟩⟩
theorem news_of {w:World} {b:Nat} {c:Array Value} {t:TypeId} (h:Blk w b c t):∀ j u,c.toList[j]? = some u→w.cell? ((⟨b,0,none⟩:Addr).add j)=some u:=by
 intro j u hu
 have:=h.at j
 have e:(⟨b,0,none⟩:Addr).add j=⟨b,j,none⟩:=by
  unfold Addr.add;split
  ·rename_i h;subst h;rfl
  ·simp
 rw [e,this];simpa using hu
theorem lk_asc {α:Type} {m:List (Int × α)} (ha:m.Pairwise (fun p q=>p.1<q.1)) {k:Int} {v : α} (h:(k,v) ∈ m):lk m k=some v:=by
 unfold lk
 induction m with
 | nil=>cases h
 | cons y r ih =>
  obtain ⟨h1,h2⟩:=List.pairwise_cons.1 ha
  rcases List.mem_cons.1 h with rfl|h
  ·simp
  ·have:=h1 _ h
   rw [List.find?_cons_of_neg (by simp at this ⊢;omega)]
   exact ih h2 h
theorem entLs_one (x:EntD):∀ u ∈ entLs x,u.oneCell'=true:=by intro u hu;simp [entLs] at hu;rcases hu with rfl|rfl|rfl|rfl|rfl|rfl|rfl|rfl|rfl|rfl <;> rfl
theorem row_apart {w:World} {B B' e e' size size' n n':Nat} {v v':Value} {xs xs':List Value} (h:w.ownsRow B e size v n xs) (h':w.ownsRow B' e' size' v' n' xs') (hne:e≠e'):∀ g,v.ownBlock=some g→v'.ownBlock≠some g:=by
 intro g hg hg'
 obtain ⟨-,⟨rfl,-⟩|⟨b,cap,cur,rfl,-,hb,-⟩⟩:=h
 ·cases hg
 obtain ⟨-,⟨rfl,-⟩|⟨b',cap',cur',rfl,-,hb',-⟩⟩:=h'
 ·cases hg'
 injection hg with hg;injection hg' with hg'
 simp only at hg hg'
 subst hg;subst hg'
 rw [hb] at hb';injection hb' with hb';injection hb' with _ h2
 exact hne h2
theorem row_form {w:World} {B e size n:Nat} {v:Value} {xs:List Value} (h:w.ownsRow B e size v n xs):∃ ao cap,v = .slice ao n cap:=by
 rcases h.2 with ⟨h1,rfl⟩|⟨g',cap',cur,h,-⟩
 ·exact ⟨_,_,h1⟩
 ·exact ⟨_,_,h⟩
theorem below_grown {B:Nat} {a w w':World} {row:Option Nat} (hB:B≤a.heap.size) (h:Below B a w) (hg:w.grownBy w' row) (hr:∀ g,row=some g→B≤g):Below B a w' :=
 ⟨hg.os.trans h.os,hg.tape.trans h.tape,hg.output.trans h.output,Nat.le_trans h.size hg.size,fun k hk=>by
  rw [hg.block k (by have:=h.size;omega) (fun e=>by have:=hr k e.symm;omega)];exact h.block k hk⟩
theorem row_base {w:World} {B e size n:Nat} {v:Value} {xs:List Value} (h:w.ownsRow B e size v n xs):∀ g,v.ownBlock=some g→B≤g:=by
 intro g hg
 obtain ⟨-,⟨rfl,-⟩|⟨b,cap,cur,rfl,hB,-⟩⟩:=h
 ·cases hg
 ·injection hg with hg;simp only at hg;omega
theorem tabAll_c {S:Nat→Prop} {w:World} {g:Nat} {L:TLay} {t:TabD} (H:TabAt S w g L t) (OK:TabOK t) :
  Calls Tryz.prog 27 #[.pointer (some ⟨g,0,none⟩)] w fun e w'=>∃ v,e = .returned v∧w'.ownsRow w.heap.size 99 10 v t.ents.length (t.all.flatMap entLs)∧(t.ents = []→v = .slice none 0 0)∧Below w.heap.size w w':=by
 obtain ⟨i0,hi,hz0,hz1,hz2⟩:=info_parts infoEnt
 have HK:=Lib.hid OK
 have HH:=Lib.hid H
 obtain ⟨y1,c1,f1,-⟩:=bk_o H.blk
 have HS:=Lib.hid (sorted_c H OK)
 have hl:=OK.len.1
 clear H OK
 go_enter Tryz.func27,Tryz.ntmps27
 go_wp2_with (first
  | (go_at_call 58;refine (keys_c _ _).mono ?_;rintro e w1 ⟨rfl,h1⟩;subst h1)
  | (go_at_call 57;refine HS.out.mono ?_;rintro e w2 ⟨vs,rfl,hrow,hb2⟩;obtain ⟨ao,cap,rfl⟩:=row_form hrow))
 have HR:=Lib.hid hrow
 have HB:=Lib.hid hb2
 have hl2:(t.ents.length:Int)≤9223372036854775807:=by omega
 clear hrow hb2 y1 c1 f1
 go_loopw [3,15] (fun a i wr=>∃ k:Nat,k≤t.ents.length∧i = .int .i64 k∧Hid (k=0→a = .slice none 0 0)∧Hid (wr.ownsRow w.heap.size 99 10 a k ((t.all.take k).flatMap entLs))∧Hid (wr.ownsRow w.heap.size 3 1 (.slice ao t.ents.length cap) t.ents.length (t.ents.map fun p => .int .i64 p.1))∧Hid (Below w.heap.size w wr)) (fun _ i _=>t.ents.length-(intOf i).toNat)
 case atStart=>exact ⟨0,by omega,rfl,fun _=>rfl,⟨by simp,.inl ⟨rfl,rfl⟩⟩,HR.out,HB.out⟩
 case round =>
  obtain ⟨k,hk,rfl,HZ,HO,HR1,HB1⟩:=hrel
  by_cases hlt:k<t.ents.length
  ·obtain ⟨⟨key,v⟩,hkv⟩:∃ p,t.ents[k]? = some p:=⟨_,List.getElem?_eq_getElem hlt⟩
   obtain ⟨gr,cap',hv,hgr,hBr,hc⟩:=row_cell HR1.out (k:=k) (x := .int .i64 key) (by rw [List.getElem?_map,hkv];rfl)
   injection hv with hv1 _ hv3
   subst hv1;subst hv3
   have hmem:=List.mem_of_getElem? hkv
   have hm:=HK.out.ents _ hmem
   have HL:Hid (lk (t.ents.map fun p=>(p.1,entV p.2)) key=some (entV v)):=by show _=_;rw [lk_ents,lk_asc HK.out.asc hmem];rfl
   have HKR:Hid (-9223372036854775808≤key∧key≤9223372036854775807):=by
    have h1:0≤key:=hm.2.1
    have h2:key<64:=hm.2.2.1
    show _∧_;omega
   have ht:t.all.take (k+1)=t.all.take k ++ [v]:=by rw [List.take_add_one];simp [TabD.all,hkv]
   have HT:Hid ((t.all.take (k+1)).flatMap entLs=(t.all.take k).flatMap entLs++entLs v):=by show _=_;rw [ht];simp
   obtain ⟨y1,c1,f1,-⟩:=bk_o (HH.out.below HB1.out).blk
   have hk1:(k:Int)<(t.ents.length:Int):=by omega
   have hk0:(0:Int)≤k:=by omega
   have hz:=HB1.out.size
   obtain ⟨x0,x1,x2,x3,⟨e0,e1,e2,e3,e4⟩,x5⟩:=v
   clear hkv hmem hm ht
   go_wp2_with (first
    | (at_lookup;refine wpList_lookN rfl _ _ 125 99 rfl Tryz.underlying125 _ zeroEnt L.me _ rfl (HH.out.me.below (w':=wr) HB1.out) key rfl HKR.out _ HL.out ?_)
    | (at_builtin;refine wpList_append_own _ rfl _ _ 40 rfl w.heap.size 99 i0 (entV .zero) 10 80 Tryz.underlying40 hi hz0 hz1 hz2 rfl (by decide) _ k _ rfl (row_below HO.out ((Below.refl _ _).alloc (Nat.le_refl _) _)) ⟨wr.heap.size,0,none⟩ 1 1 (entLs ⟨x0,x1,x2,x3,⟨e0,e1,e2,e3,e4⟩,x5⟩) rfl rfl (news_of (Blk.new _ _ _)) (entLs_one _) (by unfold maxLen;omega) (by omega) (by simp;omega) ?_;intro v' w5 hown hgrow _))
   have HO':=row_below HO.out ((Below.refl wr.heap.size wr).alloc (Nat.le_refl _) (Obj.cells (entC ⟨x0,x1,x2,x3,⟨e0,e1,e2,e3,e4⟩,x5⟩) 99))
   have HR':=row_below HR1.out ((Below.refl wr.heap.size wr).alloc (Nat.le_refl _) (Obj.cells (entC ⟨x0,x1,x2,x3,⟨e0,e1,e2,e3,e4⟩,x5⟩) 99))
   have R1:=row_grown HR' hgrow (row_apart HR' HO' (by decide))
   have R2:=below_grown (Nat.le_refl _) (HB1.out.alloc hz _) hgrow (row_base HO')
   rw [← HT.out] at hown
   exact ⟨⟨k+1,by omega,by go_num,fun h=>by omega,hown,R1,R2⟩,by simp [intOf];omega⟩
  ·have hk2:¬ (k:Int)<(t.ents.length:Int):=by omega
   obtain rfl:k=t.ents.length:=by omega
   go_wp2_with fail
   go_ret
   have e:t.all.take t.ents.length=t.all:=List.take_of_length_le (by simp [TabD.all])
   have ho:=HO.out
   rw [e] at ho
   exact ⟨_,rfl,ho,fun h=>HZ.out (by rw [h];rfl),HB1.out⟩
theorem flat_ent (l:List EntD) (k:Nat) (x:EntD) (h:l[k]? = some x):((l.flatMap entLs).drop (k*10)).take 10=entLs x:=by
 induction l generalizing k with
 | nil=>cases h
 | cons a r ih =>
  cases k with
  | zero=>simp at h;subst h;rfl
  | succ k =>
   have e:(k+1)*10=10+k*10:=by omega
   rw [e,List.flatMap_cons,← List.drop_drop]
   have e2:(entLs a++r.flatMap entLs).drop 10=r.flatMap entLs:=rfl
   rw [e2]
   exact ih k (by simpa using h)
theorem row_ent {w:World} {B e n:Nat} {v:Value} {l:List EntD} (h:w.ownsRow B e 10 v n (l.flatMap entLs)) {k:Nat} {x:EntD} (hk:l[k]? = some x) (hl:l.length=n) :
  ∃ g cap,v = .slice (some ⟨g,0,none⟩) n cap∧g<w.heap.size∧B≤g∧w.row? g (k*10) 10=some (entC x):=by
 have hkl:=(List.getElem?_eq_some_iff.1 hk).1
 obtain ⟨h1,⟨-,rfl⟩|⟨g,cap,cur,rfl,hB,hg,hn,hc,hs,ht⟩⟩:=h
 ·omega
 ·have hB2:Blk w g cur e:=hg
  refine ⟨g,cap,rfl,hB2.lt,hB,?_⟩
  rw [hB2.row? (k*10) 10 (by omega)]
  congr 1
  apply Array.ext'
  have e1:=flat_ent l k x hk
  rw [← ht] at e1
  have e2:(cur.extract (k*10) (k*10+10)).toList=(cur.toList.drop (k*10)).take 10:=by simp
  rw [e2]
  show _=entLs x
  rw [← e1,List.drop_take,List.take_take]
  congr 1
  omega
def evK (t:TabD) (now silent:Int) (k:Nat):List (Int × EntD):=(t.ents.take k).filter (fun p=>! goneB silent now p.2)++t.ents.drop k
theorem evK_zero (t:TabD) (now silent:Int):evK t now silent 0=t.ents:=by simp [evK]
theorem evK_end (t:TabD) (now silent:Int):evK t now silent t.ents.length=(t.evict now silent).ents:=by simp [evK,TabD.evict]
theorem evK_stay (t:TabD) (now silent:Int) (k:Nat) (p:Int × EntD) (h:t.ents[k]? = some p) (hg:goneB silent now p.2=false):evK t now silent (k+1)=evK t now silent k:=by
 unfold evK
 have hkl:=(List.getElem?_eq_some_iff.1 h).1
 have e:t.ents.drop k=p :: t.ents.drop (k+1):=by rw [List.drop_eq_getElem_cons hkl];congr 1;rw [List.getElem?_eq_getElem hkl] at h;exact Option.some.inj h
 rw [e,List.take_add_one,h]
 simp [hg]
theorem evK_go (t:TabD) (now silent:Int) (ha:t.ents.Pairwise (fun p q=>p.1<q.1)) (k:Nat) (p:Int × EntD) (h:t.ents[k]? = some p) (hg:goneB silent now p.2=true):evK t now silent (k+1)=del (evK t now silent k) p.1:=by
 unfold evK
 have hkl:=(List.getElem?_eq_some_iff.1 h).1
 have e:t.ents.drop k=p :: t.ents.drop (k+1):=by rw [List.drop_eq_getElem_cons hkl];congr 1;rw [List.getElem?_eq_getElem hkl] at h;exact Option.some.inj h
 have hs:t.ents=t.ents.take k++(p :: t.ents.drop (k+1)):=by rw [← e,List.take_append_drop]
 rw [hs] at ha
 obtain ⟨-,h2,h3⟩:=List.pairwise_append.1 ha
 obtain ⟨h4,-⟩:=List.pairwise_cons.1 h2
 rw [e,List.take_add_one,h]
 unfold del
 rw [List.filter_append,List.filter_append]
 have f1:((t.ents.take k).filter (fun p=>! goneB silent now p.2)).filter (fun q:Int × EntD=>! decide (q.1=p.1))=(t.ents.take k).filter (fun p=>! goneB silent now p.2):=by
  rw [List.filter_eq_self]
  intro q hq
  have:=h3 q (List.mem_filter.1 hq).1 p (by simp)
  simp;omega
 have f2:(p :: t.ents.drop (k+1)).filter (fun q:Int × EntD=>! decide (q.1=p.1))=t.ents.drop (k+1):=by
  rw [List.filter_cons_of_neg (by simp),List.filter_eq_self]
  intro q hq
  have:=h4 q hq
  simp;omega
 rw [f1,f2]
 simp [hg]
theorem MapAt.del_run {w:World} {b:Nat} {M:List (Int × Value)} (h:MapAt w b M) (t e:TypeId) (ht:Tryz.prog.underlying t=some (.map 3 e)) (k:Int) (hk : -9223372036854775808≤k∧k≤9223372036854775807) (ty:TypeId) :
  ∃ w',(Builtin.delete_ #[t,3] ty #[.map (some b),.int .i64 k]).run Tryz.prog w.drew = .ok (.tuple #[]) w'∧MapAt w' b (del M k)∧OnlyAt b w w':=by
 have hd:MapAt w.drew b M:=h
 obtain ⟨w',hr,ho,ht'⟩:=World.ownsMap.drop hd lawInt ht (key_int hk) ty
 rw [mapD_del] at ho
 have g:=ht'.grown
 exact ⟨w',hr,MapAt.of_owns ho,⟨g.os,g.tape,g.output,g.size,fun k hk hs=>g.block k hk (fun e=>hs (by injection e))⟩⟩
theorem turns_app {W w5:World} {B e size n:Nat} {v:Value} {xs:List Value} (hrow:W.ownsRow B e size v n xs) (hg:W.grownBy w5 v.ownBlock):TurnsT (fun k=>B≤k) [e] false W w5:=by
 refine ⟨hg.os,hg.tape,hg.output,hg.size,fun k hk hs=>hg.block k hk (fun e'=>hs ?_)⟩
 obtain ⟨-,⟨rfl,-⟩|⟨b,cap,cur,rfl,hB,hb,-⟩⟩:=hrow
 ·cases e'
 ·injection e' with e';simp only at e';subst e'
  exact ⟨hB,OfT.blk hb (by simp)⟩
theorem OnlyAt.then_new {g:Nat} {w W w5:World} {ty:List TypeId} {mp:Bool} (h:OnlyAt g w W) (ht:TurnsT (fun k=>w.heap.size≤k) ty mp W w5):OnlyAt g w w5 :=
 ⟨ht.os.trans h.os,ht.tape.trans h.tape,ht.output.trans h.output,Nat.le_trans h.size ht.size,fun k hk hne=>(ht.block k (Nat.lt_of_lt_of_le hk h.size) (fun e=>by have:=e.1;omega)).trans (h.block k hk hne)⟩
theorem row_only {w w':World} {B e size n b:Nat} {v:Value} {xs:List Value} {M:List (Int × Value)} (h:w.ownsRow B e size v n xs) (ho:OnlyAt b w w') (hm:MapAt w b M):w'.ownsRow B e size v n xs:=by
 obtain ⟨h1,h2|⟨g,cap,cur,rfl,hB,hg,h3⟩⟩:=h
 ·exact ⟨h1,.inl h2⟩
 ·have hB2:Blk w g cur e:=hg
  exact ⟨h1,.inr ⟨g,cap,cur,rfl,hB,ho.blk hB2 (Ne.symm (hm.ne hB2)),h3⟩⟩
theorem infoInt:(Tryz.prog.info? 3).map (fun i=>(i.zero,i.size,i.bytes))=some (some (.int .i64 0),1,8):=by kernel_rfl
theorem int_one (x:Int):∀ u ∈ [Value.int .i64 x],u.oneCell'=true:=by intro u hu;simp at hu;subst hu;rfl
theorem tabEvict_c {S:Nat→Prop} {w:World} {g:Nat} {L:TLay} {t:TabD} (H:TabAt S w g L t) (OK:TabOK t) (now silent:Int) (hn:0≤now∧now≤1000000) (hs:1≤silent∧silent≤1000000) :
  Calls Tryz.prog 136 #[.pointer (some ⟨g,0,none⟩),.int .i64 now,.int .i64 silent] w fun e w'=>(∃ v,e = .returned v)∧OnlyAt L.me w w'∧TabAt S w' g L (t.evict now silent):=by
 obtain ⟨i0,hi,hz0,hz1,hz2⟩:=info_parts infoInt
 have HK:=Lib.hid OK
 have HH:=Lib.hid H
 have HA:=Lib.hid (tabAll_c H OK)
 have hl:=OK.len.1
 have hg0:g<w.heap.size:=H.blk.lt
 obtain ⟨hn1,hn2⟩:=hn
 obtain ⟨hs1,hs2⟩:=hs
 have hmx:max 1 silent=silent:=by omega
 have wr1:IntKind.i64.wrap (now-silent)=now-silent:=by rw [IntKind.wrap_i64];omega
 clear H OK
 go_enter Tryz.func136,Tryz.ntmps136
 go_wp2_with (first
  | (go_at_call 27;refine HA.out.mono ?_;rintro e w2 ⟨vs,rfl,hrow,-,hb2⟩;obtain ⟨ao,cap,rfl⟩:=row_form hrow))
 have HR:=Lib.hid hrow
 have HT:Hid (TabAt S w2 g L { t with ents:=evK t now silent 0 }):=by show TabAt _ _ _ _ _;rw [evK_zero];exact HH.out.below hb2
 have HB:=Lib.hid (OnlyAt.of_below (g:=L.me) hb2)
 have hl2:(t.ents.length:Int)≤9223372036854775807:=by omega
 clear hrow hb2
 go_loopw [2,7,13] (fun s a i wr=>∃ k:Nat,k≤t.ents.length∧i = .int .i64 k∧s = .int .i64 silent∧(∃ n xs,n≤k∧Hid (wr.ownsRow w.heap.size 3 1 a n xs))∧Hid (wr.ownsRow w.heap.size 99 10 (.slice ao t.ents.length cap) t.ents.length (t.all.flatMap entLs))∧Hid (OnlyAt L.me w wr)∧Hid (TabAt S wr g L { t with ents:=evK t now silent k })) (fun _ _ i _=>t.ents.length-(intOf i).toNat)
 case atStart=>exact ⟨0,by omega,rfl,rfl,⟨0,[],by omega,⟨by simp,.inl ⟨rfl,rfl⟩⟩⟩,HR.out,HB.out,HT.out⟩
 case round =>
  obtain ⟨k,hk,rfl,rfl,⟨n,xs,hnk,HX⟩,HR1,HO1,HT1⟩:=hrel
  by_cases hlt:k<t.ents.length
  ·obtain ⟨⟨key,v⟩,hkv⟩:∃ p,t.ents[k]? = some p:=⟨_,List.getElem?_eq_getElem hlt⟩
   obtain ⟨gr,cap',hv,hgr,hBr,hc⟩:=row_ent HR1.out (k:=k) (x:=v) (by simp [TabD.all,hkv]) (by simp [TabD.all])
   injection hv with hv1 _ hv3
   subst hv1;subst hv3
   have hm:=HK.out.ents _ (List.mem_of_getElem? hkv)
   have HKR:Hid (-9223372036854775808≤key∧key≤9223372036854775807):=by
    have h1:0≤key:=hm.2.1
    have h2:key<64:=hm.2.2.1
    show _∧_;omega
   have hnode:v.node=key:=hm.1
   have hk1:(k:Int)<(t.ents.length:Int):=by omega
   have hk0:(0:Int)≤k:=by omega
   have hz:=HO1.out.size
   obtain ⟨y1,c1,f1,-⟩:=bk_o HT1.out.blk
   cases hgn:goneB silent now v with
   | false =>
    have E:=Lib.hid (evK_stay t now silent k _ hkv hgn)
    simp only [goneB,Bool.and_eq_false_iff,decide_eq_false_iff_not,hmx] at hgn
    obtain ⟨x0,x1,x2,x3,⟨e0,e1,e2,e3,e4⟩,x5⟩:=v
    simp only at hgn hnode
    clear hkv hm
    by_cases hc1:silent≤now
    ·have hc2:¬ x2≤now-silent:=by rcases hgn with h|h;exact absurd hc1 h;exact h
     clear hgn
     go_wp2_with fail
     exact ⟨⟨k+1,by omega,by go_num,rfl,⟨n,xs,by omega,row_below HX.out ((Below.refl _ _).alloc (Nat.le_refl _) _)⟩,row_below HR1.out ((Below.refl _ _).alloc (Nat.le_refl _) _),HO1.out.alloc _,by show TabAt _ _ _ _ _;rw [E.out];exact HT1.out.below ((Below.refl _ _).alloc (Nat.le_refl _) _)⟩,by simp [intOf];omega⟩
    ·clear hgn
     go_wp2_with fail
     exact ⟨⟨k+1,by omega,by go_num,rfl,⟨n,xs,by omega,row_below HX.out ((Below.refl _ _).alloc (Nat.le_refl _) _)⟩,row_below HR1.out ((Below.refl _ _).alloc (Nat.le_refl _) _),HO1.out.alloc _,by show TabAt _ _ _ _ _;rw [E.out];exact HT1.out.below ((Below.refl _ _).alloc (Nat.le_refl _) _)⟩,by simp [intOf];omega⟩
   | true =>
    have E:=Lib.hid (evK_go t now silent HK.out.asc k _ hkv hgn)
    simp only [goneB,Bool.and_eq_true,decide_eq_true_eq,hmx] at hgn
    obtain ⟨x0,x1,x2,x3,⟨e0,e1,e2,e3,e4⟩,x5⟩:=v
    simp only at hgn hnode
    obtain ⟨hc1,hc2⟩:=hgn
    clear hkv hm
    obtain ⟨al1,hal1⟩:∃ u,u=wr.alloc (Obj.cells (entC ⟨x0,x1,x2,x3,⟨e0,e1,e2,e3,e4⟩,x5⟩) 99):=⟨_,rfl⟩
    have AL:Below wr.heap.size wr (al1.alloc (Obj.cells #[.int .i64 x0] 3)):=by rw [hal1];exact ((Below.refl _ _).alloc (Nat.le_refl _) _).alloc (by simp) _
    have HX2:=Lib.hid (row_below HX.out AL)
    have HR2:=Lib.hid (row_below HR1.out AL)
    have HO2:Hid (OnlyAt L.me w (al1.alloc (Obj.cells #[.int .i64 x0] 3))):=OnlyAt.trans HO1.out (OnlyAt.of_below AL)
    have HT2:=Lib.hid (HT1.out.below AL)
    have HE:Hid (Blk (al1.alloc (Obj.cells #[.int .i64 x0] 3)) wr.heap.size (entC ⟨x0,x1,x2,x3,⟨e0,e1,e2,e3,e4⟩,x5⟩) 99):=by rw [hal1];exact (Blk.new _ _ _).alloc _
    subst hal1
    subst hnode
    clear AL
    go_wp2_with (first
     | (at_builtin;refine wpList_append_own _ rfl _ _ 120 rfl w.heap.size 3 i0 (.int .i64 0) 1 8 Tryz.underlying120 hi hz0 hz1 hz2 rfl (by decide) _ n _ rfl HX2.out ⟨wr.heap.size+1,0,none⟩ 1 1 [.int .i64 x0] rfl rfl (news_of (Blk.new' _ _ _ (by simp))) (int_one _) (by unfold maxLen;omega) (by omega) (by simp;omega) ?_;intro v' w5 hown hgrow _))
    have TT:=turns_app HX2.out hgrow
    have HX3:=Lib.hid hown
    have HR3:=Lib.hid (row_grown HR2.out hgrow (row_apart HR2.out HX2.out (by decide)))
    have HO3:=Lib.hid (OnlyAt.then_new HO2.out TT)
    have HT3:=HT2.out.turnsT TT (by decide) (by decide)
    have HE3:=TT.blk HE.out (by decide)
    obtain ⟨w9,hrun,hM9,hO9⟩:=HT3.me.del_run 125 99 Tryz.underlying125 x0 HKR.out 0
    simp only at hM9
    rw [ents_del,← E.out] at hM9
    have HT4:=Lib.hid (HT3.set_ents hO9 hM9)
    have HX4:=Lib.hid (row_only HX3.out hO9 HT3.me)
    have HR4:=Lib.hid (row_only HR3.out hO9 HT3.me)
    have HO4:=Lib.hid (OnlyAt.trans HO3.out hO9)
    obtain ⟨y3,c3,f3,-⟩:=bk_o HT3.blk
    obtain ⟨y4,c4,f4,-⟩:=bk_o HE3
    clear y1 c1 f1 HT3 HE3 TT hgrow hown hM9 hO9
    go_region
    go_wp2_with fail
    exact ⟨⟨k+1,by omega,by go_num,rfl,⟨n+1,_,by omega,HX4.out⟩,HR4.out,HO4.out,HT4.out⟩,by simp [intOf];omega⟩
  ·have hk2:¬ (k:Int)<(t.ents.length:Int):=by omega
   obtain rfl:k=t.ents.length:=by omega
   go_wp2_with fail
   go_ret
   have ht:=HT1.out
   rw [evK_end] at ht
   exact ⟨⟨_,rfl⟩,HO1.out,ht⟩
end Go.Proofs.YtechbdnhalmobaaGreatDoor
