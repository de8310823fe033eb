/- The walk of a node: may, Report. -/
import Derived.Test.YtechbdnhalmobaaGreatDoorA11
import Derived.Lib.SliceRun
import Derived.Deep.RegionLaw
import Derived.Shelf.RegionOpenPlain
import Derived.Maps.AppendAt
namespace Go.Proofs.YtechbdnhalmobaaGreatDoor
set_option maxRecDepth 100000
set_option maxHeartbeats 16000000
set_option linter.unusedSimpArgs false
set_option linter.unusedVariables false
open Go.RowKit Go.Maps
theorem nin_c (n l m:Int) (h1:l≤n) (h2:n≤m) (w:World):Calls Tryz.prog 175 #[.int .i64 n,.int .i64 l,.int .i64 m] w fun e w'=>e = .returned (.bool true)∧w'=w:=by
 go_enter Tryz.func175,Tryz.ntmps175
 go_wp2
 go_ret
 exact ⟨by simp [h2],rfl⟩
theorem nMay_c (c:Cfg) (h:c.may=true) (w:World):Calls Tryz.prog 116 #[cfgV c] w fun e w'=>e = .returned (.bool true)∧Below w.heap.size w w':=by
 obtain ⟨x0,x1,x2,x3,x4,x5,x6,x7,x8,x9,x10⟩:=c
 simp only [Cfg.may,inRg,Bool.and_eq_true,decide_eq_true_eq] at h
 obtain ⟨⟨⟨⟨⟨⟨⟨⟨⟨⟨⟨⟨a0,b0⟩,a1,b1⟩,a2,b2⟩,a3,b3⟩,a5,b5⟩,a4,b4⟩,a6,b6⟩,a8,b8⟩,a7,b7⟩,a9,b9⟩,a10,b10⟩,hp⟩:=h
 have hp0:0≤x9*(x6+2*x4+2):=Int.mul_nonneg (by omega) (by omega)
 have w1:IntKind.i64.wrap (2*x4)=2*x4:=IntWalk.i64_in _ (by omega)
 have w2:IntKind.i64.wrap (x6+2*x4)=x6+2*x4:=IntWalk.i64_in _ (by omega)
 have w3:IntKind.i64.wrap (x6+2*x4+2)=x6+2*x4+2:=IntWalk.i64_in _ (by omega)
 have w4:IntKind.i64.wrap (x9*(x6+2*x4+2))=x9*(x6+2*x4+2):=IntWalk.i64_in _ (by omega)
 go_enter Tryz.func116,Tryz.ntmps116
 go_wp2_with (go_at_call 175;refine (nin_c _ _ _ ?h1 ?h2 _).mono ?_;(case h1=>assumption);(case h2=>assumption);rintro e w1 ⟨rfl,h⟩;have h9:=h.symm;subst h9)
 go_ret
 exact ⟨by first|rfl|simp [hp],below_byR⟩
abbrev repV (n:NodeD) (v:Value):Value := .agg #[.bool n.fv,.int .i64 n.fe.x,.int .i64 n.fe.y,.int .i64 n.fe.a,.int .i64 n.fe.b,.int .i64 n.fe.d,v]
section
variable {S:Nat→Prop} {w:World} {g:Nat} {L:NLay} {n:NodeD} (H:NodeAt S w g L n)
include H
theorem nrep_c (OK:TabOK n.t):Calls Tryz.prog 11 #[ptr g] w fun e w'=>∃ A c,e = .returned (repV n (.slice A n.t.ents.length c))∧Below w.heap.size w w':=by
 have HA:Hid (∀ w1,Below w.heap.size w w1→Calls Tryz.prog 27 #[ptr L.t] w1 fun e w'=>∃ A c,e = .returned (.slice A n.t.ents.length c)∧Below w1.heap.size w1 w'):=fun w1 hb =>
  (tabAll_c (H.t.below hb) OK).mono (by
   rintro e w' ⟨v,rfl,hr,-,hb2⟩
   obtain ⟨-,⟨rfl,h0⟩|⟨g',cap,cur,rfl,-⟩⟩:=hr
   ·exact ⟨none,0,by rw [h0],hb2⟩
   ·exact ⟨_,_,rfl,hb2⟩)
 have HV:Hid (∀ w1,Below w.heap.size w w1→Calls Tryz.prog 25 #[ptr L.f] w1 fun e w'=>e = .returned (.bool n.fv)∧Below w1.heap.size w1 w'):=fun w1 hb=>valid_v _ _ _ _ _ _ rfl (H.f.keep hb)
 have HE:Hid (∀ w1,Below w.heap.size w w1→Calls Tryz.prog 26 #[ptr L.f] w1 fun e w'=>e = .returned (elV n.fe)∧Below w1.heap.size w1 w'):=fun w1 hb=>fe_v _ _ _ _ _ _ rfl (H.f.keep hb)
 obtain ⟨-,-,-,-,-,-,-,-,q13,q14,-,-,-,-,-,-,fz,yg⟩:=node_cells H.blk
 clear H OK
 go_enter Tryz.func11,Tryz.ntmps11
 go_wp2_with fail
 go_region_held3 (fun w'=>w'.cell? ⟨g,13,none⟩=some (ptr L.f)∧w'.cell? ⟨g,14,none⟩=some (ptr L.t)) (go_simp)
  (first
  | (go_at_call 25;refine (HV.out _ below_byR).mono ?_;rintro e w1 ⟨rfl,hb1⟩;have z_w1:=hb1.size;(try simp at z_w1);obtain ⟨yw1aa,cw1aa,fw1aa,rw1aa,tw1aa,pw1aa⟩:=bq hb1 (w.heap.size);obtain ⟨y_w1_g,c_w1_g,f_w1_g,r_w1_g,t_w1_g,p_w1_g⟩:=bq hb1 (g))
  | (go_at_call 26;refine (HE.out _ below_byR).mono ?_;rintro e w2 ⟨rfl,hb2⟩;have z_w2:=hb2.size;(try simp at z_w2);obtain ⟨yw2aa,cw2aa,fw2aa,rw2aa,tw2aa,pw2aa⟩:=bq hb2 (w.heap.size);obtain ⟨y_w2_g,c_w2_g,f_w2_g,r_w2_g,t_w2_g,p_w2_g⟩:=bq hb2 (g))
  | (go_at_call 27;refine (HA.out _ below_byR).mono ?_;rintro e w3 ⟨A,c,rfl,hb3⟩;have z_w3:=hb3.size;(try simp at z_w3);obtain ⟨yw3aa,cw3aa,fw3aa,rw3aa,tw3aa,pw3aa⟩:=bq hb3 (w.heap.size);obtain ⟨y_w3_g,c_w3_g,f_w3_g,r_w3_g,t_w3_g,p_w3_g⟩:=bq hb3 (g)))
 all_goals go_wp2_with fail
 all_goals exact bodyPost_row 7 #[.bool n.fv,.int .i64 n.fe.x,.int .i64 n.fe.y,.int .i64 n.fe.a,.int .i64 n.fe.b,.int .i64 n.fe.d,.slice A n.t.ents.length c] rfl rfl rfl Tryz.underlying42 rfl (by kernel_rfl) (row_of_cells 6 _ rfl (by intro i hi;rcases i with _|_|_|_|_|_|_|i;(go_simp);(go_simp);(go_simp);(go_simp);(go_simp);(go_simp);(go_simp);exact absurd hi (by omega))) ⟨_,_,rfl,below_byR⟩
end
def newC (c:Cfg) (id boot:Int) (f t b tm:Nat) (σ:List Nat):Array Value :=
 (cfgL c ++ [Value.int .i64 id,Value.int .i64 boot,ptr f,ptr t]++(σ.map ptr++List.replicate (64 - σ.length) (Value.pointer none)) ++ [ptr b,ptr tm,Value.int .i64 0,Value.int .i64 (-1),Value.int .i64 (-1),Value.int .i64 0]).toArray
structure NewAt (B:Nat) (c:Cfg) (id boot:Int) (w:World) (g f t b tm:Nat) (T:TLay) (σ:List Nat):Prop where
 blk:Blk w g (newC c id boot f t b tm σ) 81
 gB:B≤g
 hf:Blk w f (flt (max 2 c.cap) false 0 0 0 0 0) 119
 fB:B≤f
 ht:TabAt (fun k=>B≤k) w t T (.new c.table)
 hb:Blk w b (bukC (.new c.rate)) 239
 bB:B≤b
 htm:Blk w tm (timC (.new c.every)) 241
 tmB:B≤tm
 s:∀ k ∈ σ,Blk w k (sesC .new) 245∧B≤k
 nd : σ.Nodup
theorem newC_get (c:Cfg) (id boot:Int) (f t b tm:Nat) (σ:List Nat) (h : σ.length<64):(newC c id boot f t b tm σ)[15 + σ.length]? = some (.pointer none):=by
 unfold newC
 have e1:(cfgL c ++ [Value.int .i64 id,.int .i64 boot,ptr f,ptr t]).length=15:=rfl
 rw [List.getElem?_toArray,List.append_assoc,List.getElem?_append_right (by rw [e1];omega),e1,List.getElem?_append_left (by simp;omega),List.getElem?_append_right (by simp)]
 simp [List.getElem?_replicate]
 omega
theorem newC_set (c:Cfg) (id boot:Int) (f t b tm:Nat) (σ:List Nat) (h : σ.length<64) (k:Nat) :
  (newC c id boot f t b tm σ).setIfInBounds (15 + σ.length) (ptr k)=newC c id boot f t b tm (σ ++ [k]):=by
 unfold newC
 rw [List.setIfInBounds_toArray]
 congr 1
 have e1:(cfgL c ++ [Value.int .i64 id,.int .i64 boot,ptr f,ptr t]).length=15:=rfl
 have e2:List.replicate (64 - σ.length) (Value.pointer none)=Value.pointer none :: List.replicate (63 - σ.length) (Value.pointer none):=by
  rw [← List.replicate_succ];congr 1;omega
 rw [List.append_assoc (cfgL c++_),List.set_append_right _ _ (by rw [e1];omega),e1,List.append_assoc (cfgL c++_)]
 congr 1
 rw [e2,List.append_assoc,List.set_append_right _ _ (by simp)]
 simp [show 64-(σ.length+1)=63 - σ.length by omega]
section
variable {B:Nat} {c:Cfg} {id boot:Int} {w w':World} {g f t b tm:Nat} {T:TLay} {σ:List Nat}
theorem NewAt.below (h:NewAt B c id boot w g f t b tm T σ) (hb:Below w.heap.size w w'):NewAt B c id boot w' g f t b tm T σ :=
 ⟨h.blk.keep hb,h.gB,h.hf.keep hb,h.fB,h.ht.below hb,h.hb.keep hb,h.bB,h.htm.keep hb,h.tmB,fun k hk=>⟨(h.s k hk).1.keep hb,(h.s k hk).2⟩,h.nd⟩
theorem NewAt.step (h:NewAt B c id boot w g f t b tm T σ) (hl : σ.length<64) (hB:B≤w.heap.size):NewAt B c id boot ((w.setCell ⟨g,15 + σ.length,none⟩ (ptr w.heap.size)).alloc (.cells (sesC .new) 245)).drew g f t b tm T (σ ++ [w.heap.size]):=by
 obtain ⟨w2,hw2⟩:∃ w2,w2=w.setCell ⟨g,15 + σ.length,none⟩ (ptr w.heap.size):=⟨_,rfl⟩
 rw [← hw2]
 have ho:OnlyAt g w w2:=by rw [hw2];exact OnlyAt.refl.setCell _ _
 have hz:w2.heap.size=w.heap.size:=by rw [hw2];simp
 have hg:Blk w2 g (newC c id boot f t b tm (σ ++ [w.heap.size])) 81:=by rw [hw2,← newC_set c id boot f t b tm σ hl];exact h.blk.setCell_same _ _
 have hb:Below w2.heap.size w2 (w2.alloc (.cells (sesC .new) 245)).drew:=((Below.refl _ _).alloc (Nat.le_refl _) _).drew
 have K {k:Nat} {c':Array Value} {t:TypeId} (hk:Blk w k c' t) (ht:t≠81):Blk (w2.alloc (.cells (sesC .new) 245)).drew k c' t:=(ho.blk hk (Blk.ne hk h.blk ht)).keep hb
 refine ⟨hg.keep hb,h.gB,K h.hf (by decide),h.fB,(h.ht.only ho h.blk (by decide) (by decide)).below hb,K h.hb (by decide),h.bB,K h.htm (by decide),h.tmB,?_,?_⟩
 ·intro k hk
  rcases List.mem_append.1 hk with hk|hk
  ·exact ⟨K (h.s k hk).1 (by decide),(h.s k hk).2⟩
  ·simp only [List.mem_singleton] at hk;subst hk
   refine ⟨?_,hB⟩
   rw [← hz];exact (Blk.new w2 _ _).drew
 ·rw [List.nodup_append]
  refine ⟨h.nd,by simp,?_⟩
  intro a ha k hk
  simp only [List.mem_singleton] at hk;subst hk
  have:=(h.s a ha).1.lt
  omega
theorem newC_13 (c:Cfg) (id boot:Int) (f t b tm:Nat) (σ:List Nat):(newC c id boot f t b tm σ)[13]? = some (ptr f):=by rfl
theorem NewAt.done (h:NewAt B c id boot w g f t b tm T σ) (hl : σ.length=64) (ho:OnlyAt f w w') (v:Bool) (e:El) (hf:Blk w' f (flt (max 2 c.cap) v e.x e.y e.a e.b e.d) 119) :
  NodeAt (fun k=>B≤k) w' g ⟨f,t,b,tm,fun i=>σ.getD i 0,T⟩ ⟨c,id,boot,max 2 c.cap,v,e,.new c.table,fun _ => .new,.new c.rate,.new c.every,0,-1,-1,0⟩:=by
 have K {k:Nat} {c':Array Value} {t:TypeId} (hk:Blk w k c' t) (ht:t≠119):Blk w' k c' t:=ho.blk hk (Blk.ne hk h.hf ht)
 have hs:∀ i,i<64 → σ.getD i 0 ∈ σ:=by
  intro i hi
  rw [List.getD_eq_getElem?_getD,List.getElem?_eq_getElem (by omega)]
  exact List.getElem_mem _
 have hc:newC c id boot f t b tm σ=nodeC ⟨f,t,b,tm,fun i=>σ.getD i 0,T⟩ ⟨c,id,boot,max 2 c.cap,v,e,.new c.table,fun _ => .new,.new c.rate,.new c.every,0,-1,-1,0⟩:=by
  unfold newC nodeC
  have e1 : σ.map ptr++List.replicate (64 - σ.length) (Value.pointer none)=(List.range 64).map fun i=>ptr (σ.getD i 0):=by
   rw [hl]
   apply List.ext_getElem
   ·simp [hl]
   ·intro i h1 h2
    have hi:i < σ.length:=by simpa using h1
    simp [List.getD_eq_getElem?_getD,List.getElem?_eq_getElem hi]
  rw [e1]
 refine ⟨by rw [← hc];exact K h.blk (by decide),h.gB,hf,h.fB,h.ht.only ho h.hf (by decide) (by decide),fun i hi=>⟨K (h.s _ (hs i hi)).1 (by decide),(h.s _ (hs i hi)).2⟩,?_,K h.hb (by decide),h.bB,K h.htm (by decide),h.tmB⟩
 intro i j hi hj he
 have h1 : σ[i]'(by omega) = σ[j]'(by omega):=by
  simpa [List.getD_eq_getElem?_getD,List.getElem?_eq_getElem (show i < σ.length by omega),List.getElem?_eq_getElem (show j < σ.length by omega)] using he
 rcases Nat.lt_trichotomy i j with hlt|rfl|hlt
 ·exact absurd h1 (List.pairwise_iff_getElem.1 h.nd i j _ _ hlt)
 ·rfl
 ·exact absurd h1.symm (List.pairwise_iff_getElem.1 h.nd j i _ _ hlt)
theorem NewAt.mk0 {cs:Array Value} {S:Nat→Prop} (h1:Blk w g cs 81) (h2:cs=newC c id boot f t b tm []) (gB:B≤g) (hf:Blk w f (flt (max 2 c.cap) false 0 0 0 0 0) 119) (fB:B≤f) (ht:TabAt S w t T (.new c.table)) (hS:∀ k,S k→B≤k)
  (hb:Blk w b (bukC (.new c.rate)) 239) (bB:B≤b) (htm:Blk w tm (timC (.new c.every)) 241) (tmB:B≤tm):NewAt B c id boot w g f t b tm T [] :=
 ⟨by rw [← h2];exact h1,gB,hf,fB,ht.mono (fun k _ h=>hS k h),hb,bB,htm,tmB,by simp,List.nodup_nil⟩
end
theorem below_only {B:Nat} {w w' w'':World} {g:Nat} (h:Below B w w') (ho:OnlyAt g w' w'') (hg:B≤g) (hB:B≤w.heap.size):Below B w w'' :=
 ⟨ho.os.trans h.os,ho.tape.trans h.tape,ho.output.trans h.output,Nat.le_trans h.size ho.size,fun k hk=>(ho.block k (Nat.lt_of_lt_of_le hk (by have:=h.size;omega)) (by omega)).trans (h.block k hk)⟩
theorem nodeNew_c (c:Cfg) (hc:c.may=true) (id boot:Int) (hi:0≤id∧id<64) (hb:serMay boot=true) (x y a b d:Int) (he:a≠0∧El.may ⟨x,y,a,b,d⟩=true) (w:World) :
  Calls Tryz.prog 56 #[cfgV c,.int .i64 id,.int .i64 boot,elC x y a b d] w fun e w'=>∃ g L,e = .returned (ptr g)∧NodeAt (fun k=>w.heap.size≤k) w' g L (.new c id boot ⟨x,y,a,b,d⟩)∧Below w.heap.size w w':=by
 have HC:=Lib.hid hc
 have HB:=Lib.hid hb
 have HE:=Lib.hid he.2
 have hE:=he.1
 have hi1:=hi.1
 have hi2:=hi.2
 obtain ⟨c0,c1,c2,c3,c4,c5,c6,c7,c8,c9,c10⟩:=c
 clear hc hb he hi
 go_enter Tryz.func56,Tryz.ntmps56
 go_wp2_with (first
  | (go_at_call 115;refine (serMay_c _ _ HB.out _).mono ?_;rintro e w1 ⟨rfl,h⟩;have h9:=h.symm;subst h9)
  | (go_at_call 116;refine (nMay_c _ HC.out _).mono ?_;rintro e w2 ⟨rfl,hb2⟩;have z_w2:=hb2.size;(try simp at z_w2);obtain ⟨yw2aa,cw2aa,fw2aa,rw2aa,tw2aa,pw2aa⟩:=bq hb2 (w.heap.size);obtain ⟨yw2ab,cw2ab,fw2ab,rw2ab,tw2ab,pw2ab⟩:=bq hb2 (w.heap.size+1))
  | (go_at_call 34;refine (ellmay_v _ _ _ _ _ _ HE.out _).mono ?_;rintro e w3 ⟨rfl,hb3⟩;have z_w3:=hb3.size;(try simp at z_w3);obtain ⟨yw3aa,cw3aa,fw3aa,rw3aa,tw3aa,pw3aa⟩:=bq hb3 (w.heap.size);obtain ⟨yw3ab,cw3ab,fw3ab,rw3ab,tw3ab,pw3ab⟩:=bq hb3 (w.heap.size+1)))
 have B4:Blk w3 w.heap.size #[.int .i64 c0,.int .i64 c1,.int .i64 c2,.int .i64 c3,.int .i64 c4,.int .i64 c5,.int .i64 c6,.int .i64 c7,.int .i64 c8,.int .i64 c9,.int .i64 c10] 26:=Blk.keep (Blk.keep (by repeat (first|with_reducible assumption|with_reducible exact Blk.new _ _ _|with_reducible refine Blk.alloc ?_ _|with_reducible refine Blk.drew ?_|(with_reducible refine Blk.setCell_other ?_ ?hB _;case hB=>(first|omega|(simp;done)|(simp;omega)))|with_reducible refine Blk.setCell_same ?_ _ _|with_reducible refine Blk.keep ?_ (by assumption))) hb2) hb3
 have B7:Hid (Blk w3 (w.heap.size+1) #[.int .i64 x,.int .i64 y,.int .i64 a,.int .i64 b,.int .i64 d] 35):=Blk.keep (Blk.keep (Blk.new1 _ _ _ _) hb2) hb3
 have B3:Hid (Below w.heap.size w w3):=(show Below _ _ _ from below_byR)
 obtain ⟨d0,d1,d2,d3,d4,d5,d6,d7,d8,d9,d10,dz⟩:w3.cell? ⟨w.heap.size,0,none⟩=some (.int .i64 c0)∧w3.cell? ⟨w.heap.size,1,none⟩=some (.int .i64 c1)∧w3.cell? ⟨w.heap.size,2,none⟩=some (.int .i64 c2)∧w3.cell? ⟨w.heap.size,3,none⟩=some (.int .i64 c3)∧w3.cell? ⟨w.heap.size,4,none⟩=some (.int .i64 c4)∧w3.cell? ⟨w.heap.size,5,none⟩=some (.int .i64 c5)∧w3.cell? ⟨w.heap.size,6,none⟩=some (.int .i64 c6)∧w3.cell? ⟨w.heap.size,7,none⟩=some (.int .i64 c7)∧w3.cell? ⟨w.heap.size,8,none⟩=some (.int .i64 c8)∧w3.cell? ⟨w.heap.size,9,none⟩=some (.int .i64 c9)∧w3.cell? ⟨w.heap.size,10,none⟩=some (.int .i64 c10)∧True:=⟨B4.cell rfl,B4.cell rfl,B4.cell rfl,B4.cell rfl,B4.cell rfl,B4.cell rfl,B4.cell rfl,B4.cell rfl,B4.cell rfl,B4.cell rfl,B4.cell rfl,trivial⟩
 have r4:=B4.row?_all 11 rfl
 clear z_w2 yw2aa cw2aa fw2aa rw2aa tw2aa pw2aa yw2ab cw2ab fw2ab rw2ab tw2ab pw2ab
 clear z_w3 yw3aa cw3aa fw3aa rw3aa tw3aa pw3aa yw3ab cw3ab fw3ab rw3ab tw3ab pw3ab
 clear hb2 hb3 dz
 have z3:=B7.out.lt
 have z30:=B3.out.size
 go_cut [9] from 37 (fun s9 wc=>∃ g f t b tm T,s9=ptr g∧Hid (NewAt w.heap.size ⟨c0,c1,c2,c3,c4,c5,c6,c7,c8,c9,c10⟩ id boot wc g f t b tm T [])∧Hid (Below w3.heap.size w3 wc))
 case first =>
  go_region_held3 (fun w' => w'.cell? ⟨w.heap.size, 0, none⟩ = some (.int .i64 c0) ∧ w'.cell? ⟨w.heap.size, 1, none⟩ = some (.int .i64 c1) ∧ w'.cell? ⟨w.heap.size, 2, none⟩ = some (.int .i64 c2) ∧ w'.cell? ⟨w.heap.size, 3, none⟩ = some (.int .i64 c3) ∧ w'.cell? ⟨w.heap.size, 4, none⟩ = some (.int .i64 c4) ∧ w'.cell? ⟨w.heap.size, 5, none⟩ = some (.int .i64 c5) ∧
      w'.cell? ⟨w.heap.size,6,none⟩=some (.int .i64 c6)∧w'.cell? ⟨w.heap.size,7,none⟩=some (.int .i64 c7)∧w'.cell? ⟨w.heap.size,8,none⟩=some (.int .i64 c8)∧w'.cell? ⟨w.heap.size,9,none⟩=some (.int .i64 c9)∧w'.cell? ⟨w.heap.size,10,none⟩=some (.int .i64 c10)) (go_simp)
   (first
   | (go_at_call 117;refine (new_c _ _).mono ?_;rintro e w4 ⟨f,rfl,hf1,hf2,hb4⟩;have hf0:w3.heap.size≤f:=hf1;have z_w4:=hb4.size;(try simp at z_w4);obtain ⟨yw4aa,cw4aa,fw4aa,rw4aa,tw4aa,pw4aa⟩:=bq hb4 (w.heap.size);obtain ⟨yw4ab,cw4ab,fw4ab,rw4ab,tw4ab,pw4ab⟩:=bq hb4 (w.heap.size+1))
   | (go_at_call 118;refine (tabNew_c _ _).mono ?_;rintro e w5 ⟨t,T,rfl,ht,hb5⟩;have z_w5:=hb5.size;(try simp at z_w5);obtain ⟨yw5aa,cw5aa,fw5aa,rw5aa,tw5aa,pw5aa⟩:=bq hb5 (w.heap.size);obtain ⟨yw5ab,cw5ab,fw5ab,rw5ab,tw5ab,pw5ab⟩:=bq hb5 (w.heap.size+1))
   | (go_at_call 119;refine (bukNew_c _ _).mono ?_;rintro e w6 ⟨b,rfl,hk1,hk2,hb6⟩;have z_w6:=hb6.size;(try simp at z_w6);obtain ⟨yw6aa,cw6aa,fw6aa,rw6aa,tw6aa,pw6aa⟩:=bq hb6 (w.heap.size);obtain ⟨yw6ab,cw6ab,fw6ab,rw6ab,tw6ab,pw6ab⟩:=bq hb6 (w.heap.size+1))
   | (go_at_call 120;refine (timNew_c _ _).mono ?_;rintro e w7 ⟨tm,rfl,hm1,hm2,hb7⟩;have z_w7:=hb7.size;(try simp at z_w7);obtain ⟨yw7aa,cw7aa,fw7aa,rw7aa,tw7aa,pw7aa⟩:=bq hb7 (w.heap.size);obtain ⟨yw7ab,cw7ab,fw7ab,rw7ab,tw7ab,pw7ab⟩:=bq hb7 (w.heap.size+1)))
  all_goals go_wp2_with fail
  all_goals go_meet
  all_goals refine ⟨_,f,t,b,tm,T,rfl,?_,?_⟩
  ·show NewAt _ _ _ _ _ _ _ _ _ _ _ _
   exact NewAt.mk0 (by repeat (first|with_reducible assumption|with_reducible exact Blk.new _ _ _|with_reducible refine Blk.alloc ?_ _|with_reducible refine Blk.drew ?_|(with_reducible refine Blk.setCell_other ?_ ?hB _;case hB=>(first|omega|(simp;done)|(simp;omega)))|with_reducible refine Blk.setCell_same ?_ _ _|with_reducible refine Blk.keep ?_ (by assumption))) (by kernel_rfl) (by first|omega|(simp;done)|(simp;omega)|fail) (Blk.keep hf2 below_byR) (by first|omega|(simp;done)|(simp;omega)|fail) (TabAt.below ht below_byR) (fun k hk=>(by first|omega|(simp;done)|(simp;omega)|fail)) (Blk.keep hk2 below_byR) (by first|omega|(simp;done)|(simp;omega)|fail) (Blk.keep hm2 below_byR) (by first|omega|(simp;done)|(simp;omega)|fail)
  ·show Below _ _ _
   exact below_byR
 case rest =>
  obtain ⟨g,f,t,bb,tm,T,rfl,HN,HBC⟩:=hcut
  have B8:Hid (Blk wc (w.heap.size+1) #[.int .i64 x,.int .i64 y,.int .i64 a,.int .i64 b,.int .i64 d] 35):=B7.out.keep HBC.out
  have HB0:Hid (Below w.heap.size w wc):=B3.out.trans (HBC.out.mono B3.out.size)
  clear d0 d1 d2 d3 d4 d5 d6 d7 d8 d9 d10 r4 B4 B7 z3 z30
  go_wp2_with fail
  go_loopw [10,54] (fun s10 s54 wr=>∃ σ:List Nat,σ.length≤64∧s54 = .int .i64 σ.length∧Hid (NewAt w.heap.size ⟨c0,c1,c2,c3,c4,c5,c6,c7,c8,c9,c10⟩ id boot wr g f t bb tm T σ)∧Hid (Blk wr (w.heap.size+1) #[.int .i64 x,.int .i64 y,.int .i64 a,.int .i64 b,.int .i64 d] 35)∧Hid (Below w.heap.size w wr)) (fun _ s54 _=>64-(intOf s54).toNat)
  case atStart=>exact ⟨[],by simp,rfl,HN,B8,HB0⟩
  case round =>
   obtain ⟨σ,hσ,rfl,HN1,HX,HB1⟩:=hrel
   by_cases hlt : σ.length<64
   ·have hk1:(σ.length:Int)<64:=by omega
    have hk0:(0:Int) ≤ σ.length:=by omega
    have wk:IntKind.i64.wrap ((σ.length:Int)+1)=(σ.length:Int)+1:=IntWalk.i64_in _ (by omega)
    obtain ⟨y1,c1',f1,-⟩:=bk_o HN1.out.blk
    have hcell:wr.cell? ⟨g,15 + σ.length,none⟩=some (.pointer none):=(c1' _).trans (newC_get _ _ _ _ _ _ _ _ hlt)
    clear c1'
    go_wp2_with fail
    go_region_with (go_at_call 121;refine (sesNew_c _).mono ?_;rintro e w5 ⟨rfl,h⟩;have h9:=h.symm;subst h9)
    all_goals go_wp2_with fail
    all_goals (refine ⟨⟨σ ++ [wr.heap.size],by simp;omega,by simp,HN1.out.step hlt HB1.out.size,?_,?_⟩,by simp [intOf];omega⟩)
    all_goals first
     | (show Below _ _ _;have hgB:=HN1.out.gB;exact below_byR)
     | (show Blk _ _ _ _;exact ((OnlyAt.refl.setCell (g:=g) (15 + σ.length) _).blk HX.out (Blk.ne HX.out HN1.out.blk (by decide))).alloc _ |>.drew)
   ·have hk2:¬ (σ.length:Int)<64:=by omega
    have hl : σ.length=64:=by omega
    obtain ⟨y1,c1',f1,-⟩:=bk_o HN1.out.blk
    have q13:wr.cell? ⟨g,13,none⟩=some (ptr f):=(c1' 13).trans (newC_13 _ _ _ _ _ _ _ _)
    obtain ⟨y2,c2',f2,-⟩:=bk_o HX.out
    have r2:=HX.out.row?_all 5 rfl
    clear c1'
    go_wp2_with fail
    refine still_tail 5 (by kernel_rfl) (by kernel_rfl) ?_
    simp only [List.take_succ_cons,List.take_zero,List.drop_succ_cons,List.drop_zero];(repeat still_step);(try refine wpStill_nil ?_)
    go_wp2_with fail
    refine (set_c f (max 2 c10) false 0 0 0 0 0 x y a b d _ HN1.out.hf.drew).mono ?_;rintro e w8 ⟨v1,e1,k,hset,rfl,hO,hF⟩
    go_wp2_with fail
    go_ret
    have hD:=(HN1.out.below (w':=wr.drew) (Below.refl _ _).drew).done hl hO v1 e1 hF
    refine ⟨g,⟨f,t,bb,tm,fun i=>σ.getD i 0,T⟩,rfl,?_,?_⟩
    · have e2 : NodeD.new ⟨c0, c1, c2, c3, c4, c5, c6, c7, c8, c9, c10⟩ id boot ⟨x, y, a, b, d⟩ = ⟨⟨c0, c1, c2, c3, c4, c5, c6, c7, c8, c9, c10⟩, id, boot, max 2 c10, v1, e1, .new c1, fun _ => .new, .new c9, .new c8, 0, -1, -1, 0⟩ := by
        unfold NodeD.new setFilt
        rw [show (El.zero:El)=⟨0,0,0,0,0⟩ from rfl,hset]
      rw [e2];exact hD
    ·exact below_only HB1.out.drew hO HN1.out.fB (Nat.le_refl _)
theorem nodeNew_z (c:Cfg) (hc:c.may=true) (id boot:Int) (hi:0≤id∧id<64) (hb:serMay boot=true) (w:World) :
  Calls Tryz.prog 56 #[cfgV c,.int .i64 id,.int .i64 boot,elC 0 0 0 0 0] w fun e w'=>∃ g L,e = .returned (ptr g)∧NodeAt (fun k=>w.heap.size≤k) w' g L (.new c id boot .zero)∧Below w.heap.size w w':=by
 have HC:=Lib.hid hc
 have HB:=Lib.hid hb
 have hi1:=hi.1
 have hi2:=hi.2
 obtain ⟨c0,c1,c2,c3,c4,c5,c6,c7,c8,c9,c10⟩:=c
 clear hc hb hi
 go_enter Tryz.func56,Tryz.ntmps56
 go_wp2_with (first
  | (go_at_call 115;refine (serMay_c _ _ HB.out _).mono ?_;rintro e w1 ⟨rfl,h⟩;have h9:=h.symm;subst h9)
  | (go_at_call 116;refine (nMay_c _ HC.out _).mono ?_;rintro e w3 ⟨rfl,hb3⟩;have z_w3:=hb3.size;(try simp at z_w3);obtain ⟨yw3aa,cw3aa,fw3aa,rw3aa,tw3aa,pw3aa⟩:=bq hb3 (w.heap.size);obtain ⟨yw3ab,cw3ab,fw3ab,rw3ab,tw3ab,pw3ab⟩:=bq hb3 (w.heap.size+1)))
 have B4:Blk w3 w.heap.size #[.int .i64 c0,.int .i64 c1,.int .i64 c2,.int .i64 c3,.int .i64 c4,.int .i64 c5,.int .i64 c6,.int .i64 c7,.int .i64 c8,.int .i64 c9,.int .i64 c10] 26:=Blk.keep (by repeat (first|with_reducible assumption|with_reducible exact Blk.new _ _ _|with_reducible refine Blk.alloc ?_ _|with_reducible refine Blk.drew ?_|(with_reducible refine Blk.setCell_other ?_ ?hB _;case hB=>(first|omega|(simp;done)|(simp;omega)))|with_reducible refine Blk.setCell_same ?_ _ _|with_reducible refine Blk.keep ?_ (by assumption))) hb3
 have B7:Hid (Blk w3 (w.heap.size+1) #[.int .i64 0,.int .i64 0,.int .i64 0,.int .i64 0,.int .i64 0] 35):=Blk.keep (Blk.new1 _ _ _ _) hb3
 have B3:Hid (Below w.heap.size w w3):=(show Below _ _ _ from below_byR)
 obtain ⟨d0,d1,d2,d3,d4,d5,d6,d7,d8,d9,d10,dz⟩:w3.cell? ⟨w.heap.size,0,none⟩=some (.int .i64 c0)∧w3.cell? ⟨w.heap.size,1,none⟩=some (.int .i64 c1)∧w3.cell? ⟨w.heap.size,2,none⟩=some (.int .i64 c2)∧w3.cell? ⟨w.heap.size,3,none⟩=some (.int .i64 c3)∧w3.cell? ⟨w.heap.size,4,none⟩=some (.int .i64 c4)∧w3.cell? ⟨w.heap.size,5,none⟩=some (.int .i64 c5)∧w3.cell? ⟨w.heap.size,6,none⟩=some (.int .i64 c6)∧w3.cell? ⟨w.heap.size,7,none⟩=some (.int .i64 c7)∧w3.cell? ⟨w.heap.size,8,none⟩=some (.int .i64 c8)∧w3.cell? ⟨w.heap.size,9,none⟩=some (.int .i64 c9)∧w3.cell? ⟨w.heap.size,10,none⟩=some (.int .i64 c10)∧True:=⟨B4.cell rfl,B4.cell rfl,B4.cell rfl,B4.cell rfl,B4.cell rfl,B4.cell rfl,B4.cell rfl,B4.cell rfl,B4.cell rfl,B4.cell rfl,B4.cell rfl,trivial⟩
 have r4:=B4.row?_all 11 rfl
 clear z_w3 yw3aa cw3aa fw3aa rw3aa tw3aa pw3aa yw3ab cw3ab fw3ab rw3ab tw3ab pw3ab
 clear hb3 dz
 have z3:=B7.out.lt
 have z30:=B3.out.size
 go_cut [9] from 37 (fun s9 wc=>∃ g f t b tm T,s9=ptr g∧Hid (NewAt w.heap.size ⟨c0,c1,c2,c3,c4,c5,c6,c7,c8,c9,c10⟩ id boot wc g f t b tm T [])∧Hid (Below w3.heap.size w3 wc))
 case first =>
  go_region_held3 (fun w' => w'.cell? ⟨w.heap.size, 0, none⟩ = some (.int .i64 c0) ∧ w'.cell? ⟨w.heap.size, 1, none⟩ = some (.int .i64 c1) ∧ w'.cell? ⟨w.heap.size, 2, none⟩ = some (.int .i64 c2) ∧ w'.cell? ⟨w.heap.size, 3, none⟩ = some (.int .i64 c3) ∧ w'.cell? ⟨w.heap.size, 4, none⟩ = some (.int .i64 c4) ∧ w'.cell? ⟨w.heap.size, 5, none⟩ = some (.int .i64 c5) ∧
      w'.cell? ⟨w.heap.size,6,none⟩=some (.int .i64 c6)∧w'.cell? ⟨w.heap.size,7,none⟩=some (.int .i64 c7)∧w'.cell? ⟨w.heap.size,8,none⟩=some (.int .i64 c8)∧w'.cell? ⟨w.heap.size,9,none⟩=some (.int .i64 c9)∧w'.cell? ⟨w.heap.size,10,none⟩=some (.int .i64 c10)) (go_simp)
   (first
   | (go_at_call 117;refine (new_c _ _).mono ?_;rintro e w4 ⟨f,rfl,hf1,hf2,hb4⟩;have hf0:w3.heap.size≤f:=hf1;have z_w4:=hb4.size;(try simp at z_w4);obtain ⟨yw4aa,cw4aa,fw4aa,rw4aa,tw4aa,pw4aa⟩:=bq hb4 (w.heap.size);obtain ⟨yw4ab,cw4ab,fw4ab,rw4ab,tw4ab,pw4ab⟩:=bq hb4 (w.heap.size+1))
   | (go_at_call 118;refine (tabNew_c _ _).mono ?_;rintro e w5 ⟨t,T,rfl,ht,hb5⟩;have z_w5:=hb5.size;(try simp at z_w5);obtain ⟨yw5aa,cw5aa,fw5aa,rw5aa,tw5aa,pw5aa⟩:=bq hb5 (w.heap.size);obtain ⟨yw5ab,cw5ab,fw5ab,rw5ab,tw5ab,pw5ab⟩:=bq hb5 (w.heap.size+1))
   | (go_at_call 119;refine (bukNew_c _ _).mono ?_;rintro e w6 ⟨b,rfl,hk1,hk2,hb6⟩;have z_w6:=hb6.size;(try simp at z_w6);obtain ⟨yw6aa,cw6aa,fw6aa,rw6aa,tw6aa,pw6aa⟩:=bq hb6 (w.heap.size);obtain ⟨yw6ab,cw6ab,fw6ab,rw6ab,tw6ab,pw6ab⟩:=bq hb6 (w.heap.size+1))
   | (go_at_call 120;refine (timNew_c _ _).mono ?_;rintro e w7 ⟨tm,rfl,hm1,hm2,hb7⟩;have z_w7:=hb7.size;(try simp at z_w7);obtain ⟨yw7aa,cw7aa,fw7aa,rw7aa,tw7aa,pw7aa⟩:=bq hb7 (w.heap.size);obtain ⟨yw7ab,cw7ab,fw7ab,rw7ab,tw7ab,pw7ab⟩:=bq hb7 (w.heap.size+1)))
  all_goals go_wp2_with fail
  all_goals go_meet
  all_goals refine ⟨_,f,t,b,tm,T,rfl,?_,?_⟩
  ·show NewAt _ _ _ _ _ _ _ _ _ _ _ _
   exact NewAt.mk0 (by repeat (first|with_reducible assumption|with_reducible exact Blk.new _ _ _|with_reducible refine Blk.alloc ?_ _|with_reducible refine Blk.drew ?_|(with_reducible refine Blk.setCell_other ?_ ?hB _;case hB=>(first|omega|(simp;done)|(simp;omega)))|with_reducible refine Blk.setCell_same ?_ _ _|with_reducible refine Blk.keep ?_ (by assumption))) (by kernel_rfl) (by first|omega|(simp;done)|(simp;omega)|fail) (Blk.keep hf2 below_byR) (by first|omega|(simp;done)|(simp;omega)|fail) (TabAt.below ht below_byR) (fun k hk=>(by first|omega|(simp;done)|(simp;omega)|fail)) (Blk.keep hk2 below_byR) (by first|omega|(simp;done)|(simp;omega)|fail) (Blk.keep hm2 below_byR) (by first|omega|(simp;done)|(simp;omega)|fail)
  ·show Below _ _ _
   exact below_byR
 case rest =>
  obtain ⟨g,f,t,bb,tm,T,rfl,HN,HBC⟩:=hcut
  have B8:Hid (Blk wc (w.heap.size+1) #[.int .i64 0,.int .i64 0,.int .i64 0,.int .i64 0,.int .i64 0] 35):=B7.out.keep HBC.out
  have HB0:Hid (Below w.heap.size w wc):=B3.out.trans (HBC.out.mono B3.out.size)
  clear d0 d1 d2 d3 d4 d5 d6 d7 d8 d9 d10 r4 B4 B7 z3 z30
  go_wp2_with fail
  go_loopw [10,54] (fun s10 s54 wr=>∃ σ:List Nat,σ.length≤64∧s54 = .int .i64 σ.length∧Hid (NewAt w.heap.size ⟨c0,c1,c2,c3,c4,c5,c6,c7,c8,c9,c10⟩ id boot wr g f t bb tm T σ)∧Hid (Blk wr (w.heap.size+1) #[.int .i64 0,.int .i64 0,.int .i64 0,.int .i64 0,.int .i64 0] 35)∧Hid (Below w.heap.size w wr)) (fun _ s54 _=>64-(intOf s54).toNat)
  case atStart=>exact ⟨[],by simp,rfl,HN,B8,HB0⟩
  case round =>
   obtain ⟨σ,hσ,rfl,HN1,HX,HB1⟩:=hrel
   by_cases hlt : σ.length<64
   ·have hk1:(σ.length:Int)<64:=by omega
    have hk0:(0:Int) ≤ σ.length:=by omega
    have wk:IntKind.i64.wrap ((σ.length:Int)+1)=(σ.length:Int)+1:=IntWalk.i64_in _ (by omega)
    obtain ⟨y1,c1',f1,-⟩:=bk_o HN1.out.blk
    have hcell:wr.cell? ⟨g,15 + σ.length,none⟩=some (.pointer none):=(c1' _).trans (newC_get _ _ _ _ _ _ _ _ hlt)
    clear c1'
    go_wp2_with fail
    go_region_with (go_at_call 121;refine (sesNew_c _).mono ?_;rintro e w5 ⟨rfl,h⟩;have h9:=h.symm;subst h9)
    all_goals go_wp2_with fail
    all_goals (refine ⟨⟨σ ++ [wr.heap.size],by simp;omega,by simp,HN1.out.step hlt HB1.out.size,?_,?_⟩,by simp [intOf];omega⟩)
    all_goals first
     | (show Below _ _ _;have hgB:=HN1.out.gB;exact below_byR)
     | (show Blk _ _ _ _;exact ((OnlyAt.refl.setCell (g:=g) (15 + σ.length) _).blk HX.out (Blk.ne HX.out HN1.out.blk (by decide))).alloc _ |>.drew)
   ·have hk2:¬ (σ.length:Int)<64:=by omega
    have hl : σ.length=64:=by omega
    obtain ⟨y1,c1',f1,-⟩:=bk_o HN1.out.blk
    have q13:wr.cell? ⟨g,13,none⟩=some (ptr f):=(c1' 13).trans (newC_13 _ _ _ _ _ _ _ _)
    obtain ⟨y2,c2',f2,-⟩:=bk_o HX.out
    have r2:=HX.out.row?_all 5 rfl
    clear c1'
    go_wp2_with fail
    refine still_tail 5 (by kernel_rfl) (by kernel_rfl) ?_
    simp only [List.take_succ_cons,List.take_zero,List.drop_succ_cons,List.drop_zero];(repeat still_step);(try refine wpStill_nil ?_)
    go_wp2_with fail
    refine (set_c f (max 2 c10) false 0 0 0 0 0 0 0 0 0 0 _ HN1.out.hf.drew).mono ?_;rintro e w8 ⟨v1,e1,k,hset,rfl,hO,hF⟩
    go_wp2_with fail
    go_ret
    have hD:=(HN1.out.below (w':=wr.drew) (Below.refl _ _).drew).done hl hO v1 e1 hF
    refine ⟨g,⟨f,t,bb,tm,fun i=>σ.getD i 0,T⟩,rfl,?_,?_⟩
    · have e2 : NodeD.new ⟨c0, c1, c2, c3, c4, c5, c6, c7, c8, c9, c10⟩ id boot .zero = ⟨⟨c0, c1, c2, c3, c4, c5, c6, c7, c8, c9, c10⟩, id, boot, max 2 c10, v1, e1, .new c1, fun _ => .new, .new c9, .new c8, 0, -1, -1, 0⟩ := by
        unfold NodeD.new setFilt
        rw [show (El.zero:El)=⟨0,0,0,0,0⟩ from rfl,hset]
      rw [e2];exact hD
    ·exact below_only HB1.out.drew hO HN1.out.fB (Nat.le_refl _)
def setL (c:Array Value) (o:Nat):List Value→Array Value
 | []=>c
 | v :: r=>setL (c.setIfInBounds o v) (o+1) r
theorem blk_setCells {b:Nat} {t:TypeId} : ∀ (l:List Value) (o:Nat) (c:Array Value) (w:World),Blk w b c t→Blk (w.setCells b o l) b (setL c o l) t
 | [],_,_,_,h=>h
 | v :: r,o,c,w,h=>blk_setCells r (o+1) (c.setIfInBounds o v) (w.setCell ⟨b,o,none⟩ v) (h.setCell_same o v)
theorem only_setCells {b:Nat} {w0:World} : ∀ (l:List Value) (o:Nat) (w:World),OnlyAt b w0 w→OnlyAt b w0 (w.setCells b o l)
 | [],_,_,h=>h
 | v :: r,o,w,h=>only_setCells r (o+1) (w.setCell ⟨b,o,none⟩ v) (h.setCell o v)
theorem setL_list:∀ (l:List Value) (o:Nat) (c:Array Value),o+l.length≤c.size→(setL c o l).toList=c.toList.take o++l++c.toList.drop (o+l.length)
 | [],o,c,_=>by simp [setL]
 | v :: r,o,c,h=>by
  simp only [List.length_cons] at h
  have h0:o<c.toList.length:=by simp;omega
  rw [setL,setL_list r (o+1) _ (by simp;omega),Array.toList_setIfInBounds,List.set_eq_take_append_cons_drop,if_pos h0]
  have e1:(List.take o c.toList).length=o:=by rw [List.length_take];omega
  have e2:o+1-o=1:=by omega
  have e3:o+1+r.length-o=r.length+1:=by omega
  have e4:List.drop (o+1+r.length) (List.take o c.toList) = []:=List.drop_eq_nil_of_le (by omega)
  rw [List.take_append,List.drop_append,e1,e2,e3,e4,List.take_of_length_le (i:=o+1) (l:=List.take o c.toList) (by omega)]
  simp only [List.take_succ_cons,List.take_zero,List.drop_succ_cons,List.drop_drop,List.nil_append,List.length_cons,List.append_assoc,List.cons_append]
  congr 4
  omega
theorem setL_size:∀ (l:List Value) (o:Nat) (c:Array Value),(setL c o l).size=c.size
 | [],_,_=>rfl
 | v :: r,o,c=>by rw [setL,setL_size r];simp
theorem run_clear_one {P:Program} (w:World) (t e ty:TypeId) (z:Value) (cs:List Value) (ht:P.underlying t=some (.slice e)) (hv:∀ w,(zeroValue e).run P w = .ok z w) (hz:(Builtin.zeroCells z.cells 1).toList=cs) (h1:∀ u ∈ cs,u.oneCell'=true) (b o c:Nat)
  (hc:∀ j,j<cs.length→(w.cell? ⟨b,o+j,none⟩).isSome=true) (hf:∀ j,j<cs.length→w.frozen? ⟨b,o+j,none⟩=false) :
  (Builtin.clear_ #[t] ty #[.slice (some ⟨b,o,none⟩) 1 c]).run P w = .ok (.tuple #[]) (w.setCells b o cs):=by
 have hst:=run_storeCells_cells (P:=P) b o cs 0 w (by simpa using hc) (by simpa using hf) h1
 simp only [Nat.add_zero] at hst
 simp [Builtin.clear_,run_underlying ht,hv,hz,hst]
theorem infoMail:(Tryz.prog.info? 143).map (fun i=>(i.zero,i.size,i.bytes))=some (some (.agg #[.int .i64 0,.slice none 0 0,.int .i64 0,.int .i64 0,.bool false]),5,56):=by kernel_rfl
theorem zeroMail (w:World):(zeroValue 143).run Tryz.prog w = .ok (.agg #[.int .i64 0,.slice none 0 0,.int .i64 0,.int .i64 0,.bool false]) w:=by kernel_rfl
theorem mailDel_c (g cap n i:Nat) (cur:Array Value) (w:World) (hb:Blk w g cur 143) (hs:cur.size=cap*5) (hn:n≤cap) (hm:cap≤maxLen) (hi:i<n) (h1:∀ u ∈ cur.toList.take (n*5),u.oneCell'=true) :
  Calls Tryz.prog 145 #[.slice (some ⟨g,0,none⟩) n cap,.int .i64 i,.int .i64 ((i:Int)+1)] w fun e w'=>e = .returned (.slice (some ⟨g,0,none⟩) (n-1) cap)∧OnlyAt g w w' ∧
   ∃ cur',Blk w' g cur' 143∧cur'.size=cap*5∧cur'.toList.take ((n-1)*5)=(cur.toList.take (i*5))++((cur.toList.take (n*5)).drop ((i+1)*5)):=by
 obtain ⟨j,hj⟩:∃ j,j=i+1:=⟨_,rfl⟩
 rw [← hj,show (i:Int)+1=(j:Int) by omega]
 have mixed:Tryz.prog.follows .mixedOrders=true:=by kernel_rfl
 have hjn:j≤n:=by omega
 obtain ⟨i0,hi0,hz0,hz1,hz2⟩:=info_parts infoMail
 obtain ⟨news,hnews⟩:∃ news,news=(cur.toList.take (n*5)).drop (j*5):=⟨_,rfl⟩
 have hlc:cur.toList.length=cap*5:=by simpa using hs
 have hlen:news.length=(n-j)*5:=by rw [hnews,List.length_drop,List.length_take,hlc];omega
 have hget:∀ t u,news[t]? = some u→cur[j*5+t]? = some u:=by
  intro t u h
  rw [hnews,List.getElem?_drop,List.getElem?_take] at h
  split at h
  ·simpa using h
  ·cases h
 obtain ⟨y1,c1,f1,-⟩:=bk_o hb
 obtain ⟨A,hA,hsrc⟩:∃ A:Addr,(if cap=j then (some ⟨g,0,none⟩:Option Addr) else some ⟨g,j*5,none⟩)=some A∧Hid (∀ t u,news[t]? = some u→w.drew.cell? (A.add t)=some u):=by
  by_cases h:cap=j
  ·refine ⟨⟨g,0,none⟩,by simp [h],fun t u hu=>?_⟩
   have h0:news.length=0:=by rw [hlen];omega
   rw [List.length_eq_zero_iff.1 h0] at hu
   simp at hu
  ·refine ⟨⟨g,j*5,none⟩,by simp [h],fun t u hu=>?_⟩
   rw [Addr.add_lit]
   exact (c1 _).trans (hget t u hu)
 have s1:Hid (news.length=(n-j)*5):=hlen
 have s2:Hid (∀ u ∈ news,u.oneCell'=true):=by
  intro u hu
  rw [hnews] at hu
  exact h1 u (List.mem_of_mem_drop hu)
 have hcs:∀ o,o<cap*5→(w.cell? ⟨g,o,none⟩).isSome=true:=by intro o ho;rw [c1,Array.getElem?_eq_getElem (by omega)];rfl
 have s3:Hid (∀ t,t<news.length→(w.drew.cell? ⟨g,0+i*5+t,none⟩).isSome=true∧w.drew.frozen? ⟨g,0+i*5+t,none⟩=false):=by
  intro t ht
  rw [hlen] at ht
  exact ⟨hcs _ (by omega),f1 _⟩
 obtain ⟨W1,hW1⟩:∃ W1,W1=w.drew.setCells g (0+i*5) news:=⟨_,rfl⟩
 have HB1:Hid (Blk W1 g (setL cur (0+i*5) news) 143):=by rw [hW1];exact blk_setCells _ _ _ _ hb.drew
 have HO1:Hid (OnlyAt g w W1):=by rw [hW1];exact only_setCells _ _ _ (OnlyAt.refl.drew)
 have hz:(setL cur (0+i*5) news).size=cap*5:=by rw [setL_size,hs]
 obtain ⟨y2,c2,f2,-⟩:=bk_o HB1.out
 have hcl:∀ ty,(Builtin.clear_ #[178] ty #[.slice (some ⟨g,(n-1)*5,none⟩) 1 (cap-(n-1))]).run Tryz.prog W1 = .ok (.tuple #[]) (W1.setCells g ((n-1)*5) [.int .i64 0,.slice none 0 0,.int .i64 0,.int .i64 0,.bool false]) :=
  fun ty=>run_clear_one W1 _ _ ty _ [.int .i64 0,.slice none 0 0,.int .i64 0,.int .i64 0,.bool false] Tryz.underlying178 zeroMail (by kernel_rfl) (by simp [Value.oneCell']) g _ _ (fun j hj=>by simp at hj;rw [c2,Array.getElem?_eq_getElem (by omega)];rfl) (fun j hj=>f2 _)
 have hW:Hid (W1=w.drew.setCells g (0+i*5) news):=hW1
 have HL:Hid (∀ o,o<cap*5→(w.cell? ⟨g,o,none⟩).isSome=true):=hcs
 have hic:i≤cap:=by omega
 have hjc:j≤cap:=by omega
 have e1:i+(n-j)=n-1:=by omega
 have e2:n-(n-1)=1:=by omega
 have hne:((i:Int)==(j:Int))=false:=by simp;omega
 have HS:Hid (cur.size=cap*5):=hs
 have HNW:Hid (news=(cur.toList.take (n*5)).drop (j*5)):=hnews
 have HZ:Hid ((setL cur (0+i*5) news).size=cap*5):=hz
 have HJ:=Lib.hid hj
 have hij:i<j:=by omega
 clear hs h1 hb hnews hz hj
 clear hW1 hget hlen c1 f1 y1 c2 f2 y2 hcs
 go_enter Tryz.func145,Tryz.ntmps145
 go_wp2_with fail
 go_region_law_o (refine step_append_room rfl (.tmp 22) (.tmp 25) 178 rfl 143 i0 5 Tryz.underlying178 hi0 hz1 g 0 i cap (by simp [Act.eval,Act.put]) A (n-j) (cap-j) news (by simp [Act.eval,Act.put]) s1.out hsrc.out s2.out (by omega) s3.out ?_;rw [← hW.out,e1])
 go_wp2
 go_ret
 have Hs:=HS.out
 have Hj:=HJ.out
 have hl1:news.length=(n-j)*5:=s1.out
 have p1:=setL_list news (0+i*5) cur (by omega)
 have p2:=setL_list [.int .i64 0,.slice none 0 0,.int .i64 0,.int .i64 0,.bool false] ((n-1)*5) (setL cur (0+i*5) news) (by rw [HZ.out];simp;omega)
 refine ⟨rfl,only_setCells _ _ _ HO1.out,_,blk_setCells _ _ _ _ HB1.out,by rw [setL_size,HZ.out],?_⟩
 ·rw [p2,p1,Nat.zero_add,← HNW.out]
  have q1:(List.take (i*5) cur.toList++news).length=(n-1)*5:=by rw [List.length_append,List.length_take,hlc,hl1];omega
  generalize List.take (i*5) cur.toList++news=Y at q1 ⊢
  have q2:∀ Z,List.take ((n-1)*5) (Y++Z)=Y:=fun Z=>by rw [List.take_append_of_le_length (by omega),List.take_of_length_le (by omega)]
  rw [List.append_assoc,q2,q2]
def RdS (S:Nat→Prop) (w:World) (v:Value) (xs:List Nat):Prop :=
 Byt xs∧∃ ao cap,v = .slice ao xs.length cap∧xs.length≤cap∧∀ j,j<xs.length→∃ b o c,ao=some ⟨b,o,none⟩∧Blk w b c 5∧S b∧c[o+j]? = some (.int .u8 ((xs.getD j 0:Nat):Int))
theorem RdS.rd {S:Nat→Prop} {w:World} {v:Value} {xs:List Nat} (h:RdS S w v xs):RdB w v xs:=by
 obtain ⟨h1,ao,cap,h2,h3,h4⟩:=h
 exact ⟨h1,ao,cap,h2,h3,fun j hj=>by obtain ⟨b,o,c,e1,e2,-,e4⟩:=h4 j hj;exact ⟨b,o,e1,e2.lt,(e2.at _).trans e4⟩⟩
theorem RdS.kept {S S':Nat→Prop} {w w':World} {v:Value} {xs:List Nat} (h:RdS S w v xs) (hz:w.heap.size≤w'.heap.size) (hb:∀ k,k<w.heap.size→S k→w'.heap[k]? = w.heap[k]?) (hS:∀ k,k<w.heap.size→S k→S' k):RdS S' w' v xs:=by
 obtain ⟨h1,ao,cap,h2,h3,h4⟩:=h
 refine ⟨h1,ao,cap,h2,h3,fun j hj=>?_⟩
 obtain ⟨b,o,c,e1,e2,e3,e4⟩:=h4 j hj
 exact ⟨b,o,c,e1,(hb b e2.lt e3).trans e2,hS b e2.lt e3,e4⟩
theorem RdS.only {S:Nat→Prop} {w w':World} {v:Value} {xs:List Nat} {g:Nat} {cs:Array Value} {t:TypeId} (h:RdS S w v xs) (ho:OnlyAt g w w') (hg:Blk w g cs t) (ht:5≠t):RdS S w' v xs:=by
 obtain ⟨h1,ao,cap,h2,h3,h4⟩:=h
 refine ⟨h1,ao,cap,h2,h3,fun j hj=>?_⟩
 obtain ⟨b,o,c,e1,e2,e3,e4⟩:=h4 j hj
 exact ⟨b,o,c,e1,ho.blk e2 (Blk.ne e2 hg ht),e3,e4⟩
theorem OwnR.rdS {w:World} {B:Nat} {v:Value} {xs:List Nat} (h:OwnR w B v xs):RdS (fun k=>B≤k) w v xs:=by
 obtain ⟨hy,hl,⟨rfl,h0⟩|⟨g,cap,cur,rfl,hB,hg,hc,hm,hs,ht⟩⟩:=h
 ·exact ⟨hy,⟨none,0,by rw [h0],by omega,fun j hj=>absurd hj (by omega)⟩⟩
 ·have own:w.ownsRow B 5 1 (.slice (some ⟨g,0,none⟩) xs.length cap) xs.length (xs.map fun (c:Nat)=>Value.int .u8 (c:Int)):=⟨hl,.inr ⟨g,cap,cur,rfl,hB,hg,hc,hm,hs,ht⟩⟩
  refine ⟨hy,some ⟨g,0,none⟩,cap,rfl,hc,fun j hj=>⟨g,0,cur,rfl,hg,hB,?_⟩⟩
  have hg2:Blk w g cur 5:=hg
  rw [Nat.zero_add,← hg2.at j,own.cellAt j (by omega),List.getElem?_map,List.getElem?_eq_getElem hj,List.getD_eq_getElem?_getD,List.getElem?_eq_getElem hj];rfl
theorem clone_c (v:Value) (xs:List Nat) (w:World) (h:RdB w v xs) (hl:xs.length≤1000) :
  Calls Tryz.prog 192 #[v] w fun e w'=>∃ v',e = .returned v'∧RdS (fun k=>w.heap.size≤k) w' v' xs∧Below w.heap.size w w':=by
 obtain ⟨hy,ao,cap,rfl,hc,H⟩:=h
 have HH:=Lib.hid H
 cases ao with
 | none =>
  have h0:xs.length=0:=by
   rcases Nat.eq_zero_or_pos xs.length with h|h
   ·exact h
   ·obtain ⟨b,o,e,-⟩:=H 0 h;cases e
  clear H
  have H0:Hid (xs.length=0):=h0
  clear h0
  have hq:∀ W,(binOp .eql 36 (.slice none xs.length cap) (.slice none 0 0)).run Tryz.prog W = .ok (.bool true) W:=fun W=>Lib.run_eql_slice_nil W 36 _ none _ _ 0 0 Tryz.underlying36
  go_enter Tryz.func192,Tryz.ntmps192
  go_wp2_with fail
  go_ret
  have h0:xs.length=0:=H0.out
  exact ⟨.slice none 0 0,rfl,⟨hy,none,0,by rw [h0],by omega,fun j hj=>by omega⟩,Below.refl _ _⟩
 | some ad =>
  clear H
  have hq:∀ W,(binOp .eql 36 (.slice (some ad) xs.length cap) (.slice none 0 0)).run Tryz.prog W = .ok (.bool false) W:=fun W=>Lib.run_eql_slice_nil W 36 _ (some ad) _ _ 0 0 Tryz.underlying36
  obtain ⟨i0,hi,hz0,hz1,hz2⟩:=info_parts infoU8
  obtain ⟨news,hnews⟩:∃ news,news=xs.map (fun (c:Nat)=>Value.int .u8 (c:Int)):=⟨_,rfl⟩
  have s1:Hid (news.length=xs.length*1):=by show _=_;rw [hnews];simp
  have s2:Hid (∀ u ∈ news,u.oneCell'=true):=by intro u hu;rw [hnews] at hu;obtain ⟨x,_,rfl⟩:=List.mem_map.1 hu;rfl
  have s3:Hid (∀ j u,news[j]? = some u→(w.alloc (.cells #[] 5)).cell? (ad.add j)=some u):=by
   intro j u hu
   have hj:j<xs.length:=by have:=(List.getElem?_eq_some_iff.1 hu).1;rw [hnews] at this;simpa using this
   obtain ⟨b,o,e1,e2,e3⟩:=HH.out j hj
   injection e1 with e1;subst e1
   rw [Addr.add_lit]
   refine (Lib.cell?_alloc_some _ e3).trans ?_
   rw [hnews] at hu
   rw [← hu,List.getElem?_map,List.getElem?_eq_getElem hj,List.getD_eq_getElem?_getD,List.getElem?_eq_getElem hj]
   rfl
  have R0:Hid ((w.alloc (.cells #[] 5)).ownsRow w.heap.size 5 1 (.slice (some ⟨w.heap.size,0,none⟩) 0 0) 0 []):=⟨rfl,.inr ⟨w.heap.size,0,#[],rfl,Nat.le_refl _,Blk.new w _ _,Nat.le_refl _,by decide,rfl,rfl⟩⟩
  have HN:Hid (news=xs.map (fun (c:Nat)=>Value.int .u8 (c:Int))):=hnews
  obtain ⟨m,hm⟩:∃ m,xs.length=m:=⟨_,rfl⟩
  have HM:Hid (xs.length=m):=hm
  rw [hm] at s1 hl hq ⊢
  clear hnews hm
  go_enter Tryz.func192,Tryz.ntmps192
  go_wp2_with (at_builtin;refine wpList_append_own _ rfl _ _ 36 rfl w.heap.size 5 i0 (.int .u8 0) 1 1 Tryz.underlying36 hi hz0 hz1 hz2 rfl (by decide) _ 0 _ rfl R0.out ad m cap news rfl s1.out s3.out s2.out (by simp [maxLen];omega) (by omega) (by simp) ?_;intro v' w' hown hgrow _)
  go_ret
  rw [Nat.zero_add,List.nil_append,HN.out,← HM.out] at hown
  exact ⟨v',rfl,OwnR.rdS ⟨hy,hown⟩,below_grown (Nat.le_refl _) ((Below.refl _ _).alloc (Nat.le_refl _) _) hgrow (row_base R0.out)⟩
theorem heap_other {w:World} {b k i:Nat} {v:Value} (hk:k<w.heap.size) (hne:k≠b):(w.setCell ⟨b,i,none⟩ v).heap[k]? = w.heap[k]?:=(OnlyAt.refl.setCell i v).block k hk hne
abbrev mailV (m:MailD) (v:Value):Value := .agg #[.int .i64 m.til,v,.int .i64 m.at_,.int .i64 m.tru,.bool m.bent]
abbrev mailL (p:MailD × Value):List Value:=[.int .i64 p.1.til,p.2,.int .i64 p.1.at_,.int .i64 p.1.tru,.bool p.1.bent]
theorem RdS.form {S:Nat→Prop} {w:World} {v:Value} {xs:List Nat} (h:RdS S w v xs):∃ ao cap,v = .slice ao xs.length cap:=by
 obtain ⟨-,ao,cap,rfl,-⟩:=h;exact ⟨_,_,rfl⟩
theorem RdS.below {S:Nat→Prop} {w w':World} {v:Value} {xs:List Nat} (h:RdS S w v xs) (hb:Below w.heap.size w w'):RdS S w' v xs:=h.kept hb.size (fun k hk _=>hb.block k hk) (fun _ _ a=>a)
theorem own_c (m:MailD) (v:Value) (w:World) (h:RdB w v m.data) (hl:m.data.length≤1000) :
  Calls Tryz.prog 144 #[mailV m v] w fun e w'=>∃ v',e = .returned (mailV m v')∧RdS (fun k=>w.heap.size≤k) w' v' m.data∧Below w.heap.size w w':=by
 obtain ⟨ao,cap,rfl⟩:=h.form
 have HC:Hid (∀ w1,Below w.heap.size w w1→Calls Tryz.prog 192 #[.slice ao m.data.length cap] w1 fun e w'=>∃ v',e = .returned v'∧RdS (fun k=>w1.heap.size≤k) w' v' m.data∧Below w1.heap.size w1 w'):=fun w1 hb=>clone_c _ _ w1 (h.below hb) hl
 clear h hl
 go_enter Tryz.func144,Tryz.ntmps144
 go_wp2_with fail
 refine (HC.out _ below_byR).mono ?_;rintro e w1 ⟨v',rfl,hv,hb1⟩;have z_w1:=hb1.size;(try simp at z_w1);obtain ⟨yw1aa,cw1aa,fw1aa,rw1aa,tw1aa,pw1aa⟩:=bq hb1 (w.heap.size);obtain ⟨yw1ab,cw1ab,fw1ab,rw1ab,tw1ab,pw1ab⟩:=bq hb1 (w.heap.size+1)
 obtain ⟨ao',cap',rfl⟩:=hv.form
 have HV:=Lib.hid hv
 clear hv
 go_wp2_with fail
 have HR:∀ w2,w1.heap.size≤w2.heap.size→(∀ k,k<w1.heap.size→k≠w.heap.size→k≠w.heap.size+1→w2.heap[k]? = w1.heap[k]?)→RdS (fun k=>w.heap.size≤k) w2 (.slice ao' m.data.length cap') m.data:=fun w2 hz hb=>HV.out.kept hz
  (fun k hk h1=>by
   have h2:w.heap.size+2≤k:=by simpa using h1
   exact hb k hk (by omega) (by omega))
  (fun k _ h1=>by
   have h2:w.heap.size+2≤k:=by simpa using h1
   show _≤_
   omega)
 exact bodyPost_row 5 #[.int .i64 m.til,.slice ao' m.data.length cap',.int .i64 m.at_,.int .i64 m.tru,.bool m.bent] rfl rfl rfl Tryz.underlying143 rfl (by kernel_rfl) (rc5 (by go_simp) (by go_simp) (by go_simp) (by go_simp) (by go_simp)) ⟨_,rfl,HR _ (by simp) (fun k hk h1 h2=>by repeat rw [heap_other (by simpa using hk) (by omega)]),below_byR⟩
structure AirIn (S:Nat→Prop) (w:World) (a:Nat) (v:Value) (lp:List (MailD × Value)):Prop where
 blk:Blk w a #[v] 180
 sa:S a
 row:w.ownsRow 0 143 5 v lp.length (lp.flatMap mailL)
 sr:∀ g,v.ownBlock=some g→S g
 data:∀ p ∈ lp,RdS S w p.2 p.1.data∧p.1.data.length≤1000
def AirAt (S:Nat→Prop) (w:World) (a:Nat) (l:List MailD):Prop:=∃ v lp,lp.map (·.1)=l∧AirIn S w a v lp
theorem own_shape {w:World} {B e size n:Nat} {v:Value} {xs:List Value} (h:w.ownsRow B e size v n xs):∃ ao cap,v = .slice ao n cap:=by
 obtain ⟨-,⟨rfl,rfl⟩|⟨g,cap,cur,rfl,-⟩⟩:=h
 ·exact ⟨_,_,rfl⟩
 ·exact ⟨_,_,rfl⟩
theorem AirIn.kept {S S':Nat→Prop} {w w':World} {a:Nat} {v:Value} {lp:List (MailD × Value)} (h:AirIn S w a v lp) (hz:w.heap.size≤w'.heap.size) (hb:∀ k,k<w.heap.size→S k→w'.heap[k]? = w.heap[k]?) (hS:∀ k,k<w.heap.size→S k→S' k):AirIn S' w' a v lp:=by
 have hg:∀ g,v.ownBlock=some g→g<w.heap.size:=by
  intro g hg
  obtain ⟨-,⟨rfl,-⟩|⟨b,cap,cur,rfl,-,hb2,-⟩⟩:=h.row
  ·cases hg
  ·injection hg with hg;subst hg;exact (Array.getElem?_eq_some_iff.1 hb2).1
 refine ⟨(hb a h.blk.lt h.sa).trans h.blk,hS a h.blk.lt h.sa,?_,fun g e=>hS g (hg g e) (h.sr g e),fun p hp=>⟨(h.data p hp).1.kept hz hb hS,(h.data p hp).2⟩⟩
 obtain ⟨h1,h2|⟨b,cap,cur,h2,h3,h4,h5⟩⟩:=h.row
 ·exact ⟨h1,.inl h2⟩
 ·have e:v.ownBlock=some b:=by rw [h2];rfl
  exact ⟨h1,.inr ⟨b,cap,cur,h2,h3,(hb b (hg b e) (h.sr b e)).trans h4,h5⟩⟩
theorem AirAt.kept {S S':Nat→Prop} {w w':World} {a:Nat} {l:List MailD} (h:AirAt S w a l) (hz:w.heap.size≤w'.heap.size) (hb:∀ k,k<w.heap.size→S k→w'.heap[k]? = w.heap[k]?) (hS:∀ k,k<w.heap.size→S k→S' k):AirAt S' w' a l:=by
 obtain ⟨v,lp,h1,h2⟩:=h;exact ⟨v,lp,h1,h2.kept hz hb hS⟩
theorem airNew_c (w:World):Calls Tryz.prog 54 #[] w fun e w'=>e = .returned (ptr w.heap.size)∧AirAt (fun k=>w.heap.size≤k) w' w.heap.size []∧Below w.heap.size w w':=by
 go_enter Tryz.func54,Tryz.ntmps54
 go_wp2
 go_ret
 refine ⟨rfl,⟨.slice none 0 0,[],rfl,Blk.new _ _ _,Nat.le_refl _,⟨rfl,.inl ⟨rfl,rfl⟩⟩,?_,by simp⟩,below_byR⟩
 intro g h;cases h
theorem flat_mail (l:List (MailD × Value)):∀ (k:Nat) (p:MailD × Value),l[k]? = some p→((l.flatMap mailL).drop (k*5)).take 5=mailL p:=by
 induction l with
 | nil=>intro k p h;simp at h
 | cons q r ih =>
  intro k p h
  cases k with
  | zero=>simp at h;subst h;simp
  | succ k =>
   have e2:((q :: r).flatMap mailL).drop ((k+1)*5)=(r.flatMap mailL).drop (k*5):=by
    rw [List.flatMap_cons,show (k+1)*5=(mailL q).length+k*5 by simp;omega,List.drop_append]
    simp
   rw [e2]
   exact ih k p (by simpa using h)
theorem row_mail {w:World} {B e n:Nat} {v:Value} {l:List (MailD × Value)} (h:w.ownsRow B e 5 v n (l.flatMap mailL)) {k:Nat} {p:MailD × Value} (hk:l[k]? = some p) (hl:l.length=n) :
  ∃ g cap,v = .slice (some ⟨g,0,none⟩) n cap∧g<w.heap.size∧w.row? g (k*5) 5=some (mailL p).toArray∧∀ o,o<5→w.cell? ⟨g,k*5+o,none⟩=(mailL p)[o]?:=by
 have hkl:=(List.getElem?_eq_some_iff.1 hk).1
 obtain ⟨h1,⟨-,rfl⟩|⟨g,cap,cur,rfl,hB,hg,hn,hc,hs,ht⟩⟩:=h
 ·omega
 ·have hB2:Blk w g cur e:=hg
  refine ⟨g,cap,rfl,hB2.lt,?_,?_⟩
  case refine_2 =>
   intro o ho
   have e1:=flat_mail l k p hk
   rw [← ht] at e1
   rw [hB2.at,← Array.getElem?_toList,← e1,List.getElem?_take,if_pos ho,List.getElem?_drop,List.getElem?_take,if_pos (by omega)]
  rw [hB2.row? (k*5) 5 (by omega)]
  congr 1
  apply Array.ext'
  have e1:=flat_mail l k p hk
  rw [← ht] at e1
  have e2:(cur.extract (k*5) (k*5+5)).toList=(cur.toList.drop (k*5)).take 5:=by simp
  rw [e2,← e1,List.drop_take,List.take_take]
  congr 1
  omega
section
variable {S:Nat→Prop} {w:World} {a:Nat} {l:List MailD} (H:AirAt S w a l)
include H
theorem airLen_c:Calls Tryz.prog 92 #[ptr a] w fun e w'=>e = .returned (.int .i64 l.length)∧w'=w:=by
 obtain ⟨v,lp,rfl,h⟩:=H
 obtain ⟨ao,cap,rfl⟩:=own_shape h.row
 obtain ⟨y1,c1,f1,-⟩:=bk_o h.blk
 clear h
 go_enter Tryz.func92,Tryz.ntmps92
 go_wp2
 go_ret
 exact ⟨by simp,rfl⟩
end
theorem airGet_c {S:Nat→Prop} {w:World} {a:Nat} {v:Value} {lp:List (MailD × Value)} (H:AirIn S w a v lp) (i:Nat) (p:MailD × Value) (hi:lp[i]? = some p) (hl:lp.length≤1000) :
  Calls Tryz.prog 70 #[ptr a,.int .i64 i] w fun e w'=>∃ v',e = .returned (.tuple #[mailV p.1 v',.bool true])∧RdS (fun k=>w.heap.size≤k) w' v' p.1.data∧Below w.heap.size w w':=by
 have hil:=(List.getElem?_eq_some_iff.1 hi).1
 have hp:=H.data p (List.mem_of_getElem? hi)
 obtain ⟨m,u⟩:=p
 obtain ⟨ao,cu,hu⟩:=hp.1.form
 simp only at hu;subst hu
 have HL:Hid (∀ w1,Below w.heap.size w w1→Calls Tryz.prog 92 #[ptr a] w1 fun e w'=>e = .returned (.int .i64 lp.length)∧w'=w1):=fun w1 hb=>by
  have h:=airLen_c (l:=lp.map (·.1)) (H:=⟨v,lp,rfl,H.kept (w':=w1) hb.size (fun k hk _=>hb.block k hk) (fun _ _ h=>h)⟩)
  simpa using h
 have HO:Hid (∀ w1,Below w.heap.size w w1→Calls Tryz.prog 144 #[mailV m (.slice ao m.data.length cu)] w1 fun e w'=>∃ v',e = .returned (mailV m v')∧RdS (fun k=>w1.heap.size≤k) w' v' m.data∧Below w1.heap.size w1 w'):=fun w1 hb=>own_c m _ w1 (hp.1.rd.below hb) hp.2
 obtain ⟨g,cap,rfl,hg,hr0,hcc⟩:=row_mail H.row hi rfl
 have r0:w.cell? ⟨g,i*5,none⟩=some (.int .i64 m.til):=hcc 0 (by omega)
 have r1:w.cell? ⟨g,i*5+1,none⟩=some (.slice ao m.data.length cu):=hcc 1 (by omega)
 have r2:w.cell? ⟨g,i*5+2,none⟩=some (.int .i64 m.at_):=hcc 2 (by omega)
 have r3:w.cell? ⟨g,i*5+3,none⟩=some (.int .i64 m.tru):=hcc 3 (by omega)
 have r4:w.cell? ⟨g,i*5+4,none⟩=some (.bool m.bent):=hcc 4 (by omega)
 clear hcc
 have hr:w.row? g (i*5) 5=some #[.int .i64 m.til,.slice ao m.data.length cu,.int .i64 m.at_,.int .i64 m.tru,.bool m.bent]:=hr0
 clear hr0
 obtain ⟨y1,c1,f1,-⟩:=bk_o H.blk
 have h1:¬ (lp.length:Int)≤(i:Int):=by omega
 have h2:¬ (i:Int)<0:=by omega
 have h3:(i:Int)<(lp.length:Int):=by omega
 have h4:(0:Int)≤(i:Int):=by omega
 clear H hi hp
 go_enter Tryz.func70,Tryz.ntmps70
 go_wp2_with (go_at_call 92;refine (HL.out _ below_byR).mono ?_;rintro e w1 ⟨rfl,h⟩;have h9:=h.symm;subst h9)
 refine (HO.out _ below_byR).mono ?_;rintro e w1 ⟨v',rfl,hv,hb1⟩;have z_w1:=hb1.size;(try simp at z_w1);obtain ⟨yw1aa,cw1aa,fw1aa,rw1aa,tw1aa,pw1aa⟩:=bq hb1 (w.heap.size)
 obtain ⟨ao',cap',rfl⟩:=hv.form
 have HV:=Lib.hid hv
 clear hv
 go_wp2_with fail
 have HR:∀ w2,w1.heap.size≤w2.heap.size→(∀ k,k<w1.heap.size→k≠w.heap.size→w2.heap[k]? = w1.heap[k]?)→RdS (fun k=>w.heap.size≤k) w2 (.slice ao' m.data.length cap') m.data:=fun w2 hz hb=>HV.out.kept hz
  (fun k hk h1=>by
   have h2:w.heap.size+1≤k:=by simpa using h1
   exact hb k hk (by omega))
  (fun k _ h1=>by
   have h2:w.heap.size+1≤k:=by simpa using h1
   show _≤_
   omega)
 exact bodyPost_row_t 5 #[.int .i64 m.til,.slice ao' m.data.length cap',.int .i64 m.at_,.int .i64 m.tru,.bool m.bent] (.bool true) rfl rfl rfl rfl Tryz.underlying143 rfl (by kernel_rfl) (rc5 (by go_simp) (by go_simp) (by go_simp) (by go_simp) (by go_simp)) ⟨_,rfl,HR _ (by simp) (fun k hk h1=>by repeat rw [heap_other (by simpa using hk) (by omega)]),below_byR⟩
end Go.Proofs.YtechbdnhalmobaaGreatDoor
