/- Laws and walks that the claim names. -/
import Derived.Test.YtechbdnhalmobaaGreatDoorJc
import Derived.Test.YtechbdnhalmobaaGreatDoorGA
import Derived.Laws.EntriesVeiled
import Derived.OwnWalk
import Derived.Laws.OwnMore
import Derived.OneCell
set_option maxRecDepth 100000
set_option maxHeartbeats 16000000
namespace Go.Proofs.YtechbdnhalmobaaGreatDoor
set_option linter.unusedSimpArgs false
set_option linter.unusedVariables false
structure GInv (V:Int→Int × Bool) (s:GS):Prop where
 rng:∀ x ∈ s.asked,0≤x∧x≤34
 best:s.ok=true→s.w ∈ s.asked∧V s.w=(s.n,true)
 least:∀ x ∈ s.asked,(V x).2=true→s.ok=true∧s.n≤(V x).1
theorem gask_inv (V:Int→Int × Bool) (x:Int) (s:GS) (h:GInv V s) (h0:0≤x) (h1:x≤34):GInv V (gask V x s):=by
 unfold gask
 cases hb:better V x s with
 | true =>
  simp only [cond_true]
  unfold better at hb
  simp only [Bool.and_eq_true,Bool.or_eq_true,Bool.not_eq_true',decide_eq_true_eq,beq_iff_eq] at hb
  obtain ⟨hv,hb⟩:=hb
  refine ⟨?_,?_,?_⟩
  ·intro y hy
   simp only [List.mem_append,List.mem_singleton] at hy
   rcases hy with hy|rfl
   ·exact h.rng y hy
   ·exact ⟨h0,h1⟩
  ·intro _
   exact ⟨by simp,Prod.ext rfl hv⟩
  ·intro y hy hy2
   simp only [List.mem_append,List.mem_singleton] at hy
   refine ⟨rfl,?_⟩
   rcases hy with hy|rfl
   ·obtain ⟨q1,q2⟩:=h.least y hy hy2
    show (V x).1≤(V y).1
    rcases hb with (hb|hb)|⟨hb,-⟩
    ·rw [q1] at hb;cases hb
    ·omega
    ·omega
   ·exact Int.le_refl _
 | false =>
  simp only [cond_false]
  refine ⟨?_,?_,?_⟩
  ·intro y hy
   simp only [List.mem_append,List.mem_singleton] at hy
   rcases hy with hy|rfl
   ·exact h.rng y hy
   ·exact ⟨h0,h1⟩
  ·intro ho
   obtain ⟨q1,q2⟩:=h.best ho
   exact ⟨by simp [q1],q2⟩
  ·intro y hy hy2
   simp only [List.mem_append,List.mem_singleton] at hy
   rcases hy with hy|rfl
   ·exact h.least y hy hy2
   ·unfold better at hb
    rw [hy2] at hb
    simp only [Bool.true_and,Bool.or_eq_false_iff,Bool.not_eq_false',Bool.and_eq_false_iff,decide_eq_false_iff_not,beq_eq_false_iff_ne] at hb
    obtain ⟨⟨q1,q2⟩,q3⟩:=hb
    exact ⟨q1,by show s.n≤(V y).1;omega⟩
theorem gask_mem (V:Int→Int × Bool) (x y:Int) (s:GS) (h:y ∈ s.asked):y ∈ (gask V x s).asked:=by rw [gask_len];simp [h]
theorem gask_mem' (V:Int→Int × Bool) (x:Int) (s:GS):x ∈ (gask V x s).asked:=by rw [gask_len];simp
theorem giter_inv (V:Int→Int × Bool) (j:Nat):j≤6→GInv V (giter V j).2∧13 ∈ (giter V j).2.asked∧21 ∈ (giter V j).2.asked:=by
 induction j with
 | zero =>
  intro _
  refine ⟨gask_inv V 21 _ (gask_inv V 13 _ ⟨fun x hx=>(by simp at hx),fun h=>(by cases h),fun x hx=>(by simp at hx)⟩ (by decide) (by decide)) (by decide) (by decide),gask_mem V 21 13 _ (gask_mem' V 13 _),gask_mem' V 21 _⟩
 | succ j ih =>
  intro hj
  obtain ⟨h1,h2,h3⟩:=ih (by omega)
  obtain ⟨r1,-,-⟩:=giter_ok V j (by omega)
  have g:=gXY j (by omega)
  have g':0≤gX (j+1)∧gX (j+1)≤gD j:=by match j,hj with|0,_|1,_|2,_|3,_|4,_|5,_=>decide
  unfold giter gstep
  generalize giter V j=r at *
  cases gm (V (r.1+gX j)) (V (r.1+gY j))
  ·simp only [cond_false,gright]
   split
   ·exact ⟨h1,h2,h3⟩
   ·exact ⟨gask_inv V _ _ h1 (by omega) (by omega),gask_mem V _ _ _ h2,gask_mem V _ _ _ h3⟩
  ·simp only [cond_true,gleft]
   split
   ·exact ⟨h1,h2,h3⟩
   ·exact ⟨gask_inv V _ _ h1 (by omega) (by omega),gask_mem V _ _ _ h2,gask_mem V _ _ _ h3⟩
theorem gfin_inv (V:Int→Int × Bool):GInv V (gfin V)∧13 ∈ (gfin V).asked∧21 ∈ (gfin V).asked:=giter_inv V 6 (by decide)
/-! ### What is found -/
def ovV (O:Int→El × Int) (x:Int):Int × Bool:=((O x).1.tr,(O x).2==0)
def emptyB (O:Int→El × Int) (l:List Int):Bool:=l.any fun x=>(O x).2==3
def pick (out x:El):El:=if x.tr<out.tr then x else out
def cands (e:El) (O:Int→El × Int) (more:List El):List El:=(e :: if (gfin (ovV O)).ok then [(O (gfin (ovV O)).w).1] else [])++more
def foundE (e:El) (O:Int→El × Int) (more:List El):El × Int:=if emptyB O (gfin (ovV O)).asked then (El.zero,3) else ((cands e O more).foldl pick e,0)
theorem pick_fold (l:List El) (e:El):(l.foldl pick e=e∨l.foldl pick e ∈ l)∧(l.foldl pick e).tr≤e.tr∧∀ x ∈ l,(l.foldl pick e).tr≤x.tr:=by
 induction l generalizing e with
 | nil=>exact ⟨.inl rfl,Int.le_refl _,fun x hx=>by cases hx⟩
 | cons a l ih =>
  rw [List.foldl_cons]
  obtain ⟨h1,h2,h3⟩:=ih (pick e a)
  have hp:(pick e a=e∨pick e a=a)∧(pick e a).tr≤e.tr∧(pick e a).tr≤a.tr:=by
   unfold pick;split
   ·exact ⟨.inr rfl,by omega,Int.le_refl _⟩
   ·exact ⟨.inl rfl,Int.le_refl _,by omega⟩
  refine ⟨?_,by omega,?_⟩
  ·rcases h1 with h1|h1
   ·rw [h1]
    rcases hp.1 with h|h
    ·exact .inl h
    ·exact .inr (by rw [h];simp)
   ·exact .inr (by simp [h1])
  ·intro x hx
   simp only [List.mem_cons] at hx
   rcases hx with rfl|hx
   ·omega
   ·exact h3 x hx
theorem found_cases (e:El) (O:Int→El × Int) (more:List El) :
  ((∃ x,0≤x∧x≤34∧(O x).2=3)∧foundE e O more=(El.zero,3)) ∨
   ∃ g,foundE e O more=(g,0)∧(g=e∨(∃ x,0≤x∧x≤34∧O x=(g,0))∨g ∈ more)∧g.tr≤e.tr∧(∀ f ∈ more,g.tr≤f.tr)∧∀ x,(x=13∨x=21)→(O x).2=0→g.tr≤(O x).1.tr:=by
 obtain ⟨hI,h13,h21⟩:=gfin_inv (ovV O)
 unfold foundE
 cases hb:emptyB O (gfin (ovV O)).asked with
 | true =>
  left
  unfold emptyB at hb
  rw [List.any_eq_true] at hb
  obtain ⟨x,hx,h3⟩:=hb
  have:=hI.rng x hx
  exact ⟨⟨x,this.1,this.2,by simpa using h3⟩,rfl⟩
 | false =>
  right
  refine ⟨_,rfl,?_⟩
  obtain ⟨p1,p2,p3⟩:=pick_fold (cands e O more) e
  have key:∀ x ∈ cands e O more,x=e∨(∃ y,0≤y∧y≤34∧O y=(x,0))∨x ∈ more:=by
   intro x hx
   unfold cands at hx
   simp only [List.mem_append,List.mem_cons] at hx
   rcases hx with (hx|hx)|hx
   ·exact .inl hx
   ·split at hx
    ·rename_i hok
     simp only [List.mem_singleton] at hx
     obtain ⟨q1,q2⟩:=hI.best hok
     have:=hI.rng _ q1
     refine .inr (.inl ⟨_,this.1,this.2,?_⟩)
     have q3:((O (gfin (ovV O)).w).2==0)=true:=congrArg Prod.snd q2
     exact Prod.ext hx.symm (by simpa using q3)
    ·cases hx
   ·exact .inr (.inr hx)
  refine ⟨?_,p2,?_,?_⟩
  ·rcases p1 with p1|p1
   ·exact .inl p1
   ·exact key _ p1
  ·intro f hf
   exact p3 f (by unfold cands;simp [hf])
  ·intro x hx h0
   have hm:x ∈ (gfin (ovV O)).asked:=by rcases hx with rfl|rfl;exact h13;exact h21
   obtain ⟨q1,q2⟩:=hI.least x hm (by unfold ovV;simp [h0])
   obtain ⟨q3,q4⟩:=hI.best q1
   have q5:=p3 (O (gfin (ovV O)).w).1 (by unfold cands;simp [q1])
   have q6:(O (gfin (ovV O)).w).1.tr=(gfin (ovV O)).n:=congrArg Prod.fst q4
   have q7:(gfin (ovV O)).n≤(O x).1.tr:=q2
   omega
def gfuseE (e f:El):El × Int:=if e.may=true∧f.may=true then foundE e (fuseE e f) [f] else (El.zero,1)
def gcutE (e:El) (s:St):El × Int:=if e.may=true∧s.may=true then foundE e (cutE e s) [] else (El.zero,1)
open Go.RowKit
theorem Blk.side {t u t':TypeId} {B g:Nat} {w w':World} {cs:Array Value} (h:Blk w g cs t') (hs:Side t u B w w') (h1:t'≠t) (h2:t'≠u):Blk w' g cs t' :=
 (hs.2.2.2.2 g h.lt (fun _ _=>⟨fun hc=>Blk.ne h hc h1 rfl,fun hc=>Blk.ne h hc h2 rfl⟩)).trans h
theorem Below.side {t u:TypeId} {B b:Nat} {a w w':World} (ha:b≤a.heap.size) (h:Below b a w) (hs:Side t u B w w') (hb:b≤B):Below b a w' :=
 ⟨hs.1.trans h.os,hs.2.1.trans h.tape,hs.2.2.1.trans h.output,Nat.le_trans h.size hs.2.2.2.1,fun k hk=>by
  rw [hs.2.2.2.2 k (by have:=h.size;omega) (fun hB=>by omega)];exact h.block k hk⟩
theorem Keeps.below {t:TypeId} {w w':World} (h:Below w.heap.size w w'):Keeps t w w':=⟨h.size,fun _ _ hb=>hb.keep h⟩
theorem Keeps.setCell {t t':TypeId} {w w':World} (h:Keeps t w w') {g:Nat} {c:Array Value} (hg:Blk w' g c t') (ht:t'≠t) (i:Nat) (v:Value):Keeps t w (w'.setCell ⟨g,i,none⟩ v) :=
 ⟨by simpa using h.1,fun k cs hb=>(h.2 k cs hb).setCell_other (fun e=>Blk.ne hg (h.2 k cs hb) ht e.symm) _⟩
theorem hb_facts {w:World} {b:Nat} {c:Array Value} {t:TypeId} (h:Blk w b c t) :
  b<w.heap.size∧(∀ o,w.cell? ⟨b,o,none⟩=c[o]?)∧(∀ o,w.frozen? ⟨b,o,none⟩=false)∧w.row? b 0 c.size=some c :=
 ⟨h.lt,h.at,h.frozen,h.row?_all _ rfl⟩
theorem gf1_c (x y a b d x' y' a' b' d' k:Int) (g h:Nat) (w:World) (B1:Blk w g #[.int .i64 x,.int .i64 y,.int .i64 a,.int .i64 b,.int .i64 d] 35) (B2:Blk w h #[.int .i64 x',.int .i64 y',.int .i64 a',.int .i64 b',.int .i64 d'] 35) :
  Calls Tryz.prog 90 #[.int .i64 k,.pointer (some ⟨g,0,none⟩),.pointer (some ⟨h,0,none⟩)] w fun e w'=>e = .returned (.tuple #[elV (fuseE ⟨x,y,a,b,d⟩ ⟨x',y',a',b',d'⟩ k).1,.int .i64 (fuseE ⟨x,y,a,b,d⟩ ⟨x',y',a',b',d'⟩ k).2])∧Below w.heap.size w w':=by
 obtain ⟨⟨ox,oy,oa,ob,od⟩,f,ho⟩:∃ o f,fuseE ⟨x,y,a,b,d⟩ ⟨x',y',a',b',d'⟩ k=(o,f):=⟨_,_,rfl⟩
 have HO:=Lib.hid ho
 obtain ⟨y1,c1,f1,-⟩:=hb_facts B1
 obtain ⟨y2,c2,f2,-⟩:=hb_facts B2
 clear ho
 go_enter Tryz.func90,Tryz.ntmps90
 go_wp2_with fail
 refine (fuse_v _ _ _ _ _ _ _ _ _ _ _ _ _ _ _ _ _ HO.out _).mono ?_;rintro e w1 ⟨rfl,hb1⟩;have z_w1:=hb1.size;(try simp at z_w1);obtain ⟨yw1aa,cw1aa,fw1aa,rw1aa,tw1aa,pw1aa⟩:=bq hb1 (w.heap.size)
 go_wp2_with fail
 exact bodyPost_row_t 5 #[.int .i64 ox,.int .i64 oy,.int .i64 oa,.int .i64 ob,.int .i64 od] (.int .i64 f) rfl rfl rfl rfl Tryz.underlying35 rfl (by kernel_rfl) (rc5 (by go_simp) (by go_simp) (by go_simp) (by go_simp) (by go_simp)) ⟨by rw [HO.out],below_byR⟩
theorem f1_c (fn:FuncId) (caps:Array Value) (x:Int) (o:El) (r:Int) (q:Bool) (p4 p8:Nat) (w:World) (hfn:∀ args w,Sem.run Tryz.prog (callFunc fn args) w = .ok (.enter fn args) w)
  (hO:∀ w',Below w.heap.size w w'→Calls Tryz.prog fn (#[.int .i64 x]++caps) w' fun e w''=>e = .returned (.tuple #[elV o,.int .i64 r])∧Below w'.heap.size w' w'')
  (B4:Blk w p4 #[.func (.func fn) #[] caps] 165) (B8:Blk w p8 #[.bool q] 4) :
  Calls Tryz.prog 158 #[.int .i64 x,.pointer (some ⟨p4,0,none⟩),.pointer (some ⟨p8,0,none⟩)] w fun e w'=>e = .returned (.tuple #[.int .i64 o.tr,.bool (r==0)]) ∧
   ∃ w1,Below w.heap.size w w1∧Below w1.heap.size (w1.setCell ⟨p8,0,none⟩ (.bool (q||r==3))) w':=by
 obtain ⟨ox,oy,oa,ob,od⟩:=o
 obtain ⟨t,ht⟩:∃ t,El.tr ⟨ox,oy,oa,ob,od⟩=t:=⟨_,rfl⟩
 have HT:=Lib.hid ht
 have HO:=Lib.hid hO
 obtain ⟨y1,c1,f1,-⟩:=hb_facts B4
 obtain ⟨y2,c2,f2,-⟩:=hb_facts B8
 rw [ht]
 clear hO ht
 go_enter Tryz.func158,Tryz.ntmps158
 go_wp2_with fail
 refine (HO.out _ (Below.refl _ _)).mono ?_;rintro e w1 ⟨rfl,hb1⟩
 have C4:=B4.keep hb1
 have C8:=B8.keep hb1
 obtain ⟨z1,d1,g1,-⟩:=hb_facts C4
 obtain ⟨z2,d2,g2,-⟩:=hb_facts C8
 clear B4 B8 C4 C8 y1 c1 f1 y2 c2 f2
 cases q with
 | true =>
  go_wp2_with fail
  refine (trace_v _ _ _ _ _ _ HT.out _).mono ?_;rintro e w2 ⟨rfl,hb2⟩;have s2:=hb2.size;(try simp at s2)
  go_wp2_with fail
  go_ret2
  exact ⟨rfl,w1,hb1,by simp only [Bool.true_or];exact (show Below _ _ _ from below_byR)⟩
 | false =>
  go_wp2_with fail
  refine (trace_v _ _ _ _ _ _ HT.out _).mono ?_;rintro e w2 ⟨rfl,hb2⟩;have s2:=hb2.size;(try simp at s2)
  go_wp2_with fail
  go_ret2
  exact ⟨rfl,w1,hb1,by simp only [Bool.false_or];exact (show Below _ _ _ from below_byR)⟩
open Go.RowKit
def FAsk (w0:World) (x y a b d:Int) (fn:FuncId) (caps:Array Value) (O:Int→El × Int) (l:List Int) (W:World):Prop :=
 Below w0.heap.size w0 W∧Blk W w0.heap.size #[.int .i64 x,.int .i64 y,.int .i64 a,.int .i64 b,.int .i64 d] 35∧Blk W (w0.heap.size+1) #[.func (.func fn) #[] caps] 165 ∧
  Blk W (w0.heap.size+1+1) #[.int .i64 0,.int .i64 0,.int .i64 0,.int .i64 0,.int .i64 0] 35∧Blk W (w0.heap.size+1+1+1) #[.bool (emptyB O l)] 4
theorem fask_cl (w0:World) (x y a b d:Int) (fn:FuncId) (caps:Array Value) (O:Int→El × Int) (hfn:∀ args w,Sem.run Tryz.prog (callFunc fn args) w = .ok (.enter fn args) w)
  (hO:∀ (k:Int) (w':World),0≤k→k≤34→Below w0.heap.size w0 w'→Calls Tryz.prog fn (#[.int .i64 k]++caps) w' fun e w''=>e = .returned (.tuple #[elV (O k).1,.int .i64 (O k).2])∧Below w'.heap.size w' w'')
  (l:List Int) (k:Int) (w:World) (h0:0≤k) (h1:k≤34) (h:FAsk w0 x y a b d fn caps O l w) :
  Calls Tryz.prog 158 (#[.int .i64 k]++#[.pointer (some ⟨w0.heap.size+1,0,none⟩),.pointer (some ⟨w0.heap.size+1+1+1,0,none⟩)]) w fun e w'=>e = .returned (.tuple #[.int .i64 (ovV O k).1,.bool (ovV O k).2]) ∧
   FAsk w0 x y a b d fn caps O (l ++ [k]) w'∧Keeps 290 w w'∧Keeps 292 w w':=by
 obtain ⟨hb,b3,b4,b6,b8⟩:=h
 refine Calls.mono (f1_c fn caps k (O k).1 (O k).2 (emptyB O l) (w0.heap.size+1) (w0.heap.size+1+1+1) w hfn (fun w' hw=>hO k w' h0 h1 (hb.trans (hw.mono hb.size))) b4 b8) ?_
 rintro e w' ⟨he,w1,hb1,hb2⟩
 have c8:=b8.keep hb1
 have q8:=c8.setCell_same 0 (.bool (emptyB O l||(O k).2==3))
 have hs:(w1.setCell ⟨w0.heap.size+1+1+1,0,none⟩ (.bool (emptyB O l||(O k).2==3))).heap.size=w1.heap.size:=by simp
 have hb2':Below (w1.setCell ⟨w0.heap.size+1+1+1,0,none⟩ (.bool (emptyB O l||(O k).2==3))).heap.size (w1.setCell ⟨w0.heap.size+1+1+1,0,none⟩ (.bool (emptyB O l||(O k).2==3))) w':=by rw [hs];exact hb2
 have ha:=hb.trans (hb1.mono hb.size)
 refine ⟨he,⟨?_,?_,?_,?_,?_⟩,?_,?_⟩
 ·exact (ha.setCell (show w0.heap.size≤(⟨w0.heap.size+1+1+1,0,none⟩:Addr).block by simp only;omega) _).trans (hb2.mono ha.size)
 ·exact (((b3.keep hb1).setCell_other (a:=⟨w0.heap.size+1+1+1,0,none⟩) (by simp only;omega) _).keep hb2')
 ·exact (((b4.keep hb1).setCell_other (a:=⟨w0.heap.size+1+1+1,0,none⟩) (by simp only;omega) _).keep hb2')
 ·exact (((b6.keep hb1).setCell_other (a:=⟨w0.heap.size+1+1+1,0,none⟩) (by simp only;omega) _).keep hb2')
 ·refine Blk.of_eq (q8.keep hb2') ?_
  unfold emptyB;simp
 ·exact ((Keeps.below hb1).setCell c8 (by decide) 0 _).trans (Keeps.below hb2')
 ·exact ((Keeps.below hb1).setCell c8 (by decide) 0 _).trans (Keeps.below hb2')
theorem infoEl:(Tryz.prog.info? 35).map (fun i=>(i.zero,i.size,i.bytes))=some (some (.agg #[.int .i64 0,.int .i64 0,.int .i64 0,.int .i64 0,.int .i64 0]),5,40):=by kernel_rfl
def elc (e:El):List Value:=[.int .i64 e.x,.int .i64 e.y,.int .i64 e.a,.int .i64 e.b,.int .i64 e.d]
theorem own_of {w:World} {g base:Nat} {x y a b d:Int} (h:Blk w g #[.int .i64 x,.int .i64 y,.int .i64 a,.int .i64 b,.int .i64 d] 35) (hb:base≤g):w.ownsRow base 35 5 (.slice (some ⟨g,0,none⟩) 1 1) 1 (elc ⟨x,y,a,b,d⟩) :=
 ⟨rfl,.inr ⟨g,1,_,rfl,hb,h,Nat.le_refl _,by decide,rfl,rfl⟩⟩
theorem elc_one (e:El):∀ u ∈ elc e,u.oneCell'=true:=by
 intro u hu;unfold elc at hu;simp only [List.mem_cons,List.not_mem_nil,or_false] at hu
 rcases hu with rfl|rfl|rfl|rfl|rfl <;> rfl
theorem addr_add0 (g j:Nat):(⟨g,0,none⟩:Addr).add j=⟨g,j,none⟩:=by
 unfold Addr.add;split
 ·rename_i h;subst h;rfl
 ·simp
theorem elc_news {w:World} {g:Nat} {e:El} (h:Blk w g #[.int .i64 e.x,.int .i64 e.y,.int .i64 e.a,.int .i64 e.b,.int .i64 e.d] 35):∀ j u,(elc e)[j]? = some u→w.cell? ((⟨g,0,none⟩:Addr).add j)=some u:=by
 intro j u hu;rw [addr_add0,h.at j]
 match j,hu with
 | 0,hu|1,hu|2,hu|3,hu|4,hu=>simpa [elc] using hu
theorem own_cur {w:World} {base n g cap:Nat} {xs:List Value} (h:w.ownsRow base 35 5 (.slice (some ⟨g,0,none⟩) n cap) n xs):∃ cur,Blk w g cur 35∧n*5≤cur.size∧cur.toList.take (n*5)=xs:=by
 rcases h.2 with ⟨h,-⟩|⟨g',cap',cur,h,h1,h2,h3,-,h5,h6⟩
 ·cases h
 ·injection h with h _ _;injection h with h;injection h with h _ _;subst h
  exact ⟨cur,h2,by rw [h5];exact Nat.mul_le_mul_right 5 h3,h6⟩
theorem blk_ne {w:World} {g g':Nat} {c c':Array Value} {t:TypeId} (h:Blk w g c t) (h':Blk w g' c' t) (hs:c.size≠c'.size):¬ g=g':=by
 rintro rfl
 unfold Blk at h h'
 rw [h] at h';injection h' with h';injection h' with h' _
 subst h';exact hs rfl
theorem pick_next (L:List El) (k:Nat) (e a:El) (h:L[k]? = some a):(L.take (k+1)).foldl pick e=pick ((L.take k).foldl pick e) a:=by
 rw [List.take_add_one,h,List.foldl_append];rfl
theorem cells_at (L:List El) (cur:Array Value) (h:cur.toList.take (L.length*5)=L.flatMap elc):∀ k e,L[k]? = some e→∀ j,j<5→cur[k*5+j]? = (elc e)[j]?:=by
 intro k e hk j hj
 have hkl:k<L.length:=(List.getElem?_eq_some_iff.1 hk).1
 have h1:cur[k*5+j]? = (L.flatMap elc)[k*5+j]?:=by
  rw [← h,List.getElem?_take,if_pos (by omega)];simp
 rw [h1]
 clear h h1 hkl
 induction L generalizing k with
 | nil=>simp at hk
 | cons a L ih =>
  rw [List.flatMap_cons]
  cases k with
  | zero =>
   simp only [List.getElem?_cons_zero,Option.some.injEq] at hk
   subst hk
   rw [Nat.zero_mul,Nat.zero_add,List.getElem?_append_left (by show j<5;exact hj)]
  | succ k =>
   rw [List.getElem?_append_right (by show 5≤(k+1)*5+j;omega)]
   have:(k+1)*5+j-(elc a).length=k*5+j:=by show (k+1)*5+j-5=_;omega
   rw [this]
   exact ih k (by simpa using hk)
theorem own_form {w:World} {base size n:Nat} {e:TypeId} {v:Value} {xs:List Value} (h:w.ownsRow base e size v n xs) (hn:0<n):∃ g cap,v = .slice (some ⟨g,0,none⟩) n cap:=by
 rcases h.2 with ⟨-,h⟩|⟨g',cap',cur,h,-⟩
 ·omega
 ·exact ⟨_,_,h⟩
theorem Blk.grown {w w':World} {g:Nat} {t:TypeId} {cs:Array Value} {row:Option Nat} (h:Blk w g cs t) (hb:w.grownBy w' row) (hg:row≠some g):Blk w' g cs t:=(hb.block g h.lt (Ne.symm hg)).trans h
theorem Below.grown {B:Nat} {a w w':World} {row:Option Nat} (hB:B≤a.heap.size) (h:Below B a w) (hg:w.grownBy w' row) (hr:∀ g,row=some g→B≤g):Below B a w' :=
 ⟨hg.os.trans h.os,hg.tape.trans h.tape,hg.output.trans h.output,Nat.le_trans h.size hg.size,fun k hk=>by
  rw [hg.block k (by have:=h.size;omega) (fun e=>by have:=hr k e.symm;omega)];exact h.block k hk⟩
theorem Blk.keep' {a w:World} {g:Nat} {t:TypeId} {cs:Array Value} (h:Blk a g cs t) (hb:Below a.heap.size a w):Blk w g cs t:=h.keep hb
theorem found_c (x y a b d:Int) (fn:FuncId) (caps:Array Value) (O:Int→El × Int) (f:El) (gm:Nat) (w:World) (bm:Blk w gm #[.int .i64 f.x,.int .i64 f.y,.int .i64 f.a,.int .i64 f.b,.int .i64 f.d] 35) (hfn:∀ args w,Sem.run Tryz.prog (callFunc fn args) w = .ok (.enter fn args) w)
  (hO:∀ (k:Int) (w':World),0≤k→k≤34→Below w.heap.size w w'→Calls Tryz.prog fn (#[.int .i64 k]++caps) w' fun e w''=>e = .returned (.tuple #[elV (O k).1,.int .i64 (O k).2])∧Below w'.heap.size w' w'') :
  Calls Tryz.prog 89 #[elC x y a b d,.func (.func fn) #[] caps,.slice (some ⟨gm,0,none⟩) 1 1] w fun e w'=>e = .returned (.tuple #[elV (foundE ⟨x,y,a,b,d⟩ O [f]).1,.int .i64 (foundE ⟨x,y,a,b,d⟩ O [f]).2])∧Below w.heap.size w w':=by
 have HO:=Lib.hid hO
 clear hO
 obtain ⟨i0,hi,hz0,hz1,hz2⟩:=info_parts infoEl
 go_enter Tryz.func89,Tryz.ntmps89
 go_wp2_with fail
 obtain ⟨W1,hW1⟩:∃ W1,W1=(((w.alloc (Obj.cells #[.int .i64 x,.int .i64 y,.int .i64 a,.int .i64 b,.int .i64 d] 35)).alloc (Obj.cells #[.func (.func fn) #[] caps] 165)).alloc (Obj.cells #[.int .i64 0,.int .i64 0,.int .i64 0,.int .i64 0,.int .i64 0] 35)).alloc (Obj.cells #[.bool false] 4):=⟨_,rfl⟩
 rw [← hW1]
 have hI:FAsk w x y a b d fn caps O [] W1:=by
  rw [hW1]
  refine ⟨(show Below _ _ _ from below_byR),?_,?_,?_,?_⟩
  ·exact (((Blk.new _ _ _).alloc _).alloc _).alloc _
  ·exact ((Blk.new' _ _ _ (by simp)).alloc _).alloc _
  ·exact (Blk.new' _ _ _ (by simp)).alloc _
  ·exact Blk.new' _ _ _ (by simp)
 have hsz:w.heap.size≤W1.heap.size:=hI.1.size
 clear hW1
 have M:=Lib.hid (best_c 158 #[.pointer (some ⟨w.heap.size+1,0,none⟩),.pointer (some ⟨w.heap.size+1+1+1,0,none⟩)] (ovV O) (FAsk w x y a b d fn caps O) W1 (by intro args w;rfl)
  (fun l w1 w2 hs h=>⟨Below.side (Nat.le_refl _) h.1 hs hsz,h.2.1.side hs (by decide) (by decide),h.2.2.1.side hs (by decide) (by decide),h.2.2.2.1.side hs (by decide) (by decide),h.2.2.2.2.side hs (by decide) (by decide)⟩)
  (fun l k w1 _ h0 h1 h=>fask_cl w x y a b d fn caps O hfn HO.out l k w1 h0 h1 h) hI)
 obtain ⟨hgi,-⟩:=gfin_inv (ovV O)
 have hfb:=hgi.best
 have hfr:=hgi.rng
 have EV:Hid (foundE ⟨x,y,a,b,d⟩ O [f]=if emptyB O (gfin (ovV O)).asked then (El.zero,3) else ((cands ⟨x,y,a,b,d⟩ O [f]).foldl pick ⟨x,y,a,b,d⟩,0)):=rfl
 have EC:Hid (cands ⟨x,y,a,b,d⟩ O [f]=(⟨x,y,a,b,d⟩ :: if (gfin (ovV O)).ok then [(O (gfin (ovV O)).w).1] else []) ++ [f]):=rfl
 generalize gfin (ovV O)=s at M hfb hfr EV EC
 obtain ⟨asked,gw,gn,gok⟩:=s
 simp only at M hfb hfr EV EC
 clear hgi hI hsz
 obtain ⟨em,hem⟩:∃ em,emptyB O asked=em:=⟨_,rfl⟩
 rw [hem] at EV
 refine M.out.mono ?_;rintro e w1 ⟨rfl,⟨hb,b3,b4,b6,b8⟩,hsz⟩
 rw [hem] at b8
 clear M hem
 obtain ⟨y3,c3,f3,-⟩:=hb_facts b3
 obtain ⟨y4,c4,f4,-⟩:=hb_facts b4
 obtain ⟨y6,c6,f6,-⟩:=hb_facts b6
 obtain ⟨y8,c8,f8,-⟩:=hb_facts b8
 cases em with
 | true =>
  go_wp2_with fail
  exact bodyPost_row_t 5 #[.int .i64 0,.int .i64 0,.int .i64 0,.int .i64 0,.int .i64 0] (.int .i64 3) rfl rfl rfl rfl Tryz.underlying35 rfl (by kernel_rfl) (rc5 (by go_simp) (by go_simp) (by go_simp) (by go_simp) (by go_simp)) ⟨by rw [EV.out];rfl,below_byR⟩
 | false =>
  have hbe:gok=true→0≤gw∧gw≤34:=fun h=>hfr _ (hfb h).1
  -- TAIL
  cases gok with
  | false =>
   go_wp2_with (at_builtin;refine wpList_append_own _ rfl _ _ 220 rfl w.heap.size 35 i0 (.agg #[.int .i64 0,.int .i64 0,.int .i64 0,.int .i64 0,.int .i64 0]) 5 40 Tryz.underlying220 hi hz0 hz1 hz2 rfl (by decide) _ 1 _ rfl (own_of (((Blk.new w1 _ _).alloc _)) (by omega)) ⟨gm,0,none⟩ 1 1 (elc f) rfl rfl (elc_news (((bm.keep' hb).alloc _).alloc _)) (elc_one _) (by unfold maxLen;omega) (by omega) (by have:=hb.size;simp;omega) ?_)
   intro v3 w5 hown hgrow _
   obtain ⟨g3,cap3,rfl⟩:=own_form hown (by omega)
   have BO:=(Blk.new' (b:=w1.heap.size+1) _ _ _ (by simp)).grown hgrow (by simp [Value.ownBlock])
   have B6:=((b6.alloc _).alloc _).grown hgrow (by simp [Value.ownBlock];omega)
   have hb5:=Below.grown (Nat.le_refl _) ((hb.alloc hb.size _).alloc (by have:=hb.size;simp;omega) _) hgrow (fun g hg=>by simp [Value.ownBlock] at hg;have:=hb.size;omega)
   have zz:=y6
   clear hgrow b3 b4 b6 b8 y3 c3 f3 y4 c4 f4 y6 c6 f6 y8 c8 f8
   have zq:w.heap.size+1+1<w1.heap.size+1:=by omega
   clear zz
   generalize w1.heap.size+1=go at BO zq ⊢
   obtain ⟨cur,hcur,hcs,htake⟩:=own_cur hown
   have hX:∀ k e,([⟨x,y,a,b,d⟩,f]:List El)[k]? = some e→∀ j,j<5→cur[k*5+j]? = (elc e)[j]?:=cells_at [⟨x,y,a,b,d⟩,f] cur htake
   have hne:=blk_ne hcur BO (by intro h;rw [h] at hcs;simp at hcs)
   have HG:=Lib.hid hcur
   have HBO:=Lib.hid BO
   have HB6:=Lib.hid B6
   have HB:=Lib.hid hb5
   have zs:=hb5.size
   have HX:=Lib.hid hX
   clear hown htake hcur BO B6 hb5 hcs hX hfb hfr hbe
   go_wp2_with fail
   go_loopw [44] (fun ti wr=>∃ (k:Nat) (o:El),k≤2∧ti = .int .i64 k∧o=(([⟨x,y,a,b,d⟩,f]:List El).take k).foldl pick ⟨x,y,a,b,d⟩∧Hid (Blk wr (go) #[.int .i64 o.x,.int .i64 o.y,.int .i64 o.a,.int .i64 o.b,.int .i64 o.d] 35)∧Hid (Blk wr g3 cur 35)∧Hid (Blk wr (w.heap.size+1+1) #[.int .i64 0,.int .i64 0,.int .i64 0,.int .i64 0,.int .i64 0] 35)∧Hid (Below w.heap.size w wr)) (fun ti _=>2-(intOf ti).toNat)
   case atStart=>exact ⟨0,⟨x,y,a,b,d⟩,by omega,rfl,rfl,HBO.out,HG.out,HB6.out,HB.out⟩
   case round =>
    obtain ⟨k,⟨qx,qy,qa,qb,qd⟩,hk,rfl,hq,RO,RG,R6,RB⟩:=hrel
    simp only at RO
    have HQ0:=Lib.hid hq
    clear HBO HG HB6 HB
    have hbr:=RB.out
    have zr:=hbr.size
    by_cases hlt:k<2
    ·obtain ⟨⟨ex,ey,ea,eb,ed⟩,he⟩:∃ e,([⟨x,y,a,b,d⟩,f]:List El)[k]? = some e:=⟨_,List.getElem?_eq_getElem (by simpa using hlt)⟩
     have m0:wr.cell? ⟨g3,k*5,none⟩=some (.int .i64 ex):=(RG.out.at (k*5+0)).trans (HX.out k _ he 0 (by decide))
     have m1:wr.cell? ⟨g3,k*5+1,none⟩=some (.int .i64 ey):=(RG.out.at (k*5+1)).trans (HX.out k _ he 1 (by decide))
     have m2:wr.cell? ⟨g3,k*5+2,none⟩=some (.int .i64 ea):=(RG.out.at (k*5+2)).trans (HX.out k _ he 2 (by decide))
     have m3:wr.cell? ⟨g3,k*5+3,none⟩=some (.int .i64 eb):=(RG.out.at (k*5+3)).trans (HX.out k _ he 3 (by decide))
     have m4:wr.cell? ⟨g3,k*5+4,none⟩=some (.int .i64 ed):=(RG.out.at (k*5+4)).trans (HX.out k _ he 4 (by decide))
     have hpk:=pick_next ([⟨x,y,a,b,d⟩,f]:List El) k ⟨x,y,a,b,d⟩ _ he
     rw [← hq] at hpk
     have k1:(k:Int)<2:=by omega
     have k2:(0:Int)≤k:=by omega
     obtain ⟨t1,ht1⟩:∃ t,El.tr ⟨ex,ey,ea,eb,ed⟩=t:=⟨_,rfl⟩
     obtain ⟨t2,ht2⟩:∃ t,El.tr ⟨qx,qy,qa,qb,qd⟩=t:=⟨_,rfl⟩
     have T1:=Lib.hid ht1
     have T2:=Lib.hid ht2
     rw [show pick ⟨qx,qy,qa,qb,qd⟩ ⟨ex,ey,ea,eb,ed⟩=if El.tr ⟨ex,ey,ea,eb,ed⟩<El.tr ⟨qx,qy,qa,qb,qd⟩ then ⟨ex,ey,ea,eb,ed⟩ else ⟨qx,qy,qa,qb,qd⟩ from rfl,ht1,ht2] at hpk
     have HPK:=Lib.hid hpk
     clear hpk he ht1 ht2 hq
     go_wp2_with fail
     obtain ⟨w6,hw6⟩:∃ w6,w6=wr.alloc (Obj.cells #[.int .i64 ex,.int .i64 ey,.int .i64 ea,.int .i64 eb,.int .i64 ed] 35):=⟨_,rfl⟩
     rw [← hw6]
     have SX:Hid (Blk w6 wr.heap.size #[.int .i64 ex,.int .i64 ey,.int .i64 ea,.int .i64 eb,.int .i64 ed] 35):=by rw [hw6];exact Blk.new _ _ _
     have SO:Hid (Blk w6 (go) #[.int .i64 qx,.int .i64 qy,.int .i64 qa,.int .i64 qb,.int .i64 qd] 35):=by rw [hw6];exact RO.out.alloc _
     have SG:Hid (Blk w6 g3 cur 35):=by rw [hw6];exact RG.out.alloc _
     have S6:Hid (Blk w6 (w.heap.size+1+1) #[.int .i64 0,.int .i64 0,.int .i64 0,.int .i64 0,.int .i64 0] 35):=by rw [hw6];exact R6.out.alloc _
     have SB:Hid (Below w.heap.size w w6):=by rw [hw6];exact hbr.alloc zr _
     have zgo:=RO.out.lt
     have zg6:=R6.out.lt
     clear hw6 m0 m1 m2 m3 m4 RO RG R6 RB hbr
     have c0:=cell_regrown (SX.out.cell (i:=0) rfl)
     have d0:=cell_regrown (SO.out.cell (i:=0) rfl)
     have c1:=cell_regrown (SX.out.cell (i:=1) rfl)
     have d1:=cell_regrown (SO.out.cell (i:=1) rfl)
     have c2:=cell_regrown (SX.out.cell (i:=2) rfl)
     have d2:=cell_regrown (SO.out.cell (i:=2) rfl)
     have c3:=cell_regrown (SX.out.cell (i:=3) rfl)
     have d3:=cell_regrown (SO.out.cell (i:=3) rfl)
     have c4:=cell_regrown (SX.out.cell (i:=4) rfl)
     have d4:=cell_regrown (SO.out.cell (i:=4) rfl)
     refine wp_region_quiet_below (by kernel_rfl) (by kernel_rfl) ?_
     repeat (go_big_quiet_step (exact Calls.regrown_of (trace_v _ _ _ _ _ _ (by first|with_reducible exact T1.out|with_reducible exact T2.out) _)))
     refine wpQuiet_nil ?_
     intro w7 hwq
     have hb7:=below_of_regrown hwq
     clear hwq c0 c1 c2 c3 c4 d0 d1 d2 d3 d4
     have UX:=SX.out.keep hb7
     have UO:=SO.out.keep hb7
     have UG:=SG.out.keep hb7
     have U6:=S6.out.keep hb7
     have UB:=SB.out.trans (hb7.mono SB.out.size)
     obtain ⟨vy1,vc1,vf1,-⟩:=hb_facts UX
     obtain ⟨vy2,vc2,vf2,-⟩:=hb_facts UO
     clear SX SO SG S6 SB hb7
     by_cases ht:t1<t2
     ·go_wp2_with fail
      go_roundw
      case rel =>
       refine ⟨k+1,⟨ex,ey,ea,eb,ed⟩,by omega,by go_num,by rw [HPK.out,if_pos ht],?_,?_,?_,?_⟩
       ·exact ((((UO.setCell_same 0 _).setCell_same 1 _).setCell_same 2 _).setCell_same 3 _).setCell_same 4 _
       ·exact (((((UG.setCell_other (a:=⟨go,0,none⟩) (hne) _).setCell_other (a:=⟨go,1,none⟩) (hne) _).setCell_other (a:=⟨go,2,none⟩) (hne) _).setCell_other (a:=⟨go,3,none⟩) (hne) _).setCell_other (a:=⟨go,4,none⟩) (hne) _)
       ·exact (((((U6.setCell_other (a:=⟨go,0,none⟩) (by simp only;omega) _).setCell_other (a:=⟨go,1,none⟩) (by simp only;omega) _).setCell_other (a:=⟨go,2,none⟩) (by simp only;omega) _).setCell_other (a:=⟨go,3,none⟩) (by simp only;omega) _).setCell_other (a:=⟨go,4,none⟩) (by simp only;omega) _)
       ·exact (show Below _ _ _ from below_byR)
      case measure=>simp [intOf];omega
     ·go_wp2_with fail
      go_roundw
      case rel=>exact ⟨k+1,⟨qx,qy,qa,qb,qd⟩,by omega,by go_num,by rw [HPK.out,if_neg ht],UO,UG,U6,UB⟩
      case measure=>simp [intOf];omega
    ·obtain rfl:k=2:=by omega
     have hF:Hid (foundE ⟨x,y,a,b,d⟩ O [f]=(⟨qx,qy,qa,qb,qd⟩,0)):=by show _=_;rw [EV.out,EC.out,HQ0.out];rfl
     obtain ⟨vy1,vc1,vf1,-⟩:=hb_facts RO.out
     obtain ⟨vy2,vc2,vf2,-⟩:=hb_facts R6.out
     clear EV EC hq
     go_wp2_with fail
     exact bodyPost_row_t 5 #[.int .i64 qx,.int .i64 qy,.int .i64 qa,.int .i64 qb,.int .i64 qd] (.int .i64 0) rfl rfl rfl rfl Tryz.underlying35 rfl (by kernel_rfl) (rc5 (by go_simp) (by go_simp) (by go_simp) (by go_simp) (by go_simp)) ⟨by rw [hF.out],below_byR⟩
  | true =>
   obtain ⟨h0,h1⟩:=hbe rfl
   obtain ⟨⟨ox,oy,oa,ob,od⟩,r,ho⟩:∃ o r,O gw=(o,r):=⟨_,_,rfl⟩
   have HQ:=HO.out gw (w1.alloc (Obj.cells #[.int .i64 x,.int .i64 y,.int .i64 a,.int .i64 b,.int .i64 d] 35)) h0 h1 (hb.alloc hb.size _)
   rw [ho] at HQ EC
   -- S11
   have HQ2:=Lib.hid HQ
   clear HQ ho
   go_wp2_with fail
   -- S13
   refine HQ2.out.mono ?_;rintro e w2 ⟨rfl,hb2⟩
   -- S14
   have zw2:=hb2.size
   simp at zw2
   have BL2:=(Blk.new w1 #[.int .i64 x,.int .i64 y,.int .i64 a,.int .i64 b,.int .i64 d] 35).keep hb2
   have b32:=(b3.alloc (Obj.cells #[.int .i64 x,.int .i64 y,.int .i64 a,.int .i64 b,.int .i64 d] 35)).keep hb2
   have b62:=(b6.alloc (Obj.cells #[.int .i64 x,.int .i64 y,.int .i64 a,.int .i64 b,.int .i64 d] 35)).keep hb2
   have hbw2:=(hb.alloc hb.size (Obj.cells #[.int .i64 x,.int .i64 y,.int .i64 a,.int .i64 b,.int .i64 d] 35)).trans (hb2.mono (by have:=hb.size;simp;omega))
   have zb:=hb.size
   have zz6:=y6
   clear hb2 b3 b4 b6 b8 y3 c3 f3 y4 c4 f4 y6 c6 f6 y8 c8 f8 hb
   obtain ⟨y3,c3,f3,-⟩:=hb_facts b32
   -- S15
   go_wp2_with (at_builtin;refine wpList_append_own _ rfl _ _ 220 rfl w.heap.size 35 i0 (.agg #[.int .i64 0,.int .i64 0,.int .i64 0,.int .i64 0,.int .i64 0]) 5 40 Tryz.underlying220 hi hz0 hz1 hz2 rfl (by decide) _ 1 _ rfl (own_of ((BL2.alloc _).alloc _) (by omega)) ⟨w2.heap.size+1,0,none⟩ 1 1 (elc ⟨ox,oy,oa,ob,od⟩) rfl rfl (elc_news (Blk.new' _ _ _ (by simp))) (elc_one _) (by unfold maxLen;omega) (by omega) (by simp;omega) ?_)
   -- S12
   intro v4 w3 hown1 hgrow1 _
   obtain ⟨g4,cap4,rfl⟩:=own_form hown1 (by omega)
   have b33:=((b32.alloc _).alloc _).grown hgrow1 (by simp [Value.ownBlock];omega)
   have b63:=((b62.alloc _).alloc _).grown hgrow1 (by simp [Value.ownBlock];omega)
   have hb3:=Below.grown (Nat.le_refl _) ((hbw2.alloc hbw2.size _).alloc (by have:=hbw2.size;simp;omega) _) hgrow1 (fun g hg=>by simp [Value.ownBlock] at hg;omega)
   have zg4:=(hown1.lt g4 (by simp [Value.ownBlock])).2
   have zl4:=(hown1.lt g4 (by simp [Value.ownBlock])).1
   clear hgrow1 b32 b62 hbw2 y3 c3 f3
   obtain ⟨cur4,hcur4,hcs4,-⟩:=own_cur hown1
   have n36:=blk_ne hcur4 b63 (by intro h;rw [h] at hcs4;simp at hcs4)
   clear hcur4 hcs4
   obtain ⟨y3,c3,f3,-⟩:=hb_facts b33
   go_wp2_with (at_builtin;refine wpList_append_own _ rfl _ _ 220 rfl w.heap.size 35 i0 (.agg #[.int .i64 0,.int .i64 0,.int .i64 0,.int .i64 0,.int .i64 0]) 5 40 Tryz.underlying220 hi hz0 hz1 hz2 rfl (by decide) _ 2 _ rfl (hown1.alloc _) ⟨gm,0,none⟩ 1 1 (elc f) rfl rfl (elc_news ((bm.keep' hb3).alloc _)) (elc_one _) (by unfold maxLen;omega) (by omega) (by have:=hb3.size;simp;omega) ?_)
   -- S16
   intro v3 w5 hown hgrow _
   obtain ⟨g3,cap3,rfl⟩:=own_form hown (by omega)
   have BO:=(Blk.new w3 _ _).grown hgrow (by simp [Value.ownBlock];omega)
   have B6:=(b63.alloc _).grown hgrow (by simp [Value.ownBlock];omega)
   have hb5:=Below.grown (Nat.le_refl _) (hb3.alloc hb3.size _) hgrow (fun g hg=>by simp [Value.ownBlock] at hg;omega)
   have zr3:=hb3.size
   have zz:=b63.lt
   clear hgrow b33 b63 y3 c3 f3 hb3 hown1 n36 zg4 zl4 BL2 zw2 zz6 zb HQ2 zr3
   -- S17
   have zq:w.heap.size+1+1<w3.heap.size:=by omega
   clear zz
   generalize w3.heap.size=go at BO zq ⊢
   obtain ⟨cur,hcur,hcs,htake⟩:=own_cur hown
   have hX:∀ k e,([⟨x,y,a,b,d⟩,⟨ox,oy,oa,ob,od⟩,f]:List El)[k]? = some e→∀ j,j<5→cur[k*5+j]? = (elc e)[j]?:=cells_at [⟨x,y,a,b,d⟩,⟨ox,oy,oa,ob,od⟩,f] cur htake
   have hne:=blk_ne hcur BO (by intro h;rw [h] at hcs;simp at hcs)
   have HG:=Lib.hid hcur
   have HBO:=Lib.hid BO
   have HB6:=Lib.hid B6
   have HB:=Lib.hid hb5
   have zs:=hb5.size
   have HX:=Lib.hid hX
   clear hown htake hcur BO B6 hb5 hcs hX hfb hfr hbe
   go_wp2_with fail
   go_loopw [44] (fun ti wr=>∃ (k:Nat) (o:El),k≤3∧ti = .int .i64 k∧o=(([⟨x,y,a,b,d⟩,⟨ox,oy,oa,ob,od⟩,f]:List El).take k).foldl pick ⟨x,y,a,b,d⟩∧Hid (Blk wr (go) #[.int .i64 o.x,.int .i64 o.y,.int .i64 o.a,.int .i64 o.b,.int .i64 o.d] 35)∧Hid (Blk wr g3 cur 35)∧Hid (Blk wr (w.heap.size+1+1) #[.int .i64 0,.int .i64 0,.int .i64 0,.int .i64 0,.int .i64 0] 35)∧Hid (Below w.heap.size w wr)) (fun ti _=>3-(intOf ti).toNat)
   case atStart=>exact ⟨0,⟨x,y,a,b,d⟩,by omega,rfl,rfl,HBO.out,HG.out,HB6.out,HB.out⟩
   case round =>
    obtain ⟨k,⟨qx,qy,qa,qb,qd⟩,hk,rfl,hq,RO,RG,R6,RB⟩:=hrel
    simp only at RO
    have HQ0:=Lib.hid hq
    clear HBO HG HB6 HB
    have hbr:=RB.out
    have zr:=hbr.size
    by_cases hlt:k<3
    ·obtain ⟨⟨ex,ey,ea,eb,ed⟩,he⟩:∃ e,([⟨x,y,a,b,d⟩,⟨ox,oy,oa,ob,od⟩,f]:List El)[k]? = some e:=⟨_,List.getElem?_eq_getElem (by simpa using hlt)⟩
     have m0:wr.cell? ⟨g3,k*5,none⟩=some (.int .i64 ex):=(RG.out.at (k*5+0)).trans (HX.out k _ he 0 (by decide))
     have m1:wr.cell? ⟨g3,k*5+1,none⟩=some (.int .i64 ey):=(RG.out.at (k*5+1)).trans (HX.out k _ he 1 (by decide))
     have m2:wr.cell? ⟨g3,k*5+2,none⟩=some (.int .i64 ea):=(RG.out.at (k*5+2)).trans (HX.out k _ he 2 (by decide))
     have m3:wr.cell? ⟨g3,k*5+3,none⟩=some (.int .i64 eb):=(RG.out.at (k*5+3)).trans (HX.out k _ he 3 (by decide))
     have m4:wr.cell? ⟨g3,k*5+4,none⟩=some (.int .i64 ed):=(RG.out.at (k*5+4)).trans (HX.out k _ he 4 (by decide))
     have hpk:=pick_next ([⟨x,y,a,b,d⟩,⟨ox,oy,oa,ob,od⟩,f]:List El) k ⟨x,y,a,b,d⟩ _ he
     rw [← hq] at hpk
     have k1:(k:Int)<3:=by omega
     have k2:(0:Int)≤k:=by omega
     obtain ⟨t1,ht1⟩:∃ t,El.tr ⟨ex,ey,ea,eb,ed⟩=t:=⟨_,rfl⟩
     obtain ⟨t2,ht2⟩:∃ t,El.tr ⟨qx,qy,qa,qb,qd⟩=t:=⟨_,rfl⟩
     have T1:=Lib.hid ht1
     have T2:=Lib.hid ht2
     rw [show pick ⟨qx,qy,qa,qb,qd⟩ ⟨ex,ey,ea,eb,ed⟩=if El.tr ⟨ex,ey,ea,eb,ed⟩<El.tr ⟨qx,qy,qa,qb,qd⟩ then ⟨ex,ey,ea,eb,ed⟩ else ⟨qx,qy,qa,qb,qd⟩ from rfl,ht1,ht2] at hpk
     have HPK:=Lib.hid hpk
     clear hpk he ht1 ht2 hq
     go_wp2_with fail
     obtain ⟨w6,hw6⟩:∃ w6,w6=wr.alloc (Obj.cells #[.int .i64 ex,.int .i64 ey,.int .i64 ea,.int .i64 eb,.int .i64 ed] 35):=⟨_,rfl⟩
     rw [← hw6]
     have SX:Hid (Blk w6 wr.heap.size #[.int .i64 ex,.int .i64 ey,.int .i64 ea,.int .i64 eb,.int .i64 ed] 35):=by rw [hw6];exact Blk.new _ _ _
     have SO:Hid (Blk w6 (go) #[.int .i64 qx,.int .i64 qy,.int .i64 qa,.int .i64 qb,.int .i64 qd] 35):=by rw [hw6];exact RO.out.alloc _
     have SG:Hid (Blk w6 g3 cur 35):=by rw [hw6];exact RG.out.alloc _
     have S6:Hid (Blk w6 (w.heap.size+1+1) #[.int .i64 0,.int .i64 0,.int .i64 0,.int .i64 0,.int .i64 0] 35):=by rw [hw6];exact R6.out.alloc _
     have SB:Hid (Below w.heap.size w w6):=by rw [hw6];exact hbr.alloc zr _
     have zgo:=RO.out.lt
     have zg6:=R6.out.lt
     clear hw6 m0 m1 m2 m3 m4 RO RG R6 RB hbr
     have c0:=cell_regrown (SX.out.cell (i:=0) rfl)
     have d0:=cell_regrown (SO.out.cell (i:=0) rfl)
     have c1:=cell_regrown (SX.out.cell (i:=1) rfl)
     have d1:=cell_regrown (SO.out.cell (i:=1) rfl)
     have c2:=cell_regrown (SX.out.cell (i:=2) rfl)
     have d2:=cell_regrown (SO.out.cell (i:=2) rfl)
     have c3:=cell_regrown (SX.out.cell (i:=3) rfl)
     have d3:=cell_regrown (SO.out.cell (i:=3) rfl)
     have c4:=cell_regrown (SX.out.cell (i:=4) rfl)
     have d4:=cell_regrown (SO.out.cell (i:=4) rfl)
     refine wp_region_quiet_below (by kernel_rfl) (by kernel_rfl) ?_
     repeat (go_big_quiet_step (exact Calls.regrown_of (trace_v _ _ _ _ _ _ (by first|with_reducible exact T1.out|with_reducible exact T2.out) _)))
     refine wpQuiet_nil ?_
     intro w7 hwq
     have hb7:=below_of_regrown hwq
     clear hwq c0 c1 c2 c3 c4 d0 d1 d2 d3 d4
     have UX:=SX.out.keep hb7
     have UO:=SO.out.keep hb7
     have UG:=SG.out.keep hb7
     have U6:=S6.out.keep hb7
     have UB:=SB.out.trans (hb7.mono SB.out.size)
     obtain ⟨vy1,vc1,vf1,-⟩:=hb_facts UX
     obtain ⟨vy2,vc2,vf2,-⟩:=hb_facts UO
     clear SX SO SG S6 SB hb7
     by_cases ht:t1<t2
     ·go_wp2_with fail
      go_roundw
      case rel =>
       refine ⟨k+1,⟨ex,ey,ea,eb,ed⟩,by omega,by go_num,by rw [HPK.out,if_pos ht],?_,?_,?_,?_⟩
       ·exact ((((UO.setCell_same 0 _).setCell_same 1 _).setCell_same 2 _).setCell_same 3 _).setCell_same 4 _
       ·exact (((((UG.setCell_other (a:=⟨go,0,none⟩) (hne) _).setCell_other (a:=⟨go,1,none⟩) (hne) _).setCell_other (a:=⟨go,2,none⟩) (hne) _).setCell_other (a:=⟨go,3,none⟩) (hne) _).setCell_other (a:=⟨go,4,none⟩) (hne) _)
       ·exact (((((U6.setCell_other (a:=⟨go,0,none⟩) (by simp only;omega) _).setCell_other (a:=⟨go,1,none⟩) (by simp only;omega) _).setCell_other (a:=⟨go,2,none⟩) (by simp only;omega) _).setCell_other (a:=⟨go,3,none⟩) (by simp only;omega) _).setCell_other (a:=⟨go,4,none⟩) (by simp only;omega) _)
       ·exact (show Below _ _ _ from below_byR)
      case measure=>simp [intOf];omega
     ·go_wp2_with fail
      go_roundw
      case rel=>exact ⟨k+1,⟨qx,qy,qa,qb,qd⟩,by omega,by go_num,by rw [HPK.out,if_neg ht],UO,UG,U6,UB⟩
      case measure=>simp [intOf];omega
    ·obtain rfl:k=3:=by omega
     have hF:Hid (foundE ⟨x,y,a,b,d⟩ O [f]=(⟨qx,qy,qa,qb,qd⟩,0)):=by show _=_;rw [EV.out,EC.out,HQ0.out];rfl
     obtain ⟨vy1,vc1,vf1,-⟩:=hb_facts RO.out
     obtain ⟨vy2,vc2,vf2,-⟩:=hb_facts R6.out
     clear EV EC hq
     go_wp2_with fail
     exact bodyPost_row_t 5 #[.int .i64 qx,.int .i64 qy,.int .i64 qa,.int .i64 qb,.int .i64 qd] (.int .i64 0) rfl rfl rfl rfl Tryz.underlying35 rfl (by kernel_rfl) (rc5 (by go_simp) (by go_simp) (by go_simp) (by go_simp) (by go_simp)) ⟨by rw [hF.out],below_byR⟩
open Go.RowKit
theorem gfuse_yes (e f:El) (he:e.may=true) (hf:f.may=true):gfuseE e f=foundE e (fuseE e f) [f]:=by unfold gfuseE;rw [if_pos ⟨he,hf⟩]
theorem gfuse_no (e f:El) (h:e.may=false∨f.may=false):gfuseE e f=(El.zero,1):=by
 unfold gfuseE;rw [if_neg];rintro ⟨h1,h2⟩;rcases h with h|h
 ·rw [h1] at h;cases h
 ·rw [h2] at h;cases h
theorem gfuse_c (x y a b d x' y' a' b' d':Int) (w:World) :
  Calls Tryz.prog 42 #[elC x y a b d,elC x' y' a' b' d'] w fun e w'=>e = .returned (.tuple #[elV (gfuseE ⟨x,y,a,b,d⟩ ⟨x',y',a',b',d'⟩).1,.int .i64 (gfuseE ⟨x,y,a,b,d⟩ ⟨x',y',a',b',d'⟩).2])∧Below w.heap.size w w':=by
 cases hm:El.may ⟨x,y,a,b,d⟩ with
 | false =>
  have HM:=Lib.hid hm
  have EV:=Lib.hid (gfuse_no ⟨x,y,a,b,d⟩ ⟨x',y',a',b',d'⟩ (.inl hm))
  clear hm
  go_enter Tryz.func42,Tryz.ntmps42
  go_wp2_with fail
  refine (ellmay_v _ _ _ _ _ _ HM.out _).mono ?_;rintro e w1 ⟨rfl,hb1⟩;have z_w1:=hb1.size;(try simp at z_w1);obtain ⟨yw1aa,cw1aa,fw1aa,rw1aa,tw1aa,pw1aa⟩:=bq hb1 (w.heap.size);obtain ⟨yw1ab,cw1ab,fw1ab,rw1ab,tw1ab,pw1ab⟩:=bq hb1 (w.heap.size+1);obtain ⟨yw1ac,cw1ac,fw1ac,rw1ac,tw1ac,pw1ac⟩:=bq hb1 (w.heap.size+1+1)
  go_wp2_with fail
  exact bodyPost_row_t 5 #[.int .i64 0,.int .i64 0,.int .i64 0,.int .i64 0,.int .i64 0] (.int .i64 1) rfl rfl rfl rfl Tryz.underlying35 rfl (by kernel_rfl) (rc5 (by go_simp) (by go_simp) (by go_simp) (by go_simp) (by go_simp)) ⟨by rw [EV.out];rfl,below_byR⟩
 | true =>
  have HM:=Lib.hid hm
  cases hf:El.may ⟨x',y',a',b',d'⟩ with
  | false =>
   have HF:=Lib.hid hf
   have EV:=Lib.hid (gfuse_no ⟨x,y,a,b,d⟩ ⟨x',y',a',b',d'⟩ (.inr hf))
   clear hm hf
   go_enter Tryz.func42,Tryz.ntmps42
   go_wp2_with fail
   refine (ellmay_v _ _ _ _ _ _ HM.out _).mono ?_;rintro e w1 ⟨rfl,hb1⟩;have z_w1:=hb1.size;(try simp at z_w1);obtain ⟨yw1aa,cw1aa,fw1aa,rw1aa,tw1aa,pw1aa⟩:=bq hb1 (w.heap.size);obtain ⟨yw1ab,cw1ab,fw1ab,rw1ab,tw1ab,pw1ab⟩:=bq hb1 (w.heap.size+1);obtain ⟨yw1ac,cw1ac,fw1ac,rw1ac,tw1ac,pw1ac⟩:=bq hb1 (w.heap.size+1+1)
   go_wp2_with fail
   refine (ellmay_v _ _ _ _ _ _ HF.out _).mono ?_;rintro e w2 ⟨rfl,hb2⟩;have z_w2:=hb2.size;(try simp at z_w2);obtain ⟨yw2aa,cw2aa,fw2aa,rw2aa,tw2aa,pw2aa⟩:=bq hb2 (w.heap.size);obtain ⟨yw2ab,cw2ab,fw2ab,rw2ab,tw2ab,pw2ab⟩:=bq hb2 (w.heap.size+1);obtain ⟨yw2ac,cw2ac,fw2ac,rw2ac,tw2ac,pw2ac⟩:=bq hb2 (w.heap.size+1+1)
   go_wp2_with fail
   exact bodyPost_row_t 5 #[.int .i64 0,.int .i64 0,.int .i64 0,.int .i64 0,.int .i64 0] (.int .i64 1) rfl rfl rfl rfl Tryz.underlying35 rfl (by kernel_rfl) (rc5 (by go_simp) (by go_simp) (by go_simp) (by go_simp) (by go_simp)) ⟨by rw [EV.out];rfl,below_byR⟩
  | true =>
   have HF:=Lib.hid hf
   obtain ⟨⟨ox,oy,oa,ob,od⟩,k,ho⟩:∃ o k,foundE ⟨x,y,a,b,d⟩ (fuseE ⟨x,y,a,b,d⟩ ⟨x',y',a',b',d'⟩) [⟨x',y',a',b',d'⟩]=(o,k):=⟨_,_,rfl⟩
   have EV:Hid (gfuseE ⟨x,y,a,b,d⟩ ⟨x',y',a',b',d'⟩=(⟨ox,oy,oa,ob,od⟩,k)):=by show _=_;rw [gfuse_yes _ _ hm hf,ho]
   have HO:=Lib.hid ho
   clear hm hf ho
   go_enter Tryz.func42,Tryz.ntmps42
   go_wp2_with fail
   refine (ellmay_v _ _ _ _ _ _ HM.out _).mono ?_;rintro e w1 ⟨rfl,hb1⟩;have z_w1:=hb1.size;(try simp at z_w1);obtain ⟨yw1aa,cw1aa,fw1aa,rw1aa,tw1aa,pw1aa⟩:=bq hb1 (w.heap.size);obtain ⟨yw1ab,cw1ab,fw1ab,rw1ab,tw1ab,pw1ab⟩:=bq hb1 (w.heap.size+1);obtain ⟨yw1ac,cw1ac,fw1ac,rw1ac,tw1ac,pw1ac⟩:=bq hb1 (w.heap.size+1+1)
   go_wp2_with fail
   refine (ellmay_v _ _ _ _ _ _ HF.out _).mono ?_;rintro e w2 ⟨rfl,hb2⟩;have z_w2:=hb2.size;(try simp at z_w2);obtain ⟨yw2aa,cw2aa,fw2aa,rw2aa,tw2aa,pw2aa⟩:=bq hb2 (w.heap.size);obtain ⟨yw2ab,cw2ab,fw2ab,rw2ab,tw2ab,pw2ab⟩:=bq hb2 (w.heap.size+1);obtain ⟨yw2ac,cw2ac,fw2ac,rw2ac,tw2ac,pw2ac⟩:=bq hb2 (w.heap.size+1+1)
   have BE:=((((Blk.new w #[.int .i64 x,.int .i64 y,.int .i64 a,.int .i64 b,.int .i64 d] 35).alloc _).alloc _).keep hb1).keep hb2
   have BF:=(((Blk.new' (w.alloc _) #[.int .i64 x',.int .i64 y',.int .i64 a',.int .i64 b',.int .i64 d'] 35 (b:=w.heap.size+1) (by simp)).alloc _).keep hb1).keep hb2
   go_wp2_with fail
   have FC:=found_c x y a b d 90 #[.pointer (some ⟨w.heap.size,0,none⟩),.pointer (some ⟨w.heap.size+1,0,none⟩)] (fuseE ⟨x,y,a,b,d⟩ ⟨x',y',a',b',d'⟩) ⟨x',y',a',b',d'⟩ w2.heap.size
    (w2.alloc (Obj.cells #[.int .i64 x',.int .i64 y',.int .i64 a',.int .i64 b',.int .i64 d'] 35)) (Blk.new _ _ _) (by intro args w;rfl)
    (fun k w' _ _ hb=>gf1_c x y a b d x' y' a' b' d' k _ _ w' ((BE.alloc _).keep hb) ((BF.alloc _).keep hb))
   rw [HO.out] at FC
   clear BE BF
   refine FC.mono ?_;rintro e w3 ⟨rfl,hb3⟩;have z_w3:=hb3.size;(try simp at z_w3);obtain ⟨yw3aa,cw3aa,fw3aa,rw3aa,tw3aa,pw3aa⟩:=bq hb3 (w.heap.size);obtain ⟨yw3ab,cw3ab,fw3ab,rw3ab,tw3ab,pw3ab⟩:=bq hb3 (w.heap.size+1);obtain ⟨yw3ac,cw3ac,fw3ac,rw3ac,tw3ac,pw3ac⟩:=bq hb3 (w.heap.size+1+1)
   go_wp2_with fail
   exact bodyPost_row_t 5 #[.int .i64 ox,.int .i64 oy,.int .i64 oa,.int .i64 ob,.int .i64 od] (.int .i64 k) rfl rfl rfl rfl Tryz.underlying35 rfl (by kernel_rfl) (rc5 (by go_simp) (by go_simp) (by go_simp) (by go_simp) (by go_simp)) ⟨by rw [EV.out],below_byR⟩
theorem gfuse_v (x y a b d x' y' a' b' d' ox oy oa ob od k:Int) (h:gfuseE ⟨x,y,a,b,d⟩ ⟨x',y',a',b',d'⟩=(⟨ox,oy,oa,ob,od⟩,k)) (w:World) :
  Calls Tryz.prog 42 #[elC x y a b d,elC x' y' a' b' d'] w fun e w'=>e = .returned (.tuple #[elC ox oy oa ob od,.int .i64 k])∧Below w.heap.size w w':=by
 have:=gfuse_c x y a b d x' y' a' b' d' w
 rw [h] at this;exact this
theorem gholds (e f:El) (he:e.may=true) (hf:f.may=true) (p q:Int) {g:El} {k:Int} (hg:gfuseE e f=(g,k)) :
  (k=3∧¬ (e.has p q=true∧f.has p q=true))∨(k=0∧(e.has p q=true→f.has p q=true→g.has p q=true)∧g.may=true∧g.tr≤e.tr∧g.tr≤f.tr):=by
 rw [gfuse_yes e f he hf] at hg
 rcases found_cases e (fuseE e f) [f] with ⟨⟨x,h0,h1,h3⟩,h⟩|⟨o,h,hc,t1,t2,-⟩
 ·rw [h] at hg;injection hg with _ hk
  left
  refine ⟨hk.symm,fun hb=>?_⟩
  exact (fuse_meets e f x p q h0 h1 hb.1 hb.2 (o:=(fuseE e f x).1) (er:=(fuseE e f x).2) rfl).1 h3
 ·rw [h] at hg;injection hg with hg hk;subst hg
  right
  refine ⟨hk.symm,?_,?_,t1,t2 f (by simp)⟩
  ·intro a1 a2
   rcases hc with rfl|⟨x,h0,h1,hx⟩|hc
   ·exact a1
   ·exact (fuse_meets e f x p q h0 h1 a1 a2 hx).2 rfl
   ·simp only [List.mem_singleton] at hc;subst hc;exact a2
  ·rcases hc with rfl|⟨x,h0,h1,hx⟩|hc
   ·exact he
   ·unfold fuseE mixedV at hx
    split at hx
    ·split at hx
     ·unfold ellI at hx
      split at hx
      ·injection hx with _ hx;cases hx
      ·split at hx
       ·injection hx with _ hx;cases hx
       ·exact (grow_centre (ellEnd_ok hx).2).2.2
     ·injection hx with _ hx;cases hx
    ·injection hx with _ hx;cases hx
   ·simp only [List.mem_singleton] at hc;subst hc;exact hf
end Go.Proofs.YtechbdnhalmobaaGreatDoor
