/- Laws and walks that the claim names. -/
import Derived.Test.YtechbdnhalmobaaGreatDoorProg
import Derived.Test.YtechbdnhalmobaaGreatDoorBA
import Derived.BigRegion
import Derived.WalkMore
import Derived.ScopeJumps
import Derived.OwnWalk
set_option maxRecDepth 100000
set_option maxHeartbeats 16000000
namespace Go.Proofs.YtechbdnhalmobaaGreatDoor
set_option linter.unusedSimpArgs false
set_option linter.unusedVariables false
structure GS where
 asked:List Int
 w:Int
 n:Int
 ok:Bool
def better (V:Int→Int × Bool) (x:Int) (s:GS):Bool:=(V x).2&&(!s.ok||decide ((V x).1<s.n)||((V x).1==s.n&&decide (x<s.w)))
def gask (V:Int→Int × Bool) (x:Int) (s:GS):GS :=
 bif better V x s then ⟨s.asked ++ [x],x,(V x).1,true⟩ else ⟨s.asked ++ [x],s.w,s.n,s.ok⟩
def gm (v w:Int × Bool):Bool:=!w.2||(v.2&&decide (v.1≤w.1))
def gD:Nat→Int|0=>34|1=>21|2=>13|3=>8|4=>5|5=>3|_=>2
def gX:Nat→Int|0=>13|1=>8|2=>5|3=>3|4=>2|_=>1
def gY:Nat→Int|0=>21|1=>13|2=>8|3=>5|4=>3|5=>2|_=>1
def gleft (V:Int→Int × Bool) (j:Nat) (a:Int) (s:GS):Int × GS:=(a,if j=5 then s else gask V (a+gX (j+1)) s)
def gright (V:Int→Int × Bool) (j:Nat) (a:Int) (s:GS):Int × GS:=(a+gX j,if j=5 then s else gask V (a+gX j+gY (j+1)) s)
def gstep (V:Int→Int × Bool) (j:Nat) (r:Int × GS):Int × GS :=
 bif gm (V (r.1+gX j)) (V (r.1+gY j)) then gleft V j r.1 r.2 else gright V j r.1 r.2
def giter (V:Int→Int × Bool):Nat→Int × GS
 | 0=>(0,gask V 21 (gask V 13 ⟨[],0,0,false⟩))
 | j+1=>gstep V j (giter V j)
def gfin (V:Int→Int × Bool):GS:=(giter V 6).2
theorem gXY (j:Nat) (hj:j<6):gX (j+1)+gY (j+1)=gD (j+1)∧gX j=gY (j+1)∧gY j=gD (j+1)∧gY j-gX j=gX (j+1)∧gD j-gX j=gD (j+1)∧1≤gX j∧gX j<gY j∧gY j<gD j∧3≤gD j:=by
 match j,hj with
 | 0,_|1,_|2,_|3,_|4,_|5,_=>decide
theorem gask_len (V:Int→Int × Bool) (x:Int) (s:GS):(gask V x s).asked=s.asked ++ [x]:=by
 unfold gask;cases better V x s <;> rfl
theorem gask_none (V:Int→Int × Bool) (x:Int) (s:GS) (h:s.ok=false→s.w=0∧s.n=0):(gask V x s).ok=false→(gask V x s).w=0∧(gask V x s).n=0:=by
 unfold gask;cases better V x s
 ·exact h
 ·intro h;cases h
theorem giter_ok (V:Int→Int × Bool) (j:Nat):j≤6→(0≤(giter V j).1∧(giter V j).1+gD j≤34)∧((giter V j).2.ok=false→(giter V j).2.w=0∧(giter V j).2.n=0)∧(giter V j).2.asked.length=(if j=6 then 7 else j+2):=by
 induction j with
 | zero =>
  intro _
  refine ⟨⟨Int.le_refl 0,Int.le_refl 34⟩,gask_none _ _ _ (gask_none _ _ _ fun _=>⟨rfl,rfl⟩),?_⟩
  simp [giter,gask_len]
 | succ j ih =>
  intro hj
  obtain ⟨h1,h2,h3⟩:=ih (by omega)
  have g:=gXY j (by omega)
  have hl:(giter V j).2.asked.length=j+2:=by rw [h3,if_neg (by omega)]
  unfold giter gstep
  generalize giter V j=r at *
  cases gm (V (r.1+gX j)) (V (r.1+gY j))
  ·simp only [cond_false,gright]
   refine ⟨by omega,?_,?_⟩
   ·split
    ·exact h2
    ·exact gask_none _ _ _ h2
   ·split
    ·rw [hl];subst_vars;rfl
    ·rw [gask_len,List.length_append,hl,if_neg (by omega)];rfl
  ·simp only [cond_true,gleft]
   refine ⟨by omega,?_,?_⟩
   ·split
    ·exact h2
    ·exact gask_none _ _ _ h2
   ·split
    ·rw [hl];subst_vars;rfl
    ·rw [gask_len,List.length_append,hl,if_neg (by omega)];rfl
open Go.RowKit
def Side (t u:TypeId) (B:Nat) (w w':World):Prop :=
 w'.os=w.os∧w'.tape=w.tape∧w'.output=w.output∧w.heap.size≤w'.heap.size∧∀ k,k<w.heap.size→(B≤k→∀ cs,¬ Blk w k cs t∧¬ Blk w k cs u)→w'.heap[k]? = w.heap[k]?
def Keeps (t:TypeId) (w w':World):Prop:=w.heap.size≤w'.heap.size∧∀ k cs,Blk w k cs t→Blk w' k cs t
section
variable {t u:TypeId} {B:Nat} {w w' w'':World}
theorem Side.refl:Side t u B w w:=⟨rfl,rfl,rfl,Nat.le_refl _,fun _ _ _=>rfl⟩
theorem Side.alloc (h:Side t u B w w') (o:Obj):Side t u B w (w'.alloc o) :=
 ⟨h.1,h.2.1,h.2.2.1,by have:=h.2.2.2.1;simp;omega,fun k hk hn=>by rw [Below.heap_alloc w' o k (Nat.lt_of_lt_of_le hk h.2.2.2.1)];exact h.2.2.2.2 k hk hn⟩
theorem Side.drew (h:Side t u B w w'):Side t u B w w'.drew:=h
theorem Side.turn (h:Side t u B w w') (g:Nat) (hB:B≤g) (hg:w.heap.size≤g∨∃ cs,Blk w g cs t∨Blk w g cs u) (w2:World) (ho:w2.os=w'.os) (ht:w2.tape=w'.tape) (hp:w2.output=w'.output) (hs:w2.heap.size=w'.heap.size)
  (hk:∀ k,k≠g→w2.heap[k]? = w'.heap[k]?):Side t u B w w2 :=
 ⟨by rw [ho];exact h.1,by rw [ht];exact h.2.1,by rw [hp];exact h.2.2.1,by rw [hs];exact h.2.2.2.1,fun k hk2 hn=>by
  rw [hk k (fun e=>?_)]
  ·exact h.2.2.2.2 k hk2 hn
  ·subst e
   rcases hg with hg|⟨cs,hg|hg⟩
   ·omega
   ·exact (hn hB cs).1 hg
   ·exact (hn hB cs).2 hg⟩
theorem Side.setCell (h:Side t u B w w') (g i:Nat) (v:Value) (hB:B≤g) (hg:w.heap.size≤g∨∃ cs,Blk w g cs t∨Blk w g cs u):Side t u B w (w'.setCell ⟨g,i,none⟩ v) :=
 h.turn g hB hg _ rfl rfl rfl (by simp) (fun k hk=>heap_setCell_other w' ⟨g,i,none⟩ k v hk)
theorem Side.putRow (h:Side t u B w w') (g o:Nat) (cs:Array Value) (hB:B≤g) (hg:w.heap.size≤g∨∃ cs,Blk w g cs t∨Blk w g cs u):Side t u B w (w'.putRow g o cs) :=
 h.turn g hB hg _ rfl rfl rfl (by simp) (fun k hk=>heap_putRow_other g o cs k hk)
theorem Keeps.refl:Keeps t w w:=⟨Nat.le_refl _,fun _ _ h=>h⟩
theorem Keeps.trans (h:Keeps t w w') (h':Keeps t w' w''):Keeps t w w'':=⟨Nat.le_trans h.1 h'.1,fun k cs hb=>h'.2 k cs (h.2 k cs hb)⟩
theorem Keeps.alloc (h:Keeps t w w') (o:Obj):Keeps t w (w'.alloc o):=⟨by have:=h.1;simp;omega,fun k cs hb=>(h.2 k cs hb).alloc o⟩
theorem Keeps.drew (h:Keeps t w w'):Keeps t w w'.drew:=h
end
theorem most_c (n m:Int) (p q:Bool) (w:World) :
  Calls Tryz.prog 209 #[.agg #[.int .i64 n,.bool p],.agg #[.int .i64 m,.bool q]] w fun e w'=>e = .returned (.bool (gm (n,p) (m,q)))∧Below w.heap.size w w':=by
 cases q
 ·go_enter Tryz.func209,Tryz.ntmps209
  go_wp2
  go_ret
  exact ⟨rfl,below_by⟩
 ·cases p
  ·go_enter Tryz.func209,Tryz.ntmps209
   go_wp2
   go_ret
   exact ⟨rfl,below_by⟩
  ·have E:Hid (gm (n,true) (m,true)=decide (n≤m)):=rfl
   go_enter Tryz.func209,Tryz.ntmps209
   go_wp2
   go_ret
   exact ⟨by rw [E.out];rfl,below_by⟩
theorem Blk.ne {w:World} {b b':Nat} {c c':Array Value} {t t':TypeId} (h:Blk w b c t) (h':Blk w b' c' t') (hne:t≠t'):b≠b':=by
 rintro rfl
 unfold Blk at h h'
 rw [h] at h'
 injection h' with h'
 injection h' with _ ht
 exact hne ht
theorem Blk.facts {w:World} {b:Nat} {c:Array Value} {t:TypeId} (h:Blk w b c t) :
  b<w.heap.size∧(∀ o,w.cell? ⟨b,o,none⟩=c[o]?)∧(∀ o,w.frozen? ⟨b,o,none⟩=false)∧(∀ n,w.fits b n=decide (n≤c.size))∧(∀ o cs,o+cs.size≤c.size→ones cs=true→w.put? b o cs=some (w.putRow b o cs))∧w.row? b 0 c.size=some c :=
 ⟨h.lt,h.at,h.frozen,fun n=>by unfold World.fits;unfold Blk at h;rw [h];rfl,fun o cs h1 h2=>h.put? o cs h1 h2,h.row?_all _ rfl⟩
theorem gask_w (V:Int→Int × Bool) (x:Int) (s:GS):(gask V x s).w=bif better V x s then x else s.w:=by unfold gask;cases better V x s <;> rfl
theorem gask_n (V:Int→Int × Bool) (x:Int) (s:GS):(gask V x s).n=bif better V x s then (V x).1 else s.n:=by unfold gask;cases better V x s <;> rfl
theorem gask_ok (V:Int→Int × Bool) (x:Int) (s:GS):(gask V x s).ok=bif better V x s then true else s.ok:=by unfold gask;cases better V x s <;> rfl
theorem ask_c (fn:FuncId) (caps:Array Value) (g B:Nat) (V:Int→Int × Bool) (n:Int) (p:Bool) (I:List Int→World→Prop) (s:GS) (x:Int) (w:World) (hV:V x=(n,p)) (hfn:∀ args w,Sem.run Tryz.prog (callFunc fn args) w = .ok (.enter fn args) w)
  (hS:∀ l w w',Side 290 292 B w w'→I l w→I l w')
  (hC:∀ w,I s.asked w→Calls Tryz.prog fn (#[.int .i64 x]++caps) w fun e w'=>e = .returned (.tuple #[.int .i64 n,.bool p])∧I (s.asked ++ [x]) w'∧Keeps 290 w w'∧Keeps 292 w w')
  (hg:Blk w g #[.func (.func fn) #[] caps,.int .i64 s.w,.int .i64 s.n,.bool s.ok] 292) (hB:B≤g) (hBw:B≤w.heap.size) (hI:I s.asked w) :
  Calls Tryz.prog 208 #[.pointer (some ⟨g,0,none⟩),.int .i64 x] w fun e w'=>e = .returned (.agg #[.int .i64 n,.bool p])∧I (gask V x s).asked w' ∧
   Blk w' g #[.func (.func fn) #[] caps,.int .i64 (gask V x s).w,.int .i64 (gask V x s).n,.bool (gask V x s).ok] 292∧w.heap.size≤w'.heap.size∧Keeps 290 w w':=by
 obtain ⟨y0,c0,f0,t0,p0,r0⟩:=hg.facts
 have M:Hid (∀ W,I s.asked W→Calls Tryz.prog fn (#[.int .i64 x]++caps) W fun e w'=>e = .returned (.tuple #[.int .i64 n,.bool p])∧I (s.asked ++ [x]) w'∧Keeps 290 W w'∧Keeps 292 W w'):=hC
 have HS:=Lib.hid hS
 have HI:=Lib.hid hI
 have HG:=Lib.hid hg
 have HV:=Lib.hid hV
 clear hC hS hI hg hV
 go_enter Tryz.func208,Tryz.ntmps208
 go_wp2_with fail
 refine (M.out _ (HS.out _ _ _ (Side.refl.alloc _) HI.out)).mono ?_;rintro e w1 ⟨rfl,hI1,k50,k52⟩
 have HI1:=Lib.hid hI1
 have HB1:=Lib.hid (k50.2 _ _ (Blk.new w _ _))
 have HG1:=Lib.hid (k52.2 _ _ (HG.out.alloc _))
 have K50:=Lib.hid k50
 have K52:=Lib.hid k52
 clear hI1 k50 k52 c0 f0 t0 p0 r0 HI
 obtain ⟨y1,c1,f1,t1,p1,r1⟩:=HG1.out.facts
 obtain ⟨y2,c2,f2,t2,p2,r2⟩:=HB1.out.facts
 have ne1:¬ (g=w.heap.size):=by omega
 have ne2:¬ (w.heap.size=g):=by omega
 have ne3:¬ (g=w1.heap.size):=by omega
 have ne4:¬ (w.heap.size=w1.heap.size):=by omega
 obtain ⟨sw,hsw⟩:∃ k,k=s.w:=⟨_,rfl⟩
 obtain ⟨sn,hsn⟩:∃ k,k=s.n:=⟨_,rfl⟩
 obtain ⟨so,hso⟩:∃ k,k=s.ok:=⟨_,rfl⟩
 have GA:Hid (better V x s=(p&&(!so||decide (n<sn)||(n==sn&&decide (x<sw))))):=by unfold better;rw [HV.out,hsw,hsn,hso];exact rfl
 simp only [← hsw,← hsn,← hso] at c1 r1
 have HW:=Lib.hid hsw
 have HN:=Lib.hid hsn
 have HO:=Lib.hid hso
 clear hsw hsn hso
 cases p
 ·have GB:Hid (better V x s=false):=by rw [GA.out];exact rfl
  clear GA
  go_wp2
  refine bodyPost_row 2 #[.int .i64 n,.bool _] rfl rfl rfl Tryz.underlying290 rfl (by kernel_rfl) (rc2 (by go_simp) (by go_simp)) ⟨rfl,?_,?_,?_,?_⟩;(focus (rw [gask_len];exact HS.out _ _ _ (by repeat (first|with_reducible exact Side.refl|with_reducible refine Side.alloc ?_ _|with_reducible refine Side.drew ?_|(with_reducible refine Side.setCell (g:=g) ?_ _ _ ?hB (.inr ⟨_,.inr HG1.out⟩);case hB=>omega)|(with_reducible refine Side.setCell ?_ _ _ _ ?hB (.inr ⟨_,.inl HB1.out⟩);case hB=>omega))) HI1.out));(focus (rw [gask_w,gask_n,gask_ok,GB.out];apply Blk.of_eq;(focus ((repeat (first|with_reducible exact HG1.out|with_reducible apply Blk.alloc|with_reducible apply Blk.drew|with_reducible apply Blk.setCell_same (b:=g)|(with_reducible apply Blk.setCell_other;case hne=>(first|omega|(simp;done)|(simp;omega)))))));(focus (first|rfl|(simp [HW.out.symm,HN.out.symm,HO.out.symm,HV.out];done)|(simp [HW.out.symm,HN.out.symm,HO.out.symm,HV.out];omega)))));(focus (first|(simp;done)|(simp;omega)));exact ⟨(by first|(simp;done)|(simp;omega)),(fun k cs hb=>(by have hk:=hb.lt;have hk2:=Blk.ne hb HG.out (by decide);have hb2:=K50.out.2 k cs (hb.alloc _);repeat (first|with_reducible exact hb2|with_reducible refine Blk.alloc ?_ _|with_reducible refine Blk.drew ?_|(with_reducible apply Blk.setCell_other;case hne=>(first|omega|(simp;done)|(simp;omega))))))⟩
 ·cases so
  ·have GB:Hid (better V x s=true):=by rw [GA.out];exact rfl
   clear GA
   go_wp2_with fail
   go_region
   all_goals go_wp2
   all_goals (refine bodyPost_row 2 #[.int .i64 n,.bool _] rfl rfl rfl Tryz.underlying290 rfl (by kernel_rfl) (rc2 (by go_simp) (by go_simp)) ⟨rfl,?_,?_,?_,?_⟩;(focus (rw [gask_len];exact HS.out _ _ _ (by repeat (first|with_reducible exact Side.refl|with_reducible refine Side.alloc ?_ _|with_reducible refine Side.drew ?_|(with_reducible refine Side.setCell (g:=g) ?_ _ _ ?hB (.inr ⟨_,.inr HG1.out⟩);case hB=>omega)|(with_reducible refine Side.setCell ?_ _ _ _ ?hB (.inr ⟨_,.inl HB1.out⟩);case hB=>omega))) HI1.out));(focus (rw [gask_w,gask_n,gask_ok,GB.out];apply Blk.of_eq;(focus ((repeat (first|with_reducible exact HG1.out|with_reducible apply Blk.alloc|with_reducible apply Blk.drew|with_reducible apply Blk.setCell_same (b:=g)|(with_reducible apply Blk.setCell_other;case hne=>(first|omega|(simp;done)|(simp;omega)))))));(focus (first|rfl|(simp [HW.out.symm,HN.out.symm,HO.out.symm,HV.out];done)|(simp [HW.out.symm,HN.out.symm,HO.out.symm,HV.out];omega)))));(focus (first|(simp;done)|(simp;omega)));exact ⟨(by first|(simp;done)|(simp;omega)),(fun k cs hb=>(by have hk:=hb.lt;have hk2:=Blk.ne hb HG.out (by decide);have hb2:=K50.out.2 k cs (hb.alloc _);repeat (first|with_reducible exact hb2|with_reducible refine Blk.alloc ?_ _|with_reducible refine Blk.drew ?_|(with_reducible apply Blk.setCell_other;case hne=>(first|omega|(simp;done)|(simp;omega))))))⟩)
  ·by_cases h1:n<sn
   ·have GB:Hid (better V x s=true):=by show better V x s=_;rw [GA.out];simp [h1]
    clear GA
    go_wp2_with fail
    go_region
    all_goals go_wp2
    all_goals (refine bodyPost_row 2 #[.int .i64 n,.bool _] rfl rfl rfl Tryz.underlying290 rfl (by kernel_rfl) (rc2 (by go_simp) (by go_simp)) ⟨rfl,?_,?_,?_,?_⟩;(focus (rw [gask_len];exact HS.out _ _ _ (by repeat (first|with_reducible exact Side.refl|with_reducible refine Side.alloc ?_ _|with_reducible refine Side.drew ?_|(with_reducible refine Side.setCell (g:=g) ?_ _ _ ?hB (.inr ⟨_,.inr HG1.out⟩);case hB=>omega)|(with_reducible refine Side.setCell ?_ _ _ _ ?hB (.inr ⟨_,.inl HB1.out⟩);case hB=>omega))) HI1.out));(focus (rw [gask_w,gask_n,gask_ok,GB.out];apply Blk.of_eq;(focus ((repeat (first|with_reducible exact HG1.out|with_reducible apply Blk.alloc|with_reducible apply Blk.drew|with_reducible apply Blk.setCell_same (b:=g)|(with_reducible apply Blk.setCell_other;case hne=>(first|omega|(simp;done)|(simp;omega)))))));(focus (first|rfl|(simp [HW.out.symm,HN.out.symm,HO.out.symm,HV.out];done)|(simp [HW.out.symm,HN.out.symm,HO.out.symm,HV.out];omega)))));(focus (first|(simp;done)|(simp;omega)));exact ⟨(by first|(simp;done)|(simp;omega)),(fun k cs hb=>(by have hk:=hb.lt;have hk2:=Blk.ne hb HG.out (by decide);have hb2:=K50.out.2 k cs (hb.alloc _);repeat (first|with_reducible exact hb2|with_reducible refine Blk.alloc ?_ _|with_reducible refine Blk.drew ?_|(with_reducible apply Blk.setCell_other;case hne=>(first|omega|(simp;done)|(simp;omega))))))⟩)
   ·by_cases h2:n=sn
    ·by_cases h3:x<sw
     ·have GB:Hid (better V x s=true):=by show better V x s=_;rw [GA.out];simp [h2,h3]
      clear GA
      go_wp2_with fail
      go_region
      all_goals go_wp2
      all_goals (refine bodyPost_row 2 #[.int .i64 n,.bool _] rfl rfl rfl Tryz.underlying290 rfl (by kernel_rfl) (rc2 (by go_simp) (by go_simp)) ⟨rfl,?_,?_,?_,?_⟩;(focus (rw [gask_len];exact HS.out _ _ _ (by repeat (first|with_reducible exact Side.refl|with_reducible refine Side.alloc ?_ _|with_reducible refine Side.drew ?_|(with_reducible refine Side.setCell (g:=g) ?_ _ _ ?hB (.inr ⟨_,.inr HG1.out⟩);case hB=>omega)|(with_reducible refine Side.setCell ?_ _ _ _ ?hB (.inr ⟨_,.inl HB1.out⟩);case hB=>omega))) HI1.out));(focus (rw [gask_w,gask_n,gask_ok,GB.out];apply Blk.of_eq;(focus ((repeat (first|with_reducible exact HG1.out|with_reducible apply Blk.alloc|with_reducible apply Blk.drew|with_reducible apply Blk.setCell_same (b:=g)|(with_reducible apply Blk.setCell_other;case hne=>(first|omega|(simp;done)|(simp;omega)))))));(focus (first|rfl|(simp [HW.out.symm,HN.out.symm,HO.out.symm,HV.out];done)|(simp [HW.out.symm,HN.out.symm,HO.out.symm,HV.out];omega)))));(focus (first|(simp;done)|(simp;omega)));exact ⟨(by first|(simp;done)|(simp;omega)),(fun k cs hb=>(by have hk:=hb.lt;have hk2:=Blk.ne hb HG.out (by decide);have hb2:=K50.out.2 k cs (hb.alloc _);repeat (first|with_reducible exact hb2|with_reducible refine Blk.alloc ?_ _|with_reducible refine Blk.drew ?_|(with_reducible apply Blk.setCell_other;case hne=>(first|omega|(simp;done)|(simp;omega))))))⟩)
     ·have GB:Hid (better V x s=false):=by show better V x s=_;rw [GA.out];simp [h2,h3]
      clear GA
      go_wp2
      refine bodyPost_row 2 #[.int .i64 n,.bool _] rfl rfl rfl Tryz.underlying290 rfl (by kernel_rfl) (rc2 (by go_simp) (by go_simp)) ⟨rfl,?_,?_,?_,?_⟩;(focus (rw [gask_len];exact HS.out _ _ _ (by repeat (first|with_reducible exact Side.refl|with_reducible refine Side.alloc ?_ _|with_reducible refine Side.drew ?_|(with_reducible refine Side.setCell (g:=g) ?_ _ _ ?hB (.inr ⟨_,.inr HG1.out⟩);case hB=>omega)|(with_reducible refine Side.setCell ?_ _ _ _ ?hB (.inr ⟨_,.inl HB1.out⟩);case hB=>omega))) HI1.out));(focus (rw [gask_w,gask_n,gask_ok,GB.out];apply Blk.of_eq;(focus ((repeat (first|with_reducible exact HG1.out|with_reducible apply Blk.alloc|with_reducible apply Blk.drew|with_reducible apply Blk.setCell_same (b:=g)|(with_reducible apply Blk.setCell_other;case hne=>(first|omega|(simp;done)|(simp;omega)))))));(focus (first|rfl|(simp [HW.out.symm,HN.out.symm,HO.out.symm,HV.out];done)|(simp [HW.out.symm,HN.out.symm,HO.out.symm,HV.out];omega)))));(focus (first|(simp;done)|(simp;omega)));exact ⟨(by first|(simp;done)|(simp;omega)),(fun k cs hb=>(by have hk:=hb.lt;have hk2:=Blk.ne hb HG.out (by decide);have hb2:=K50.out.2 k cs (hb.alloc _);repeat (first|with_reducible exact hb2|with_reducible refine Blk.alloc ?_ _|with_reducible refine Blk.drew ?_|(with_reducible apply Blk.setCell_other;case hne=>(first|omega|(simp;done)|(simp;omega))))))⟩
    ·have GB:Hid (better V x s=false):=by show better V x s=_;rw [GA.out];simp [h1,h2]
     clear GA
     go_wp2
     refine bodyPost_row 2 #[.int .i64 n,.bool _] rfl rfl rfl Tryz.underlying290 rfl (by kernel_rfl) (rc2 (by go_simp) (by go_simp)) ⟨rfl,?_,?_,?_,?_⟩;(focus (rw [gask_len];exact HS.out _ _ _ (by repeat (first|with_reducible exact Side.refl|with_reducible refine Side.alloc ?_ _|with_reducible refine Side.drew ?_|(with_reducible refine Side.setCell (g:=g) ?_ _ _ ?hB (.inr ⟨_,.inr HG1.out⟩);case hB=>omega)|(with_reducible refine Side.setCell ?_ _ _ _ ?hB (.inr ⟨_,.inl HB1.out⟩);case hB=>omega))) HI1.out));(focus (rw [gask_w,gask_n,gask_ok,GB.out];apply Blk.of_eq;(focus ((repeat (first|with_reducible exact HG1.out|with_reducible apply Blk.alloc|with_reducible apply Blk.drew|with_reducible apply Blk.setCell_same (b:=g)|(with_reducible apply Blk.setCell_other;case hne=>(first|omega|(simp;done)|(simp;omega)))))));(focus (first|rfl|(simp [HW.out.symm,HN.out.symm,HO.out.symm,HV.out];done)|(simp [HW.out.symm,HN.out.symm,HO.out.symm,HV.out];omega)))));(focus (first|(simp;done)|(simp;omega)));exact ⟨(by first|(simp;done)|(simp;omega)),(fun k cs hb=>(by have hk:=hb.lt;have hk2:=Blk.ne hb HG.out (by decide);have hb2:=K50.out.2 k cs (hb.alloc _);repeat (first|with_reducible exact hb2|with_reducible refine Blk.alloc ?_ _|with_reducible refine Blk.drew ?_|(with_reducible apply Blk.setCell_other;case hne=>(first|omega|(simp;done)|(simp;omega))))))⟩
open Go.RowKit
def Exit.jumps (K:Nat→Act→World→Prop) (Q:Exit→Act→World→Prop):Exit→Act→World→Prop
 | .goto l,a,w=>K l a w
 | e,a,w=>Q e a w
theorem wp_scope_labels {P:Program} {a:Act} {w:World} {Q:Exit→Act→World→Prop} {c:Code} (J:Nat→Act→World→Prop) (μ:Nat→Act→World→Nat)
  (pass:∀ l a w,J l a w→∃ rest,findLabel c l=some (Code.skip.seq rest)∧rest.wp P (Exit.jumps (fun l' a' w'=>J l' a' w' ∧ μ l' a' w' < μ l a w) Q) a w)
  (first:(∀ l a w,J l a w→∃ rest,findLabel c l=some (Code.skip.seq rest)∧rest.wp P (Exit.jumps J Q) a w)→c.wp P (Exit.jumps J Q) a w):(Code.scope c).wp P Q a w:=by
 intro b k cs
 have key:∀ n l rest a w,μ l a w=n→J l a w→findLabel c l=some (Code.skip.seq rest)→∃ e a' w',Q e a' w'∧Arrives P (lone (b.at a (.code (Code.skip.seq rest) :: .inScope c :: k)) cs w) b k cs e a' w':=by
  intro n
  induction n using Nat.strongRecOn with
  | _ n ih =>
   intro l rest a w hn hJ hf
   obtain ⟨rest',hf',hw⟩:=pass l a w hJ
   rw [hf] at hf';cases hf'
   obtain ⟨e,a₁,w₁,hq,harr⟩:=wp_seq (wp_skip (Q:=Exit.then _ _) hw) b (.inScope c :: k) cs
   cases e with
   | normal=>exact ⟨.normal,a₁,w₁,hq,Steps.trans harr (.one step_inScope)⟩
   | exit id=>exact ⟨.exit id,a₁,w₁,hq,fun k' hk=>harr k' (by simp [exitTo,hk])⟩
   | goto l' =>
    obtain ⟨hJ',hlt⟩:=hq
    obtain ⟨rest₂,hf₂,_⟩:=pass l' a₁ w₁ hJ'
    obtain ⟨e₂,a₂,w₂,hq₂,harr₂⟩:=ih _ (by omega) l' rest₂ a₁ w₁ rfl hJ' hf₂
    exact ⟨e₂,a₂,w₂,hq₂,.of_steps (harr _ (by simp [gotoIn,hf₂])) harr₂⟩
   | ret=>exact ⟨_,a₁,w₁,hq,harr⟩
   | panic ch=>exact ⟨_,a₁,w₁,hq,harr⟩
   | outgrown=>exact ⟨_,a₁,w₁,hq,harr⟩
 have hp:∀ l a w,J l a w→∃ rest,findLabel c l=some (Code.skip.seq rest)∧rest.wp P (Exit.jumps J Q) a w:=by
  intro l a w hJ
  obtain ⟨rest,hf,hw⟩:=pass l a w hJ
  refine ⟨rest,hf,Code.wp_mono (fun e a' w' h=>?_) hw⟩
  cases e with
  | goto l'=>exact h.1
  | normal=>exact h
  | exit id=>exact h
  | ret=>exact h
  | panic ch=>exact h
  | outgrown=>exact h
 obtain ⟨e,a₁,w₁,hq,harr⟩:=first hp b (.inScope c :: k) cs
 cases e with
 | normal=>exact ⟨.normal,a₁,w₁,hq,.head step_scope (Steps.trans harr (.one step_inScope))⟩
 | exit id=>exact ⟨.exit id,a₁,w₁,hq,fun k' hk => .head step_scope (harr k' (by simp [exitTo,hk]))⟩
 | goto l' =>
  obtain ⟨rest₂,hf₂,_⟩:=pass l' a₁ w₁ hq
  obtain ⟨e₂,a₂,w₂,hq₂,harr₂⟩:=key _ l' rest₂ a₁ w₁ rfl hq hf₂
  exact ⟨e₂,a₂,w₂,hq₂,.of_steps (.head step_scope (harr _ (by simp [gotoIn,hf₂]))) harr₂⟩
 | ret=>exact ⟨_,a₁,w₁,hq,.of_steps (.one step_scope) harr⟩
 | panic ch=>exact ⟨_,a₁,w₁,hq,.of_steps (.one step_scope) harr⟩
 | outgrown=>exact ⟨_,a₁,w₁,hq,.of_steps (.one step_scope) harr⟩
theorem side_of_below {t u:TypeId} {B:Nat} {w w':World} (h:Below w.heap.size w w') (_:B≤w.heap.size):Side t u B w w':=⟨h.os,h.tape,h.output,h.size,fun k hk _=>h.block k hk⟩
theorem nilFunc_no (fn:FuncId) (caps:Array Value) (w:World):Sem.run Tryz.prog (binOp BinOp.eql 223 (Value.func (Fn.func fn) #[] caps) Value.nilFunc) w = .ok (.bool false) w:=by rfl
def atLabel (fn:FuncId) (caps:Array Value) (V:Int→Int × Bool) (I:List Int→World→Prop) (B:Nat) (l:Nat) (A:Act) (w:World):Prop :=
 ∃ (j g g1 g2:Nat) (a b x y:Int) (s:GS) (u12 u13 u14 u15 u16 u17 u18 u19 u20 u21 u22 u23 u24 u25 u26 u27 u28 u29 u30 u31 u32 u33 u34 u35 u36 u37 u38 u39 u40 u41 u42 u43 u44 u45 u46 u47 u48 u49 u50 u51 u52 u53 u54 u55 u56 u57 u58 u59 u60 u61 u62 u63 u64 u65 u66 u67 u68 u69 u70 u71 u72:Value),
  A = { tmps:=#[.func (.func fn) #[] caps,undef,.int .i64 0,.int .i64 0,.bool false,.pointer (some ⟨g,0,none⟩),.int .i64 a,.int .i64 b,.int .i64 x,.int .i64 y,.pointer (some ⟨g1,0,none⟩),.pointer (some ⟨g2,0,none⟩),u12,u13,u14,u15,u16,u17,u18,u19,u20,u21,u22,u23,u24,u25,u26,u27,u28,u29,u30,u31,u32,u33,u34,u35,u36,u37,u38,u39,u40,u41,u42,u43,u44,u45,u46,u47,u48,u49,u50,u51,u52,u53,u54,u55,u56,u57,u58,u59,u60,u61,u62,u63,u64,u65,u66,u67,u68,u69,u70,u71,u72],defers:=[] } ∧
  j≤6∧(a,s)=giter V j∧b=a+gD j∧x=a+gX j∧y=a+gY j∧B≤g∧B≤g1∧B≤g2∧I s.asked w∧B≤w.heap.size∧g1≠g2∧l≤1∧(l=1→j<6∧gm (V x) (V y)=false) ∧
  Blk w g #[.func (.func fn) #[] caps,.int .i64 s.w,.int .i64 s.n,.bool s.ok] 292 ∧
  Blk w g1 #[.int .i64 (V x).1,.bool (V x).2] 290∧Blk w g2 #[.int .i64 (V y).1,.bool (V y).2] 290
def atMeasure (l:Nat) (A:Act) (_:World):Nat :=
 match A.tmps.getD 6 undef,A.tmps.getD 7 undef with
 | .int _ a,.int _ b=>2*(b-a).toNat+(1-l)
 | _,_=>0
theorem step_left (V:Int→Int × Bool) (j:Nat) (a:Int) (s:GS) (h:(a,s)=giter V j) (hm:gm (V (a+gX j)) (V (a+gY j))=true):giter V (j+1)=gleft V j a s:=by
 unfold giter gstep;rw [← h];simp only [hm,cond_true]
theorem step_right (V:Int→Int × Bool) (j:Nat) (a:Int) (s:GS) (h:(a,s)=giter V j) (hm:gm (V (a+gX j)) (V (a+gY j))=false):giter V (j+1)=gright V j a s:=by
 unfold giter gstep;rw [← h];simp only [hm,cond_false]
theorem best_c (fn:FuncId) (caps:Array Value) (V:Int→Int × Bool) (I:List Int→World→Prop) (w:World) (hfn:∀ args w,Sem.run Tryz.prog (callFunc fn args) w = .ok (.enter fn args) w)
  (hS:∀ l w1 w2,Side 290 292 w.heap.size w1 w2→I l w1→I l w2)
  (hC:∀ (l:List Int) (x:Int) (w1:World),l.length≤7→0≤x→x≤34→I l w1→Calls Tryz.prog fn (#[.int .i64 x]++caps) w1 fun e w'=>e = .returned (.tuple #[.int .i64 (V x).1,.bool (V x).2])∧I (l ++ [x]) w'∧Keeps 290 w1 w'∧Keeps 292 w1 w')
  (hI:I [] w) :
  Calls Tryz.prog 157 #[.func (.func fn) #[] caps] w fun e w'=>e = .returned (.tuple #[.int .i64 (gfin V).w,.int .i64 (gfin V).n,.bool (gfin V).ok])∧I (gfin V).asked w'∧w.heap.size≤w'.heap.size:=by
 have HS:=Lib.hid hS
 have HC:=Lib.hid hC
 have HI:=Lib.hid hI
 clear hS hC hI
 have HNF:=nilFunc_no fn caps
 go_enter Tryz.func157,Tryz.ntmps157
 go_wp2_with fail
 refine wp_scope_labels (atLabel fn caps V I w.heap.size) atMeasure ?_ ?_
 ·rintro l A W ⟨j,g,g1,g2,a,b,x,y,s,u12,u13,u14,u15,u16,u17,u18,u19,u20,u21,u22,u23,u24,u25,u26,u27,u28,u29,u30,u31,u32,u33,u34,u35,u36,u37,u38,u39,u40,u41,u42,u43,u44,u45,u46,u47,u48,u49,u50,u51,u52,u53,u54,u55,u56,u57,u58,u59,u60,u61,u62,u63,u64,u65,u66,u67,u68,u69,u70,u71,u72,rfl,hj,hit,hb,hx,hy,hBg,hBg1,hBg2,hIs,hBw,hne,hl,hl1,hG,hG1,hG2⟩
  obtain ⟨y0,c0,f0,-,-,r0⟩:=hG.facts
  obtain ⟨y1,c1,f1,-,-,r1⟩:=hG1.facts
  obtain ⟨y2,c2,f2,-,-,r2⟩:=hG2.facts
  have nE1:=Blk.ne hG hG1 (by decide)
  have nE2:=Blk.ne hG hG2 (by decide)
  have nE3:=Ne.symm nE1
  have nE4:=Ne.symm nE2
  have nE5:=Ne.symm hne
  have HI:=Lib.hid hIs
  have HG:=Lib.hid hG
  have HG1:=Lib.hid hG1
  have HG2:=Lib.hid hG2
  have hro:=(giter_ok V j hj).1
  have hlen:s.asked.length≤7:=by
   have h:=(giter_ok V j hj).2.2
   rw [← hit] at h
   simp only at h
   split at h <;> omega
  rw [← hit] at hro
  simp only at hro
  clear hIs hG hG1 hG2
  rcases Nat.lt_or_ge 0 l with h0|h0
  ·obtain rfl:l=1:=by omega
   obtain ⟨hj6,hgm⟩:=hl1 rfl
   have hgx:=gXY j hj6
   refine ⟨_,rfl,?_⟩
   obtain ⟨z,hz⟩:∃ z,z=x+b-y:=⟨_,rfl⟩
   have e1:wrap64 (x+b)=x+b:=by unfold wrap64;omega
   have e2:wrap64 (x+b-y)=z:=by rw [hz];unfold wrap64;omega
   have hstep:=Lib.hid (step_right V j a s hit (by rw [← hx,← hy];exact hgm))
   have HZ2:Hid (z=x+gY (j+1)):=show z=x+gY (j+1) from by omega
   have HR:Hid (0≤z∧z≤34):=show 0≤z∧z≤34 from by have:=HZ2.out;omega
   by_cases h5:j=5
   ·have hzy:z=y:=by subst h5;have h1:=HZ2.out;simp only [gX,gY,gD] at *;omega
    rw [hzy] at e2 HZ2
    clear hzy
    have HX:=Lib.hid hx
    have HY:=Lib.hid hy
    have HB:=Lib.hid hb
    replace hgx:=Lib.hid hgx
    clear hgm hit hl1 hx hy hb hz hro
    go_wp2_with fail
    go_region
    all_goals go_wp2_with fail
    all_goals go_step3
    all_goals simp only [e2]
    all_goals focus
     refine ⟨⟨j+1,g,g1,g2,x,b,y,y,s,_,_,_,_,_,_,_,_,_,_,_,_,_,_,_,_,_,_,_,_,_,_,_,_,_,_,_,_,_,_,_,_,_,_,_,_,_,_,_,_,_,_,_,_,_,_,_,_,_,_,_,_,_,_,_,_,_,_,_,_,_,rfl,by omega,by rw [hstep.out];unfold gright;rw [if_pos h5,← HX.out],by have:=HX.out;have:=HY.out;have:=HB.out;have:=hgx.out;have:=HZ2.out;omega,by have:=HX.out;have:=HY.out;have:=HB.out;have:=hgx.out;have:=HZ2.out;omega,by have:=HX.out;have:=HY.out;have:=HB.out;have:=hgx.out;have:=HZ2.out;omega,by omega,by omega,by omega,HS.out _ _ _ (by repeat (first|with_reducible exact Side.refl|with_reducible refine Side.alloc ?_ _|with_reducible refine Side.drew ?_|(with_reducible refine Side.setCell (g:=g1) ?_ _ _ ?hB (.inr ⟨_,.inl HG1.out⟩);case hB=>omega)|(with_reducible refine Side.setCell (g:=g2) ?_ _ _ ?hB (.inr ⟨_,.inl HG2.out⟩);case hB=>omega))) HI.out,(by first|omega|(simp;done)|(simp;omega)),by omega,by decide,fun h=>absurd h (by decide),(by apply Blk.of_eq;(focus (repeat (first|with_reducible exact HG.out|with_reducible apply Blk.alloc|with_reducible apply Blk.drew|with_reducible apply Blk.setCell_same (b:=g)|(with_reducible apply Blk.setCell_other;case hne=>(first|omega|(simp;done)|(simp;omega)))))); (focus (first|rfl|(simp;done)))),(by apply Blk.of_eq;(focus (repeat (first|with_reducible exact HG1.out|with_reducible apply Blk.alloc|with_reducible apply Blk.drew|with_reducible apply Blk.setCell_same (b:=g1)|(with_reducible apply Blk.setCell_other;case hne=>(first|omega|(simp;done)|(simp;omega)))))); (focus (first|rfl|(simp;done)))),(by apply Blk.of_eq;(focus (repeat (first|with_reducible exact HG2.out|with_reducible apply Blk.alloc|with_reducible apply Blk.drew|with_reducible apply Blk.setCell_same (b:=g2)|(with_reducible apply Blk.setCell_other;case hne=>(first|omega|(simp;done)|(simp;omega)))))); (focus (first|rfl|(simp;done))))⟩,?_⟩
     have h1:=HX.out;have h2:=HY.out;have h3:=HB.out;have h4:=hgx.out;have h5':=HZ2.out
     first|(simp [atMeasure];done)|(simp [atMeasure];omega)
   · have hzy : ¬ z = y := by
       have:gX (j+1)<gY (j+1):=(gXY (j+1) (by omega)).2.2.2.2.2.2.1
       have:=HZ2.out
       omega
     have HX:=Lib.hid hx
     have HY:=Lib.hid hy
     have HB:=Lib.hid hb
     replace hgx:=Lib.hid hgx
     clear hgm hit hl1 hx hy hb hz hro
     go_wp2_with fail
     go_region
     all_goals go_wp2_with fail
     all_goals focus
      refine (ask_c fn caps g w.heap.size V (V z).1 (V z).2 I s z _ rfl hfn HS.out (fun w1 h=>HC.out _ z w1 hlen HR.out.1 HR.out.2 h) (by apply Blk.of_eq;(focus (repeat (first|with_reducible exact HG.out|with_reducible apply Blk.alloc|with_reducible apply Blk.drew|with_reducible apply Blk.setCell_same (b:=g)|(with_reducible apply Blk.setCell_other;case hne=>(first|omega|(simp;done)|(simp;omega)))))); (focus (first|rfl|(simp;done)))) (by omega) (by first|omega|(simp;done)|(simp;omega)) (HS.out _ _ _ (by repeat (first|with_reducible exact Side.refl|with_reducible refine Side.alloc ?_ _|with_reducible refine Side.drew ?_|(with_reducible refine Side.setCell (g:=g1) ?_ _ _ ?hB (.inr ⟨_,.inl HG1.out⟩);case hB=>omega)|(with_reducible refine Side.setCell (g:=g2) ?_ _ _ ?hB (.inr ⟨_,.inl HG2.out⟩);case hB=>omega))) HI.out)).mono ?_
      rintro e w3 ⟨rfl,hI3,hG3,hz3,k50⟩
      have HG1b:=Lib.hid (k50.2 g1 #[.int .i64 (V y).1,.bool (V y).2] (by apply Blk.of_eq;(focus (repeat (first|with_reducible exact HG1.out|with_reducible apply Blk.alloc|with_reducible apply Blk.drew|with_reducible apply Blk.setCell_same (b:=g1)|(with_reducible apply Blk.setCell_other;case hne=>(first|omega|(simp;done)|(simp;omega)))))); (focus (first|rfl|(simp;done)))))
      have HG2b:=Lib.hid (k50.2 g2 #[.int .i64 (V y).1,.bool (V y).2] (by apply Blk.of_eq;(focus (repeat (first|with_reducible exact HG2.out|with_reducible apply Blk.alloc|with_reducible apply Blk.drew|with_reducible apply Blk.setCell_same (b:=g2)|(with_reducible apply Blk.setCell_other;case hne=>(first|omega|(simp;done)|(simp;omega)))))); (focus (first|rfl|(simp;done)))))
      have HI3:=Lib.hid hI3
      have HG3:=Lib.hid hG3
      have HZ3:=hz3
      simp at HZ3
      clear hI3 hG3 hz3 k50
      obtain ⟨y3,c3,f3,-,-,r3⟩:=HG1b.out.facts
      obtain ⟨y4,c4,f4,-,-,r4⟩:=HG2b.out.facts
      go_wp2_with fail
      go_step3
      refine ⟨⟨j+1,g,g1,g2,x,b,y,z,gask V z s,_,_,_,_,_,_,_,_,_,_,_,_,_,_,_,_,_,_,_,_,_,_,_,_,_,_,_,_,_,_,_,_,_,_,_,_,_,_,_,_,_,_,_,_,_,_,_,_,_,_,_,_,_,_,_,_,_,_,_,_,_,rfl,by omega,by rw [hstep.out];unfold gright;rw [if_neg h5,← HX.out,← HZ2.out],by have:=HX.out;have:=HY.out;have:=HB.out;have:=hgx.out;have:=HZ2.out;omega,by have:=HX.out;have:=HY.out;have:=HB.out;have:=hgx.out;have:=HZ2.out;omega,by have:=HX.out;have:=HY.out;have:=HB.out;have:=hgx.out;have:=HZ2.out;omega,by omega,by omega,by omega,HS.out _ _ _ (by repeat (first|with_reducible exact Side.refl|with_reducible refine Side.alloc ?_ _|with_reducible refine Side.drew ?_|(with_reducible refine Side.setCell (g:=g1) ?_ _ _ ?hB (.inr ⟨_,.inl HG1b.out⟩);case hB=>omega)|(with_reducible refine Side.setCell (g:=g2) ?_ _ _ ?hB (.inr ⟨_,.inl HG2b.out⟩);case hB=>omega))) HI3.out,(by first|omega|(simp;done)|(simp;omega)),by omega,by decide,fun h=>absurd h (by decide),(by apply Blk.of_eq;(focus (repeat (first|with_reducible exact HG3.out|with_reducible apply Blk.alloc|with_reducible apply Blk.drew|with_reducible apply Blk.setCell_same (b:=g)|(with_reducible apply Blk.setCell_other;case hne=>(first|omega|(simp;done)|(simp;omega)))))); (focus (first|rfl|(simp;done)))),(by apply Blk.of_eq;(focus (repeat (first|with_reducible exact HG1b.out|with_reducible apply Blk.alloc|with_reducible apply Blk.drew|with_reducible apply Blk.setCell_same (b:=g1)|(with_reducible apply Blk.setCell_other;case hne=>(first|omega|(simp;done)|(simp;omega)))))); (focus (first|rfl|(simp;done)))),(by apply Blk.of_eq;(focus (repeat (first|with_reducible exact HG2b.out|with_reducible apply Blk.alloc|with_reducible apply Blk.drew|with_reducible apply Blk.setCell_same (b:=g2)|(with_reducible apply Blk.setCell_other;case hne=>(first|omega|(simp;done)|(simp;omega)))))); (focus (first|rfl|(simp;done))))⟩,?_⟩
      have h1:=HX.out;have h2:=HY.out;have h3:=HB.out;have h4:=hgx.out;have h5':=HZ2.out
      first|(simp [atMeasure];done)|(simp [atMeasure];omega)
  ·obtain rfl:l=0:=by omega
   refine ⟨_,rfl,?_⟩
   clear hl1
   by_cases h6:j=6
   ·have hd:wrap64 (b-a)=2:=by subst h6;simp only [gD] at hb;rw [hb];unfold wrap64;omega
    have hfin:Hid (s=gfin V):=show s=gfin V from by subst h6;unfold gfin;rw [← hit]
    clear hb hx hy hit
    go_wp2_with fail
    go_region
    all_goals go_wp2_with fail
    all_goals simp only [Exit.jumps]
    all_goals go_ret3
    all_goals exact ⟨by rw [← hfin.out];rfl,by rw [← hfin.out];exact HS.out _ _ _ (by repeat (first|with_reducible exact Side.refl|with_reducible refine Side.alloc ?_ _|with_reducible refine Side.drew ?_|(with_reducible refine Side.setCell (g:=g1) ?_ _ _ ?hB (.inr ⟨_,.inl HG1.out⟩);case hB=>omega)|(with_reducible refine Side.setCell (g:=g2) ?_ _ _ ?hB (.inr ⟨_,.inl HG2.out⟩);case hB=>omega))) HI.out,(by first|omega|(simp;done)|(simp;omega))⟩
   ·have hgx:=gXY j (by omega)
    obtain ⟨D,hD⟩:∃ D,D=gD j:=⟨_,rfl⟩
    have hd:wrap64 (b-a)=D:=by rw [hb,hD];unfold wrap64;omega
    have hd2:¬ D≤2:=by omega
    cases hgm:gm (V x) (V y)
    ·have hm:Hid (gm ((V x).1,(V x).2) ((V y).1,(V y).2)=false):=hgm
     have HGM:=Lib.hid hgm
     have HIT:=Lib.hid hit
     have HX:=Lib.hid hx
     have HY:=Lib.hid hy
     have HB:=Lib.hid hb
     replace hgx:=Lib.hid hgx
     have HZ2:Hid True:=trivial
     clear hgm hit hx hy hb hD
     go_wp2_with fail
     refine (most_c _ _ _ _ _).mono ?_;rintro e w3 ⟨rfl,hb3⟩;rw [hm.out]
     have hz3:=hb3.size
     go_wp2_with fail
     go_step3
     refine ⟨⟨j,g,g1,g2,a,b,x,y,s,_,_,_,_,_,_,_,_,_,_,_,_,_,_,_,_,_,_,_,_,_,_,_,_,_,_,_,_,_,_,_,_,_,_,_,_,_,_,_,_,_,_,_,_,_,_,_,_,_,_,_,_,_,_,_,_,_,_,_,_,_,rfl,by omega,HIT.out,by have:=HX.out;have:=HY.out;have:=HB.out;have:=hgx.out;have:=HZ2.out;omega,by have:=HX.out;have:=HY.out;have:=HB.out;have:=hgx.out;have:=HZ2.out;omega,by have:=HX.out;have:=HY.out;have:=HB.out;have:=hgx.out;have:=HZ2.out;omega,by omega,by omega,by omega,HS.out _ W w3 (side_of_below hb3 (by omega)) HI.out,(by first|omega|(simp;done)|(simp;omega)),by omega,by decide,fun _=>⟨by omega,HGM.out⟩,HG.out.keep hb3,HG1.out.keep hb3,HG2.out.keep hb3⟩,?_⟩
     have h1:=HX.out;have h2:=HY.out;have h3:=HB.out;have h4:=hgx.out;have h5':=HZ2.out
     first|(simp [atMeasure];done)|(simp [atMeasure];omega)
    ·have hm:Hid (gm ((V x).1,(V x).2) ((V y).1,(V y).2)=true):=hgm
     have hstep:=Lib.hid (step_left V j a s hit (by rw [← hx,← hy];exact hgm))
     obtain ⟨z,hz⟩:∃ z,z=a+y-x:=⟨_,rfl⟩
     have e1:wrap64 (a+y)=a+y:=by unfold wrap64;omega
     have e2:wrap64 (a+y-x)=z:=by rw [hz];unfold wrap64;omega
     have HZ2:Hid (z=a+gX (j+1)):=show z=a+gX (j+1) from by omega
     have HR:Hid (0≤z∧z≤34):=show 0≤z∧z≤34 from by have:=HZ2.out;omega
     by_cases h5:j=5
     ·have hzy:z=x:=by subst h5;have h1:=HZ2.out;simp only [gX,gY,gD] at *;omega
      rw [hzy] at e2 HZ2
      clear hzy
      have HX:=Lib.hid hx
      have HY:=Lib.hid hy
      have HB:=Lib.hid hb
      replace hgx:=Lib.hid hgx
      clear hgm hit hx hy hb hz hro hD
      go_wp2_with fail
      refine (most_c _ _ _ _ _).mono ?_;rintro e w4 ⟨rfl,hb4⟩;rw [hm.out]
      have hz4:=hb4.size
      have HI:=Lib.hid (HS.out _ W w4 (side_of_below hb4 (by omega)) HI.out)
      have HG:=Lib.hid (HG.out.keep hb4)
      have HG1:=Lib.hid (HG1.out.keep hb4)
      have HG2:=Lib.hid (HG2.out.keep hb4)
      clear c0 f0 r0 c1 f1 r1 c2 f2 r2 y0 y1 y2 hb4
      obtain ⟨y0,c0,f0,-,-,r0⟩:=HG.out.facts
      obtain ⟨y1,c1,f1,-,-,r1⟩:=HG1.out.facts
      obtain ⟨y2,c2,f2,-,-,r2⟩:=HG2.out.facts
      go_wp2_with fail
      go_region
      all_goals go_wp2_with fail
      all_goals go_step3
      all_goals simp only [e2]
      all_goals focus
       refine ⟨⟨j+1,g,g1,g2,a,y,x,x,s,_,_,_,_,_,_,_,_,_,_,_,_,_,_,_,_,_,_,_,_,_,_,_,_,_,_,_,_,_,_,_,_,_,_,_,_,_,_,_,_,_,_,_,_,_,_,_,_,_,_,_,_,_,_,_,_,_,_,_,_,_,rfl,by omega,by rw [hstep.out];unfold gleft;rw [if_pos h5],by have:=HX.out;have:=HY.out;have:=HB.out;have:=hgx.out;have:=HZ2.out;omega,by have:=HX.out;have:=HY.out;have:=HB.out;have:=hgx.out;have:=HZ2.out;omega,by have:=HX.out;have:=HY.out;have:=HB.out;have:=hgx.out;have:=HZ2.out;omega,by omega,by omega,by omega,HS.out _ _ _ (by repeat (first|with_reducible exact Side.refl|with_reducible refine Side.alloc ?_ _|with_reducible refine Side.drew ?_|(with_reducible refine Side.setCell (g:=g1) ?_ _ _ ?hB (.inr ⟨_,.inl HG1.out⟩);case hB=>omega)|(with_reducible refine Side.setCell (g:=g2) ?_ _ _ ?hB (.inr ⟨_,.inl HG2.out⟩);case hB=>omega))) HI.out,(by first|omega|(simp;done)|(simp;omega)),by omega,by decide,fun h=>absurd h (by decide),(by apply Blk.of_eq;(focus (repeat (first|with_reducible exact HG.out|with_reducible apply Blk.alloc|with_reducible apply Blk.drew|with_reducible apply Blk.setCell_same (b:=g)|(with_reducible apply Blk.setCell_other;case hne=>(first|omega|(simp;done)|(simp;omega)))))); (focus (first|rfl|(simp;done)))),(by apply Blk.of_eq;(focus (repeat (first|with_reducible exact HG1.out|with_reducible apply Blk.alloc|with_reducible apply Blk.drew|with_reducible apply Blk.setCell_same (b:=g1)|(with_reducible apply Blk.setCell_other;case hne=>(first|omega|(simp;done)|(simp;omega)))))); (focus (first|rfl|(simp;done)))),(by apply Blk.of_eq;(focus (repeat (first|with_reducible exact HG2.out|with_reducible apply Blk.alloc|with_reducible apply Blk.drew|with_reducible apply Blk.setCell_same (b:=g2)|(with_reducible apply Blk.setCell_other;case hne=>(first|omega|(simp;done)|(simp;omega)))))); (focus (first|rfl|(simp;done))))⟩,?_⟩
       have h1:=HX.out;have h2:=HY.out;have h3:=HB.out;have h4:=hgx.out;have h5':=HZ2.out
       first|(simp [atMeasure];done)|(simp [atMeasure];omega)
     · have hzy : ¬ z = x := by
         have:gX (j+1)<gY (j+1):=(gXY (j+1) (by omega)).2.2.2.2.2.2.1
         have:=HZ2.out
         omega
       have HX:=Lib.hid hx
       have HY:=Lib.hid hy
       have HB:=Lib.hid hb
       replace hgx:=Lib.hid hgx
       clear hgm hit hx hy hb hz hro hD
       go_wp2_with fail
       refine (most_c _ _ _ _ _).mono ?_;rintro e w4 ⟨rfl,hb4⟩;rw [hm.out]
       have hz4:=hb4.size
       have HI:=Lib.hid (HS.out _ W w4 (side_of_below hb4 (by omega)) HI.out)
       have HG:=Lib.hid (HG.out.keep hb4)
       have HG1:=Lib.hid (HG1.out.keep hb4)
       have HG2:=Lib.hid (HG2.out.keep hb4)
       clear c0 f0 r0 c1 f1 r1 c2 f2 r2 y0 y1 y2 hb4
       obtain ⟨y0,c0,f0,-,-,r0⟩:=HG.out.facts
       obtain ⟨y1,c1,f1,-,-,r1⟩:=HG1.out.facts
       obtain ⟨y2,c2,f2,-,-,r2⟩:=HG2.out.facts
       go_wp2_with fail
       go_region
       all_goals go_wp2_with fail
       all_goals focus
        refine (ask_c fn caps g w.heap.size V (V z).1 (V z).2 I s z _ rfl hfn HS.out (fun w1 h=>HC.out _ z w1 hlen HR.out.1 HR.out.2 h) (by apply Blk.of_eq;(focus (repeat (first|with_reducible exact HG.out|with_reducible apply Blk.alloc|with_reducible apply Blk.drew|with_reducible apply Blk.setCell_same (b:=g)|(with_reducible apply Blk.setCell_other;case hne=>(first|omega|(simp;done)|(simp;omega)))))); (focus (first|rfl|(simp;done)))) (by omega) (by first|omega|(simp;done)|(simp;omega)) (HS.out _ _ _ (by repeat (first|with_reducible exact Side.refl|with_reducible refine Side.alloc ?_ _|with_reducible refine Side.drew ?_|(with_reducible refine Side.setCell (g:=g1) ?_ _ _ ?hB (.inr ⟨_,.inl HG1.out⟩);case hB=>omega)|(with_reducible refine Side.setCell (g:=g2) ?_ _ _ ?hB (.inr ⟨_,.inl HG2.out⟩);case hB=>omega))) HI.out)).mono ?_
        rintro e w3 ⟨rfl,hI3,hG3,hz3,k50⟩
        have HG1b:=Lib.hid (k50.2 g1 #[.int .i64 (V x).1,.bool (V x).2] (by apply Blk.of_eq;(focus (repeat (first|with_reducible exact HG1.out|with_reducible apply Blk.alloc|with_reducible apply Blk.drew|with_reducible apply Blk.setCell_same (b:=g1)|(with_reducible apply Blk.setCell_other;case hne=>(first|omega|(simp;done)|(simp;omega)))))); (focus (first|rfl|(simp;done)))))
        have HG2b:=Lib.hid (k50.2 g2 #[.int .i64 (V x).1,.bool (V x).2] (by apply Blk.of_eq;(focus (repeat (first|with_reducible exact HG2.out|with_reducible apply Blk.alloc|with_reducible apply Blk.drew|with_reducible apply Blk.setCell_same (b:=g2)|(with_reducible apply Blk.setCell_other;case hne=>(first|omega|(simp;done)|(simp;omega)))))); (focus (first|rfl|(simp;done)))))
        have HI3:=Lib.hid hI3
        have HG3:=Lib.hid hG3
        have HZ3:=hz3
        simp at HZ3
        clear hI3 hG3 hz3 k50
        obtain ⟨y3,c3,f3,-,-,r3⟩:=HG1b.out.facts
        obtain ⟨y4,c4,f4,-,-,r4⟩:=HG2b.out.facts
        go_wp2_with fail
        go_step3
        refine ⟨⟨j+1,g,g1,g2,a,y,z,x,gask V z s,_,_,_,_,_,_,_,_,_,_,_,_,_,_,_,_,_,_,_,_,_,_,_,_,_,_,_,_,_,_,_,_,_,_,_,_,_,_,_,_,_,_,_,_,_,_,_,_,_,_,_,_,_,_,_,_,_,_,_,_,_,rfl,by omega,by rw [hstep.out];unfold gleft;rw [if_neg h5,← HZ2.out],by have:=HX.out;have:=HY.out;have:=HB.out;have:=hgx.out;have:=HZ2.out;omega,by have:=HX.out;have:=HY.out;have:=HB.out;have:=hgx.out;have:=HZ2.out;omega,by have:=HX.out;have:=HY.out;have:=HB.out;have:=hgx.out;have:=HZ2.out;omega,by omega,by omega,by omega,HS.out _ _ _ (by repeat (first|with_reducible exact Side.refl|with_reducible refine Side.alloc ?_ _|with_reducible refine Side.drew ?_|(with_reducible refine Side.setCell (g:=g1) ?_ _ _ ?hB (.inr ⟨_,.inl HG1b.out⟩);case hB=>omega)|(with_reducible refine Side.setCell (g:=g2) ?_ _ _ ?hB (.inr ⟨_,.inl HG2b.out⟩);case hB=>omega))) HI3.out,(by first|omega|(simp;done)|(simp;omega)),by omega,by decide,fun h=>absurd h (by decide),(by apply Blk.of_eq;(focus (repeat (first|with_reducible exact HG3.out|with_reducible apply Blk.alloc|with_reducible apply Blk.drew|with_reducible apply Blk.setCell_same (b:=g)|(with_reducible apply Blk.setCell_other;case hne=>(first|omega|(simp;done)|(simp;omega)))))); (focus (first|rfl|(simp;done)))),(by apply Blk.of_eq;(focus (repeat (first|with_reducible exact HG1b.out|with_reducible apply Blk.alloc|with_reducible apply Blk.drew|with_reducible apply Blk.setCell_same (b:=g1)|(with_reducible apply Blk.setCell_other;case hne=>(first|omega|(simp;done)|(simp;omega)))))); (focus (first|rfl|(simp;done)))),(by apply Blk.of_eq;(focus (repeat (first|with_reducible exact HG2b.out|with_reducible apply Blk.alloc|with_reducible apply Blk.drew|with_reducible apply Blk.setCell_same (b:=g2)|(with_reducible apply Blk.setCell_other;case hne=>(first|omega|(simp;done)|(simp;omega)))))); (focus (first|rfl|(simp;done))))⟩,?_⟩
        have h1:=HX.out;have h2:=HY.out;have h3:=HB.out;have h4:=hgx.out;have h5':=HZ2.out
        first|(simp [atMeasure];done)|(simp [atMeasure];omega)
 ·intro hp
  go_wp2_with fail
  have HG0:=Lib.hid (Blk.new w #[.func (.func fn) #[] caps,.int .i64 0,.int .i64 0,.bool false] 292)
  refine (ask_c fn caps w.heap.size w.heap.size V (V 13).1 (V 13).2 I ⟨[],0,0,false⟩ 13 _ rfl hfn HS.out (fun w1 h=>HC.out _ 13 w1 (by decide) (by decide) (by decide) h) HG0.out (Nat.le_refl _) (by simp) (HS.out _ _ _ (Side.refl.alloc _) HI.out)).mono ?_
  rintro e w1 ⟨rfl,hI1,hG1,hz1,-⟩
  simp at hz1
  have HI1:=Lib.hid hI1
  have HG1:=Lib.hid hG1
  clear hI1 hG1
  go_wp2_with fail
  refine (ask_c fn caps w.heap.size w.heap.size V (V 21).1 (V 21).2 I (gask V 13 ⟨[],0,0,false⟩) 21 _ rfl hfn HS.out (fun w1 h=>HC.out _ 21 w1 (by rw [gask_len];exact (by decide:1≤7)) (by decide) (by decide) h) HG1.out (Nat.le_refl _) (by omega) HI1.out).mono ?_
  rintro e w2 ⟨rfl,hI2,hG2,hz2,-⟩
  have HI2:=Lib.hid hI2
  have HG2:=Lib.hid hG2
  have y2:=hG2.lt
  clear hI2 hG2
  go_wp2_with fail
  have e0:Hid ((0,gask V 21 (gask V 13 ⟨[],0,0,false⟩))=giter V 0):=rfl
  generalize gask V 21 (gask V 13 ⟨[],0,0,false⟩)=s2 at *
  go_step3
  rename_i K hK
  refine hK _ _ ?_
  obtain ⟨r,hr,h⟩:=hp 0 _ _ ⟨0,w.heap.size,w2.heap.size,w2.heap.size+1,0,34,13,21,s2,_,_,_,_,_,_,_,_,_,_,_,_,_,_,_,_,_,_,_,_,_,_,_,_,_,_,_,_,_,_,_,_,_,_,_,_,_,_,_,_,_,_,_,_,_,_,_,_,_,_,_,_,_,_,_,_,_,_,_,_,_,rfl,by omega,e0.out,by decide,by decide,by decide,Nat.le_refl _,by omega,by omega,HS.out _ w2 _ ((Side.refl.alloc _).alloc _) HI2.out,by simp;omega,by omega,by decide,fun h=>absurd h (by decide),(HG2.out.alloc _).alloc _,(Blk.new w2 _ _).alloc _,Blk.new' _ _ _ (by simp)⟩
  injection hr with hr
  injection hr with _ hr
  rw [← hr] at h
  exact h
end Go.Proofs.YtechbdnhalmobaaGreatDoor
