/- Laws and walks that the claim names. -/
import Derived.Test.YtnoidlacjiafdaaGreatY7
import Derived.Test.YtnoidlacjiafdaaGreatHA
import Derived.OwnWalk
import Derived.Laws.OwnMore
import Derived.OneCell
import Derived.BigQuiet
import Derived.Deep.Cut
set_option maxRecDepth 100000
set_option maxHeartbeats 16000000
namespace Go.Proofs.YtnoidlacjiafdaaGreat
set_option linter.unusedSimpArgs false
set_option linter.unusedVariables false
open Go.RowKit
theorem iC {w:World} {g:Nat} {t e:TypeId} {cs:Array Value} {base size n:Nat} {v:Value} {xs:List Value} (h:w.ownsRow base e size v n xs) (hg:Blk w g cs t) (hne:e≠t):v.ownBlock≠some g:=by
 rcases h.2 with ⟨rfl,_⟩|⟨g',cap,cur,rfl,_,hh,_⟩
 ·simp[Value.ownBlock]
 ·intro he;have:g'=g:=by simpa [Value.ownBlock] using he
  subst this;exact Blk.ne (t:=e) hh hg hne rfl
theorem jt (n m:Int) (p q:Bool) (w:World) :
  Calls Tryz.prog 136 #[.agg #[.int .i64 n,.bool p],.agg #[.int .i64 m,.bool q]] w fun e w'=>e = .returned (.bool (gm (n,p) (m,q)))∧Below w.heap.size w w':=by
 cases p
 ·have E:Hid (gm (n,false) (m,q) = !q):=by cases q <;> exact rfl
  go_enter Tryz.func136,Tryz.ntmps136;go_wp2
  go_ret;exact⟨by rw[E.out];rfl,ae⟩
 ·cases q
  ·go_enter Tryz.func136,Tryz.ntmps136;go_wp2
   go_ret;exact⟨rfl,ae⟩
  ·have E:Hid (gm (n,true) (m,true)=decide (n≤m)):=rfl;go_enter Tryz.func136,Tryz.ntmps136;go_wp2
   go_ret;exact⟨by rw[E.out];rfl,ae⟩
theorem qU:(Tryz.prog.info? 3).map (fun i=>(i.zero,i.size,i.bytes))=some (some (.int .i64 0),1,8):=by kernel_rfl
theorem aW {w w':World} {b base size n:Nat} {e t:TypeId} {v:Value} {xs:List Value} {c:Array Value} (h:w.ownsRow base e size v n xs) (ho:ah b w w') (hb:Blk w b c t) (hne:e≠t):w'.ownsRow base e size v n xs:=by
 refine⟨h.1,?_⟩;rcases h.2 with hn|⟨g,cap,cur,rfl,hb',hgg,rest⟩
 ·exact .inl hn
 ·exact .inr ⟨g,cap,cur,rfl,hb',ho.blk (t:=e) hgg (Blk.ne (t:=e) hgg hb hne),rest⟩
theorem bJ {w w':World} {base size n:Nat} {e:TypeId} {v:Value} {xs:List Value} (h:w.ownsRow base e size v n xs) (hb:Below w.heap.size w w'):w'.ownsRow base e size v n xs:=by
 refine⟨h.1,?_⟩;rcases h.2 with hn|⟨g',cap',cur,rfl,hb',hgg,rest⟩
 ·exact .inl hn
 ·exact .inr ⟨g',cap',cur,rfl,hb',(hb.block g' (Array.getElem?_eq_some_iff.1 hgg).1).trans hgg,rest⟩
theorem aX.only {t t':TypeId} {w W W':World} {b:Nat} {c:Array Value} (h:aX t w W) (ho:ah b W W') (hb:Blk W b c t') (ht:t'≠t):aX t w W' :=
 ⟨Nat.le_trans h.1 ho.size,fun k cs hk=>ho.blk (h.2 k cs hk) (fun e=>Blk.ne hb (h.2 k cs hk) ht e.symm)⟩
theorem aX.ck {t:TypeId} {w W W':World} {b:Nat} (h:aX t w W) (ho:ah b W W') (hb:w.heap.size≤b):aX t w W' :=
 ⟨Nat.le_trans h.1 ho.size,fun k cs hk=>ho.blk (h.2 k cs hk) (by have:=hk.lt;omega)⟩
def dK (E F S:Value) (em:Bool) (v:Value) (s:GS) (o:El):Array Value :=
 #[.slice none 0 0,E,F,S,.bool em,v,.int .i64 s.w,.int .i64 s.n,.bool s.ok,.int .i64 o.x,.int .i64 o.y,.int .i64 o.a,.int .i64 o.b,.int .i64 o.d]
def atZ (O:Int→El × Int) (s:GS):El:=if s.ok=true then (O s.w).1 else El.zero
def RZ (w0:World) (g:Nat) (E F S:Value) (O:Int→El × Int) (s:GS) (w:World):Prop :=
 Below w0.heap.size w0 w∧w0.heap.size≤g∧∃ v,Blk w g (dK E F S (emptyB O s.asked) v s (atZ O s)) 121∧w.ownsRow w0.heap.size 3 1 v s.asked.length (s.asked.map (Value.int .i64))
theorem lz (O:Int→El × Int) (k:Int) (s:GS):atZ O (gask (ovV O) k s)=bif aS (ovV O) k s then (O k).1 else atZ O s:=by
 unfold atZ gask;cases aS (ovV O) k s <;> simp
theorem mN (O:Int→El × Int) (k:Int) (s:GS):emptyB O (gask (ovV O) k s).asked=(emptyB O s.asked||(O k).2==3):=by
 rw[bf];unfold emptyB;simp
theorem dk {w:World} {g:Nat} {x y a b d:Int} {t:TypeId} (C:Blk w g #[.int .i64 x,.int .i64 y,.int .i64 a,.int .i64 b,.int .i64 d] t) :
  w.cell? ⟨g,0,none⟩=some (.int .i64 x)∧w.cell? ⟨g,1,none⟩=some (.int .i64 y)∧w.cell? ⟨g,2,none⟩=some (.int .i64 a)∧w.cell? ⟨g,3,none⟩=some (.int .i64 b)∧w.cell? ⟨g,4,none⟩=some (.int .i64 d) :=
 ⟨C.cell rfl,C.cell rfl,C.cell rfl,C.cell rfl,C.cell rfl⟩
theorem jy {w:World} {g:Nat} {x y a b d e:Int} {t:TypeId} (C:Blk w g #[.int .i64 x,.int .i64 y,.int .i64 a,.int .i64 b,.int .i64 d,.int .i64 e] t) :
  w.cell? ⟨g,0,none⟩=some (.int .i64 x)∧w.cell? ⟨g,1,none⟩=some (.int .i64 y)∧w.cell? ⟨g,2,none⟩=some (.int .i64 a)∧w.cell? ⟨g,3,none⟩=some (.int .i64 b)∧w.cell? ⟨g,4,none⟩=some (.int .i64 d)∧w.cell? ⟨g,5,none⟩=some (.int .i64 e) :=
 ⟨C.cell rfl,C.cell rfl,C.cell rfl,C.cell rfl,C.cell rfl,C.cell rfl⟩
theorem mh {w:World} {g:Nat} {c0 c1 c2 c3 c4 c5 c6 c7 c8 c9 c10 c11 c12 c13:Value} {t:TypeId} (C:Blk w g #[c0,c1,c2,c3,c4,c5,c6,c7,c8,c9,c10,c11,c12,c13] t):w.cell? ⟨g,1,none⟩=some c1∧w.cell? ⟨g,2,none⟩=some c2:=⟨C.cell rfl,C.cell rfl⟩
theorem mg {w:World} {g:Nat} {c0 c1 c2 c3 c4 c5 c6 c7 c8 c9 c10 c11 c12 c13:Value} {t:TypeId} (C:Blk w g #[c0,c1,c2,c3,c4,c5,c6,c7,c8,c9,c10,c11,c12,c13] t):w.cell? ⟨g,1,none⟩=some c1∧w.cell? ⟨g,3,none⟩=some c3:=⟨C.cell rfl,C.cell rfl⟩
theorem zS (w0:World) (g gE gF:Nat) (x y a b d x' y' a' b' d':Int) (s:GS) (k:Int) (w:World) (BE:Hid (Blk w0 gE #[.int .i64 x,.int .i64 y,.int .i64 a,.int .i64 b,.int .i64 d] 27)) (BF:Hid (Blk w0 gF #[.int .i64 x',.int .i64 y',.int .i64 a',.int .i64 b',.int .i64 d'] 27)) (hl:s.asked.length≤7)
  (h:RZ w0 g (.pointer (some ⟨gE,0,none⟩)) (.pointer (some ⟨gF,0,none⟩)) (.pointer none) (fuseE ⟨x,y,a,b,d⟩ ⟨x',y',a',b',d'⟩) s w) :
  Calls Tryz.prog 135 #[.pointer (some ⟨g,0,none⟩),.int .i64 k] w fun e w'=>e = .returned (.agg #[.int .i64 (ovV (fuseE ⟨x,y,a,b,d⟩ ⟨x',y',a',b',d'⟩) k).1,.bool (ovV (fuseE ⟨x,y,a,b,d⟩ ⟨x',y',a',b',d'⟩) k).2])∧RZ w0 g (.pointer (some ⟨gE,0,none⟩)) (.pointer (some ⟨gF,0,none⟩)) (.pointer none) (fuseE ⟨x,y,a,b,d⟩ ⟨x',y',a',b',d'⟩) (gask (ovV (fuseE ⟨x,y,a,b,d⟩ ⟨x',y',a',b',d'⟩)) k s) w'∧aX 119 w w':=by
 obtain⟨O,hO⟩:∃ O,O=fuseE ⟨x,y,a,b,d⟩ ⟨x',y',a',b',d'⟩:=⟨_,rfl⟩;rw[← hO] at h ⊢;obtain⟨⟨ox,oy,oa,ob,od⟩,er,ho⟩:∃ o e,O k=(o,e):=⟨_,_,rfl⟩;have CO:fuseE ⟨x,y,a,b,d⟩ ⟨x',y',a',b',d'⟩ k=(⟨ox,oy,oa,ob,od⟩,er):=by rw[← hO];exact ho
 replace CO:=Lh CO;obtain⟨tr,ht⟩:∃ t,El.tr ⟨ox,oy,oa,ob,od⟩=t:=⟨_,rfl⟩;have HT:=Lh ht;have EO:Hid (ovV O k=(tr,er==0)):=by show _=_;unfold ovV;rw[ho,ht]
 obtain⟨hb,hg,v,hv,hown⟩:=h;obtain⟨em,hem⟩:∃ m,emptyB O s.asked=m:=⟨_,rfl⟩;obtain⟨nem,hnem⟩:∃ m,(em||er==3)=m:=⟨_,rfl⟩;have EM:emptyB O (gask (ovV O) k s).asked=nem:=by rw[mN,ho,hem];exact hnem
 obtain⟨⟨px,py,pa,pb,pd⟩,hp⟩:∃ p,atZ O s=p:=⟨_,rfl⟩;obtain⟨sw,hsw⟩:∃ k,s.w=k:=⟨_,rfl⟩;obtain⟨sn,hsn⟩:∃ k,s.n=k:=⟨_,rfl⟩;obtain⟨so,hso⟩:∃ k,s.ok=k:=⟨_,rfl⟩;have GA:aS (ovV O) k s=((er==0)&&(!so||decide (tr<sn)||(tr==sn&&decide (k<sw)))):=by unfold aS;rw[EO.out,hsw,hsn,hso]
 have Z0:Hid (aS (ovV O) k s=false→∀ v,dK (.pointer (some ⟨gE,0,none⟩)) (.pointer (some ⟨gF,0,none⟩)) (.pointer none) (emptyB O (gask (ovV O) k s).asked) v (gask (ovV O) k s) (atZ O (gask (ovV O) k s))=#[.slice none 0 0,.pointer (some ⟨gE,0,none⟩),.pointer (some ⟨gF,0,none⟩),.pointer none,.bool nem,v,.int .i64 sw,.int .i64 sn,.bool so,.int .i64 px,.int .i64 py,.int .i64 pa,.int .i64 pb,.int .i64 pd]):=by show _→_;intro h v;unfold dK;rw[EM,lz,fh,fi,ec,h,hp,hsw,hsn,hso];rfl
 have Z1:Hid (aS (ovV O) k s=true→∀ v,dK (.pointer (some ⟨gE,0,none⟩)) (.pointer (some ⟨gF,0,none⟩)) (.pointer none) (emptyB O (gask (ovV O) k s).asked) v (gask (ovV O) k s) (atZ O (gask (ovV O) k s))=#[.slice none 0 0,.pointer (some ⟨gE,0,none⟩),.pointer (some ⟨gF,0,none⟩),.pointer none,.bool nem,v,.int .i64 k,.int .i64 tr,.bool true,.int .i64 ox,.int .i64 oy,.int .i64 oa,.int .i64 ob,.int .i64 od]):=by show _→_;intro h v;unfold dK;rw[EM,lz,fh,fi,ec,h,ho,EO.out];rfl
 replace GA:=Lh GA;replace hnem:=Lh hnem;replace hv:Blk w g #[.slice none 0 0,.pointer (some ⟨gE,0,none⟩),.pointer (some ⟨gF,0,none⟩),.pointer none,.bool em,v,.int .i64 sw,.int .i64 sn,.bool so,.int .i64 px,.int .i64 py,.int .i64 pa,.int .i64 pb,.int .i64 pd] 121:=by have:=hv;unfold dK at this;rw[hem,hp,hsw,hsn,hso] at this;exact this
 obtain⟨i0,hi,hz0,hz1,hz2⟩:=info_parts qU;obtain⟨y1,c1,f1,-⟩:=aw hv;have HB0:=Lh hb;have HV:=Lh hv;have HO0:=Lh hown;clear hb hv hown hO ho ht hem hp hsw hsn hso EM;go_enter Tryz.func135,Tryz.ntmps135;go_wp2_with (at_builtin;refine wpList_append_own _ rfl _ _ 117 rfl w0.heap.size 3 i0 (.int .i64 0) 1 8 Tryz.underlying117 hi hz0 hz1 hz2 rfl (by decide) _ _ _ rfl ((HO0.out.alloc _).alloc _) ⟨w.heap.size+1,0,none⟩ 1 1 [.int .i64 k] rfl rfl ?c1 ?c2 ?c3 ?c4 ?c5 ?_)
 case c1 =>
  intro j u hj;match j,hj with
  | 0,hj=>simp at hj;subst hj;simp[Addr.add]
 case c2=>intro u hu;simp at hu;subst hu;rfl
 case c3=>unfold maxLen;omega
 case c4=>omega
 case c5=>have:=HB0.out.size;simp;omega
 intro v' w1 hown' hgrow _;obtain⟨g',cap',rfl⟩:=fw hown' (by omega);have hn1:=iC HO0.out HV.out (by decide);have hn3:=iC ((HO0.out.alloc (.cells #[.int .i64 0,.bool false] 119))) (Blk.new w #[.int .i64 0,.bool false] 119) (by decide);have HV1:=Lh (((HV.out.alloc _).alloc _).grown hgrow hn1);have HR1:=Lh (((Blk.new w #[.int .i64 0,.bool false] 119).alloc _).grown hgrow hn3);have HB1:=Lh (Below.grown (Nat.le_refl _) ((HB0.out.alloc HB0.out.size _).alloc (by have:=HB0.out.size;simp;omega) _) hgrow (fun g hg=>(HO0.out.lt g hg).1));have HK1:Hid (aX 119 w w1):=show aX _ _ _ from⟨by have:=hgrow.size;simp at this;omega,fun k cs hk=>((hk.alloc _).alloc _).grown hgrow (iC HO0.out hk (by decide))⟩;have HO1:=Lh hown';have hbs0:=HB0.out.size;have ltg:=HV.out.lt;have lt4:=HR1.out.lt;clear c1 f1 y1 hown' hgrow hn1 hn3;obtain⟨y1,c1,f1,-⟩:=aw HV1.out;go_wp2_with fail;obtain⟨W,hW⟩:∃ W,W=((w1.setCell ⟨g,5,none⟩ (.slice (some ⟨g',0,none⟩) (s.asked.length+1) cap')).alloc (Obj.cells #[.int .i64 0,.bool false] 119)).alloc (Obj.cells #[.int .i64 0,.int .i64 0,.int .i64 0,.int .i64 0,.int .i64 0] 27):=⟨_,rfl⟩;rw[← hW];obtain⟨g5,hg5⟩:∃ k,w1.heap.size=k:=⟨_,rfl⟩;rw[hg5];have ho:ah g w1 W:=by rw[hW];exact((ah.refl.setCell 5 _).alloc _).alloc _
 have S:Hid (Blk W g #[.slice none 0 0,.pointer (some ⟨gE,0,none⟩),.pointer (some ⟨gF,0,none⟩),.pointer none,.bool em,.slice (some ⟨g',0,none⟩) (s.asked.length+1) cap',.int .i64 sw,.int .i64 sn,.bool so,.int .i64 px,.int .i64 py,.int .i64 pa,.int .i64 pb,.int .i64 pd] 121):=by rw[hW];exact Blk.of_eq (((HV1.out.ab 5 _).alloc _).alloc _) rfl
 have X4:Hid (Blk W w.heap.size #[.int .i64 0,.bool false] 119):=ho.blk HR1.out (by omega);have X5:Hid (Blk W g5 #[.int .i64 0,.bool false] 119):=by rw[hW,← hg5];exact(Blk.new' _ _ _ (by simp)).alloc _
 have X6:Hid (Blk W (g5+1) #[.int .i64 0,.int .i64 0,.int .i64 0,.int .i64 0,.int .i64 0] 27):=by rw[hW,← hg5];exact Blk.new' _ _ _ (by simp)
 have HO:=Lh (aW HO1.out ho HV1.out (by decide));have HK:=Lh (HK1.out.only ho HV1.out (by decide));have HB:=Lh (ah.below ho HB1.out (Nat.le_refl _) (by omega));have n1:g<g5:=by rw[← hg5];exact HV1.out.lt
 have n2:w.heap.size<g5:=by omega
 have n3:w0.heap.size≤g5:=by omega
 have zz:=HB.out.size;clear hW hg5 ho y1 c1 f1 HV1 HR1 HB1 HK1 HO1 hbs0 lt4;go_cut [7] from 8 (fun s7 wc=>s7 = .int .i64 er∧Hid (ah (g5+1) W wc)∧Hid (Blk wc (g5+1) #[.int .i64 ox,.int .i64 oy,.int .i64 oa,.int .i64 ob,.int .i64 od] 27))
 case first =>
  have XS:Blk W (g) #[.slice none 0 0,.pointer (some ⟨gE,0,none⟩),.pointer (some ⟨gF,0,none⟩),.pointer none,.bool em,.slice (some ⟨g',0,none⟩) (s.asked.length+1) cap',.int .i64 sw,.int .i64 sn,.bool so,.int .i64 px,.int .i64 py,.int .i64 pa,.int .i64 pb,.int .i64 pd] 121:=S.out;have XE:Blk W (gE) #[.int .i64 x,.int .i64 y,.int .i64 a,.int .i64 b,.int .i64 d] 27:=(BE.out.keep HB.out);have XF:Blk W (gF) #[.int .i64 x',.int .i64 y',.int .i64 a',.int .i64 b',.int .i64 d'] 27:=(BF.out.keep HB.out);have XW:Blk W (g5+1) #[.int .i64 0,.int .i64 0,.int .i64 0,.int .i64 0,.int .i64 0] 27:=X6.out;have ltE:=BE.out.lt;have ltF:=BF.out.lt;have r1:=mh XS;have r2:=dk XE;have r3:=dk XF;go_region_held3 (fun w'=>(w'.cell? ⟨g,1,none⟩=some (.pointer (some ⟨gE,0,none⟩))∧w'.cell? ⟨g,2,none⟩=some (.pointer (some ⟨gF,0,none⟩)))∧(w'.cell? ⟨gE,0,none⟩=some (.int .i64 x)∧w'.cell? ⟨gE,1,none⟩=some (.int .i64 y)∧w'.cell? ⟨gE,2,none⟩=some (.int .i64 a)∧w'.cell? ⟨gE,3,none⟩=some (.int .i64 b)∧w'.cell? ⟨gE,4,none⟩=some (.int .i64 d))∧(w'.cell? ⟨gF,0,none⟩=some (.int .i64 x')∧w'.cell? ⟨gF,1,none⟩=some (.int .i64 y')∧w'.cell? ⟨gF,2,none⟩=some (.int .i64 a')∧w'.cell? ⟨gF,3,none⟩=some (.int .i64 b')∧w'.cell? ⟨gF,4,none⟩=some (.int .i64 d'))) (first|with_reducible exact⟨r1,r2,r3⟩|(refine⟨?_,?_,?_⟩;(focus (with_reducible refine mh (t:=121) ?_;(repeat (first|with_reducible exact XS|with_reducible refine Blk.drew ?_|with_reducible refine Blk.alloc ?_ _|(with_reducible refine Blk.ac ?_ ?hB _;case hB=>(first|omega|(simp;omega)))))));(focus (with_reducible refine dk (t:=27) ?_;(repeat (first|with_reducible exact XE|with_reducible refine Blk.drew ?_|with_reducible refine Blk.alloc ?_ _|(with_reducible refine Blk.ac ?_ ?hB _;case hB=>(first|omega|(simp;omega)))))));(focus (with_reducible refine dk (t:=27) ?_;(repeat (first|with_reducible exact XF|with_reducible refine Blk.drew ?_|with_reducible refine Blk.alloc ?_ _|(with_reducible refine Blk.ac ?_ ?hB _;case hB=>(first|omega|(simp;omega)))))));done)|go_simp) (first|(go_at_call 152;refine Calls.mono (AS _ _ _ _ _ _ _ _ _ _ _ _ _ _ _ _ _ CO.out _) ?_;rintro e w4 ⟨rfl,hb4⟩;have XS:Blk w4 (g) #[.slice none 0 0,.pointer (some ⟨gE,0,none⟩),.pointer (some ⟨gF,0,none⟩),.pointer none,.bool em,.slice (some ⟨g',0,none⟩) (s.asked.length+1) cap',.int .i64 sw,.int .i64 sn,.bool so,.int .i64 px,.int .i64 py,.int .i64 pa,.int .i64 pb,.int .i64 pd] 121:=(by(with_reducible refine Blk.keep ?_ hb4);(repeat (first|with_reducible exact XS|with_reducible refine Blk.drew ?_|with_reducible refine Blk.alloc ?_ _|(with_reducible refine Blk.ac ?_ ?hB _;case hB=>(first|omega|(simp;omega))))));have XE:Blk w4 (gE) #[.int .i64 x,.int .i64 y,.int .i64 a,.int .i64 b,.int .i64 d] 27:=(by(with_reducible refine Blk.keep ?_ hb4);(repeat (first|with_reducible exact XE|with_reducible refine Blk.drew ?_|with_reducible refine Blk.alloc ?_ _|(with_reducible refine Blk.ac ?_ ?hB _;case hB=>(first|omega|(simp;omega))))));have XF:Blk w4 (gF) #[.int .i64 x',.int .i64 y',.int .i64 a',.int .i64 b',.int .i64 d'] 27:=(by(with_reducible refine Blk.keep ?_ hb4);(repeat (first|with_reducible exact XF|with_reducible refine Blk.drew ?_|with_reducible refine Blk.alloc ?_ _|(with_reducible refine Blk.ac ?_ ?hB _;case hB=>(first|omega|(simp;omega))))));have XW:Blk w4 (g5+1) #[.int .i64 0,.int .i64 0,.int .i64 0,.int .i64 0,.int .i64 0] 27:=(by(with_reducible refine Blk.keep ?_ hb4);(repeat (first|with_reducible exact XW|with_reducible refine Blk.drew ?_|with_reducible refine Blk.alloc ?_ _|(with_reducible refine Blk.ac ?_ ?hB _;case hB=>(first|omega|(simp;omega))))));have r1:=mh XS;have r2:=dk XE;have r3:=dk XF;obtain⟨y6,c6,f6,-⟩:=aw XW))
  all_goals go_wp2_with fail
  all_goals go_meet
  all_goals refine⟨rfl,?_,?_⟩
  all_goals first
   | (show ah _ _ _;exact(by repeat (first|with_reducible exact ah.refl|with_reducible refine ah.drew ?_|with_reducible refine ah.setCell ?_ _ _|(with_reducible refine ah.fc ?_ ?hB _ _;case hB=>(first|omega|(simp;done)|(simp;omega)))|with_reducible refine ah.alloc ?_ _|with_reducible refine ah.trans ?_ (ah.of_below (by assumption))|with_reducible refine ah.trans ?_ (by assumption))))
   | (show Blk _ _ _ _;apply Blk.of_eq;(focus (repeat (first|with_reducible exact XW|with_reducible apply Blk.drew|with_reducible apply Blk.ab|with_reducible apply Blk.alloc)));rfl)
 case rest =>
  obtain⟨rfl,HOA,HX⟩:=hcut;obtain⟨V1,hV1⟩:∃ v,v=wc:=⟨_,rfl⟩;subst hV1;have ho:=HOA.out;replace HO:=Lh (aW HO.out ho X6.out (by decide));replace HK:=Lh (HK.out.ck ho (by omega));replace S:=Hk ho S;replace X4:=Hk ho X4;replace X5:=Hk ho X5;replace HB:=Ho ho HB;replace X6:=HX;clear ho HX HOA;go_upto_region 11 with fail
  go_cut [7] from 8 (fun s7 we=>s7 = .int .i64 er∧we=V1.setCell ⟨g,4,none⟩ (.bool nem))
  case first =>
   have qSe:=S.out.cell (i:=4) (v := .bool em) rfl;have rl:=S.out.lt;have fz_S:=S.out.frozen;have ft_S:=S.out.fits 14 (by simp);cases em with
   | true =>
    obtain rfl:nem=true:=by have:=hnem.out;simpa using this.symm
    go_wp2_with fail;go_meet;exact⟨rfl,rfl⟩
   | false =>
    cases b3:er==3 with
    | true =>
     obtain rfl:nem=true:=by have:=hnem.out;rw[b3] at this;simpa using this.symm
     go_wp2_with fail;go_meet;exact⟨rfl,rfl⟩
    | false =>
     obtain rfl:nem=false:=by have:=hnem.out;rw[b3] at this;simpa using this.symm
     go_wp2_with fail;go_meet;exact⟨rfl,rfl⟩
  case rest =>
   obtain⟨rfl,rfl⟩:=hcut;obtain⟨v1,hv⟩:∃ v,v=(V1).setCell ⟨g,4,none⟩ (.bool nem):=⟨_,rfl⟩;rw[← hv];have ho:ah (g) V1 v1:=by rw[hv];exact(ah.refl).setCell 4 _
   replace HO:=Lh (aW HO.out ho S.out (by decide));replace HK:=Lh (HK.out.only ho S.out (by decide));replace X4:=Hk ho X4;replace X5:=Hk ho X5;replace X6:=Hk ho X6;replace HB:=Ho ho HB;replace S:Hid (Blk v1 (g) #[.slice none 0 0,.pointer (some ⟨gE,0,none⟩),.pointer (some ⟨gF,0,none⟩),.pointer none,.bool nem,.slice (some ⟨g',0,none⟩) (s.asked.length+1) cap',.int .i64 sw,.int .i64 sn,.bool so,.int .i64 px,.int .i64 py,.int .i64 pa,.int .i64 pb,.int .i64 pd] 121):=by rw[hv];exact Blk.of_eq ((S.out).ab 4 _) (by simp)
   clear ho hv;obtain⟨qX6a,qX6b,qX6c,qX6d,qX6e⟩:=cl5 X6;have rl_X6:=X6.out.lt;go_wp2_with fail;clear qX6a qX6b qX6c qX6d qX6e rl_X6;refine Calls.mono (bO _ _ _ _ _ _ HT.out _) ?_;rintro e x2 ⟨rfl,hb⟩;replace S:=Kp S hb;replace X4:=Kp X4 hb;replace X5:=Kp X5 hb;replace X6:=Kp X6 hb;replace HO:=Lh (bJ HO.out hb);replace HK:=Lh (HK.out.trans (aX.below hb));replace HB:=Tp HB hb;have zz:=HB.out.size;clear hb;cases b0:er==0 with
   | false =>
    obtain⟨qX5a,qX5b⟩:=cl2 X5;have rl_X5:=X5.out.lt;have fz_X5:=X5.out.frozen;have ft_X5:=X5.out.fits 2 (by simp);go_wp2_with fail;clear qX5a qX5b rl_X5 fz_X5 ft_X5;obtain⟨v3,hv⟩:∃ v,v=((x2).setCell ⟨g5,0,none⟩ (.int .i64 tr)).setCell ⟨g5,1,none⟩ (.bool false):=⟨_,rfl⟩;rw[← hv];have ho:ah (g5) x2 v3:=by rw[hv];exact((ah.refl).setCell 0 _).setCell 1 _
    replace HO:=Lh (aW HO.out ho X5.out (by decide));replace HK:=Lh (HK.out.ck ho (by omega));replace S:=Hk ho S;replace X4:=Hk ho X4;replace X6:=Hk ho X6;replace HB:=Ho ho HB;replace X5:Hid (Blk v3 (g5) #[.int .i64 tr,.bool false] 119):=by rw[hv];exact Blk.of_eq (((X5.out).ab 0 _).ab 1 _) (by simp)
    clear ho hv;have GB:aS (ovV O) k s=false:=by rw[GA.out,b0];simp
    have EZ:=Lh (Z0.out GB);clear GB Z0 Z1 GA;obtain⟨qX5a,qX5b⟩:=rg2 X5;obtain⟨qSa,qSb,qSc,qSd,qSe,qSf,qSg,qSh,qSi,qSj,qSk,qSl,qSm,qSn⟩:=kK S;refine wp_region_quiet_below (by kernel_rfl) (by kernel_rfl) ?_;repeat (go_big_quiet_step (fail))
    refine wpQuiet_nil ?_;intro x4 hw;have hb:=ay hw;clear hw qX5a qX5b qSa qSb qSc qSd qSe qSf qSg qSh qSi qSj qSk qSl qSm qSn;replace S:=Kp S hb;replace X4:=Kp X4 hb;replace X5:=Kp X5 hb;replace X6:=Kp X6 hb;replace HO:=Lh (bJ HO.out hb);replace HK:=Lh (HK.out.trans (aX.below hb));replace HB:=Tp HB hb;have zz:=HB.out.size;clear hb;obtain⟨qX5a,qX5b⟩:=cl2 X5;have rl_X5:=X5.out.lt;obtain⟨qX4a,qX4b⟩:=cl2 X4;have rl_X4:=X4.out.lt;have fz_X4:=X4.out.frozen;have ft_X4:=X4.out.fits 2 (by simp);go_wp2_with fail;refine ak 2 #[.int .i64 tr,.bool false] rfl rfl rfl Tryz.underlying119 rfl (by kernel_rfl) rc2 ⟨by rw[EO.out,b0],⟨ah.below ((ah.refl.setCell 0 _).setCell 1 _) HB.out (Nat.le_refl _) (by omega),hg,.slice (some ⟨g',0,none⟩) (s.asked.length+1) cap',?_,?_⟩,?_⟩
    ·rw[EZ.out];exact ah.blk ((ah.refl.setCell 0 _).setCell 1 _) S.out (by omega)
    ·rw[bf,List.length_append,List.map_append];exact aW HO.out ((ah.refl.setCell 0 _).setCell 1 _) X4.out (by decide)
    ·exact HK.out.ck ((ah.refl.setCell 0 _).setCell 1 _) (by omega)
   | true =>
    obtain⟨qX5a,qX5b⟩:=cl2 X5;have rl_X5:=X5.out.lt;have fz_X5:=X5.out.frozen;have ft_X5:=X5.out.fits 2 (by simp);go_wp2_with fail;clear qX5a qX5b rl_X5 fz_X5 ft_X5;obtain⟨v3,hv⟩:∃ v,v=((x2).setCell ⟨g5,0,none⟩ (.int .i64 tr)).setCell ⟨g5,1,none⟩ (.bool true):=⟨_,rfl⟩;rw[← hv];have ho:ah (g5) x2 v3:=by rw[hv];exact((ah.refl).setCell 0 _).setCell 1 _
    replace HO:=Lh (aW HO.out ho X5.out (by decide));replace HK:=Lh (HK.out.ck ho (by omega));replace S:=Hk ho S;replace X4:=Hk ho X4;replace X6:=Hk ho X6;replace HB:=Ho ho HB;replace X5:Hid (Blk v3 (g5) #[.int .i64 tr,.bool true] 119):=by rw[hv];exact Blk.of_eq (((X5.out).ab 0 _).ab 1 _) (by simp)
    clear ho hv;cases so with
    | false =>
     have GB:aS (ovV O) k s=true:=by rw[GA.out,b0];simp[]
     have EZ:=Lh (Z1.out GB);clear GB Z0 Z1 GA;obtain⟨qX5a,qX5b⟩:=rg2 X5;obtain⟨qSa,qSb,qSc,qSd,qSe,qSf,qSg,qSh,qSi,qSj,qSk,qSl,qSm,qSn⟩:=kK S;refine wp_region_quiet_below (by kernel_rfl) (by kernel_rfl) ?_;repeat (go_big_quiet_step (fail))
     refine wpQuiet_nil ?_;intro x4 hw;have hb:=ay hw;clear hw qX5a qX5b qSa qSb qSc qSd qSe qSf qSg qSh qSi qSj qSk qSl qSm qSn;replace S:=Kp S hb;replace X4:=Kp X4 hb;replace X5:=Kp X5 hb;replace X6:=Kp X6 hb;replace HO:=Lh (bJ HO.out hb);replace HK:=Lh (HK.out.trans (aX.below hb));replace HB:=Tp HB hb;have zz:=HB.out.size;clear hb;obtain⟨qX5a,qX5b⟩:=cl2 X5;have rl_X5:=X5.out.lt;obtain⟨qX6a,qX6b,qX6c,qX6d,qX6e⟩:=cl5 X6;have rl_X6:=X6.out.lt;obtain⟨qX4a,qX4b⟩:=cl2 X4;have rl_X4:=X4.out.lt;obtain⟨qSa,qSb,qSc,qSd,qSe,qSf,qSg,qSh,qSi,qSj,qSk,qSl,qSm,qSn⟩:=wD S;have rl_S:=S.out.lt;have fz_X4:=X4.out.frozen;have ft_X4:=X4.out.fits 2 (by simp);have fz_S:=S.out.frozen;have ft_S:=S.out.fits 14 (by simp);go_wp2_with fail;go_region
     all_goals go_wp2_with fail
     clear qX5a qX5b rl_X5 qX6a qX6b qX6c qX6d qX6e rl_X6 qX4a qX4b rl_X4 qSa qSb qSc qSd qSe qSf qSg qSh qSi qSj qSk qSl qSm qSn rl_S fz_X4 ft_X4 fz_S ft_S;obtain⟨v5,hv⟩:∃ v,v=((((((((x4).setCell ⟨g,6,none⟩ (.int .i64 k)).setCell ⟨g,7,none⟩ (.int .i64 tr)).setCell ⟨g,8,none⟩ (.bool true)).setCell ⟨g,9,none⟩ (.int .i64 ox)).setCell ⟨g,10,none⟩ (.int .i64 oy)).setCell ⟨g,11,none⟩ (.int .i64 oa)).setCell ⟨g,12,none⟩ (.int .i64 ob)).setCell ⟨g,13,none⟩ (.int .i64 od):=⟨_,rfl⟩;rw[← hv];have ho:ah (g) x4 v5:=by rw[hv];exact((((((((ah.refl).setCell 6 _).setCell 7 _).setCell 8 _).setCell 9 _).setCell 10 _).setCell 11 _).setCell 12 _).setCell 13 _
     replace HO:=Lh (aW HO.out ho S.out (by decide));replace HK:=Lh (HK.out.only ho S.out (by decide));replace X4:=Hk ho X4;replace X5:=Hk ho X5;replace X6:=Hk ho X6;replace HB:=Ho ho HB;replace S:Hid (Blk v5 (g) #[.slice none 0 0,.pointer (some ⟨gE,0,none⟩),.pointer (some ⟨gF,0,none⟩),.pointer none,.bool nem,.slice (some ⟨g',0,none⟩) (s.asked.length+1) cap',.int .i64 k,.int .i64 tr,.bool true,.int .i64 ox,.int .i64 oy,.int .i64 oa,.int .i64 ob,.int .i64 od] 121):=by rw[hv];exact Blk.of_eq (((((((((S.out).ab 6 _).ab 7 _).ab 8 _).ab 9 _).ab 10 _).ab 11 _).ab 12 _).ab 13 _) (by simp)
     clear ho hv;obtain⟨qX4a,qX4b⟩:=cl2 X4;have rl_X4:=X4.out.lt;have fz_X4:=X4.out.frozen;have ft_X4:=X4.out.fits 2 (by simp);refine ak 2 #[.int .i64 tr,.bool true] rfl rfl rfl Tryz.underlying119 rfl (by kernel_rfl) rc2 ⟨by rw[EO.out,b0],⟨ah.below ((ah.refl.setCell 0 _).setCell 1 _).drew HB.out (Nat.le_refl _) (by omega),hg,.slice (some ⟨g',0,none⟩) (s.asked.length+1) cap',?_,?_⟩,?_⟩
     ·rw[EZ.out];exact ah.blk ((ah.refl.setCell 0 _).setCell 1 _).drew S.out (by omega)
     ·rw[bf,List.length_append,List.map_append];exact aW HO.out ((ah.refl.setCell 0 _).setCell 1 _).drew X4.out (by decide)
     ·exact HK.out.ck ((ah.refl.setCell 0 _).setCell 1 _).drew (by omega)
    | true =>
     by_cases j1:tr<sn
     ·have GB:aS (ovV O) k s=true:=by rw[GA.out,b0];simp[j1]
      have EZ:=Lh (Z1.out GB);clear GB Z0 Z1 GA;obtain⟨qX5a,qX5b⟩:=rg2 X5;obtain⟨qSa,qSb,qSc,qSd,qSe,qSf,qSg,qSh,qSi,qSj,qSk,qSl,qSm,qSn⟩:=kK S;refine wp_region_quiet_below (by kernel_rfl) (by kernel_rfl) ?_;repeat (go_big_quiet_step (fail))
      refine wpQuiet_nil ?_;intro x4 hw;have hb:=ay hw;clear hw qX5a qX5b qSa qSb qSc qSd qSe qSf qSg qSh qSi qSj qSk qSl qSm qSn;replace S:=Kp S hb;replace X4:=Kp X4 hb;replace X5:=Kp X5 hb;replace X6:=Kp X6 hb;replace HO:=Lh (bJ HO.out hb);replace HK:=Lh (HK.out.trans (aX.below hb));replace HB:=Tp HB hb;have zz:=HB.out.size;clear hb;obtain⟨qX5a,qX5b⟩:=cl2 X5;have rl_X5:=X5.out.lt;obtain⟨qX6a,qX6b,qX6c,qX6d,qX6e⟩:=cl5 X6;have rl_X6:=X6.out.lt;obtain⟨qX4a,qX4b⟩:=cl2 X4;have rl_X4:=X4.out.lt;obtain⟨qSa,qSb,qSc,qSd,qSe,qSf,qSg,qSh,qSi,qSj,qSk,qSl,qSm,qSn⟩:=wD S;have rl_S:=S.out.lt;have fz_X4:=X4.out.frozen;have ft_X4:=X4.out.fits 2 (by simp);have fz_S:=S.out.frozen;have ft_S:=S.out.fits 14 (by simp);go_wp2_with fail;go_region
      all_goals go_wp2_with fail
      clear qX5a qX5b rl_X5 qX6a qX6b qX6c qX6d qX6e rl_X6 qX4a qX4b rl_X4 qSa qSb qSc qSd qSe qSf qSg qSh qSi qSj qSk qSl qSm qSn rl_S fz_X4 ft_X4 fz_S ft_S;obtain⟨v5,hv⟩:∃ v,v=((((((((x4).setCell ⟨g,6,none⟩ (.int .i64 k)).setCell ⟨g,7,none⟩ (.int .i64 tr)).setCell ⟨g,8,none⟩ (.bool true)).setCell ⟨g,9,none⟩ (.int .i64 ox)).setCell ⟨g,10,none⟩ (.int .i64 oy)).setCell ⟨g,11,none⟩ (.int .i64 oa)).setCell ⟨g,12,none⟩ (.int .i64 ob)).setCell ⟨g,13,none⟩ (.int .i64 od):=⟨_,rfl⟩;rw[← hv];have ho:ah (g) x4 v5:=by rw[hv];exact((((((((ah.refl).setCell 6 _).setCell 7 _).setCell 8 _).setCell 9 _).setCell 10 _).setCell 11 _).setCell 12 _).setCell 13 _
      replace HO:=Lh (aW HO.out ho S.out (by decide));replace HK:=Lh (HK.out.only ho S.out (by decide));replace X4:=Hk ho X4;replace X5:=Hk ho X5;replace X6:=Hk ho X6;replace HB:=Ho ho HB;replace S:Hid (Blk v5 (g) #[.slice none 0 0,.pointer (some ⟨gE,0,none⟩),.pointer (some ⟨gF,0,none⟩),.pointer none,.bool nem,.slice (some ⟨g',0,none⟩) (s.asked.length+1) cap',.int .i64 k,.int .i64 tr,.bool true,.int .i64 ox,.int .i64 oy,.int .i64 oa,.int .i64 ob,.int .i64 od] 121):=by rw[hv];exact Blk.of_eq (((((((((S.out).ab 6 _).ab 7 _).ab 8 _).ab 9 _).ab 10 _).ab 11 _).ab 12 _).ab 13 _) (by simp)
      clear ho hv;obtain⟨qX4a,qX4b⟩:=cl2 X4;have rl_X4:=X4.out.lt;have fz_X4:=X4.out.frozen;have ft_X4:=X4.out.fits 2 (by simp);refine ak 2 #[.int .i64 tr,.bool true] rfl rfl rfl Tryz.underlying119 rfl (by kernel_rfl) rc2 ⟨by rw[EO.out,b0],⟨ah.below ((ah.refl.setCell 0 _).setCell 1 _).drew HB.out (Nat.le_refl _) (by omega),hg,.slice (some ⟨g',0,none⟩) (s.asked.length+1) cap',?_,?_⟩,?_⟩
      ·rw[EZ.out];exact ah.blk ((ah.refl.setCell 0 _).setCell 1 _).drew S.out (by omega)
      ·rw[bf,List.length_append,List.map_append];exact aW HO.out ((ah.refl.setCell 0 _).setCell 1 _).drew X4.out (by decide)
      ·exact HK.out.ck ((ah.refl.setCell 0 _).setCell 1 _).drew (by omega)
     ·by_cases j2:tr=sn
      ·subst j2;by_cases j3:k<sw
       ·have GB:aS (ovV O) k s=true:=by rw[GA.out,b0];simp[j3]
        have EZ:=Lh (Z1.out GB);clear GB Z0 Z1 GA;obtain⟨qX5a,qX5b⟩:=rg2 X5;obtain⟨qSa,qSb,qSc,qSd,qSe,qSf,qSg,qSh,qSi,qSj,qSk,qSl,qSm,qSn⟩:=kK S;refine wp_region_quiet_below (by kernel_rfl) (by kernel_rfl) ?_;repeat (go_big_quiet_step (fail))
        refine wpQuiet_nil ?_;intro x4 hw;have hb:=ay hw;clear hw qX5a qX5b qSa qSb qSc qSd qSe qSf qSg qSh qSi qSj qSk qSl qSm qSn;replace S:=Kp S hb;replace X4:=Kp X4 hb;replace X5:=Kp X5 hb;replace X6:=Kp X6 hb;replace HO:=Lh (bJ HO.out hb);replace HK:=Lh (HK.out.trans (aX.below hb));replace HB:=Tp HB hb;have zz:=HB.out.size;clear hb;obtain⟨qX5a,qX5b⟩:=cl2 X5;have rl_X5:=X5.out.lt;obtain⟨qX6a,qX6b,qX6c,qX6d,qX6e⟩:=cl5 X6;have rl_X6:=X6.out.lt;obtain⟨qX4a,qX4b⟩:=cl2 X4;have rl_X4:=X4.out.lt;obtain⟨qSa,qSb,qSc,qSd,qSe,qSf,qSg,qSh,qSi,qSj,qSk,qSl,qSm,qSn⟩:=wD S;have rl_S:=S.out.lt;have fz_X4:=X4.out.frozen;have ft_X4:=X4.out.fits 2 (by simp);have fz_S:=S.out.frozen;have ft_S:=S.out.fits 14 (by simp);go_wp2_with fail;go_region
        all_goals go_wp2_with fail
        clear qX5a qX5b rl_X5 qX6a qX6b qX6c qX6d qX6e rl_X6 qX4a qX4b rl_X4 qSa qSb qSc qSd qSe qSf qSg qSh qSi qSj qSk qSl qSm qSn rl_S fz_X4 ft_X4 fz_S ft_S;obtain⟨v5,hv⟩:∃ v,v=((((((((x4).setCell ⟨g,6,none⟩ (.int .i64 k)).setCell ⟨g,7,none⟩ (.int .i64 tr)).setCell ⟨g,8,none⟩ (.bool true)).setCell ⟨g,9,none⟩ (.int .i64 ox)).setCell ⟨g,10,none⟩ (.int .i64 oy)).setCell ⟨g,11,none⟩ (.int .i64 oa)).setCell ⟨g,12,none⟩ (.int .i64 ob)).setCell ⟨g,13,none⟩ (.int .i64 od):=⟨_,rfl⟩;rw[← hv];have ho:ah (g) x4 v5:=by rw[hv];exact((((((((ah.refl).setCell 6 _).setCell 7 _).setCell 8 _).setCell 9 _).setCell 10 _).setCell 11 _).setCell 12 _).setCell 13 _
        replace HO:=Lh (aW HO.out ho S.out (by decide));replace HK:=Lh (HK.out.only ho S.out (by decide));replace X4:=Hk ho X4;replace X5:=Hk ho X5;replace X6:=Hk ho X6;replace HB:=Ho ho HB;replace S:Hid (Blk v5 (g) #[.slice none 0 0,.pointer (some ⟨gE,0,none⟩),.pointer (some ⟨gF,0,none⟩),.pointer none,.bool nem,.slice (some ⟨g',0,none⟩) (s.asked.length+1) cap',.int .i64 k,.int .i64 tr,.bool true,.int .i64 ox,.int .i64 oy,.int .i64 oa,.int .i64 ob,.int .i64 od] 121):=by rw[hv];exact Blk.of_eq (((((((((S.out).ab 6 _).ab 7 _).ab 8 _).ab 9 _).ab 10 _).ab 11 _).ab 12 _).ab 13 _) (by simp)
        clear ho hv;obtain⟨qX4a,qX4b⟩:=cl2 X4;have rl_X4:=X4.out.lt;have fz_X4:=X4.out.frozen;have ft_X4:=X4.out.fits 2 (by simp);refine ak 2 #[.int .i64 tr,.bool true] rfl rfl rfl Tryz.underlying119 rfl (by kernel_rfl) rc2 ⟨by rw[EO.out,b0],⟨ah.below ((ah.refl.setCell 0 _).setCell 1 _).drew HB.out (Nat.le_refl _) (by omega),hg,.slice (some ⟨g',0,none⟩) (s.asked.length+1) cap',?_,?_⟩,?_⟩
        ·rw[EZ.out];exact ah.blk ((ah.refl.setCell 0 _).setCell 1 _).drew S.out (by omega)
        ·rw[bf,List.length_append,List.map_append];exact aW HO.out ((ah.refl.setCell 0 _).setCell 1 _).drew X4.out (by decide)
        ·exact HK.out.ck ((ah.refl.setCell 0 _).setCell 1 _).drew (by omega)
       ·have GB:aS (ovV O) k s=false:=by rw[GA.out,b0];simp[j3]
        have EZ:=Lh (Z0.out GB);clear GB Z0 Z1 GA;obtain⟨qX5a,qX5b⟩:=rg2 X5;obtain⟨qSa,qSb,qSc,qSd,qSe,qSf,qSg,qSh,qSi,qSj,qSk,qSl,qSm,qSn⟩:=kK S;refine wp_region_quiet_below (by kernel_rfl) (by kernel_rfl) ?_;repeat (go_big_quiet_step (fail))
        refine wpQuiet_nil ?_;intro x4 hw;have hb:=ay hw;clear hw qX5a qX5b qSa qSb qSc qSd qSe qSf qSg qSh qSi qSj qSk qSl qSm qSn;replace S:=Kp S hb;replace X4:=Kp X4 hb;replace X5:=Kp X5 hb;replace X6:=Kp X6 hb;replace HO:=Lh (bJ HO.out hb);replace HK:=Lh (HK.out.trans (aX.below hb));replace HB:=Tp HB hb;have zz:=HB.out.size;clear hb;obtain⟨qX5a,qX5b⟩:=cl2 X5;have rl_X5:=X5.out.lt;obtain⟨qX4a,qX4b⟩:=cl2 X4;have rl_X4:=X4.out.lt;have fz_X4:=X4.out.frozen;have ft_X4:=X4.out.fits 2 (by simp);go_wp2_with fail;refine ak 2 #[.int .i64 tr,.bool true] rfl rfl rfl Tryz.underlying119 rfl (by kernel_rfl) rc2 ⟨by rw[EO.out,b0],⟨ah.below ((ah.refl.setCell 0 _).setCell 1 _) HB.out (Nat.le_refl _) (by omega),hg,.slice (some ⟨g',0,none⟩) (s.asked.length+1) cap',?_,?_⟩,?_⟩
        ·rw[EZ.out];exact ah.blk ((ah.refl.setCell 0 _).setCell 1 _) S.out (by omega)
        ·rw[bf,List.length_append,List.map_append];exact aW HO.out ((ah.refl.setCell 0 _).setCell 1 _) X4.out (by decide)
        ·exact HK.out.ck ((ah.refl.setCell 0 _).setCell 1 _) (by omega)
      ·have j2':(tr==sn)=false:=by simp[j2]
       have GB:aS (ovV O) k s=false:=by rw[GA.out,b0];simp[j1,j2]
       have EZ:=Lh (Z0.out GB);clear GB Z0 Z1 GA;obtain⟨qX5a,qX5b⟩:=rg2 X5;obtain⟨qSa,qSb,qSc,qSd,qSe,qSf,qSg,qSh,qSi,qSj,qSk,qSl,qSm,qSn⟩:=kK S;refine wp_region_quiet_below (by kernel_rfl) (by kernel_rfl) ?_;repeat (go_big_quiet_step (fail))
       refine wpQuiet_nil ?_;intro x4 hw;have hb:=ay hw;clear hw qX5a qX5b qSa qSb qSc qSd qSe qSf qSg qSh qSi qSj qSk qSl qSm qSn;replace S:=Kp S hb;replace X4:=Kp X4 hb;replace X5:=Kp X5 hb;replace X6:=Kp X6 hb;replace HO:=Lh (bJ HO.out hb);replace HK:=Lh (HK.out.trans (aX.below hb));replace HB:=Tp HB hb;have zz:=HB.out.size;clear hb;obtain⟨qX5a,qX5b⟩:=cl2 X5;have rl_X5:=X5.out.lt;obtain⟨qX4a,qX4b⟩:=cl2 X4;have rl_X4:=X4.out.lt;have fz_X4:=X4.out.frozen;have ft_X4:=X4.out.fits 2 (by simp);go_wp2_with fail;refine ak 2 #[.int .i64 tr,.bool true] rfl rfl rfl Tryz.underlying119 rfl (by kernel_rfl) rc2 ⟨by rw[EO.out,b0],⟨ah.below ((ah.refl.setCell 0 _).setCell 1 _) HB.out (Nat.le_refl _) (by omega),hg,.slice (some ⟨g',0,none⟩) (s.asked.length+1) cap',?_,?_⟩,?_⟩
       ·rw[EZ.out];exact ah.blk ((ah.refl.setCell 0 _).setCell 1 _) S.out (by omega)
       ·rw[bf,List.length_append,List.map_append];exact aW HO.out ((ah.refl.setCell 0 _).setCell 1 _) X4.out (by decide)
       ·exact HK.out.ck ((ah.refl.setCell 0 _).setCell 1 _) (by omega)
end Go.Proofs.YtnoidlacjiafdaaGreat
