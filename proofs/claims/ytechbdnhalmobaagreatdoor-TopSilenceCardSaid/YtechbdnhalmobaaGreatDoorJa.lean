/- Walks. -/
import Derived.Test.YtechbdnhalmobaaGreatDoorIA
import Derived.Test.YtechbdnhalmobaaGreatDoorN0
namespace Go.Proofs.YtechbdnhalmobaaGreatDoor
set_option maxRecDepth 100000
set_option maxHeartbeats 16000000
set_option linter.unusedSimpArgs false
set_option linter.unusedVariables false
open Go.Proofs.Tryz
open Go.RowKit
theorem DM(x y p q:WI)(f c:Nat)(w:World)(g:w.row? f 0 18=some p.cells)(h:w.row? c 0 18=some q.cells):zR 271 #[.agg x.cells,.agg y.cells,.pointer (some ⟨f,0,none⟩),.pointer (some ⟨c,0,none⟩)] w (.agg (cK x p y q).cells):=by
 have l:=aL g;have j:=aL h;have n:f<w.heap.size+1:=by omega
 have i:f<w.heap.size+1+1:=by omega
 have o:c<w.heap.size+1:=by omega
 have m:c<w.heap.size+1+1:=by omega
 go_enter func271,ntmps271;go_wp2_with fail;refine(oO x p y q _ _ (Blk.new' _ _ _ (by simp))).mono ?_;rintro e k ⟨rfl,a⟩;have b:=a.size;(try simp at b);have d:=bq3 a (w.heap.size);go_wp2_with fail;exact ak 18 (cK x p y q).cells rfl rfl rfl underlying153 rfl aE (by go_simp) ⟨rfl,ad⟩
theorem vO(y r A G q t o u E F H s D p:WI)(k:Int)(h0:0<=k)(h1:k<=34)(P Q:WI)(hP:(WI.of k).mul p=P)(hQ:(WI.of (34-k)).mul o=Q)(w:World):zR 213 #[.agg (blk [y,r,A,G,q,t,o]),.agg (blk [u,E,F,H,s,D,p]),k] w (.tuple #[.agg (blk [cK y P u Q,cK r P E Q,cK A P F Q,cK G P H Q,cK q P s Q,cK t P D Q,(WI.of 34).mul (o.mul p)]),.int .i64 0]):=by
 have K:Hid (I64 k/\I64 (34-k)/\I64 34):=by unfold Hid I64;omega
 have HP:=Lh hP;have HQ:=Lh hQ;clear hP hQ;go_enter func213,ntmps213;go_wp2_with fail;obtain⟨f,d⟩:∃f,f=((w.alloc (Obj.cells (blk [y,r,A,G,q,t,o]) 225)).alloc (Obj.cells (blk [u,E,F,H,s,D,p]) 225)).alloc (Obj.cells (blk [WI.of 0,WI.of 0,WI.of 0,WI.of 0,WI.of 0,WI.of 0,WI.of 0]) 225):=⟨_,rfl⟩;rw[<-d];have HI:Hid (Blk f w.heap.size (blk [y,r,A,G,q,t,o]) 225):=by rw[d];exact((Blk.new _ _ _).alloc _).alloc _
 have Z:Hid (Blk f (w.heap.size+1) (blk [u,E,F,H,s,D,p]) 225):=by rw[d];exact(Blk.new' _ _ _ (by simp)).alloc _
 have HR:Hid (Blk f (w.heap.size+1+1) (blk [WI.of 0,WI.of 0,WI.of 0,WI.of 0,WI.of 0,WI.of 0,WI.of 0]) 225):=by rw[d];exact Blk.new' _ _ _ (by simp)
 have C:zB w f:=by rw[d];exact ad
 have a7:f.heap.size=w.heap.size+1+1+1:=by rw[d];simp
 clear d;go_cut [8] from 9 (fun s8 wc=>∃g,s8=.pointer (some ⟨g,0,none⟩)/\f.heap.size<=g/\Hid (wc.row? g 0 18=some P.cells)/\Hid (zB f wc))
 case first=>
  have j6:=@aA _ _ _ _ _ ((Z.out.row? 108 18 (by simp)).trans (congrArg some (mS _ _ _ _ _ _ _ _)));refine aB 6 (fun k=>match k with|5=>some ⟨.cells (cellsI false false 0) 153,fun g=>.pointer (some ⟨g,0,none⟩)⟩|_=>none) (fun _=>[]) (by kernel_rfl) (by kernel_rfl) ?_;apply Eb;apply Eb;apply Eb;apply Eb;apply Eb;apply Ef;refine⟨[],fun h NN hN=>?_⟩;simp only[List.take_succ_cons,List.take_zero,List.drop_succ_cons,List.drop_zero];(repeat (first|(refine bi rfl ?_;go_big_quiet_step (first|exact rfl|(first|(go_at_call 86;exact aF (eg _ K.out.1.1 K.out.1.2 _))|(go_at_call 153;exact aF (cN _ _ _))));refine wpQuiet_nil ⟨rfl,?_⟩)|(refine bK _ (by rfl) (by rfl) ?hex ?_;(case hex=>(intro wx;first|(go_simp;done)|(go_simp;rfl)));simp only[Act.put,List.setIfInBounds_toArray,List.set_cons_succ,List.set_cons_zero])));refine bF ?_;intro i m z _;have a:zB f i:=m;obtain⟨S,e8⟩:=z 5 _ (by decide) rfl;clear z m;have G8:Hid (Blk i (h 5) (cellsI false false 0) 153):=e8;rw[HP.out];have M:i.put? (h 5) 0 P.cells=some (i.putRow (h 5) 0 P.cells):=G8.out.put? 0 _ (by simp) (by simp);clear e8 j6;go_wp2_with fail;go_meet;exact⟨h 5,rfl,S,cP M (by simp),ar a S _ _⟩
 case rest=>
  obtain⟨g8,rfl,S,r8,O⟩:=hcut;have a:=O.out;have x:=Lh (HI.out.keep a);have T:=Lh (Z.out.keep a);have N:=Lh (HR.out.keep a);go_wp2_with fail;go_cut [9] from 10 (fun s9 Y=>∃g,s9=.pointer (some ⟨g,0,none⟩)/\f.heap.size<=g/\Hid (Y.row? g 0 18=some Q.cells)/\Hid (zB wc Y))
  case first=>
   have L:=@aA _ _ _ _ _ ((x.out.row? 108 18 (by simp)).trans (congrArg some (mS _ _ _ _ _ _ _ _)));refine aB 7 (fun k=>match k with|6=>some ⟨.cells (cellsI false false 0) 153,fun g=>.pointer (some ⟨g,0,none⟩)⟩|_=>none) (fun _=>[]) (by kernel_rfl) (by kernel_rfl) ?_;apply Eb;apply Eb;apply Eb;apply Eb;apply Eb;apply Eb;apply Ef;refine⟨[],fun h NN hN=>?_⟩;simp only[List.take_succ_cons,List.take_zero,List.drop_succ_cons,List.drop_zero];(repeat (first|(refine bi rfl ?_;go_big_quiet_step (first|exact rfl|(first|(go_at_call 86;exact aF (eg _ K.out.2.1.1 K.out.2.1.2 _))|(go_at_call 153;exact aF (cN _ _ _))));refine wpQuiet_nil ⟨rfl,?_⟩)|(refine bK _ (by rfl) (by rfl) ?hex ?_;(case hex=>(intro wx;first|(go_simp;done)|(go_simp;rfl)));simp only[Act.put,List.setIfInBounds_toArray,List.set_cons_succ,List.set_cons_zero])));refine bF ?_;intro i j z _;have c:zB wc i:=j;obtain⟨R,e9⟩:=z 6 _ (by decide) rfl;clear z j;have G9:Hid (Blk i (h 6) (cellsI false false 0) 153):=e9;rw[HQ.out];have J:i.put? (h 6) 0 Q.cells=some (i.putRow (h 6) 0 Q.cells):=G9.out.put? 0 _ (by simp) (by simp);clear e9 L;go_wp2_with fail;go_meet;exact⟨h 6,rfl,Nat.le_trans a.size R,cP J (by simp),ar c R _ _⟩
  case rest=>
   obtain⟨g9,rfl,R,r9,W⟩:=hcut;have c:=W.out;have b:=Lh (x.out.keep c);have e:=Lh (T.out.keep c);have V:=Lh (N.out.keep c);have v:zB f wc:=Below.trans a (c.mono a.size);have k8:=@aA _ _ _ _ _ ((Below.row? c g8 0 18 (aL r8.out)).trans r8.out);have k9:=@aA _ _ _ _ _ r9.out;have i0:=@aA _ _ _ _ _ ((b.out.row? 0 18 (by simp)).trans (congrArg some (gK _ _)));have i1:=@aA _ _ _ _ _ ((b.out.row? 18 18 (by simp)).trans (congrArg some (gJ _ _ _)));have i2:=@aA _ _ _ _ _ ((b.out.row? 36 18 (by simp)).trans (congrArg some (iK _ _ _ _)));have i3:=@aA _ _ _ _ _ ((b.out.row? 54 18 (by simp)).trans (congrArg some (jQ _ _ _ _ _)));have i4:=@aA _ _ _ _ _ ((b.out.row? 72 18 (by simp)).trans (congrArg some (jP _ _ _ _ _ _)));have i5:=@aA _ _ _ _ _ ((b.out.row? 90 18 (by simp)).trans (congrArg some (tG _ _ _ _ _ _ _)));have L:=@aA _ _ _ _ _ ((b.out.row? 108 18 (by simp)).trans (congrArg some (mS _ _ _ _ _ _ _ _)));have j0:=@aA _ _ _ _ _ ((e.out.row? 0 18 (by simp)).trans (congrArg some (gK _ _)));have j1:=@aA _ _ _ _ _ ((e.out.row? 18 18 (by simp)).trans (congrArg some (gJ _ _ _)));have j2:=@aA _ _ _ _ _ ((e.out.row? 36 18 (by simp)).trans (congrArg some (iK _ _ _ _)));have j3:=@aA _ _ _ _ _ ((e.out.row? 54 18 (by simp)).trans (congrArg some (jQ _ _ _ _ _)));have j4:=@aA _ _ _ _ _ ((e.out.row? 72 18 (by simp)).trans (congrArg some (jP _ _ _ _ _ _)));have j5:=@aA _ _ _ _ _ ((e.out.row? 90 18 (by simp)).trans (congrArg some (tG _ _ _ _ _ _ _)));have j6:=@aA _ _ _ _ _ ((e.out.row? 108 18 (by simp)).trans (congrArg some (mS _ _ _ _ _ _ _ _)));go_wp2_with fail;refine aB 44 (fun _=>none) (fun _=>[]) (by kernel_rfl) (by kernel_rfl) ?_;apply Eb;apply Eb;apply Eb;apply Eb;apply Eb;apply Eb;apply Eb;apply Eb;apply Eb;apply Eb;apply Eb;apply Eb;apply Eb;apply Eb;apply Eb;apply Eb;apply Eb;apply Eb;apply Eb;apply Eb;apply Eb;apply Eb;apply Eb;apply Eb;apply Eb;apply Eb;apply Eb;apply Eb;apply Eb;apply Eb;apply Eb;apply Eb;apply Eb;apply Eb;apply Eb;apply Eb;apply Eb;apply Eb;apply Eb;apply Eb;apply Eb;apply Eb;apply Eb;apply Eb;refine⟨[],fun h NN hN=>?_⟩;simp only[List.take_succ_cons,List.take_zero,List.drop_succ_cons,List.drop_zero];(repeat (refine bi rfl ?_;go_big_quiet_step (first|exact rfl|(first|(go_at_call 153;exact aF (cN _ _ _))|(go_at_call 271;rename_i px;exact aF (DM _ _ P Q g8 g9 _ (k8 px) (k9 px)))|(go_at_call 86;exact aF (eg _ K.out.2.2.1 K.out.2.2.2 _))));refine wpQuiet_nil ⟨rfl,?_⟩));refine bF ?_;intro w8 l _ _;have B:zB wc w8:=l;clear l k8 k9 i0 j0 i1 j1 i2 j2 i3 j3 i4 j4 i5 j5 L j6;have U:=Lh (V.out.keep B);have I:=U.out.put? 0 (blk [cK y P u Q,cK r P E Q,cK A P F Q,cK G P H Q,cK q P s Q,cK t P D Q,(WI.of 34).mul (o.mul p)]) (by simp) (by simp);have rR:=cP I (n:=126) (by simp);have X:zB w w8:=Below.trans C ((Below.trans v (B.mono v.size)).mono C.size);go_wp2_with fail;exact az 126 _ (.int .i64 0) rfl rfl rfl rfl underlying225 rfl dZ rR ⟨rfl,ar X (by omega) _ _⟩
theorem yh(j m b o g c d a i l p n e f:WI)(k:Int)(h:k<0∨34<k)(w:World):zR 213 #[.agg (blk [j,m,b,o,g,c,d]),.agg (blk [a,i,l,p,n,e,f]),k] w (.tuple #[.agg (blk [WI.of 0,WI.of 0,WI.of 0,WI.of 0,WI.of 0,WI.of 0,WI.of 0]),.int .i64 1]):=by
 by_cases r:k<0
 ·clear h;go_enter func213,ntmps213;go_wp2_with fail;exact az 126 (blk [WI.of 0,WI.of 0,WI.of 0,WI.of 0,WI.of 0,WI.of 0,WI.of 0]) (.int .i64 1) rfl rfl rfl rfl underlying225 rfl dZ (by go_simp) ⟨rfl,ad⟩
 ·have q:34<k:=by omega
  clear h;go_enter func213,ntmps213;go_wp2_with fail;exact az 126 (blk [WI.of 0,WI.of 0,WI.of 0,WI.of 0,WI.of 0,WI.of 0,WI.of 0]) (.int .i64 1) rfl rfl rfl rfl underlying225 rfl dZ (by go_simp) ⟨rfl,ad⟩
def mixI(i j:Iq)(k:Int):Iq:=⟨i.A*(k*j.N)+j.A*((34-k)*i.N),i.B*(k*j.N)+j.B*((34-k)*i.N),i.D*(k*j.N)+j.D*((34-k)*i.N),i.U*(k*j.N)+j.U*((34-k)*i.N),
 i.V*(k*j.N)+j.V*((34-k)*i.N),i.Z*(k*j.N)+j.Z*((34-k)*i.N),34*(i.N*j.N)⟩
def mixQ(i j:Iq)(k:Int):Iq×Int:=if 0<=k/\k<=34 then (mixI i j k,0) else (Iq.zero,1)
structure Iq.Sml (n:Nat) (i:Iq):Prop where
 A:Sm n i.A
 B:Sm n i.B
 D:Sm n i.D
 U:Sm n i.U
 V:Sm n i.V
 Z:Sm n i.Z
 N:Sm n i.N
theorem FB(i j:Iq)(f:i.Sml 120)(d:j.Sml 120)(k:Int)(w:World):zR 213 #[iqV i,iqV j,k] w (.tuple #[iqV (mixQ i j k).1,.int .i64 (mixQ i j k).2]):=by
 by_cases h:0<=k/\k<=34
 ·have e:mixQ i j k=(mixI i j k,0):=by unfold mixQ;rw[if_pos h]
  have l:Sm 120 k:=(Sm.of64 (by omega) (by omega)).mono (by decide);have g:Sm 120 (34-k):=(Sm.of64 (by omega) (by omega)).mono (by decide);have p:Sm 120 34:=(Sm.of64 (by decide) (by decide)).mono (by decide);have m:(WI.of k).mul (WI.of j.N)=WI.of (k*j.N):=WI.au (l.lim (by decide)) (d.N.lim (by decide));have t:(WI.of (34-k)).mul (WI.of i.N)=WI.of ((34-k)*i.N):=WI.au (g.lim (by decide)) (f.N.lim (by decide));have r:=l.mul d.N;have n:=g.mul f.N
  have c:∀a b,Sm 120 a->Sm 120 b->cK (WI.of a) (WI.of (k*j.N)) (WI.of b) (WI.of ((34-k)*i.N))=WI.of (a*(k*j.N)+b*((34-k)*i.N)):=fun a b q s=>
   kR (j:=240) _ _ _ _ (q.mono (by decide)) r (s.mono (by decide)) n (by decide)
  have o:(WI.of 34).mul ((WI.of i.N).mul (WI.of j.N))=WI.of (34*(i.N*j.N)):=by
   rw[WI.au (f.N.lim (by decide)) (d.N.lim (by decide)),WI.au (p.lim (by decide)) ((f.N.mul d.N).lim (by decide))]
  have:=vO (WI.of i.A) (WI.of i.B) (WI.of i.D) (WI.of i.U) (WI.of i.V) (WI.of i.Z) (WI.of i.N) (WI.of j.A) (WI.of j.B) (WI.of j.D) (WI.of j.U) (WI.of j.V) (WI.of j.Z) (WI.of j.N) k h.1 h.2 _ _ m t w;rw[c _ _ f.A d.A,c _ _ f.B d.B,c _ _ f.D d.D,c _ _ f.U d.U,c _ _ f.V d.V,c _ _ f.Z d.Z,o] at this;rw[e];exact this
 ·have e:mixQ i j k=(Iq.zero,1):=by unfold mixQ;rw[if_neg h]
  rw[e];exact yh _ _ _ _ _ _ _ _ _ _ _ _ _ _ k (by omega) w
def ew(l:List WI):Bool:=l.any (·.ov)
theorem BX{w:World}{g:Nat}{l:List WI}{t:TypeId}(h:Blk w g (blk l) t)(k:Nat)(x:WI)(a:l[k]?=some x):w.row? g (18*k) 18=some x.cells:=by
 have b:k<l.length:=(List.getElem?_eq_some_iff.1 a).1;rw[h.row? (18*k) 18 (by rw[js];omega),gL l k x a]
theorem DB(x:WI)(b:Bool)(h:x.ov=b)(w:World):zR 319 #[.agg x.cells] w (.bool b):=by
 subst h;exact gb x w
theorem xQ(l:List WI)(g:Nat)(w:World)(B:l.length<=1000)(a:ew l=false)(f:w.heap[g]?=some (.cells (blk l) 153 (0,0))):zR 274 #[.slice (some ⟨g,0,none⟩) l.length l.length] w (.bool false):=by
 have m:Hid (Blk w g (blk l) 153):=f;have p:=Lh a;have v:=m.out.lt;clear f a;go_enter func274,ntmps274;go_wp2
 go_loopw [7] (fun i wr=>∃k:Nat,k<=l.length/\i=.int .i64 k/\Hid (zB w wr)) (fun i _=>l.length-(intOf i).toNat)
 case atStart=>exact⟨0,by omega,rfl,Below.refl _ _⟩
 case round=>
  obtain⟨k,A,rfl,d⟩:=hrel;by_cases b:k<l.length
  ·obtain⟨x,j⟩:∃x,l[k]?=some x:=⟨_,List.getElem?_eq_getElem b⟩
   have c:Hid (x.ov=false):=by
    have h:=p.out;unfold ew at h;rw[List.any_eq_false] at h;have:=h x (List.mem_of_getElem? j);show x.ov=false;simpa using this
   have n:=BX (m.out.keep d.out) k x j;have z:wr.row? g (k*18) 18=some x.cells:=by rw[Nat.mul_comm];exact n
   have t:=d.out;have s:(k:Int)<(l.length:Int):=by omega
   have o:(0:Int)<=k:=by omega
   clear n;go_wp2_with fail;refine(DB _ _ c.out _).mono ?_;rintro e y ⟨rfl,r⟩;have u:=t.size;go_wp2_with fail;refine⟨⟨k+1,by omega,by go_num,?_⟩,by simp[intOf];omega⟩;exact(show Below _ _ _ from ad)
  ·have q:¬(k:Int)<(l.length:Int):=by omega
   go_wp2_with fail;go_ret;exact⟨rfl,d.out⟩
theorem FX(j c g i b h d:WI)(a:ew [j,c,g,i,b,h,d]=false)(w:World):zR 273 #[.agg (blk [j,c,g,i,b,h,d])] w (.bool false):=by
 have k:=Lh a;clear a;go_enter func273,ntmps273;go_wp2_with fail;refine(xQ [j,c,g,i,b,h,d] _ _ (by simp) k.out (Blk.new' _ _ _ (by simp))).mono ?_;rintro e m ⟨rfl,f⟩;have l:=f.size;simp at l;go_wp2_with fail;go_ret;exact⟨rfl,ad⟩
def i9(a0 a1 a2 a3 a4 a5 a6 d:WI):WI:=((a6.sub a5).mul d).add ((cK a2 (a3.mul a3) a0 (a4.mul a4)).add ((WI.of 2).mul (a1.mul (a3.mul a4))).neg)
theorem CE:Hid (-9223372036854775808<=(2:Int)/\(2:Int)<=9223372036854775807):=⟨by decide,by decide⟩
theorem Bk(r t p c e E D d:WI)(w:World):zR 272 #[.agg (blk [r,t,p,c,e,E,D]),.agg d.cells] w (.agg (i9 r t p c e E D d).cells):=by
 go_enter func272,ntmps272;go_wp2_with fail;obtain⟨wc,j⟩:∃w3,w3=((w.alloc (Obj.cells (blk [r,t,p,c,e,E,D]) 225)).alloc (Obj.cells d.cells 153)).alloc (Obj.cells (cellsI false false 0) 153):=⟨_,rfl⟩;rw[<-j];have i:Hid (Blk wc w.heap.size (blk [r,t,p,c,e,E,D]) 225):=by rw[j];exact((Blk.new _ _ _).alloc _).alloc _
 have v:Hid (wc.row? (w.heap.size+1) 0 18=some d.cells):=by
  have:Blk wc (w.heap.size+1) d.cells 153:=by rw[j];exact(Blk.new' _ _ _ (by simp)).alloc _
  exact this.row?_all 18 (by simp)
 have x:Hid (Blk wc (w.heap.size+1+1) (cellsI false false 0) 153):=by rw[j];exact Blk.new' _ _ _ (by simp)
 have b:zB w wc:=by rw[j];exact ad
 clear j;go_cut [5] from 6 (fun Z A=>∃z,Z=.pointer (some ⟨z,0,none⟩)/\w.heap.size<=z/\Hid (A.row? z 0 18=some (cK p (c.mul c) r (e.mul e)).cells)/\Hid (zB wc A))
 case first=>
  have i0:=@aA _ _ _ _ _ ((i.out.row? 0 18 (by simp)).trans (congrArg some (gK _ _)));have W:=@aA _ _ _ _ _ ((i.out.row? 36 18 (by simp)).trans (congrArg some (iK _ _ _ _)));have N:=@aA _ _ _ _ _ ((i.out.row? 54 18 (by simp)).trans (congrArg some (jQ _ _ _ _ _)));have K:=@aA _ _ _ _ _ ((i.out.row? 72 18 (by simp)).trans (congrArg some (jP _ _ _ _ _ _)));refine aB 17 (fun k=>match k with|14=>some ⟨.cells (blk [p,c.mul c,r,e.mul e]) 153,fun g=>.slice (some ⟨g,0,none⟩) 4 4⟩|16=>some ⟨.cells (cellsI false false 0) 153,fun g=>.pointer (some ⟨g,0,none⟩)⟩|_=>none) (fun k=>match k with|15=>[14]|_=>[]) (by kernel_rfl) (by kernel_rfl) ?_;apply Eb;apply Eb;apply Eb;apply Eb;apply Eb;apply Eb;apply Eb;apply Eb;apply Eb;apply Eb;apply Eb;apply Eb;apply Eb;apply Eb;apply Ef;apply Eb;apply Ef;refine⟨[],fun q V J=>?_⟩;simp only[List.take_succ_cons,List.take_zero,List.drop_succ_cons,List.drop_zero];(repeat (first|(refine bi rfl ?_;go_big_quiet_step (first|exact rfl|(first|(go_at_call 153;exact aF (cN _ _ _))|(go_at_call 212;rename_i px;exact aF (oO _ _ _ _ _ _ (px.has 14 (J 15 14 (by simp)) _ rfl).2))));refine wpQuiet_nil ⟨rfl,?_⟩)|(refine bK _ (by rfl) (by rfl) ?hex ?_;(case hex=>(intro Y;first|(go_simp;done)|(go_simp;rfl)));simp only[Act.put,List.setIfInBounds_toArray,List.set_cons_succ,List.set_cons_zero])));refine bF ?_;intro s f B I;have a:zB wc s:=f;obtain⟨M,P⟩:=B 16 _ (by decide) rfl;have R:Hid (Blk s (q 16) (cellsI false false 0) 153):=P;have a7:(s).put? (q 16) 0 (cK p (c.mul c) r (e.mul e)).cells=some ((s).putRow (q 16) 0 (cK p (c.mul c) r (e.mul e)).cells):=(R.out).put? 0 _ (by simp) (by simp);clear B I f P i0 W N K;go_wp2_with fail;go_meet;refine⟨q 16,rfl,Nat.le_trans b.size M,?_,(ar a M _ _)⟩
  ·show _=_;rw[(((R.out).aK 0 (cK p (c.mul c) r (e.mul e)).cells)).row? 0 18 (by simp)];simp
 case rest=>
  obtain⟨z,rfl,M,G,o⟩:=hcut;have a:=o.out;have h:=Below.trans b (a.mono b.size);clear b;have b:=h;clear h;have m:=Lh (i.out.keep a);clear i;have i:=m;clear m;have v:=Lh ((Below.row? a _ 0 18 (aL v.out)).trans v.out);have l:=Lh (x.out.keep a);clear x;have x:=l;clear l;clear a o;go_wp2_with fail;go_cut [6] from 7 (fun s6 A=>∃F,s6=.pointer (some ⟨F,0,none⟩)/\w.heap.size<=F/\Hid (A.row? F 0 18=some ((WI.of 2).mul (t.mul (c.mul e))).cells)/\Hid (zB wc A))
  case first=>
   have i1:=@aA _ _ _ _ _ ((i.out.row? 18 18 (by simp)).trans (congrArg some (gJ _ _ _)));have N:=@aA _ _ _ _ _ ((i.out.row? 54 18 (by simp)).trans (congrArg some (jQ _ _ _ _ _)));have K:=@aA _ _ _ _ _ ((i.out.row? 72 18 (by simp)).trans (congrArg some (jP _ _ _ _ _ _)));refine aB 11 (fun k=>match k with|10=>some ⟨.cells (cellsI false false 0) 153,fun g=>.pointer (some ⟨g,0,none⟩)⟩|_=>none) (fun _=>[]) (by kernel_rfl) (by kernel_rfl) ?_;apply Eb;apply Eb;apply Eb;apply Eb;apply Eb;apply Eb;apply Eb;apply Eb;apply Eb;apply Eb;apply Ef;refine⟨[],fun q V J=>?_⟩;simp only[List.take_succ_cons,List.take_zero,List.drop_succ_cons,List.drop_zero];(repeat (first|(refine bi rfl ?_;go_big_quiet_step (first|exact rfl|(first|(go_at_call 153;exact aF (cN _ _ _))|(go_at_call 86;exact aF (eg _ CE.out.1 CE.out.2 _))));refine wpQuiet_nil ⟨rfl,?_⟩)|(refine bK _ (by rfl) (by rfl) ?hex ?_;(case hex=>(intro Y;first|(go_simp;done)|(go_simp;rfl)));simp only[Act.put,List.setIfInBounds_toArray,List.set_cons_succ,List.set_cons_zero])));refine bF ?_;intro s f B I;have a:zB wc s:=f;obtain⟨H,T⟩:=B 10 _ (by decide) rfl;have Q:Hid (Blk s (q 10) (cellsI false false 0) 153):=T;have a8:(s).put? (q 10) 0 ((WI.of 2).mul (t.mul (c.mul e))).cells=some ((s).putRow (q 10) 0 ((WI.of 2).mul (t.mul (c.mul e))).cells):=(Q.out).put? 0 _ (by simp) (by simp);clear B I f T i1 N K;go_wp2_with fail;go_meet;refine⟨q 10,rfl,Nat.le_trans b.size H,?_,(ar a H _ _)⟩
   ·show _=_;rw[(((Q.out).aK 0 ((WI.of 2).mul (t.mul (c.mul e))).cells)).row? 0 18 (by simp)];simp
  case rest=>
   obtain⟨F,rfl,H,r6,o⟩:=hcut;have a:=o.out;have h:=Below.trans b (a.mono b.size);clear b;have b:=h;clear h;have m:=Lh (i.out.keep a);clear i;have i:=m;clear m;have G:=Lh ((Below.row? a z 0 18 (aL G.out)).trans G.out);have v:=Lh ((Below.row? a _ 0 18 (aL v.out)).trans v.out);have l:=Lh (x.out.keep a);clear x;have x:=l;clear l;clear a o;have i5:=@aA _ _ _ _ _ ((i.out.row? 90 18 (by simp)).trans (congrArg some (tG _ _ _ _ _ _ _)));have X:=@aA _ _ _ _ _ ((i.out.row? 108 18 (by simp)).trans (congrArg some (mS _ _ _ _ _ _ _ _)));have k3:=@aA _ _ _ _ _ v.out;have k5:=@aA _ _ _ _ _ G.out;have k6:=@aA _ _ _ _ _ r6.out;go_wp2_with fail;refine aB 12 (fun _=>none) (fun _=>[]) (by kernel_rfl) (by kernel_rfl) ?_;apply Eb;apply Eb;apply Eb;apply Eb;apply Eb;apply Eb;apply Eb;apply Eb;apply Eb;apply Eb;apply Eb;apply Eb;refine⟨[],fun q V J=>?_⟩;simp only[List.take_succ_cons,List.take_zero,List.drop_succ_cons,List.drop_zero];(repeat (refine bi rfl ?_;go_big_quiet_step (first|exact rfl|(first|(go_at_call 153;exact aF (cN _ _ _))|(go_at_call 155;exact aF (mV _ _ _))|(go_at_call 85;exact aF (jY _ _ _))|(go_at_call 156;exact aF (qH _ _))));refine wpQuiet_nil ⟨rfl,?_⟩));refine bF ?_;intro U u _ _;have C:zB wc U:=u;clear u i5 X k3 k5 k6;have L:=Lh (x.out.keep C);have y:=L.out.put? 0 (i9 r t p c e E D d).cells (by simp) (by simp);have S:=cP y (n:=18) (by simp);have O:zB w U:=Below.trans b (C.mono b.size);unfold i9 at y S;go_wp2_with fail;exact ak 18 _ rfl rfl rfl underlying153 rfl aE S ⟨rfl,ar O (by omega) _ _⟩
theorem ol:I64 0:=⟨by decide,by decide⟩
theorem WI.Bt(x:WI):I64 x.i64.1:=by
 unfold WI.i64;split
 ·split
  ·rename_i h;exact h
  ·exact ol
 ·exact ol
theorem kv(x:WI)(e:Int):I64 (aV x e).1:=by
 unfold aV;split
 ·exact ol
 ·split
  ·exact x.Bt
  ·exact ol
theorem io(x y:WI):I64 (bP x y).1:=by
 unfold bP;split
 ·exact ol
 ·exact kv _ _
@[go_sem] theorem row?_setCell_other{w : World}{g i : Nat}{v : Value}{b o n : Nat}(h : b≠g):(w.setCell ⟨g, i, none⟩ v).row? b o n=w.row? b o n:=by
  unfold World.row?;rw[heap_setCell_other _ _ _ _ h]
@[go_sem] theorem th{w : World}{g i : Nat}{v : Value}{b n : Nat}(h : b≠g):(w.setCell ⟨g, i, none⟩ v).fits b n=w.fits b n:=by
  unfold World.fits;rw[heap_setCell_other _ _ _ _ h]
theorem DK(x y:WI)(n e:Int)(h:bR x y=(n,e))(w:World):zR 276 #[.agg x.cells,.agg y.cells] w (.tuple #[n,e]):=by
 have:=DL x y w;rw[h] at this;exact this
theorem yX(x y:WI)(n e:Int)(h:bP x y=(n,e))(w:World):zR 277 #[.agg x.cells,.agg y.cells] w (.tuple #[n,e]):=by
 have:=Ei x y w;rw[h] at this;exact this
theorem Bz(x y:WI)(n e:Int)(h:xY x y=(n,e))(w:World):zR 278 #[.agg x.cells,.agg y.cells] w (.tuple #[n,e]):=by
 have:=uy x y w;rw[h] at this;exact this
theorem D3:∀a w,Sem.run prog (callFunc 276 a) w=.ok (.enter 276 a) w:=by intro a w;rfl
theorem yB:∀a w,Sem.run prog (callFunc 277 a) w=.ok (.enter 277 a) w:=by intro a w;rfl
theorem By:∀a w,Sem.run prog (callFunc 278 a) w=.ok (.enter 278 a) w:=by intro a w;rfl
def cm(cx cy a b d e:Int):El×Int:=
 if e≠0∨70368744177664<=a∨70368744177664<=d then (El.zero,2)
 else if El.may ⟨cx,cy,a+1,b,d+1⟩=true then growE ⟨cx,cy,a+1,b,d+1⟩ 1 else (El.zero,2)
theorem kU(h:FuncId)(x y:WI)(n e c:Int)(g:Nat)(w:World)(m:∀b w,Sem.run prog (callFunc h b) w=.ok (.enter h b) w)(H:∀w,zR h #[.agg x.cells,.agg y.cells] w (.tuple #[n,e]))(p:w.cell? ⟨g,0,none⟩=some (.int .i64 c))(s:w.frozen? ⟨g,0,none⟩=false):Calls prog 275 #[.func (.func h) #[] #[],.agg x.cells,.agg y.cells,.pointer (some ⟨g,0,none⟩)] w
   fun r o=>r=.returned (.int .i64 n)/\∃f,zB w f/\o=f.setCell ⟨g,0,none⟩ (.int .i64 (max c e)):=by
 have l:=Lh H;have q:g<w.heap.size:=block_lt_of_cell p;have u:g<w.heap.size+1:=by omega
 clear H;go_enter func275,ntmps275;go_wp2_with fail;refine(l.out _).mono ?_;rintro t f ⟨rfl,a⟩;have d:=a.size;(try simp at d);have k:=bq a (w.heap.size);have j:=bq a (w.heap.size+1);have i:=bq a (g);go_wp2_with fail;go_ret;exact⟨rfl,f,ad,rfl⟩
theorem yI(x y a b d:Int)(m:Bool)(h:El.may ⟨x,y,a,b,d⟩=m)(w:World):zR 34 #[elC x y a b d] w (.bool m):=by
 subst h;exact bD x y a b d w
theorem ah.row?{g:Nat}{w w':World}(h:ah g w w')(b o n:Nat)(c:b<w.heap.size)(a:b≠g):w'.row? b o n=w.row? b o n:=by
 unfold World.row?;rw[h.block b c a]
structure ct (w:World) (g:Nat) (K:Int) (v:World):Prop where
 lt:g<w.heap.size
 only:ah g w v
 blk:Blk v g #[K] 46
theorem ct.drew{w v:World}{g:Nat}{K:Int}(h:ct w g K v):ct w g K v.drew:=⟨h.lt,h.only.drew,h.blk.drew⟩
theorem ct.alloc{w v:World}{g:Nat}{K:Int}(h:ct w g K v)(o:Obj):ct w g K (v.alloc o):=⟨h.lt,h.only.alloc o,h.blk.alloc o⟩
theorem ct.fc{w v W:World}{g:Nat}{K k:Int}(h:ct w g K v)(a:ct w g k W)(i:Nat)(x:Value):ct w g K (v.setCell ⟨W.heap.size,i,none⟩ x):=
 ⟨h.lt,h.only.fc a.only.size i x,h.blk.ac (by have:=h.lt;have:=a.only.size;simp only;omega) x⟩
theorem ct.room{w v:World}{g:Nat}{K:Int}(h:ct w g K v):w.heap.size<=v.heap.size:=h.only.size
theorem Blk.put5{w:World}{g:Nat}{a b c d e:Value}{t:TypeId}(h:Blk w g #[a,b,c,d,e] t)(x y z u v:Value):Blk (((((w.setCell ⟨g,0,none⟩ x).setCell ⟨g,1,none⟩ y).setCell ⟨g,2,none⟩ z).setCell ⟨g,3,none⟩ u).setCell ⟨g,4,none⟩ v) g #[x,y,z,u,v] t:=
 (((((h.ab 0 x).ab 1 y).ab 2 z).ab 3 u).ab 4 v).of_eq rfl
theorem uG(w:World):w.drew.heap.size=w.heap.size:=rfl
theorem ct.ne{w v:World}{g:Nat}{K:Int}(h:ct w g K v):v.heap.size≠g:=by have:=h.lt;have:=h.only.size;omega
theorem ct.rows{w v:World}{g:Nat}{K:Int}(h:ct w g K v){a b c:Nat}{x y z:Array Value}(k:a≠g)(j:b≠g)(i:c≠g)(d:Hid (w.row? a 0 18=some x))(e:Hid (w.row? b 0 18=some y))(f:Hid (w.row? c 0 18=some z)):v.row? a 0 18=some x/\v.row? b 0 18=some y/\v.row? c 0 18=some z:=
 ⟨(h.only.row? a 0 18 (aL d.out) k).trans d.out,(h.only.row? b 0 18 (aL e.out) j).trans e.out,(h.only.row? c 0 18 (aL f.out) i).trans f.out⟩
theorem qA(x y:WI)(n e K:Int)(g:Nat){w0 w:World}(H:Hid (bR x y=(n,e)))(h:ct w0 g K w):Calls Tryz.prog 275 #[.func (.func 276) #[] #[],.agg x.cells,.agg y.cells,.pointer (some ⟨g,0,none⟩)] w
   fun r a=>r=.returned (.int .i64 n)/\ct w0 g (max K e) a/\ah g w a:=by
 refine Calls.mono (kU 276 x y n e K g w D3 (DK x y n e H.out) (h.blk.cell rfl) (h.blk.frozen 0)) ?_;rintro r a ⟨rfl,d,c,rfl⟩;have b:ah g w (d.setCell ⟨g,0,none⟩ (.int .i64 (max K e))):=(ah.of_below c).setCell 0 _;exact⟨rfl,⟨h.lt,h.only.trans b,((h.blk.keep c).ab 0 _).of_eq rfl⟩,b⟩
theorem yJ(v t B V W a5 a6:WI)(d x y u sq p q r:WI)(HD:Hid ((v.mul B).sub (t.mul t)=d))(HX:Hid ((B.mul V).sub (t.mul W)=x))(HY:Hid ((v.mul W).sub (t.mul V)=y))(HL:Hid (i9 v t B V W a5 a6 d=u))(HS:Hid (d.mul d=sq))(HP:Hid (u.mul B=p))(HQ:Hid (u.mul v=q))(t2:Hid ((u.mul t).neg=r))(HV:Hid (ew [v,t,B,V,W,a5,a6]=false))(HW:Hid (ew [d,x,y,u,sq,p,q,r]=false))(F:El×Int)(r3:Hid (v.sign<=0∨d.sign<=0->F=(El.zero,1)))(v3:Hid (0<v.sign->0<d.sign->u.sign<0->F=(El.zero,3)))(cx cy ea eb ed k1 k2 k3 k4 k5:Int)(N1:Hid (bR x d=(cx,k1)))(N2:Hid (bR y d=(cy,k2)))(N3:Hid (bP p sq=(ea,k3)))(N4:Hid (bP q sq=(ed,k4)))(N5:Hid (xY r sq=(eb,k5)))(v1:Hid (0<v.sign->0<d.sign->0<=u.sign->F=cm cx cy ea eb ed (max (max (max (max (max 0 k1) k2) k3) k4) k5)))(w:World):zR 214 #[.agg (blk [v,t,B,V,W,a5,a6])] w (.tuple #[elV F.1,.int .i64 F.2]):=by
 go_enter Tryz.func214,Tryz.ntmps214;go_wp2_with fail;obtain⟨wc,k6⟩:∃w3,w3=(w.alloc (Obj.cells (blk [v,t,B,V,W,a5,a6]) 225)).alloc (Obj.cells #[.int .i64 0,.int .i64 0,.int .i64 0,.int .i64 0,.int .i64 0] 35):=⟨_,rfl⟩;rw[<-k6];have C:Hid (Blk wc w.heap.size (blk [v,t,B,V,W,a5,a6]) 225):=by rw[k6];exact(Blk.new _ _ _).alloc _
 have Z:Hid (Blk wc (w.heap.size+1) #[.int .i64 0,.int .i64 0,.int .i64 0,.int .i64 0,.int .i64 0] 35):=by rw[k6];exact Blk.new' _ _ _ (by simp)
 have c:zB w wc:=by rw[k6];exact ad
 clear k6;go_cut [4] from 5 (fun s4 we=>∃g4,s4=.pointer (some ⟨g4,0,none⟩)/\w.heap.size<=g4/\Hid (we.row? g4 0 18=some ((v.mul B).sub (t.mul t)).cells)/\Hid (zB wc we))
 case first=>
  have i0:=@aA _ _ _ _ _ ((C.out.row? 0 18 (by simp)).trans (congrArg some (gK _ _)));have i1:=@aA _ _ _ _ _ ((C.out.row? 18 18 (by simp)).trans (congrArg some (gJ _ _ _)));have i2:=@aA _ _ _ _ _ ((C.out.row? 36 18 (by simp)).trans (congrArg some (iK _ _ _ _)));refine aB 12 (fun k=>match k with|11=>some ⟨.cells (cellsI false false 0) 153,fun g=>.pointer (some ⟨g,0,none⟩)⟩|_=>none) (fun _=>[]) (by kernel_rfl) (by kernel_rfl) ?_;apply Eb;apply Eb;apply Eb;apply Eb;apply Eb;apply Eb;apply Eb;apply Eb;apply Eb;apply Eb;apply Eb;apply Ef;refine⟨[],fun f NN hN=>?_⟩;simp only[List.take_succ_cons,List.take_zero,List.drop_succ_cons,List.drop_zero];(repeat (first|(refine bi rfl ?_;go_big_quiet_step (first|exact rfl|(first|(go_at_call 153;exact aF (cN _ _ _))|(go_at_call 85;exact aF (jY _ _ _))));refine wpQuiet_nil ⟨rfl,?_⟩)|(refine bK _ (by rfl) (by rfl) ?hex ?_;(case hex=>(intro wx;first|(go_simp;done)|(go_simp;rfl)));simp only[Act.put,List.setIfInBounds_toArray,List.set_cons_succ,List.set_cons_zero])));refine bF ?_;intro D s hh hd;have a:zB wc D:=s;obtain⟨l4,e4⟩:=hh 11 _ (by decide) rfl;have G4:Hid (Blk D (f 11) (cellsI false false 0) 153):=e4;have z9:(D).put? (f 11) 0 ((v.mul B).sub (t.mul t)).cells=some ((D).putRow (f 11) 0 ((v.mul B).sub (t.mul t)).cells):=(G4.out).put? 0 _ (by simp) (by simp);clear hh hd s e4 i0 i1 i2;go_wp2_with fail;go_meet;refine⟨f 11,rfl,Nat.le_trans c.size l4,?_,(ar a l4 _ _)⟩
  ·show _=_;rw[(((G4.out).aK 0 ((v.mul B).sub (t.mul t)).cells)).row? 0 18 (by simp)];simp
 case rest=>
  obtain⟨g4,rfl,l4,r4,J⟩:=hcut;have a:=J.out;have n:=Below.trans c (a.mono c.size);clear c;have c:=n;clear n;have L:=Lh (C.out.keep a);clear C;have C:=L;clear L;have M:=Lh (Z.out.keep a);clear Z;have Z:=M;clear M;clear a J;rw[HD.out] at r4;go_wp2_with fail;go_cut [5] from 6 (fun s5 we=>∃g5,s5=.pointer (some ⟨g5,0,none⟩)/\w.heap.size<=g5/\Hid (we.row? g5 0 18=some ((B.mul V).sub (t.mul W)).cells)/\Hid (zB wc we))
  case first=>
   have i1:=@aA _ _ _ _ _ ((C.out.row? 18 18 (by simp)).trans (congrArg some (gJ _ _ _)));have i2:=@aA _ _ _ _ _ ((C.out.row? 36 18 (by simp)).trans (congrArg some (iK _ _ _ _)));have i3:=@aA _ _ _ _ _ ((C.out.row? 54 18 (by simp)).trans (congrArg some (jQ _ _ _ _ _)));have i4:=@aA _ _ _ _ _ ((C.out.row? 72 18 (by simp)).trans (congrArg some (jP _ _ _ _ _ _)));refine aB 12 (fun k=>match k with|11=>some ⟨.cells (cellsI false false 0) 153,fun g=>.pointer (some ⟨g,0,none⟩)⟩|_=>none) (fun _=>[]) (by kernel_rfl) (by kernel_rfl) ?_;apply Eb;apply Eb;apply Eb;apply Eb;apply Eb;apply Eb;apply Eb;apply Eb;apply Eb;apply Eb;apply Eb;apply Ef;refine⟨[],fun f NN hN=>?_⟩;simp only[List.take_succ_cons,List.take_zero,List.drop_succ_cons,List.drop_zero];(repeat (first|(refine bi rfl ?_;go_big_quiet_step (first|exact rfl|(first|(go_at_call 153;exact aF (cN _ _ _))|(go_at_call 85;exact aF (jY _ _ _))));refine wpQuiet_nil ⟨rfl,?_⟩)|(refine bK _ (by rfl) (by rfl) ?hex ?_;(case hex=>(intro wx;first|(go_simp;done)|(go_simp;rfl)));simp only[Act.put,List.setIfInBounds_toArray,List.set_cons_succ,List.set_cons_zero])));refine bF ?_;intro D s hh hd;have a:zB wc D:=s;obtain⟨l5,e5⟩:=hh 11 _ (by decide) rfl;have G5:Hid (Blk D (f 11) (cellsI false false 0) 153):=e5;have A2:(D).put? (f 11) 0 ((B.mul V).sub (t.mul W)).cells=some ((D).putRow (f 11) 0 ((B.mul V).sub (t.mul W)).cells):=(G5.out).put? 0 _ (by simp) (by simp);clear hh hd s e5 i1 i2 i3 i4;go_wp2_with fail;go_meet;refine⟨f 11,rfl,Nat.le_trans c.size l5,?_,(ar a l5 _ _)⟩
   ·show _=_;rw[(((G5.out).aK 0 ((B.mul V).sub (t.mul W)).cells)).row? 0 18 (by simp)];simp
  case rest=>
   obtain⟨g5,rfl,l5,r5,J⟩:=hcut;have a:=J.out;have n:=Below.trans c (a.mono c.size);clear c;have c:=n;clear n;have L:=Lh (C.out.keep a);clear C;have C:=L;clear L;have r4:=Lh ((Below.row? a g4 0 18 (aL r4.out)).trans r4.out);have M:=Lh (Z.out.keep a);clear Z;have Z:=M;clear M;clear a J;rw[HX.out] at r5;go_wp2_with fail;go_cut [6] from 7 (fun s6 we=>∃g6,s6=.pointer (some ⟨g6,0,none⟩)/\w.heap.size<=g6/\Hid (we.row? g6 0 18=some ((v.mul W).sub (t.mul V)).cells)/\Hid (zB wc we))
   case first=>
    have i0:=@aA _ _ _ _ _ ((C.out.row? 0 18 (by simp)).trans (congrArg some (gK _ _)));have i1:=@aA _ _ _ _ _ ((C.out.row? 18 18 (by simp)).trans (congrArg some (gJ _ _ _)));have i3:=@aA _ _ _ _ _ ((C.out.row? 54 18 (by simp)).trans (congrArg some (jQ _ _ _ _ _)));have i4:=@aA _ _ _ _ _ ((C.out.row? 72 18 (by simp)).trans (congrArg some (jP _ _ _ _ _ _)));refine aB 12 (fun k=>match k with|11=>some ⟨.cells (cellsI false false 0) 153,fun g=>.pointer (some ⟨g,0,none⟩)⟩|_=>none) (fun _=>[]) (by kernel_rfl) (by kernel_rfl) ?_;apply Eb;apply Eb;apply Eb;apply Eb;apply Eb;apply Eb;apply Eb;apply Eb;apply Eb;apply Eb;apply Eb;apply Ef;refine⟨[],fun f NN hN=>?_⟩;simp only[List.take_succ_cons,List.take_zero,List.drop_succ_cons,List.drop_zero];(repeat (first|(refine bi rfl ?_;go_big_quiet_step (first|exact rfl|(first|(go_at_call 153;exact aF (cN _ _ _))|(go_at_call 85;exact aF (jY _ _ _))));refine wpQuiet_nil ⟨rfl,?_⟩)|(refine bK _ (by rfl) (by rfl) ?hex ?_;(case hex=>(intro wx;first|(go_simp;done)|(go_simp;rfl)));simp only[Act.put,List.setIfInBounds_toArray,List.set_cons_succ,List.set_cons_zero])));refine bF ?_;intro D s hh hd;have a:zB wc D:=s;obtain⟨l6,e6⟩:=hh 11 _ (by decide) rfl;have G6:Hid (Blk D (f 11) (cellsI false false 0) 153):=e6;have z8:(D).put? (f 11) 0 ((v.mul W).sub (t.mul V)).cells=some ((D).putRow (f 11) 0 ((v.mul W).sub (t.mul V)).cells):=(G6.out).put? 0 _ (by simp) (by simp);clear hh hd s e6 i0 i1 i3 i4;go_wp2_with fail;go_meet;refine⟨f 11,rfl,Nat.le_trans c.size l6,?_,(ar a l6 _ _)⟩
    ·show _=_;rw[(((G6.out).aK 0 ((v.mul W).sub (t.mul V)).cells)).row? 0 18 (by simp)];simp
   case rest=>
    obtain⟨g6,rfl,l6,r6,J⟩:=hcut;have a:=J.out;have n:=Below.trans c (a.mono c.size);clear c;have c:=n;clear n;have L:=Lh (C.out.keep a);clear C;have C:=L;clear L;have r4:=Lh ((Below.row? a g4 0 18 (aL r4.out)).trans r4.out);have r5:=Lh ((Below.row? a g5 0 18 (aL r5.out)).trans r5.out);have M:=Lh (Z.out.keep a);clear Z;have Z:=M;clear M;clear a J;rw[HY.out] at r6;go_wp2_with fail;go_cut [7,8] from 9 (fun s7 s8 we=>∃g7 g8,s7=.pointer (some ⟨g7,0,none⟩)/\s8=.pointer (some ⟨g8,0,none⟩)/\w.heap.size<=g7/\w.heap.size<=g8/\Hid (we.row? g7 0 18=some (i9 v t B V W a5 a6 d).cells)/\Hid (we.row? g8 0 18=some (d.mul d).cells)/\Hid (zB wc we))
    case first=>
     have iw:=@aA _ _ _ _ _ (C.out.row?_all 126 (by simp));have k4:=@aA _ _ _ _ _ r4.out;refine aB 8 (fun k=>match k with|6=>some ⟨.cells (cellsI false false 0) 153,fun g=>.pointer (some ⟨g,0,none⟩)⟩|7=>some ⟨.cells (cellsI false false 0) 153,fun g=>.pointer (some ⟨g,0,none⟩)⟩|_=>none) (fun _=>[]) (by kernel_rfl) (by kernel_rfl) ?_;apply Eb;apply Eb;apply Eb;apply Eb;apply Eb;apply Eb;apply Ef;apply Ef;refine⟨[],fun f NN hN=>?_⟩;simp only[List.take_succ_cons,List.take_zero,List.drop_succ_cons,List.drop_zero];(repeat (first|(refine bi rfl ?_;go_big_quiet_step (first|exact rfl|(first|(go_at_call 153;exact aF (cN _ _ _))|(go_at_call 272;exact aF (Bk _ _ _ _ _ _ _ _ _))));refine wpQuiet_nil ⟨rfl,?_⟩)|(refine bK _ (by rfl) (by rfl) ?hex ?_;(case hex=>(intro wx;first|(go_simp;done)|(go_simp;rfl)));simp only[Act.put,List.setIfInBounds_toArray,List.set_cons_succ,List.set_cons_zero])));refine bF ?_;intro D s hh hd;have a:zB wc D:=s;obtain⟨l7,e7⟩:=hh 6 _ (by decide) rfl;obtain⟨l8,e8⟩:=hh 7 _ (by decide) rfl;have f8:f 6≠f 7:=hd 6 7 (by decide) (by decide) rfl rfl (by decide);have G7:Hid (Blk D (f 6) (cellsI false false 0) 153):=e7;have G8:Hid (Blk D (f 7) (cellsI false false 0) 153):=e8;have A6:(D).put? (f 6) 0 (i9 v t B V W a5 a6 d).cells=some ((D).putRow (f 6) 0 (i9 v t B V W a5 a6 d).cells):=(G7.out).put? 0 _ (by simp) (by simp);have B0:((D).putRow (f 6) 0 (i9 v t B V W a5 a6 d).cells).put? (f 7) 0 (d.mul d).cells=some (((D).putRow (f 6) 0 (i9 v t B V W a5 a6 d).cells).putRow (f 7) 0 (d.mul d).cells):=(((G8.out).aC (Ne.symm f8) 0 (i9 v t B V W a5 a6 d).cells)).put? 0 _ (by simp) (by simp);clear hh hd s e7 e8 k4;go_wp2_with fail;go_meet;refine⟨f 6,f 7,rfl,rfl,Nat.le_trans c.size l7,Nat.le_trans c.size l8,?_,?_,(ar (ar a l7 _ _) l8 _ _)⟩
     ·show _=_;rw[(((((G7.out).aK 0 (i9 v t B V W a5 a6 d).cells)).aC f8 0 (d.mul d).cells)).row? 0 18 (by simp)];simp
     ·show _=_;rw[(((((G8.out).aC (Ne.symm f8) 0 (i9 v t B V W a5 a6 d).cells)).aK 0 (d.mul d).cells)).row? 0 18 (by simp)];simp
    case rest=>
     obtain⟨g7,g8,rfl,rfl,l7,l8,r7,r8,J⟩:=hcut;have a:=J.out;have n:=Below.trans c (a.mono c.size);clear c;have c:=n;clear n;have L:=Lh (C.out.keep a);clear C;have C:=L;clear L;have r4:=Lh ((Below.row? a g4 0 18 (aL r4.out)).trans r4.out);have r5:=Lh ((Below.row? a g5 0 18 (aL r5.out)).trans r5.out);have r6:=Lh ((Below.row? a g6 0 18 (aL r6.out)).trans r6.out);have M:=Lh (Z.out.keep a);clear Z;have Z:=M;clear M;clear a J;rw[HL.out] at r7;rw[HS.out] at r8;go_wp2_with fail;go_cut [9,10,11] from 12 (fun s9 n0 j6 we=>∃g9 A z,s9=.pointer (some ⟨g9,0,none⟩)/\n0=.pointer (some ⟨A,0,none⟩)/\j6=.pointer (some ⟨z,0,none⟩)/\w.heap.size<=g9/\w.heap.size<=A/\w.heap.size<=z/\Hid (we.row? g9 0 18=some (u.mul B).cells)/\Hid (we.row? A 0 18=some (u.mul v).cells)/\Hid (we.row? z 0 18=some ((u.mul t).neg).cells)/\Hid (zB wc we))
     case first=>
      have i0:=@aA _ _ _ _ _ ((C.out.row? 0 18 (by simp)).trans (congrArg some (gK _ _)));have i1:=@aA _ _ _ _ _ ((C.out.row? 18 18 (by simp)).trans (congrArg some (gJ _ _ _)));have i2:=@aA _ _ _ _ _ ((C.out.row? 36 18 (by simp)).trans (congrArg some (iK _ _ _ _)));have k7:=@aA _ _ _ _ _ r7.out;refine aB 16 (fun k=>match k with|13=>some ⟨.cells (cellsI false false 0) 153,fun g=>.pointer (some ⟨g,0,none⟩)⟩|14=>some ⟨.cells (cellsI false false 0) 153,fun g=>.pointer (some ⟨g,0,none⟩)⟩|15=>some ⟨.cells (cellsI false false 0) 153,fun g=>.pointer (some ⟨g,0,none⟩)⟩|_=>none) (fun _=>[]) (by kernel_rfl) (by kernel_rfl) ?_;apply Eb;apply Eb;apply Eb;apply Eb;apply Eb;apply Eb;apply Eb;apply Eb;apply Eb;apply Eb;apply Eb;apply Eb;apply Eb;apply Ef;apply Ef;apply Ef;refine⟨[],fun f NN hN=>?_⟩;simp only[List.take_succ_cons,List.take_zero,List.drop_succ_cons,List.drop_zero];(repeat (first|(refine bi rfl ?_;go_big_quiet_step (first|exact rfl|(first|(go_at_call 153;exact aF (cN _ _ _))|(go_at_call 156;exact aF (qH _ _))));refine wpQuiet_nil ⟨rfl,?_⟩)|(refine bK _ (by rfl) (by rfl) ?hex ?_;(case hex=>(intro wx;first|(go_simp;done)|(go_simp;rfl)));simp only[Act.put,List.setIfInBounds_toArray,List.set_cons_succ,List.set_cons_zero])));refine bF ?_;intro D s hh hd;have a:zB wc D:=s;obtain⟨l9,e9⟩:=hh 13 _ (by decide) rfl;obtain⟨r1,u4⟩:=hh 14 _ (by decide) rfl;obtain⟨r0,s3⟩:=hh 15 _ (by decide) rfl;have b5:f 13≠f 14:=hd 13 14 (by decide) (by decide) rfl rfl (by decide);have b4:f 13≠f 15:=hd 13 15 (by decide) (by decide) rfl rfl (by decide);have b0:f 14≠f 15:=hd 14 15 (by decide) (by decide) rfl rfl (by decide);have G9:Hid (Blk D (f 13) (cellsI false false 0) 153):=e9;have s1:Hid (Blk D (f 14) (cellsI false false 0) 153):=u4;have v4:Hid (Blk D (f 15) (cellsI false false 0) 153):=s3;have A9:(D).put? (f 13) 0 (u.mul B).cells=some ((D).putRow (f 13) 0 (u.mul B).cells):=(G9.out).put? 0 _ (by simp) (by simp);have z3:((D).putRow (f 13) 0 (u.mul B).cells).put? (f 14) 0 (u.mul v).cells=some (((D).putRow (f 13) 0 (u.mul B).cells).putRow (f 14) 0 (u.mul v).cells):=(((s1.out).aC (Ne.symm b5) 0 (u.mul B).cells)).put? 0 _ (by simp) (by simp);have z2:(((D).putRow (f 13) 0 (u.mul B).cells).putRow (f 14) 0 (u.mul v).cells).put? (f 15) 0 ((u.mul t).neg).cells=some ((((D).putRow (f 13) 0 (u.mul B).cells).putRow (f 14) 0 (u.mul v).cells).putRow (f 15) 0 ((u.mul t).neg).cells):=(((((v4.out).aC (Ne.symm b4) 0 (u.mul B).cells)).aC (Ne.symm b0) 0 (u.mul v).cells)).put? 0 _ (by simp) (by simp);clear hh hd s e9 u4 s3 i0 i1 i2 k7;go_wp2_with fail;go_meet;refine⟨f 13,f 14,f 15,rfl,rfl,rfl,Nat.le_trans c.size l9,Nat.le_trans c.size r1,Nat.le_trans c.size r0,?_,?_,?_,(ar (ar (ar a l9 _ _) r1 _ _) r0 _ _)⟩
      ·show _=_;rw[(((((((G9.out).aK 0 (u.mul B).cells)).aC b5 0 (u.mul v).cells)).aC b4 0 ((u.mul t).neg).cells)).row? 0 18 (by simp)];simp
      ·show _=_;rw[(((((((s1.out).aC (Ne.symm b5) 0 (u.mul B).cells)).aK 0 (u.mul v).cells)).aC b0 0 ((u.mul t).neg).cells)).row? 0 18 (by simp)];simp
      ·show _=_;rw[(((((((v4.out).aC (Ne.symm b4) 0 (u.mul B).cells)).aC (Ne.symm b0) 0 (u.mul v).cells)).aK 0 ((u.mul t).neg).cells)).row? 0 18 (by simp)];simp
     case rest=>
      obtain⟨g9,A,z,rfl,rfl,rfl,l9,r1,r0,r9,p3,o3,J⟩:=hcut;have a:=J.out;have n:=Below.trans c (a.mono c.size);clear c;have c:=n;clear n;have L:=Lh (C.out.keep a);clear C;have C:=L;clear L;have r4:=Lh ((Below.row? a g4 0 18 (aL r4.out)).trans r4.out);have r5:=Lh ((Below.row? a g5 0 18 (aL r5.out)).trans r5.out);have r6:=Lh ((Below.row? a g6 0 18 (aL r6.out)).trans r6.out);have r7:=Lh ((Below.row? a g7 0 18 (aL r7.out)).trans r7.out);have r8:=Lh ((Below.row? a g8 0 18 (aL r8.out)).trans r8.out);have M:=Lh (Z.out.keep a);clear Z;have Z:=M;clear M;clear a J;rw[HP.out] at r9;rw[HQ.out] at p3;rw[t2.out] at o3;have y0:=C.out.lt;have y1:=Z.out.lt;have y4:=aL r4.out;have y5:=aL r5.out;have y6:=aL r6.out;have y7:=aL r7.out;have y8:=aL r8.out;have y9:=aL r9.out;have v0:=aL p3.out;have u3:=aL o3.out;have s4:=r4.out;have s5:=r5.out;have s6:=r6.out;have s7:=r7.out;have s8:=r8.out;have s9:=r9.out;have n0:=p3.out;have j6:=o3.out;have iw:=C.out.row?_all 126 (by simp);have i0:=(C.out.row? 0 18 (by simp)).trans (congrArg some (gK _ _));have FR:wc.fits (w.heap.size+1) 5=true:=by have h:=Z.out;unfold Blk at h;unfold World.fits;rw[h];rfl
      have FC:=fun i=>Z.out.at i;have FZ:=fun i=>Z.out.frozen i;go_wp2_with fail;refine(FX _ _ _ _ _ _ _ HV.out _).mono ?_;rintro e w1 ⟨rfl,U⟩;have p8:=U.size;(try simp at p8);have n7:=bq2 U (w.heap.size);have l2:=bq U (g4);have j2:=bq U (g5);have f6:=bq U (g6);have m6:=bq U (g7);have m3:=bq U (g8);have l0:=bq U (g9);have e0:=bq U (A);have c3:=bq U (z);go_wp2_with fail;refine(xQ [d,x,y,u,sq,p,q,r] _ _ (by simp) HW.out (Blk.new' _ _ _ (by simp))).mono ?_;rintro e w2 ⟨rfl,S⟩;have p9:=S.size;(try simp at p9);have o6:=bq2 S (w.heap.size);have g3:=bq S (g4);have g1:=bq S (g5);have j9:=bq S (g6);have j0:=bq S (g7);have f9:=bq S (g8);have m7:=bq S (g9);have c6:=bq S (A);have e2:=bq S (z);go_wp2_with fail;refine(dX _ _).mono ?_;rintro e w3 ⟨rfl,X⟩;have q7:=X.size;(try simp at q7);have n3:=bq2 X (w.heap.size);have g0:=bq X (g4);have j4:=bq X (g5);have j5:=bq X (g6);have m5:=bq X (g7);have h5:=bq X (g8);have j8:=bq X (g9);have d7:=bq X (A);have c4:=bq X (z);have Q:zB wc w3:=ad;have u0:zB w w3:=Below.trans c (Q.mono c.size);clear U S X;by_cases h1:v.sign<=0
      ·have E:=Lh (r3.out (.inl h1));go_wp2_with fail;exact rT 5 z5 (.int .i64 1) ⟨by rw[E.out];rfl,ad⟩
      ·have u7:0<v.sign:=by omega
       go_wp2_with fail;refine(dX _ _).mono ?_;rintro e w4 ⟨rfl,P⟩;have I:=P.size;(try simp at I);have p2:=bq2 P (w.heap.size);have k0:=bq P (g4);have h6:=bq P (g5);have j7:=bq P (g6);have m0:=bq P (g7);have i5:=bq P (g8);have g2:=bq P (g9);have e1:=bq P (A);have d6:=bq P (z);by_cases h2:d.sign<=0
       ·have E:=Lh (r3.out (.inr h2));go_wp2_with fail;exact rT 5 z5 (.int .i64 1) ⟨by rw[E.out];rfl,ad⟩
       ·have u5:0<d.sign:=by omega
        go_wp2_with fail;refine(dX _ _).mono ?_;rintro e w5 ⟨rfl,N⟩;have H:=N.size;(try simp at H);have o2:=bq2 N (w.heap.size);have m4:=bq N (g4);have f4:=bq N (g5);have l1:=bq N (g6);have j1:=bq N (g7);have m1:=bq N (g8);have h0:=bq N (g9);have c7:=bq N (A);have b8:=bq N (z);by_cases h3:u.sign<0
        ·have E:=Lh (v3.out u7 u5 h3);go_wp2_with fail;exact rT 5 z5 (.int .i64 3) ⟨by rw[E.out];rfl,ad⟩
        ·have E:=Lh (v1.out u7 u5 (by omega));have z4:0<=u.sign:=by omega
         go_wp2_with fail;obtain⟨b,k8⟩:∃g,g=w5.heap.size:=⟨_,rfl⟩;obtain⟨Y,n6⟩:∃Y,Y=w5.alloc (Obj.cells #[.int .i64 0] 46):=⟨_,rfl⟩;rw[<-n6,<-k8];have T:zB w5 Y:=by rw[n6];exact ad
         have p6:=T.size;(try simp at p6);have o5:=bq2 T (w.heap.size);have n1:=bq T (g4);have f5:=bq T (g5);have f0:=bq T (g6);have i8:=bq T (g7);have f3:=bq T (g8);have l3:=bq T (g9);have c5:=bq T (A);have b9:=bq T (z);have o7:Hid (Blk Y b #[.int .i64 0] 46):=by rw[n6,k8];exact Blk.new _ _ _
         have q9:zB w3 Y:=ad;have R:zB wc Y:=Below.trans Q (q9.mono Q.size);have u6:zB w Y:=Below.trans c (R.mono c.size);have v2:w.heap.size<=b:=by have:=u0.size;have:=P.size;have:=N.size;omega
         clear P N T;have p1:=Lh (Z.out.keep R);have t4:Hid (Y.row? g4 0 18=some d.cells):=(Below.row? R g4 0 18 (aL s4)).trans s4;have t5:Hid (Y.row? g5 0 18=some x.cells):=(Below.row? R g5 0 18 (aL s5)).trans s5;have t6:Hid (Y.row? g6 0 18=some y.cells):=(Below.row? R g6 0 18 (aL s6)).trans s6;have t7:Hid (Y.row? g7 0 18=some u.cells):=(Below.row? R g7 0 18 (aL s7)).trans s7;have t8:Hid (Y.row? g8 0 18=some sq.cells):=(Below.row? R g8 0 18 (aL s8)).trans s8;have t9:Hid (Y.row? g9 0 18=some p.cells):=(Below.row? R g9 0 18 (aL s9)).trans s9;have i6:Hid (Y.row? A 0 18=some q.cells):=(Below.row? R A 0 18 (aL n0)).trans n0;have f1:Hid (Y.row? z 0 18=some r.cells):=(Below.row? R z 0 18 (aL j6)).trans j6;have x7:Hid (¬g6=b):=by have h:=y6;have h2:=Q.size;have h3:=I;have h4:=H;show ¬_;omega
         have x1:Hid (¬g5=b):=by have h:=y5;have h2:=Q.size;have h3:=I;have h4:=H;show ¬_;omega
         have x8:Hid (¬g4=b):=by have h:=y4;have h2:=Q.size;have h3:=I;have h4:=H;show ¬_;omega
         have n2:Hid (¬g8=b):=by have h:=y8;have h2:=Q.size;have h3:=I;have h4:=H;show ¬_;omega
         have p4:Hid (¬g9=b):=by have h:=y9;have h2:=Q.size;have h3:=I;have h4:=H;show ¬_;omega
         have b6:Hid (¬A=b):=by have h:=v0;have h2:=Q.size;have h3:=I;have h4:=H;show ¬_;omega
         have b7:Hid (¬z=b):=by have h:=u3;have h2:=Q.size;have h3:=I;have h4:=H;show ¬_;omega
         have n4:Hid (¬w.heap.size+1=b):=by have h2:=Q.size;have h3:=I;have h4:=H;show ¬_;omega
         clear p6 o5 n1 f5 f0 i8 f3 l3 c5 b9;clear H o2 m4 f4 l1 j1 m1 h0 c7 b8;clear I p2 k0 h6 j7 m0 i5 g2 e1 d6;clear q7 n3 g0 j4 j5 m5 h5 j8 d7 c4;clear p9 o6 g3 g1 j9 j0 f9 m7 c6 e2;clear p8 n7 l2 j2 f6 m6 m3 l0 e0 c3;clear k8 n6 FR FC FZ iw i0 y0 y1 y4 y5 y6 y7 y8 y9 v0 u3 s4 s5 s6 s7 s8 s9 n0 j6 r4 r5 r6 r7 r8 r9 p3 o3 Z u0 Q R q9 c C HD HX HY HL HS HP HQ t2 HV HW r3 v3 v1;go_cut [14] from 15 (fun x9 wd=>∃l,x9=.pointer (some ⟨l,0,none⟩)/\Y.heap.size<=l/\Hid (Blk wd l #[cx,cy,.int .i64 0,.int .i64 0,.int .i64 0] 35)/\Hid (ct Y b (max (max 0 k1) k2) wd))
         case first=>
          have PI:ct Y b 0 Y:=⟨o7.out.lt,ah.refl,o7.out⟩;clear t7 t8 t9 i6 f1 p1 n2 p4 b6 b7 n4;go_region_held3 (fun w'=>w'.row? g4 0 18=some d.cells/\w'.row? g5 0 18=some x.cells/\w'.row? g6 0 18=some y.cells) ((with_reducible refine' ct.rows ?hp x8.out x1.out x7.out t4 t5 t6;(case hp=>(repeat (first|with_reducible assumption|with_reducible apply ct.drew|with_reducible apply ct.alloc|with_reducible apply ct.fc))))) (first|(go_at_call 275;with_reducible refine' Calls.mono (qA (w0:=Y) x d cx k1 _ b N1 ?hp) ?_;(case hp=>(repeat (first|with_reducible assumption|with_reducible apply ct.drew|with_reducible apply ct.alloc|with_reducible apply ct.fc)));rintro e v7 ⟨rfl,PI,ho⟩;(try (have O:Blk v7 _ #[.int .i64 0,.int .i64 0,.int .i64 0,.int .i64 0,.int .i64 0] 35:=ah.blk ho (by first|with_reducible exact O|with_reducible exact Blk.new _ _ _|(with_reducible refine Blk.drew ?_;with_reducible exact Blk.new _ _ _)) (ct.ne (by repeat (first|with_reducible assumption|with_reducible apply ct.drew|with_reducible apply ct.alloc|with_reducible apply ct.fc))));(try simp only[uG] at O);have XC:=O.at;have XZ:=O.frozen;have XL:=O.lt);clear ho)|(go_at_call 275;with_reducible refine' Calls.mono (qA (w0:=Y) y d cy k2 _ b N2 ?hp) ?_;(case hp=>(repeat (first|with_reducible assumption|with_reducible apply ct.drew|with_reducible apply ct.alloc|with_reducible apply ct.fc)));rintro e v7 ⟨rfl,PI,ho⟩;(try (have O:Blk v7 _ #[.int .i64 0,.int .i64 0,.int .i64 0,.int .i64 0,.int .i64 0] 35:=ah.blk ho (by first|with_reducible exact O|with_reducible exact Blk.new _ _ _|(with_reducible refine Blk.drew ?_;with_reducible exact Blk.new _ _ _)) (ct.ne (by repeat (first|with_reducible assumption|with_reducible apply ct.drew|with_reducible apply ct.alloc|with_reducible apply ct.fc))));(try simp only[uG] at O);have XC:=O.at;have XZ:=O.frozen;have XL:=O.lt);clear ho))
          all_goals go_wp2_with fail
          all_goals go_meet
          all_goals
           refine⟨_,rfl,?le,Lh ?bl,Lh ?pi⟩
           case le=>first|with_reducible exact Nat.le_refl _|with_reducible exact ct.room (by assumption)
           case pi=>repeat (first|with_reducible assumption|with_reducible apply ct.drew|with_reducible apply ct.alloc|with_reducible apply ct.fc)
           case bl=>first|with_reducible exact Blk.new _ _ _|with_reducible exact Blk.put5 O _ _ _ _ _
         case rest=>
          obtain⟨l,rfl,B2,o4,r2⟩:=hcut;have ho:=r2.out.only;have b3:=Lh r2.out.blk;have o0:=Lh (ho.blk p1.out n4.out);have u8:=(ho.row? g8 0 18 (aL t8.out) n2.out).trans t8.out;have u9:=(ho.row? g9 0 18 (aL t9.out) p4.out).trans t9.out;have t1:=(ho.row? A 0 18 (aL i6.out) b6.out).trans i6.out;have t3:=(ho.row? z 0 18 (aL f1.out) b7.out).trans f1.out;have x4:zB w wc:=ah.below ho u6 (Nat.le_refl _) v2;obtain⟨K0,u2⟩:∃K,max (max 0 k1) k2=K:=⟨_,rfl⟩;rw[u2] at b3 E;clear u2;have v8:=aL u8;have v9:=aL u9;have x5:=aL t1;have x0:=aL t3;have B7:=b3.out.lt;have B8:=o4.out.lt;have vA:w.heap.size+1<wc.heap.size:=o0.out.lt;have vB:w.heap.size<wc.heap.size:=by omega
          have v5:=o7.out.lt;have m8:=aL t8.out;have m9:=aL t9.out;have z0:=aL i6.out;have v6:=aL f1.out;have mA:w.heap.size+1<Y.heap.size:=p1.out.lt;have zA:w.heap.size+1<=l:=by omega
          have zG:w.heap.size<=l:=by omega
          have nE:¬l=b:=by omega
          have nF:¬b=l:=by omega
          have nG:¬w.heap.size+1=l:=by omega
          have nH:¬w.heap.size+1=b:=n4.out;have n8:¬g8=b:=n2.out;have n9:¬g9=b:=p4.out;have B1:¬A=b:=b6.out;have A3:¬z=b:=b7.out;have o8:¬g8=l:=by omega
          have o9:¬g9=l:=by omega
          have z7:¬A=l:=by omega
          have B5:¬z=l:=by omega
          have GC:=fun i=>o4.out.at i;have GZ:=fun i=>o4.out.frozen i;have RC:=fun i=>o0.out.at i;have RZ:=fun i=>o0.out.frozen i;have t0:wc.cell? ⟨b,0,none⟩=some (.int .i64 K0):=b3.out.cell rfl;have x6:wc.frozen? ⟨b,0,none⟩=false:=b3.out.frozen 0;have i3:=io p sq;rw[N3.out] at i3;have i4:=io q sq;rw[N4.out] at i4;obtain⟨x2,x3⟩:=i3;obtain⟨y2,y3⟩:=i4;simp only at x2 x3 y2 y3;clear r2 ho t4 t5 t6 t7 t8 t9 i6 f1 p1 o7 v5 m8 m9 z0 v6 mA n2 p4 b6 b7 n4;go_wp2_with fail;refine Calls.mono (kU 277 p sq ea k3 K0 b _ yB (yX p sq ea k3 N3.out) ?c1 ?c2) ?_;(case c1=>go_simp);(case c2=>go_simp);rintro e wa ⟨rfl,w7,b1,rfl⟩;have q5:=b1.size;(try simp at q5);have o1:=bq2 b1 (w.heap.size);have i7:=bq b1 (g8);have f2:=bq b1 (g9);have d5:=bq b1 (A);have c9:=bq b1 (z);have a7:=bq b1 (b);have e3:=bq b1 (l);go_wp2_with fail;refine Calls.mono (kU 277 q sq ed k4 (max K0 k3) b _ yB (yX q sq ed k4 N4.out) ?c1 ?c2) ?_;(case c1=>go_simp);(case c2=>go_simp);rintro e wb ⟨rfl,w8,b2,rfl⟩;have q8:=b2.size;(try simp at q8);have n5:=bq2 b2 (w.heap.size);have j3:=bq b2 (g8);have k9:=bq b2 (g9);have d9:=bq b2 (A);have d8:=bq b2 (z);have a9:=bq b2 (b);have c8:=bq b2 (l);go_wp2_with fail;refine Calls.mono (kU 278 r sq eb k5 (max (max K0 k3) k4) b _ By (Bz r sq eb k5 N5.out) ?c1 ?c2) ?_;(case c1=>go_simp);(case c2=>go_simp);rintro e wd ⟨rfl,w9,f7,rfl⟩;have p7:=f7.size;(try simp at p7);have p0:=bq2 f7 (w.heap.size);have a8:=bq f7 (b);have c0:=bq f7 (l);obtain⟨K,hK⟩:∃K,max (max (max K0 k3) k4) k5=K:=⟨_,rfl⟩;rw[hK];have q6:zB w w9:=ad;obtain⟨G,j⟩:∃G,G=w9.setCell ⟨b,0,none⟩ (.int .i64 K):=⟨_,rfl⟩;rw[<-j];have z6:zB w G:=by rw[j];exact Below.setCell q6 v2 _
          have d0:G.cell? ⟨l,0,none⟩=some (.int .i64 cx):=by rw[j];go_simp
          have d1:G.cell? ⟨l,1,none⟩=some (.int .i64 cy):=by rw[j];go_simp
          have d2:G.cell? ⟨l,2,none⟩=some (.int .i64 ea):=by rw[j];go_simp
          have d3:G.cell? ⟨l,3,none⟩=some (.int .i64 0):=by rw[j];go_simp
          have d4:G.cell? ⟨l,4,none⟩=some (.int .i64 ed):=by rw[j];go_simp
          have dz:∀i,G.frozen? ⟨l,i,none⟩=false:=by intro i;rw[j];go_simp
          have h7:(w7.cell? ⟨b,0,none⟩).isSome=true:=by rw[a7.2.1 0,t0];rfl
          have h8:(w8.cell? ⟨b,0,none⟩).isSome=true:=by rw[a9.2.1 0];go_simp
          have h9:(w9.cell? ⟨b,0,none⟩).isSome=true:=by rw[a8.2.1 0];go_simp
          have B4:G.cell? ⟨b,0,none⟩=some (.int .i64 K):=by rw[j];exact World.cell?_setCell_same' _ _ _ h9
          clear h7 h8 h9;have q0:G.cell? ⟨w.heap.size+1,0,none⟩=some (.int .i64 0):=by rw[j];go_simp
          have q1:G.cell? ⟨w.heap.size+1,1,none⟩=some (.int .i64 0):=by rw[j];go_simp
          have q2:G.cell? ⟨w.heap.size+1,2,none⟩=some (.int .i64 0):=by rw[j];go_simp
          have q3:G.cell? ⟨w.heap.size+1,3,none⟩=some (.int .i64 0):=by rw[j];go_simp
          have q4:G.cell? ⟨w.heap.size+1,4,none⟩=some (.int .i64 0):=by rw[j];go_simp
          have qz:∀i,G.frozen? ⟨w.heap.size+1,i,none⟩=false:=by intro i;rw[j];go_simp
          have E1:Hid (F=cm cx cy ea eb ed K):=by rw[<-hK];exact E.out
          clear p7 p0 a8 c0;clear q8 n5 j3 k9 d9 d8 a9 c8;clear q5 o1 i7 f2 d5 c9 a7 e3;clear b1 b2 f7 q6 j hK u8 u9 t1 t3 v8 v9 x5 x0 GC GZ RC RZ t0 x6 o4 b3 o0 u6 x4;have z1:=block_lt_of_cell d0;have B6:=block_lt_of_cell q0;by_cases hk:K=0
          ·subst hk;by_cases ha:70368744177664<=ea
           ·have E2:Hid (F=(El.zero,2)):=by show _=_;rw[E1.out];unfold cm;rw[if_pos (.inr (.inl ha))]
            go_wp2_with fail;exact rT 5 z5 (.int .i64 2) ⟨by rw[E2.out];rfl,ad⟩
           ·by_cases hd:70368744177664<=ed
            ·have E2:Hid (F=(El.zero,2)):=by show _=_;rw[E1.out];unfold cm;rw[if_pos (.inr (.inr hd))]
             go_wp2_with fail;exact rT 5 z5 (.int .i64 2) ⟨by rw[E2.out];rfl,ad⟩
            ·have E3:F=if El.may ⟨cx,cy,ea+1,eb,ed+1⟩=true then growE ⟨cx,cy,ea+1,eb,ed+1⟩ 1 else (El.zero,2):=by rw[E1.out];unfold cm;rw[if_neg (by rintro(h|h|h);exact h rfl;exact ha h;exact hd h)]
             have B9:ea<70368744177664:=by omega
             have A5:ed<70368744177664:=by omega
             obtain⟨m,hm⟩:∃m,El.may ⟨cx,cy,ea+1,eb,ed+1⟩=m:=⟨_,rfl⟩;have HM:=Lh hm;rw[hm] at E3;clear hm;go_wp2_with fail;refine(yI _ _ _ _ _ _ HM.out _).mono ?_;rintro e we ⟨rfl,m2⟩;have u1:=m2.size;(try simp at u1);have s0:=bq m2 (l);obtain⟨yR,cR,fR,rR,tR,pR⟩:=bk m2 (w.heap.size+1) (by simp;omega);cases m with
             | false=>
              have E2:Hid (F=(El.zero,2)):=by show _=_;rw[E3];rfl
              clear E3;go_wp2_with fail;exact rT 5 z5 (.int .i64 2) ⟨by rw[E2.out];rfl,ad⟩
             | true=>
              obtain⟨⟨fx,fy,fa,fb,fd⟩,fk,hF⟩:∃o k,growE ⟨cx,cy,ea+1,eb,ed+1⟩ 1=(o,k):=⟨_,_,rfl⟩;have HF:=Lh hF;have E2:Hid (F=(⟨fx,fy,fa,fb,fd⟩,fk)):=by show _=_;rw[E3,<-hF];rfl
              clear E3 hF;go_wp2_with fail;refine(sO _ _ _ _ _ _ _ _ _ _ _ _ HF.out _).mono ?_;rintro e wf ⟨rfl,p5⟩;obtain⟨A1,A8,A4,A0,B3,A7⟩:=bk p5 (w.heap.size+1) (by first|omega|(simp;omega));have s2:=p5.size;(try simp at s2);go_wp2_with fail;exact rT 5 #[.int .i64 fx,.int .i64 fy,.int .i64 fa,.int .i64 fb,.int .i64 fd] (.int .i64 fk) ⟨by rw[E2.out],ad⟩
          ·have nk:(K != 0)=true:=by simp[hk]
           have E2:Hid (F=(El.zero,2)):=by show _=_;rw[E1.out];unfold cm;rw[if_pos (.inl hk)]
           go_wp2_with fail;exact rT 5 z5 (.int .i64 2) ⟨by rw[E2.out];rfl,ad⟩
end Go.Proofs.YtechbdnhalmobaaGreatDoor
