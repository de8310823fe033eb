/- Walks. -/
import Derived.Test.YtechbdnhalmobaaGreatDoorVA
namespace Go.Proofs.YtechbdnhalmobaaGreatDoor
set_option maxRecDepth 100000
set_option maxHeartbeats 16000000
set_option linter.unusedSimpArgs false
set_option linter.unusedVariables false
open Go.Proofs.Tryz
open Go.RowKit
theorem A8{w:World}{a n g c:Nat}{e:TypeId}{b:Nat}{f:List Value}(h:w.ownsRow a e b (.slice (some ⟨g,0,none⟩) n c) n f):n<=c:=by
 rcases h.2 with ⟨h,-⟩|⟨k,d,i,h,-,-,j,-⟩
 ·cases h
 ·injection h with _ _ h;subst h;exact j
theorem eu{P:Program}(w:World){d:Array Oper}{c:List Oper}{o:Oper}{a:Act}{Q:Exit->Act->World->Prop}(f:o.guard=none)(s x:Operand)(t:TypeId)(l:o.op=.call {callee:=.builtin .append,args:=#[s,x],argTypes:=#[t,t]})(e:TypeId)(i:TypeInfo)(p:P.underlying t=some (.slice e))(m:P.info? e=some i)(g n b:Nat)(k:n<=b)(q:a.eval s=.slice (some ⟨g,0,none⟩) n b)(r:a.eval x=.slice none 0 0)(h:wpList P d Q c (a.put o.dst (.slice (some ⟨g,0,none⟩) n b)) w):wpList P d Q (o :: c) a w:=
 wpList_plain f fun _ j=>by
  have u:(Builtin.append_ #[t,t] o.type #[.slice (some ⟨g,0,none⟩) n b,.slice none 0 0]).run P w=.ok (.slice (some ⟨g,0,none⟩) n b) w:=by
   simp[Builtin.append_,run_underlying p,sizeOf,typeInfo,m,Builtin.lenOf,Builtin.firstCells,k,storeCells]
  unfold Oper.wp execOp;simp only[l,resolve,invoke,builtin,Sem.run_bind,Sem.run_pure,Result.andThen_ok,List.map_toArray,List.map_cons,List.map_nil,q,r,u];exact j _ _ h
theorem yz(x y a b d:Int)(fn:FuncId)(A:Array Value)(O:Int->El×Int)(w:World)(h3:∀a7 w,Sem.run prog (callFunc fn a7) w=.ok (.enter fn a7) w)(hO:∀(k:Int) (w':World),0<=k->k<=34->zB w w'->Calls prog fn (#[.int .i64 k]++A) w' fun e f5=>e=.returned (.tuple #[elV (O k).1,.int .i64 (O k).2])/\zB w' f5):zR 89 #[elC x y a b d,.func (.func fn) #[] A,.slice none 0 0] w (.tuple #[elV (foundE ⟨x,y,a,b,d⟩ O []).1,.int .i64 (foundE ⟨x,y,a,b,d⟩ O []).2]):=by
 have HO:=Lh hO;clear hO;obtain⟨i0,hi,g2,f9,f7⟩:=info_parts yv;go_enter func89,ntmps89;go_wp2_with fail;obtain⟨W1,e3⟩:∃W1,W1=(((w.alloc (Obj.cells #[x,y,a,b,d] 35)).alloc (Obj.cells #[.func (.func fn) #[] A] 165)).alloc (Obj.cells #[.int .i64 0,.int .i64 0,.int .i64 0,.int .i64 0,.int .i64 0] 35)).alloc (Obj.cells #[false] 4):=⟨_,rfl⟩;rw[<-e3]
 have hI:wQ w x y a b d fn A O [] W1:=by
  rw[e3];refine⟨(show Below _ _ _ from ad),?_,?_,?_,?_⟩
  ·exact(((Blk.new _ _ _).alloc _).alloc _).alloc _
  ·exact((Blk.new' _ _ _ (by simp)).alloc _).alloc _
  ·exact(Blk.new' _ _ _ (by simp)).alloc _
  ·exact Blk.new' _ _ _ (by simp)
 have b9:w.heap.size<=W1.heap.size:=hI.1.size;clear e3
 have M:=Lh (zu 158 #[.pointer (some ⟨w.heap.size+1,0,none⟩),.pointer (some ⟨w.heap.size+1+1+1,0,none⟩)] (ovV O) (wQ w x y a b d fn A O) W1 (by intro a7 w;rfl)
  (fun l w1 w2 hs h=>⟨Below.side (Nat.le_refl _) h.1 hs b9,h.2.1.side hs (by decide) (by decide),h.2.2.1.side hs (by decide) (by decide),h.2.2.2.1.side hs (by decide) (by decide),h.2.2.2.2.side hs (by decide) (by decide)⟩)
  (fun l k w1 _ h0 h1 h=>uC w x y a b d fn A O h3 HO.out l k w1 h0 h1 h) hI)
 obtain⟨d9,-⟩:=jc (ovV O);have a6:=d9.best;have a8:=d9.rng;have EV:Hid (foundE ⟨x,y,a,b,d⟩ O []=if emptyB O (gfin (ovV O)).asked then (El.zero,3) else ((gI ⟨x,y,a,b,d⟩ O []).foldl dJ ⟨x,y,a,b,d⟩,0)):=rfl;have EC:Hid (gI ⟨x,y,a,b,d⟩ O []=(⟨x,y,a,b,d⟩ :: if (gfin (ovV O)).ok then [(O (gfin (ovV O)).w).1] else [])++[]):=rfl;generalize gfin (ovV O)=s at M a6 a8 EV EC;obtain⟨d5,gw,gn,e7⟩:=s;simp only at M a6 a8 EV EC;clear d9 hI b9;obtain⟨em,c9⟩:∃em,emptyB O d5=em:=⟨_,rfl⟩;rw[c9] at EV;refine M.out.mono ?_;rintro e w1 ⟨rfl,⟨hb,b3,b4,b6,b8⟩,b9⟩;rw[c9] at b8;clear M c9;obtain⟨y3,c3,f3,-⟩:=aw b3;obtain⟨y4,c4,f4,-⟩:=aw b4;obtain⟨y6,c6,f6,-⟩:=aw b6;obtain⟨y8,c8,f8,-⟩:=aw b8;cases em with
 | true=>
  go_wp2_with fail;exact rT 5 z5 (.int .i64 3) ⟨by rw[EV.out];rfl,ad⟩
 | false=>
  have d6:e7=true->0<=gw/\gw<=34:=fun h=>a8 _ (a6 h).1
  -- TAIL
  cases e7 with
  | false=>
   go_wp2_with (at_builtin;refine eu _ rfl _ _ 220 rfl 35 i0 underlying220 hi w1.heap.size _ _ (Nat.le_refl _) rfl rfl ?_)
   obtain⟨Z,n⟩:∃Z,Z=(w1.alloc (Obj.cells #[x,y,a,b,d] 35)).alloc (Obj.cells #[x,y,a,b,d] 35):=⟨_,rfl⟩;rw[<-n];have v:Z.ownsRow w.heap.size 35 5 (.slice (some ⟨w1.heap.size,0,none⟩) 1 1) 1 (elc ⟨x,y,a,b,d⟩):=by rw[n];exact pj ((Blk.new w1 _ _).alloc _) (by have:=hb.size;omega)
   have BO:Blk Z (w1.heap.size+1) #[x,y,a,b,d] 35:=by rw[n];exact Blk.new' _ _ _ (by simp)
   have B6:Blk Z (w.heap.size+1+1) #[.int .i64 0,.int .i64 0,.int .i64 0,.int .i64 0,.int .i64 0] 35:=by rw[n];exact(b6.alloc _).alloc _
   have P:zB w Z:=by rw[n];exact(hb.alloc hb.size _).alloc (by have:=hb.size;simp;omega) _
   have zz:=y6;clear n b3 b4 b6 b8 y3 c3 f3 y4 c4 f4 y6 c6 f6 y8 c8 f8;generalize g9:w1.heap.size=g3 at v BO zz ⊢;clear g9;have zq:w.heap.size+1+1<g3+1:=by omega
   clear zz;have b7:¬g3=g3+1:=by omega
   generalize g3+1=go at BO zq b7 ⊢;obtain⟨C,z,b0,u⟩:=hZ v;have hX:∀k e,([⟨x,y,a,b,d⟩]:List El)[k]?=some e->∀j,j<5->C[k*5+j]? = (elc e)[j]?:=jo [⟨x,y,a,b,d⟩] C u;have q:=b7;have HG:=Lh z;have a2:=Lh BO;have a4:=Lh B6;have HB:=Lh P;have zs:=P.size;have HX:=Lh hX;clear v u z BO B6 P b0 hX a6 a8 d6;go_wp2_with fail;go_loopw [44] (fun ti wr=>∃(k:Nat) (o:El),k<=1/\ti=.int .i64 k/\o=(([⟨x,y,a,b,d⟩]:List El).take k).foldl dJ ⟨x,y,a,b,d⟩/\Hid (Blk wr (go) #[.int .i64 o.x,.int .i64 o.y,.int .i64 o.a,.int .i64 o.b,.int .i64 o.d] 35)/\Hid (Blk wr g3 C 35)/\Hid (Blk wr (w.heap.size+1+1) #[.int .i64 0,.int .i64 0,.int .i64 0,.int .i64 0,.int .i64 0] 35)/\Hid (zB w wr)) (fun ti _=>1-(intOf ti).toNat)
   case atStart=>exact⟨0,⟨x,y,a,b,d⟩,by omega,rfl,rfl,a2.out,HG.out,a4.out,HB.out⟩
   case round=>
    obtain⟨k,⟨N,E,I,K,J⟩,hk,rfl,hq,RO,S,R6,RB⟩:=hrel;simp only at RO;have e4:=Lh hq;clear a2 HG a4 HB;have U:=RB.out;have zr:=U.size;by_cases e0:k<1
    ·obtain⟨⟨L,D,G,F,H⟩,X⟩:∃e,([⟨x,y,a,b,d⟩]:List El)[k]?=some e:=⟨_,List.getElem?_eq_getElem (by simpa using e0)⟩;have m0:wr.cell? ⟨g3,k*5,none⟩=some (.int .i64 L):=(S.out.at (k*5+0)).trans (HX.out k _ X 0 (by decide));have m1:wr.cell? ⟨g3,k*5+1,none⟩=some (.int .i64 D):=(S.out.at (k*5+1)).trans (HX.out k _ X 1 (by decide));have m2:wr.cell? ⟨g3,k*5+2,none⟩=some (.int .i64 G):=(S.out.at (k*5+2)).trans (HX.out k _ X 2 (by decide));have m3:wr.cell? ⟨g3,k*5+3,none⟩=some (.int .i64 F):=(S.out.at (k*5+3)).trans (HX.out k _ X 3 (by decide));have m4:wr.cell? ⟨g3,k*5+4,none⟩=some (.int .i64 H):=(S.out.at (k*5+4)).trans (HX.out k _ X 4 (by decide));have B:=gW ([⟨x,y,a,b,d⟩]:List El) k ⟨x,y,a,b,d⟩ _ X;rw[<-hq] at B;have k1:(k:Int)<1:=by omega
     have k2:(0:Int)<=k:=by omega
     obtain⟨t1,T⟩:∃t,El.tr ⟨L,D,G,F,H⟩=t:=⟨_,rfl⟩;obtain⟨t2,Q⟩:∃t,El.tr ⟨N,E,I,K,J⟩=t:=⟨_,rfl⟩;have T1:=Lh T;have T2:=Lh Q;rw[show dJ ⟨N,E,I,K,J⟩ ⟨L,D,G,F,H⟩=if El.tr ⟨L,D,G,F,H⟩<El.tr ⟨N,E,I,K,J⟩ then ⟨L,D,G,F,H⟩ else ⟨N,E,I,K,J⟩ from rfl,T,Q] at B;have a3:=Lh B;clear B X T Q hq;go_wp2_with fail;obtain⟨W,f⟩:∃W,W=wr.alloc (Obj.cells #[L,D,G,F,H] 35):=⟨_,rfl⟩;rw[<-f];have V:Hid (Blk W wr.heap.size #[L,D,G,F,H] 35):=by rw[f];exact Blk.new _ _ _
     have R:Hid (Blk W (go) #[N,E,I,K,J] 35):=by rw[f];exact RO.out.alloc _
     have SG:Hid (Blk W g3 C 35):=by rw[f];exact S.out.alloc _
     have S6:Hid (Blk W (w.heap.size+1+1) #[.int .i64 0,.int .i64 0,.int .i64 0,.int .i64 0,.int .i64 0] 35):=by rw[f];exact R6.out.alloc _
     have SB:Hid (zB w W):=by rw[f];exact U.alloc zr _
     have g7:=RO.out.lt;have g1:=R6.out.lt;clear f m0 m1 m2 m3 m4 RO S R6 RB U;have c0:=cell_regrown (V.out.cell (i:=0) rfl);have d0:=cell_regrown (R.out.cell (i:=0) rfl);have c1:=cell_regrown (V.out.cell (i:=1) rfl);have d1:=cell_regrown (R.out.cell (i:=1) rfl);have c2:=cell_regrown (V.out.cell (i:=2) rfl);have d2:=cell_regrown (R.out.cell (i:=2) rfl);have c3:=cell_regrown (V.out.cell (i:=3) rfl);have d3:=cell_regrown (R.out.cell (i:=3) rfl);have c4:=cell_regrown (V.out.cell (i:=4) rfl);have d4:=cell_regrown (R.out.cell (i:=4) rfl);refine wp_region_quiet_below (by kernel_rfl) (by kernel_rfl) ?_;repeat (go_big_quiet_step (exact Calls.regrown_of (gO _ _ _ _ _ _ (by first|with_reducible exact T1.out|with_reducible exact T2.out) _)))
     refine wpQuiet_nil ?_;intro w7 a9;have m:=ay a9;clear a9 c0 c1 c2 c3 c4 d0 d1 d2 d3 d4;have UX:=V.out.keep m;have UO:=R.out.keep m;have UG:=SG.out.keep m;have U6:=S6.out.keep m;have UB:=SB.out.trans (m.mono SB.out.size);obtain⟨d8,c7,d7,-⟩:=aw UX;obtain⟨e2,e1,c5,-⟩:=aw UO;clear V R SG S6 SB m;by_cases ht:t1<t2
     ·go_wp2_with fail;go_roundw
      case rel=>
       refine⟨k+1,⟨L,D,G,F,H⟩,by omega,by go_num,by rw[a3.out,if_pos ht],?_,?_,?_,?_⟩
       ·exact((((UO.ab 0 _).ab 1 _).ab 2 _).ab 3 _).ab 4 _
       ·exact(((((UG.ac (a:=⟨go,0,none⟩) (q) _).ac (a:=⟨go,1,none⟩) (q) _).ac (a:=⟨go,2,none⟩) (q) _).ac (a:=⟨go,3,none⟩) (q) _).ac (a:=⟨go,4,none⟩) (q) _)
       ·exact(((((U6.ac (a:=⟨go,0,none⟩) (by simp only;omega) _).ac (a:=⟨go,1,none⟩) (by simp only;omega) _).ac (a:=⟨go,2,none⟩) (by simp only;omega) _).ac (a:=⟨go,3,none⟩) (by simp only;omega) _).ac (a:=⟨go,4,none⟩) (by simp only;omega) _)
       ·exact(show Below _ _ _ from ad)
      case measure=>simp[intOf];omega
     ·go_wp2_with fail;go_roundw
      case rel=>exact⟨k+1,⟨N,E,I,K,J⟩,by omega,by go_num,by rw[a3.out,if_neg ht],UO,UG,U6,UB⟩
      case measure=>simp[intOf];omega
    ·obtain rfl:k=1:=by omega
     have hF:Hid (foundE ⟨x,y,a,b,d⟩ O []=(⟨N,E,I,K,J⟩,0)):=by show _=_;rw[EV.out,EC.out,e4.out];rfl
     obtain⟨d8,c7,d7,-⟩:=aw RO.out;obtain⟨e2,e1,c5,-⟩:=aw R6.out;clear EV EC hq;go_wp2_with fail;exact rT 5 #[.int .i64 N,.int .i64 E,.int .i64 I,.int .i64 K,.int .i64 J] (.int .i64 0) ⟨by rw[hF.out],ad⟩
  | true=>
   obtain⟨h0,h1⟩:=d6 rfl;obtain⟨⟨ox,oy,oa,ob,od⟩,r,ho⟩:∃o r,O gw=(o,r):=⟨_,_,rfl⟩;have HQ:=HO.out gw (w1.alloc (Obj.cells #[x,y,a,b,d] 35)) h0 h1 (hb.alloc hb.size _);rw[ho] at HQ EC
   -- S11
   have f0:=Lh HQ;clear HQ ho;go_wp2_with fail
   -- S13
   refine f0.out.mono ?_;rintro e w2 ⟨rfl,a0⟩
   -- S14
   have f2:=a0.size;simp at f2;have e8:=(Blk.new w1 #[.int .i64 x,.int .i64 y,.int .i64 a,.int .i64 b,.int .i64 d] 35).keep a0;have e5:=(b3.alloc (Obj.cells #[x,y,a,b,d] 35)).keep a0;have f1:=(b6.alloc (Obj.cells #[x,y,a,b,d] 35)).keep a0;have Y:=(hb.alloc hb.size (Obj.cells #[x,y,a,b,d] 35)).trans (a0.mono (by have:=hb.size;simp;omega));have zb:=hb.size;have g0:=y6;clear a0 b3 b4 b6 b8 y3 c3 f3 y4 c4 f4 y6 c6 f6 y8 c8 f8 hb;obtain⟨y3,c3,f3,-⟩:=aw e5
   -- S15
   go_wp2_with (at_builtin;refine wpList_append_own _ rfl _ _ 220 rfl w.heap.size 35 i0 (.agg #[.int .i64 0,.int .i64 0,.int .i64 0,.int .i64 0,.int .i64 0]) 5 40 underlying220 hi g2 f9 f7 rfl (by decide) _ 1 _ rfl (pj ((e8.alloc _).alloc _) (by omega)) ⟨w2.heap.size+1,0,none⟩ 1 1 (elc ⟨ox,oy,oa,ob,od⟩) rfl rfl (jg (Blk.new' _ _ _ (by simp))) (lj _) (by unfold maxLen;omega) (by omega) (by simp;omega) ?_)
   -- S12
   intro v4 w3 c p _;obtain⟨g4,e9,rfl⟩:=fw c (by omega);have e6:=((e5.alloc _).alloc _).grown p (by simp[Value.ownBlock];omega);have b2:=((f1.alloc _).alloc _).grown p (by simp[Value.ownBlock];omega);have b5:=Below.grown (Nat.le_refl _) ((Y.alloc Y.size _).alloc (by have:=Y.size;simp;omega) _) p (fun g hg=>by simp[Value.ownBlock] at hg;omega);have g6:=(c.lt g4 (by simp[Value.ownBlock])).2;have g8:=(c.lt g4 (by simp[Value.ownBlock])).1;have a5:=A8 c;clear p e5 f1 Y y3 c3 f3;obtain⟨h5,b1,a1,-⟩:=hZ c;have h4:=mT b1 b2 (by intro h;rw[h] at a1;simp at a1);clear b1 a1;obtain⟨y3,c3,f3,-⟩:=aw e6;go_wp2_with (at_builtin;refine eu _ rfl _ _ 220 rfl 35 i0 underlying220 hi g4 _ _ (a5) rfl rfl ?_)
   -- S16
   obtain⟨Z,n⟩:∃Z,Z=w3.alloc (Obj.cells #[x,y,a,b,d] 35):=⟨_,rfl⟩;rw[<-n];have v:Z.ownsRow w.heap.size 35 5 (.slice (some ⟨g4,0,none⟩) 2 e9) 2 (elc ⟨x,y,a,b,d⟩++elc ⟨ox,oy,oa,ob,od⟩):=by rw[n];exact c.alloc _
   have BO:Blk Z w3.heap.size #[x,y,a,b,d] 35:=by rw[n];exact Blk.new _ _ _
   have B6:Blk Z (w.heap.size+1+1) #[.int .i64 0,.int .i64 0,.int .i64 0,.int .i64 0,.int .i64 0] 35:=by rw[n];exact b2.alloc _
   have P:zB w Z:=by rw[n];exact b5.alloc b5.size _
   have g5:=b5.size;have zz:=b2.lt;clear n e6 b2 y3 c3 f3 b5 c h4 g6 g8 e8 f2 g0 zb f0 g5
   -- S17
   clear a5;generalize g4=g3 at v ⊢;have zq:w.heap.size+1+1<w3.heap.size:=by omega
   clear zz;generalize h2:w3.heap.size=go at BO zq ⊢;clear h2;obtain⟨C,z,b0,u⟩:=hZ v;have hX:∀k e,([⟨x,y,a,b,d⟩,⟨ox,oy,oa,ob,od⟩]:List El)[k]?=some e->∀j,j<5->C[k*5+j]? = (elc e)[j]?:=jo [⟨x,y,a,b,d⟩,⟨ox,oy,oa,ob,od⟩] C u;have q:=mT z BO (by intro h;rw[h] at b0;simp at b0);have HG:=Lh z;have a2:=Lh BO;have a4:=Lh B6;have HB:=Lh P;have zs:=P.size;have HX:=Lh hX;clear v u z BO B6 P b0 hX a6 a8 d6;go_wp2_with fail;go_loopw [44] (fun ti wr=>∃(k:Nat) (o:El),k<=2/\ti=.int .i64 k/\o=(([⟨x,y,a,b,d⟩,⟨ox,oy,oa,ob,od⟩]:List El).take k).foldl dJ ⟨x,y,a,b,d⟩/\Hid (Blk wr (go) #[.int .i64 o.x,.int .i64 o.y,.int .i64 o.a,.int .i64 o.b,.int .i64 o.d] 35)/\Hid (Blk wr g3 C 35)/\Hid (Blk wr (w.heap.size+1+1) #[.int .i64 0,.int .i64 0,.int .i64 0,.int .i64 0,.int .i64 0] 35)/\Hid (zB w wr)) (fun ti _=>2-(intOf ti).toNat)
   case atStart=>exact⟨0,⟨x,y,a,b,d⟩,by omega,rfl,rfl,a2.out,HG.out,a4.out,HB.out⟩
   case round=>
    obtain⟨k,⟨N,E,I,K,J⟩,hk,rfl,hq,RO,S,R6,RB⟩:=hrel;simp only at RO;have e4:=Lh hq;clear a2 HG a4 HB;have U:=RB.out;have zr:=U.size;by_cases e0:k<2
    ·obtain⟨⟨L,D,G,F,H⟩,X⟩:∃e,([⟨x,y,a,b,d⟩,⟨ox,oy,oa,ob,od⟩]:List El)[k]?=some e:=⟨_,List.getElem?_eq_getElem (by simpa using e0)⟩;have m0:wr.cell? ⟨g3,k*5,none⟩=some (.int .i64 L):=(S.out.at (k*5+0)).trans (HX.out k _ X 0 (by decide));have m1:wr.cell? ⟨g3,k*5+1,none⟩=some (.int .i64 D):=(S.out.at (k*5+1)).trans (HX.out k _ X 1 (by decide));have m2:wr.cell? ⟨g3,k*5+2,none⟩=some (.int .i64 G):=(S.out.at (k*5+2)).trans (HX.out k _ X 2 (by decide));have m3:wr.cell? ⟨g3,k*5+3,none⟩=some (.int .i64 F):=(S.out.at (k*5+3)).trans (HX.out k _ X 3 (by decide));have m4:wr.cell? ⟨g3,k*5+4,none⟩=some (.int .i64 H):=(S.out.at (k*5+4)).trans (HX.out k _ X 4 (by decide));have B:=gW ([⟨x,y,a,b,d⟩,⟨ox,oy,oa,ob,od⟩]:List El) k ⟨x,y,a,b,d⟩ _ X;rw[<-hq] at B;have k1:(k:Int)<2:=by omega
     have k2:(0:Int)<=k:=by omega
     obtain⟨t1,T⟩:∃t,El.tr ⟨L,D,G,F,H⟩=t:=⟨_,rfl⟩;obtain⟨t2,Q⟩:∃t,El.tr ⟨N,E,I,K,J⟩=t:=⟨_,rfl⟩;have T1:=Lh T;have T2:=Lh Q;rw[show dJ ⟨N,E,I,K,J⟩ ⟨L,D,G,F,H⟩=if El.tr ⟨L,D,G,F,H⟩<El.tr ⟨N,E,I,K,J⟩ then ⟨L,D,G,F,H⟩ else ⟨N,E,I,K,J⟩ from rfl,T,Q] at B;have a3:=Lh B;clear B X T Q hq;go_wp2_with fail;obtain⟨W,f⟩:∃W,W=wr.alloc (Obj.cells #[L,D,G,F,H] 35):=⟨_,rfl⟩;rw[<-f];have V:Hid (Blk W wr.heap.size #[L,D,G,F,H] 35):=by rw[f];exact Blk.new _ _ _
     have R:Hid (Blk W (go) #[N,E,I,K,J] 35):=by rw[f];exact RO.out.alloc _
     have SG:Hid (Blk W g3 C 35):=by rw[f];exact S.out.alloc _
     have S6:Hid (Blk W (w.heap.size+1+1) #[.int .i64 0,.int .i64 0,.int .i64 0,.int .i64 0,.int .i64 0] 35):=by rw[f];exact R6.out.alloc _
     have SB:Hid (zB w W):=by rw[f];exact U.alloc zr _
     have g7:=RO.out.lt;have g1:=R6.out.lt;clear f m0 m1 m2 m3 m4 RO S R6 RB U;have c0:=cell_regrown (V.out.cell (i:=0) rfl);have d0:=cell_regrown (R.out.cell (i:=0) rfl);have c1:=cell_regrown (V.out.cell (i:=1) rfl);have d1:=cell_regrown (R.out.cell (i:=1) rfl);have c2:=cell_regrown (V.out.cell (i:=2) rfl);have d2:=cell_regrown (R.out.cell (i:=2) rfl);have c3:=cell_regrown (V.out.cell (i:=3) rfl);have d3:=cell_regrown (R.out.cell (i:=3) rfl);have c4:=cell_regrown (V.out.cell (i:=4) rfl);have d4:=cell_regrown (R.out.cell (i:=4) rfl);refine wp_region_quiet_below (by kernel_rfl) (by kernel_rfl) ?_;repeat (go_big_quiet_step (exact Calls.regrown_of (gO _ _ _ _ _ _ (by first|with_reducible exact T1.out|with_reducible exact T2.out) _)))
     refine wpQuiet_nil ?_;intro w7 a9;have m:=ay a9;clear a9 c0 c1 c2 c3 c4 d0 d1 d2 d3 d4;have UX:=V.out.keep m;have UO:=R.out.keep m;have UG:=SG.out.keep m;have U6:=S6.out.keep m;have UB:=SB.out.trans (m.mono SB.out.size);obtain⟨d8,c7,d7,-⟩:=aw UX;obtain⟨e2,e1,c5,-⟩:=aw UO;clear V R SG S6 SB m;by_cases ht:t1<t2
     ·go_wp2_with fail;go_roundw
      case rel=>
       refine⟨k+1,⟨L,D,G,F,H⟩,by omega,by go_num,by rw[a3.out,if_pos ht],?_,?_,?_,?_⟩
       ·exact((((UO.ab 0 _).ab 1 _).ab 2 _).ab 3 _).ab 4 _
       ·exact(((((UG.ac (a:=⟨go,0,none⟩) (q) _).ac (a:=⟨go,1,none⟩) (q) _).ac (a:=⟨go,2,none⟩) (q) _).ac (a:=⟨go,3,none⟩) (q) _).ac (a:=⟨go,4,none⟩) (q) _)
       ·exact(((((U6.ac (a:=⟨go,0,none⟩) (by simp only;omega) _).ac (a:=⟨go,1,none⟩) (by simp only;omega) _).ac (a:=⟨go,2,none⟩) (by simp only;omega) _).ac (a:=⟨go,3,none⟩) (by simp only;omega) _).ac (a:=⟨go,4,none⟩) (by simp only;omega) _)
       ·exact(show Below _ _ _ from ad)
      case measure=>simp[intOf];omega
     ·go_wp2_with fail;go_roundw
      case rel=>exact⟨k+1,⟨N,E,I,K,J⟩,by omega,by go_num,by rw[a3.out,if_neg ht],UO,UG,U6,UB⟩
      case measure=>simp[intOf];omega
    ·obtain rfl:k=2:=by omega
     have hF:Hid (foundE ⟨x,y,a,b,d⟩ O []=(⟨N,E,I,K,J⟩,0)):=by show _=_;rw[EV.out,EC.out,e4.out];rfl
     obtain⟨d8,c7,d7,-⟩:=aw RO.out;obtain⟨e2,e1,c5,-⟩:=aw R6.out;clear EV EC hq;go_wp2_with fail;exact rT 5 #[.int .i64 N,.int .i64 E,.int .i64 I,.int .i64 K,.int .i64 J] (.int .i64 0) ⟨by rw[hF.out],ad⟩
theorem yy(e:El)(f:St)(a:e.may=true)(b:f.may=true):gcutE e f=foundE e (cutE e f) []:=by unfold gcutE;rw [if_pos ⟨a,b⟩]
theorem ux(e:El)(f:St)(h:e.may=false∨f.may=false):gcutE e f=(El.zero,1):=by
 unfold gcutE;rw[if_neg];rintro⟨h1,h2⟩;rcases h with h|h
 ·rw[h1] at h;cases h
 ·rw[h2] at h;cases h
theorem DZ(x y a b d m j n i l q:Int)(w:World):zR 349 #[elC x y a b d,stC m j n i l q] w (.tuple #[elV (gcutE ⟨x,y,a,b,d⟩ ⟨m,j,n,i,l,q⟩).1,.int .i64 (gcutE ⟨x,y,a,b,d⟩ ⟨m,j,n,i,l,q⟩).2]):=by
 cases hm:El.may ⟨x,y,a,b,d⟩ with
 | false=>
  have z:=Lh hm;have u:=Lh (ux ⟨x,y,a,b,d⟩ ⟨m,j,n,i,l,q⟩ (.inl hm));clear hm;go_enter func349,ntmps349;go_wp2_with fail;refine(aN _ _ _ _ _ _ z.out _).mono ?_;rintro e C ⟨rfl,c⟩;have f:=c.size;(try simp at f);have h:=bq3 c (w.heap.size);go_wp2_with fail;exact rT 5 z5 (.int .i64 1) ⟨by rw[u.out];rfl,ad⟩
 | true=>
  have z:=Lh hm;cases hf:St.may ⟨m,j,n,i,l,q⟩ with
  | false=>
   have B:=Lh hf;have u:=Lh (ux ⟨x,y,a,b,d⟩ ⟨m,j,n,i,l,q⟩ (.inr hf));clear hm hf;go_enter func349,ntmps349;go_wp2_with fail;refine(aN _ _ _ _ _ _ z.out _).mono ?_;rintro e C ⟨rfl,c⟩;have f:=c.size;(try simp at f);have h:=bq3 c (w.heap.size);go_wp2_with fail;refine(fK _ _ _ _ _ _ _ B.out _).mono ?_;rintro e H ⟨rfl,g⟩;have p:=g.size;(try simp at p);have r:=bq3 g (w.heap.size);go_wp2_with fail;exact rT 5 z5 (.int .i64 1) ⟨by rw[u.out];rfl,ad⟩
  | true=>
   have B:=Lh hf;obtain⟨⟨M,F,I,D,J⟩,k,A⟩:∃o k,foundE ⟨x,y,a,b,d⟩ (cutE ⟨x,y,a,b,d⟩ ⟨m,j,n,i,l,q⟩) []=(o,k):=⟨_,_,rfl⟩;have u:Hid (gcutE ⟨x,y,a,b,d⟩ ⟨m,j,n,i,l,q⟩=(⟨M,F,I,D,J⟩,k)):=by show _=_;rw[yy _ _ hm hf,A]
   have O:=Lh A;clear hm hf A;go_enter func349,ntmps349;go_wp2_with fail;refine(aN _ _ _ _ _ _ z.out _).mono ?_;rintro e C ⟨rfl,c⟩;have f:=c.size;(try simp at f);have h:=bq3 c (w.heap.size);go_wp2_with fail;refine(fK _ _ _ _ _ _ _ B.out _).mono ?_;rintro e H ⟨rfl,g⟩;have p:=g.size;(try simp at p);have r:=bq3 g (w.heap.size);have N:=((((Blk.new w #[.int .i64 x,.int .i64 y,.int .i64 a,.int .i64 b,.int .i64 d] 35).alloc _).alloc _).keep c).keep g;have E:=(((Blk.new' (w.alloc _) #[.int .i64 m,.int .i64 j,.int .i64 n,.int .i64 i,.int .i64 l,.int .i64 q] 431 (b:=w.heap.size+1) (by simp)).alloc _).keep c).keep g;go_wp2_with fail
   have K:=yz x y a b d 353 #[.pointer (some ⟨w.heap.size,0,none⟩),.pointer (some ⟨w.heap.size+1,0,none⟩)] (cutE ⟨x,y,a,b,d⟩ ⟨m,j,n,i,l,q⟩) H (by intro G w;rfl)
    (fun k P _ _ L=>FE x y a b d m j n i l q k _ _ P (N.keep L) (E.keep L))
   rw[O.out] at K;clear N E;refine K.mono ?_;rintro e Q ⟨rfl,s⟩;have t:=s.size;(try simp at t);have v:=bq3 s (w.heap.size);go_wp2_with fail;exact rT 5 #[.int .i64 M,.int .i64 F,.int .i64 I,.int .i64 D,.int .i64 J] (.int .i64 k) ⟨by rw[u.out],ad⟩
theorem jJ(x y a b d g e i c f j p m n l o k:Int)(h:gcutE ⟨x,y,a,b,d⟩ ⟨g,e,i,c,f,j⟩=(⟨p,m,n,l,o⟩,k))(w:World):zR 349 #[elC x y a b d,stC g e i c f j] w (.tuple #[elC p m n l o,k]):=by
 have:=DZ x y a b d g e i c f j w;rw[h] at this;exact this
theorem gcuts(e:El)(s:St)(u:e.may=true)(c:s.may=true)(p q l:Int)(m:s.hx*(p-s.ox)+s.hy*(q-s.oy)=l){g:El}{k:Int}(a:gcutE e s=(g,k)):(k=3/\¬(e.has p q=true/\s.lo<=l/\l<=s.hi))∨(k=0/\(e.has p q=true->s.lo<=l->l<=s.hi->g.has p q=true)/\g.tr<=e.tr):=by
 rw[yy e s u c] at a;rcases found_cases e (cutE e s) [] with ⟨⟨x,f,d,r⟩,h⟩|⟨o,h,b,v,-,-⟩
 ·rw[h] at a;injection a with _ hk
  left;refine⟨hk.symm,fun i=>?_⟩;exact(Jy e s x p q l f d i.1 c m i.2.1 i.2.2 (o:=(cutE e s x).1) (er:=(cutE e s x).2) rfl).1 r
 ·rw[h] at a;injection a with a hk;subst a
  right;refine⟨hk.symm,?_,v⟩;intro j n w;rcases b with rfl|⟨x,f,d,t⟩|b
  ·exact j
  ·exact(Jy e s x p q l f d j c m n w t).2 rfl
  ·cases b
def iQ(e n:El)(lo hi:Int):El×Int:=
 if (ringE e n lo hi).2=3 then (El.zero,3)
 else if (ringE e n lo hi).2=0 then (if (gcutE e (ringE e n lo hi).1).2=3 then (El.zero,3) else if (gcutE e (ringE e n lo hi).1).2=0 then ((gcutE e (ringE e n lo hi).1).1,0) else (e,0))
 else (e,0)
def updE(e n:El)(lo hi:Int):El×Int:=
 if e.may=true/\n.may=true/\aJ lo hi=true then
  if (ballE n.x n.y (hi+n.rad)).2=0 then
   if (gfuseE e (ballE n.x n.y (hi+n.rad)).1).2=3 then (El.zero,3)
   else if (gfuseE e (ballE n.x n.y (hi+n.rad)).1).2=0 then iQ (gfuseE e (ballE n.x n.y (hi+n.rad)).1).1 n lo hi
   else iQ e n lo hi
  else iQ e n lo hi
 else (El.zero,1)
theorem Sf{e o:El}{s:St}(h:gcutE e s=(o,0)):e.may=true/\o.may=true/\o.tr<=e.tr:=by
 unfold gcutE at h;split at h
 ·rename_i d;rcases found_cases e (cutE e s) [] with ⟨_,c⟩|⟨g,c,b,f,-,-⟩
  ·rw[c] at h;injection h with _ hk;cases hk
  ·rw[c] at h;injection h with hg hk;subst hg
   refine⟨d.1,?_,f⟩;rcases b with rfl|⟨x,j,i,a⟩|b
   ·exact d.1
   ·unfold cutE bU at a;split at a
    ·split at a
     ·unfold ellI at a;split at a
      ·injection a with _ a;cases a
      ·split at a
       ·injection a with _ a;cases a
       ·exact(qZ (oG a).2).2.2
     ·injection a with _ a;cases a
    ·injection a with _ a;cases a
   ·cases b
 ·injection h with _ hk;cases hk
theorem updB_less{e n o:El}{lo hi k:Int}(a:e.may=true)(h:iQ e n lo hi=(o,k)):(k=3/\o=El.zero)∨(k=0/\o.may=true/\o.tr<=e.tr):=by
 unfold iQ at h;split at h
 ·injection h with h1 h2;exact .inl ⟨h2.symm,h1.symm⟩
 ·split at h
  ·split at h
   ·injection h with h1 h2;exact .inl ⟨h2.symm,h1.symm⟩
   ·split at h
    ·rename_i b;injection h with h1 h2;subst h1
     have:=Sf (e:=e) (s:=(ringE e n lo hi).1) (Prod.ext rfl b);exact .inr ⟨h2.symm,this.2.1,this.2.2⟩
    ·injection h with h1 h2;subst h1;exact .inr ⟨h2.symm,a,Int.le_refl _⟩
  ·injection h with h1 h2;subst h1;exact .inr ⟨h2.symm,a,Int.le_refl _⟩
theorem upd_less{e n o:El}{lo hi k:Int}(b:e.may=true)(j:n.may=true)(m:aJ lo hi=true)(h:updE e n lo hi=(o,k)):(k=3/\o=El.zero)∨(k=0/\o.may=true/\o.tr<=e.tr):=by
 unfold updE at h;rw[if_pos ⟨b,j,m⟩] at h;split at h
 ·rename_i f;split at h
  ·injection h with h1 h2;exact .inl ⟨h2.symm,h1.symm⟩
  ·split at h
   ·rename_i r
    have l:(ballE n.x n.y (hi+n.rad)).1.may=true:=by
     unfold ballE at f ⊢;split at f
     ·rename_i a;rw[if_pos a];exact zv _ _ _ a.1 a.2.1 a.2.2
     ·cases f
    rcases gholds e _ b l 0 0 (g:=(gfuseE e (ballE n.x n.y (hi+n.rad)).1).1) (k:=(gfuseE e (ballE n.x n.y (hi+n.rad)).1).2) rfl with ⟨c,-⟩|⟨-,-,gm,s,-⟩
    ·rw[r] at c;cases c
    ·rcases updB_less gm h with d|⟨d,i,c⟩
     ·exact .inl d
     ·exact .inr ⟨d,i,by omega⟩
   ·exact updB_less b h
 ·exact updB_less b h
section
variable {e n:El} {p q p' q' lo hi:Int} (t:Ge e n p q p' q' lo hi)
include t
theorem Im:∃o,iQ e n lo hi=(o,0)/\o.has p q=true:=by
 have a:=((El.has_iff _ _ _).1 t.he).1;have c:=((El.has_iff _ _ _).1 t.hn).1;by_cases b:e.x-n.x=0/\e.y-n.y=0
 ·have j:ringE e n lo hi=(⟨0,0,0,0,0,0⟩,7):=by unfold ringE;rw[if_pos ⟨a,c,t.hr⟩,if_pos b]
  refine⟨e,?_,t.he⟩;unfold iQ;rw[j,if_neg (by decide),if_neg (by decide)]
 ·obtain⟨s,r,i,f,d⟩:=LA t b;rcases gcuts e s a i p q _ rfl (g:=(gcutE e s).1) (k:=(gcutE e s).2) rfl with ⟨-,l⟩|⟨h,m,-⟩
  ·exact absurd ⟨t.he,f,d⟩ l
  ·refine⟨(gcutE e s).1,?_,m t.he f d⟩;unfold iQ;rw[r,if_neg (show ¬(s,(0:Int)).2=3 by simp),if_pos rfl];simp only;rw[if_neg (by omega),if_pos h]
theorem MF:∃o,updE e n lo hi=(o,0)/\o.has p q=true:=by
 have b:=((El.has_iff _ _ _).1 t.he).1;have h:=((El.has_iff _ _ _).1 t.hn).1;unfold updE;rw[if_pos ⟨b,h,t.hr⟩];by_cases c:(ballE n.x n.y (hi+n.rad)).2=0
 ·rw[if_pos c]
  have a:mayPt n.x n.y=true/\1<=hi+n.rad/\hi+n.rad<=4194304:=by
   unfold ballE at c;split at c
   ·assumption
   ·cases c
  have f:(ballE n.x n.y (hi+n.rad)).1=⟨n.x,n.y,(hi+n.rad)*(hi+n.rad),0,(hi+n.rad)*(hi+n.rad)⟩:=by unfold ballE;rw[if_pos a]
  have d:(ballE n.x n.y (hi+n.rad)).1.has p q=true:=by
   rw[f];have:=I8 n.x n.y (hi+n.rad) (p-n.x) (q-n.y) a.1 a.2.1 a.2.2 (Kj t);rw[show n.x+(p-n.x)=p by omega,show n.y+(q-n.y)=q by omega] at this;exact this
  have j:=((El.has_iff _ _ _).1 d).1;rcases gholds e _ b j p q (g:=(gfuseE e (ballE n.x n.y (hi+n.rad)).1).1) (k:=(gfuseE e (ballE n.x n.y (hi+n.rad)).1).2) rfl with ⟨-,l⟩|⟨i,m,gm,r,-⟩
  ·exact absurd ⟨t.he,d⟩ l
  ·rw[if_neg (by omega),if_pos i];exact Im (e:=(gfuseE e (ballE n.x n.y (hi+n.rad)).1).1) ⟨m t.he d,t.hn,t.hlo,t.hhi,t.hr⟩
 ·rw[if_neg c];exact Im t
end
theorem fH(e n c:El)(d g:Int)(s:St)(a b:Int)(l:ringE e n d g=(s,a))(k:gcutE e s=(c,b)):(a=3/\iQ e n d g=(El.zero,3))∨(a=0/\b=3/\iQ e n d g=(El.zero,3))∨(a=0/\b=0/\iQ e n d g=(c,0))∨(a=0/\¬b=0/\¬b=3/\iQ e n d g=(e,0))∨(¬a=0/\¬a=3/\iQ e n d g=(e,0)):=by
 unfold iQ;rw[l];simp only;rw[k];simp only;by_cases i:a=3
 ·left;exact⟨i,by rw[if_pos i]⟩
 ·right;rw[if_neg i];by_cases f:a=0
  ·rw[if_pos f];by_cases j:b=3
   ·left;exact⟨f,j,by rw[if_pos j]⟩
   ·rw[if_neg j];by_cases h:b=0
    ·right;left;exact⟨f,h,by rw[if_pos h]⟩
    ·right;right;left;exact⟨f,h,j,by rw[if_neg h]⟩
  ·right;right;right;exact⟨f,i,by rw[if_neg f]⟩
theorem nz(e n b f:El)(d c h j:Int)(l:e.may=true)(p:n.may=true)(r:aJ d c=true)(a:ballE n.x n.y (c+n.rad)=(b,h))(k:gfuseE e b=(f,j)):(¬h=0/\updE e n d c=iQ e n d c)∨(h=0/\j=3/\updE e n d c=(El.zero,3))∨(h=0/\j=0/\updE e n d c=iQ f n d c):=by
 unfold updE;rw[if_pos ⟨l,p,r⟩,a];simp only;rw[k];simp only;by_cases g:h=0
 ·right;rw[if_pos g]
  have q:b.may=true:=by
   unfold ballE at a;split at a
   ·rename_i i;injection a with a _;subst a
    exact zv _ _ _ i.1 i.2.1 i.2.2
   ·injection a with _ a;omega
  rcases gholds e b l q 0 0 k with ⟨m,-⟩|⟨o,-⟩
  ·left;exact⟨g,m,by rw[if_pos m]⟩
  ·right;exact⟨g,o,by rw[if_neg (by omega),if_pos o]⟩
 ·left;exact⟨g,by rw[if_neg g]⟩
theorem dE{w:World}{g:Nat}{x y a b d:Int}{t:TypeId}(C:Blk w g #[x,y,a,b,d] t):w.cell? ⟨g,0,none⟩=some (.int .i64 x)/\w.cell? ⟨g,1,none⟩=some (.int .i64 y)/\w.cell? ⟨g,2,none⟩=some (.int .i64 a)/\w.cell? ⟨g,3,none⟩=some (.int .i64 b)/\w.cell? ⟨g,4,none⟩=some (.int .i64 d):=
 ⟨C.cell rfl,C.cell rfl,C.cell rfl,C.cell rfl,C.cell rfl⟩
theorem jx(e n:El)(a b:Int)(h:e.may=false∨n.may=false∨aJ a b=false):updE e n a b=(El.zero,1):=by
 unfold updE;rw[if_neg];rintro⟨h1,h2,h3⟩;rw[h1,h2,h3] at h;simp at h
theorem E7(x y a b d r s u B A T I:Int)(w:World):zR 345 #[elC x y a b d,elC r s u B A,T,I] w (.tuple #[elV (updE ⟨x,y,a,b,d⟩ ⟨r,s,u,B,A⟩ T I).1,.int .i64 (updE ⟨x,y,a,b,d⟩ ⟨r,s,u,B,A⟩ T I).2]):=by
 rcases ring_cases ⟨x,y,a,b,d⟩ ⟨r,s,u,B,A⟩ T I with Q|⟨Q,X⟩|⟨Q,X,Z⟩|⟨Q,X,Z⟩
 ·have j:=Lh (jx ⟨x,y,a,b,d⟩ ⟨r,s,u,B,A⟩ T I (.inl Q));have H1:=Lh Q;clear Q;go_enter func345,ntmps345;go_wp2_with fail;refine(aN _ _ _ _ _ _ H1.out _).mono ?_;rintro e w1 ⟨rfl,f⟩;have l:=f.size;(try simp at l);have n:=bq3 f (w.heap.size);go_wp2_with fail;exact rT 5 z5 (.int .i64 1) ⟨by rw[j.out];rfl,ad⟩
 ·have j:=Lh (jx ⟨x,y,a,b,d⟩ ⟨r,s,u,B,A⟩ T I (.inr (.inl X)));have H1:=Lh Q;have H2:=Lh X;clear Q X;go_enter func345,ntmps345;go_wp2_with fail;refine(aN _ _ _ _ _ _ H1.out _).mono ?_;rintro e w1 ⟨rfl,f⟩;have l:=f.size;(try simp at l);have n:=bq3 f (w.heap.size);go_wp2_with fail;refine(aN _ _ _ _ _ _ H2.out _).mono ?_;rintro e w2 ⟨rfl,m⟩;have z:=m.size;(try simp at z);have C:=bq3 m (w.heap.size);go_wp2_with fail;exact rT 5 z5 (.int .i64 1) ⟨by rw[j.out];rfl,ad⟩
 ·have j:=Lh (jx ⟨x,y,a,b,d⟩ ⟨r,s,u,B,A⟩ T I (.inr (.inr Z)));have H1:=Lh Q;have H2:=Lh X;have H3:=Lh Z;clear Q X Z;go_enter func345,ntmps345;go_wp2_with fail;refine(aN _ _ _ _ _ _ H1.out _).mono ?_;rintro e w1 ⟨rfl,f⟩;have l:=f.size;(try simp at l);have n:=bq3 f (w.heap.size);go_wp2_with fail;refine(aN _ _ _ _ _ _ H2.out _).mono ?_;rintro e w2 ⟨rfl,m⟩;have z:=m.size;(try simp at z);have C:=bq3 m (w.heap.size);go_wp2_with fail;refine(jz _ _ _ H3.out _).mono ?_;rintro e W ⟨rfl,D⟩;have O:=D.size;(try simp at O);have M:=bq3 D (w.heap.size);go_wp2_with fail;exact rT 5 z5 (.int .i64 1) ⟨by rw[j.out];rfl,ad⟩
 ·have rl:=El.fg ⟨r,s,u,B,A⟩;have r0:=eR ⟨r,s,u,B,A⟩;have b6:=(dj _ _).1 Z;obtain⟨R,hR⟩:∃R,El.rad ⟨r,s,u,B,A⟩=R:=⟨_,rfl⟩;obtain⟨a3,hf⟩:∃h,I+R=h:=⟨_,rfl⟩;rw[hR] at rl r0;have wr:wrap64 (I+R)=a3:=by rw[hf];unfold wrap64;omega
  have b9:IntKind.i64.wrap (I+R)=a3:=by rw[IntKind.wrap_i64,hf];omega
  obtain⟨⟨bx,bY,ba,bb,bd⟩,kb,hb⟩:∃o k,ballE r s a3=(o,k):=⟨_,_,rfl⟩;obtain⟨⟨fx,fy,fa,fb,fd⟩,kf,a8⟩:∃o k,gfuseE ⟨x,y,a,b,d⟩ ⟨bx,bY,ba,bb,bd⟩=(o,k):=⟨_,_,rfl⟩;have UC:=nz ⟨x,y,a,b,d⟩ ⟨r,s,u,B,A⟩ _ _ T I kb kf Q X Z (by show ballE r s (I+El.rad ⟨r,s,u,B,A⟩)=_;rw[hR,hf];exact hb) a8;have H1:=Lh Q;have H2:=Lh X;have H3:=Lh Z;have ER:=Lh hR;have EB:=Lh hb;have EF:=Lh a8;have UH:=Lh UC;clear Q X Z hR hf hb a8 rl r0 b6 UC;go_enter func345,ntmps345;go_wp2_with fail;refine(aN _ _ _ _ _ _ H1.out _).mono ?_;rintro e w1 ⟨rfl,f⟩;have l:=f.size;(try simp at l);have n:=bq3 f (w.heap.size);go_wp2_with fail;refine(aN _ _ _ _ _ _ H2.out _).mono ?_;rintro e w2 ⟨rfl,m⟩;have z:=m.size;(try simp at z);have C:=bq3 m (w.heap.size);go_wp2_with fail;refine(jz _ _ _ H3.out _).mono ?_;rintro e W ⟨rfl,D⟩;have O:=D.size;(try simp at O);have M:=bq3 D (w.heap.size);go_wp2_with fail;have a6:Hid (zB w W):=(show Below _ _ _ from ad);have X0:Hid (Blk W w.heap.size #[x,y,a,b,d] 35):=(((((Blk.new w _ _).alloc _).alloc _).keep f).keep m).keep D;have X1:Hid (Blk W (w.heap.size+1) #[r,s,u,B,A] 35):=((((Blk.new' (w.alloc _) _ _ (by simp)).alloc _).keep f).keep m).keep D;have X2:Hid (Blk W (w.heap.size+1+1) #[.int .i64 0,.int .i64 0,.int .i64 0,.int .i64 0,.int .i64 0] 35):=(((Blk.new' ((w.alloc _).alloc _) _ _ (by simp)).keep f).keep m).keep D;have l3:=X2.out.lt;clear O M;clear z C;clear l n;clear f m D;go_cut [10,11] from 12 (fun b5 b4 wc=>∃g,b5=.pointer (some ⟨g,0,none⟩)/\b4=.int .i64 kb/\W.heap.size<=g/\Hid (Blk wc g #[bx,bY,ba,bb,bd] 35)/\Hid (zB W wc))
  case first=>
   have XX:Blk W (w.heap.size+1) #[r,s,u,B,A] 35:=X1.out;have rr:=dE XX
   go_region_held3 (fun w'=>w'.cell? ⟨w.heap.size+1,0,none⟩=some (.int .i64 r)/\w'.cell? ⟨w.heap.size+1,1,none⟩=some (.int .i64 s)/\w'.cell? ⟨w.heap.size+1,2,none⟩=some (.int .i64 u)/\w'.cell? ⟨w.heap.size+1,3,none⟩=some (.int .i64 B)/\w'.cell? ⟨w.heap.size+1,4,none⟩=some (.int .i64 A)) (first|with_reducible exact rr|(with_reducible refine dE (t:=35) ?_;(repeat (first|with_reducible exact XX|with_reducible refine Blk.drew ?_|with_reducible refine Blk.alloc ?_ _));done)|go_simp)
    (first
     | (go_at_call 80;refine(qt _ _ _ _ _ _ ER.out _).mono ?_;rintro e w4 ⟨rfl,i⟩;have XX:Blk w4 (w.heap.size+1) #[r,s,u,B,A] 35:=(by(with_reducible refine Blk.keep ?_ i);(repeat (first|with_reducible exact XX|with_reducible refine Blk.drew ?_|with_reducible refine Blk.alloc ?_ _)));have rr:=dE XX;have v:=i.size;(try simp at v);(try (refine aI (bk i (W.heap.size)) ?_ ?_;(focus (first|omega|(simp;done)|(simp;omega)));rintro⟨y_w4_q0,c_w4_q0,f_w4_q0,r_w4_q0,t_w4_q0,p_w4_q0⟩)))
     | (go_at_call 35;refine(fE _ _ _ _ _ _ _ _ _ EB.out _).mono ?_;rintro e w5 ⟨rfl,F⟩;have XX:Blk w5 (w.heap.size+1) #[r,s,u,B,A] 35:=(by(with_reducible refine Blk.keep ?_ F);(repeat (first|with_reducible exact XX|with_reducible refine Blk.drew ?_|with_reducible refine Blk.alloc ?_ _)));have rr:=dE XX;have U:=F.size;(try simp at U);(try (refine aI (bk F (W.heap.size)) ?_ ?_;(focus (first|omega|(simp;done)|(simp;omega)));rintro⟨y_w5_q0,c_w5_q0,f_w5_q0,r_w5_q0,t_w5_q0,p_w5_q0⟩));(try (refine aI (bk F (w4.heap.size)) ?_ ?_;(focus (first|omega|(simp;done)|(simp;omega)));rintro⟨y_w5_q1,c_w5_q1,f_w5_q1,r_w5_q1,t_w5_q1,p_w5_q1⟩))))
   all_goals go_wp2_with fail
   all_goals go_meet
   all_goals refine⟨_,rfl,rfl,(by first|omega|(simp;done)|(simp;omega)|fail),?_,?_⟩
   all_goals first
    | (show Below _ _ _;exact ad)
    | (show Blk _ _ _ _;apply Blk.of_eq;(focus (repeat (first|with_reducible exact Blk.new _ _ _|with_reducible apply Blk.drew|with_reducible apply Blk.ab|with_reducible apply Blk.keep (hb:=F)|with_reducible apply Blk.keep (hb:=i)|with_reducible apply Blk.alloc)));rfl)
  case rest=>
   obtain⟨a4,rfl,rfl,c4,HG,V⟩:=hcut;have Y0:=Lh (X0.out.keep V.out);have Y1:=Lh (X1.out.keep V.out);have Y2:=Lh (X2.out.keep V.out);have HB:=Lh (Below.trans a6.out (V.out.mono a6.out.size));have ly:=X2.out.lt;obtain⟨y0,c0,f0,-⟩:=aw Y0.out;obtain⟨y1,c1,f1,-⟩:=aw Y1.out;obtain⟨y2,c2,f2,-⟩:=aw Y2.out;obtain⟨y3,c3,f3,-⟩:=aw HG.out;have n0:¬(a4=w.heap.size):=by omega
   have n1:¬(a4=w.heap.size+1):=by omega
   have n2:¬(a4=w.heap.size+1+1):=by omega
   have Y:=HB.out;have bs:=Y.size;clear HG V a6 X0 X1 X2;rcases UH.out with ⟨k0,c⟩|⟨k0,k3,c⟩|⟨k0,k3,c⟩
   ·have EU:=Lh c;have b8:(kb==0)=false:=by simp[k0]
    clear c UH;obtain⟨⟨s1,s2,s3,s4,s5,s6⟩,kr,L⟩:∃o k,ringE ⟨x,y,a,b,d⟩ ⟨r,s,u,B,A⟩ T I=(o,k):=⟨_,_,rfl⟩;obtain⟨⟨q1,q2,q3,q4,q5⟩,kc,J⟩:∃o k,gcutE ⟨x,y,a,b,d⟩ ⟨s1,s2,s3,s4,s5,s6⟩=(o,k):=⟨_,_,rfl⟩;have BC:=fH _ _ _ T I _ kr kc L J;rw[<-EU.out] at BC;have a0:=Lh L;have K:=Lh J;clear L J EU;go_wp2_with fail;refine(rW _ _ _ _ _ _ _ _ _ _ _ _ _ _ _ _ _ _ _ a0.out _).mono ?_;rintro e w5 ⟨rfl,F⟩;have U:=F.size;(try simp at U);have b3:=bq3 F (w.heap.size);rcases BC with ⟨rfl,c⟩|⟨rfl,rfl,c⟩|⟨rfl,rfl,c⟩|⟨rfl,a1,a2,c⟩|⟨a7,a5,c⟩
    ·have j:=Lh c;clear c;go_wp2_with fail;exact rT 5 z5 (.int .i64 3) ⟨by rw[j.out];rfl,ad⟩
    ·have j:=Lh c;clear c;go_wp2_with fail;refine(jJ _ _ _ _ _ _ _ _ _ _ _ _ _ _ _ _ _ K.out _).mono ?_;rintro e w6 ⟨rfl,q⟩;have p:=q.size;(try simp at p);have E:=bq3 q (w.heap.size);go_wp2_with fail;exact rT 5 z5 (.int .i64 3) ⟨by rw[j.out];rfl,ad⟩
    ·have j:=Lh c;clear c;go_wp2_with fail;refine(jJ _ _ _ _ _ _ _ _ _ _ _ _ _ _ _ _ _ K.out _).mono ?_;rintro e w6 ⟨rfl,q⟩;have p:=q.size;(try simp at p);have E:=bq3 q (w.heap.size);go_wp2_with fail;exact rT 5 #[.int .i64 q1,.int .i64 q2,.int .i64 q3,.int .i64 q4,.int .i64 q5] (.int .i64 0) ⟨by rw[j.out],ad⟩
    ·have j:=Lh c;clear c;have a9:(kc==0)=false:=by simp[a1]
     have b1:(kc==3)=false:=by simp[a2]
     go_wp2_with fail;refine(jJ _ _ _ _ _ _ _ _ _ _ _ _ _ _ _ _ _ K.out _).mono ?_;rintro e w6 ⟨rfl,q⟩;have p:=q.size;(try simp at p);have E:=bq3 q (w.heap.size);go_wp2_with fail;exact rT 5 #[.int .i64 x,.int .i64 y,.int .i64 a,.int .i64 b,.int .i64 d] (.int .i64 0) ⟨by rw[j.out],ad⟩
    ·have j:=Lh c;clear c;have b0:(kr==0)=false:=by simp[a7]
     have b2:(kr==3)=false:=by simp[a5]
     go_wp2_with fail;exact rT 5 #[.int .i64 x,.int .i64 y,.int .i64 a,.int .i64 b,.int .i64 d] (.int .i64 0) ⟨by rw[j.out],ad⟩
   ·subst k0;subst k3;have j:=Lh c;clear c UH;go_wp2_with fail;refine(ur _ _ _ _ _ _ _ _ _ _ _ _ _ _ _ _ EF.out _).mono ?_;rintro e w4 ⟨rfl,i⟩;have v:=i.size;(try simp at v);have P:=bq3 i (w.heap.size);go_wp2_with fail;exact rT 5 z5 (.int .i64 3) ⟨by rw[j.out];rfl,ad⟩
   ·subst k0;subst k3;have EU:=Lh c;clear c UH;go_wp2_with fail;refine(ur _ _ _ _ _ _ _ _ _ _ _ _ _ _ _ _ EF.out _).mono ?_;rintro e w4 ⟨rfl,i⟩;have v:=i.size;(try simp at v);have P:=bq3 i (w.heap.size);obtain⟨v5,S⟩:∃v5,v5=((((((w4).setCell ⟨w.heap.size,0,none⟩ (.int .i64 fx)).setCell ⟨w.heap.size,1,none⟩ (.int .i64 fy)).setCell ⟨w.heap.size,2,none⟩ (.int .i64 fa)).setCell ⟨w.heap.size,3,none⟩ (.int .i64 fb)).setCell ⟨w.heap.size,4,none⟩ (.int .i64 fd)).alloc (Obj.cells #[fx,fy,fa,fb,fd] 35):=⟨_,rfl⟩;go_wp2_with fail;rw[<-S];have Z0:Hid (Blk v5 w.heap.size #[fx,fy,fa,fb,fd] 35):=by rw[S];exact(((((((Y0.out.keep i).ab 0 _).ab 1 _).ab 2 _).ab 3 _).ab 4 _).of_eq rfl).alloc _
    have Z1:Hid (Blk v5 (w.heap.size+1) #[r,s,u,B,A] 35):=by rw[S];exact(((((((Y1.out.keep i).ac (a:=⟨w.heap.size,0,none⟩) (by simp only;omega) _).ac (a:=⟨w.heap.size,1,none⟩) (by simp only;omega) _).ac (a:=⟨w.heap.size,2,none⟩) (by simp only;omega) _).ac (a:=⟨w.heap.size,3,none⟩) (by simp only;omega) _).ac (a:=⟨w.heap.size,4,none⟩) (by simp only;omega) _)).alloc _
    have Z2:Hid (Blk v5 (w.heap.size+1+1) #[.int .i64 0,.int .i64 0,.int .i64 0,.int .i64 0,.int .i64 0] 35):=by rw[S];exact(((((((Y2.out.keep i).ac (a:=⟨w.heap.size,0,none⟩) (by simp only;omega) _).ac (a:=⟨w.heap.size,1,none⟩) (by simp only;omega) _).ac (a:=⟨w.heap.size,2,none⟩) (by simp only;omega) _).ac (a:=⟨w.heap.size,3,none⟩) (by simp only;omega) _).ac (a:=⟨w.heap.size,4,none⟩) (by simp only;omega) _)).alloc _
    have b7:Hid (zB w v5):=by rw[S];exact(show Below _ _ _ from ad)
    clear v P;clear Y i y0 c0 f0 y1 c1 f1 y2 c2 f2 y3 c3 f3 S Y0 Y1 Y2;obtain⟨y0,c0,f0,-⟩:=aw Z0.out;obtain⟨y1,c1,f1,-⟩:=aw Z1.out;obtain⟨y2,c2,f2,-⟩:=aw Z2.out;have Y:=b7.out;have c5:=Y.size;obtain⟨⟨s1,s2,s3,s4,s5,s6⟩,kr,L⟩:∃o k,ringE ⟨fx,fy,fa,fb,fd⟩ ⟨r,s,u,B,A⟩ T I=(o,k):=⟨_,_,rfl⟩;obtain⟨⟨q1,q2,q3,q4,q5⟩,kc,J⟩:∃o k,gcutE ⟨fx,fy,fa,fb,fd⟩ ⟨s1,s2,s3,s4,s5,s6⟩=(o,k):=⟨_,_,rfl⟩;have BC:=fH _ _ _ T I _ kr kc L J;rw[<-EU.out] at BC;have a0:=Lh L;have K:=Lh J;clear L J EU;refine(rW _ _ _ _ _ _ _ _ _ _ _ _ _ _ _ _ _ _ _ a0.out _).mono ?_;rintro e w6 ⟨rfl,q⟩;have p:=q.size;(try simp at p);have E:=bq3 q (w.heap.size);rcases BC with ⟨rfl,c⟩|⟨rfl,rfl,c⟩|⟨rfl,rfl,c⟩|⟨rfl,a1,a2,c⟩|⟨a7,a5,c⟩
    ·have j:=Lh c;clear c;go_wp2_with fail;exact rT 5 z5 (.int .i64 3) ⟨by rw[j.out];rfl,ad⟩
    ·have j:=Lh c;clear c;go_wp2_with fail;refine(jJ _ _ _ _ _ _ _ _ _ _ _ _ _ _ _ _ _ K.out _).mono ?_;rintro e w7 ⟨rfl,G⟩;have H:=G.size;(try simp at H);have N:=bq3 G (w.heap.size);go_wp2_with fail;exact rT 5 z5 (.int .i64 3) ⟨by rw[j.out];rfl,ad⟩
    ·have j:=Lh c;clear c;go_wp2_with fail;refine(jJ _ _ _ _ _ _ _ _ _ _ _ _ _ _ _ _ _ K.out _).mono ?_;rintro e w7 ⟨rfl,G⟩;have H:=G.size;(try simp at H);have N:=bq3 G (w.heap.size);go_wp2_with fail;exact rT 5 #[.int .i64 q1,.int .i64 q2,.int .i64 q3,.int .i64 q4,.int .i64 q5] (.int .i64 0) ⟨by rw[j.out],ad⟩
    ·have j:=Lh c;clear c;have a9:(kc==0)=false:=by simp[a1]
     have b1:(kc==3)=false:=by simp[a2]
     go_wp2_with fail;refine(jJ _ _ _ _ _ _ _ _ _ _ _ _ _ _ _ _ _ K.out _).mono ?_;rintro e w7 ⟨rfl,G⟩;have H:=G.size;(try simp at H);have N:=bq3 G (w.heap.size);go_wp2_with fail;exact rT 5 #[.int .i64 fx,.int .i64 fy,.int .i64 fa,.int .i64 fb,.int .i64 fd] (.int .i64 0) ⟨by rw[j.out],ad⟩
    ·have j:=Lh c;clear c;have b0:(kr==0)=false:=by simp[a7]
     have b2:(kr==3)=false:=by simp[a5]
     go_wp2_with fail;exact rT 5 #[.int .i64 fx,.int .i64 fy,.int .i64 fa,.int .i64 fb,.int .i64 fd] (.int .i64 0) ⟨by rw[j.out],ad⟩
theorem CB(x y a b d c e l j f i g q o n p m k:Int)(h:updE ⟨x,y,a,b,d⟩ ⟨c,e,l,j,f⟩ i g=(⟨q,o,n,p,m⟩,k))(w:World):zR 345 #[elC x y a b d,elC c e l j f,i,g] w (.tuple #[elC q o n p m,k]):=by
 have:=E7 x y a b d c e l j f i g w;rw[h] at this;exact this
def takeS(v:Bool)(e f:El)(k:Int):(Bool×El)×Int:=if k=0 then ((v,f),0) else if k=3 then ((false,El.zero),3) else ((v,e),k)
theorem take_c(g:Nat)(m:Int)(v:Bool)(x y a b d f h j l i k:Int)(w:World)(B:Blk w g (flt m v x y a b d) 119):Calls prog 334 #[.pointer (some ⟨g,0,none⟩),elC f h j l i,k] w fun e r=>∃t c s,takeS v ⟨x,y,a,b,d⟩ ⟨f,h,j,l,i⟩ k=((t,c),s)/\e=.returned (.int .i64 s)/\ah g w r/\Blk r g (flt m t c.x c.y c.a c.b c.d) 119:=by
 have q:=Lh B;obtain⟨F,C,G,-⟩:=cz B;have A:=B.lt;by_cases n:k=0
 ·subst n;have E:Hid (takeS v ⟨x,y,a,b,d⟩ ⟨f,h,j,l,i⟩ 0=((v,⟨f,h,j,l,i⟩),0)):=rfl;clear B;go_enter func334,ntmps334;go_wp2_with fail;go_ret;refine⟨_,_,_,E.out,rfl,dY,?_⟩;apply Blk.of_eq
  ·repeat (first|with_reducible exact q.out|with_reducible apply Blk.drew|with_reducible apply Blk.ab|with_reducible apply Blk.alloc)
  ·rfl
 ·by_cases p:k=3
  ·subst p;have E:Hid (takeS v ⟨x,y,a,b,d⟩ ⟨f,h,j,l,i⟩ 3=((false,El.zero),3)):=rfl;clear B;go_enter func334,ntmps334;go_wp2_with fail;refine Calls.mono (Ua g m _ _ _ _ _ _ _ (q.out.alloc _)) ?_;rintro e D ⟨rfl,u,o⟩;go_wp2_with fail;go_ret;exact⟨_,_,_,E.out,rfl,dY,o⟩
  ·have E:Hid (takeS v ⟨x,y,a,b,d⟩ ⟨f,h,j,l,i⟩ k=((v,⟨x,y,a,b,d⟩),k)):=show _=_ from by unfold takeS;rw[if_neg n,if_neg p]
   have z:(k==0)=false:=by simp[n]
   have H:(k==3)=false:=by simp[p]
   clear B;go_enter func334,ntmps334;go_wp2_with fail;go_ret;exact⟨_,_,_,E.out,rfl,dY,q.out.alloc _⟩
theorem OE(g:Nat)(m:Int)(v:Bool)(x y a b d c f l n i k:Int)(z:Bool)(o q t s p u:Int)(h:takeS v ⟨x,y,a,b,d⟩ ⟨c,f,l,n,i⟩ k=((z,⟨o,q,t,s,p⟩),u))(w:World)(B:Blk w g (flt m v x y a b d) 119):Calls prog 334 #[.pointer (some ⟨g,0,none⟩),elC c f l n i,k] w fun e j=>e=.returned (.int .i64 u)/\ah g w j/\Blk j g (flt m z o q t s p) 119:=by
 refine(take_c g m v x y a b d c f l n i k w B).mono ?_;rintro e j ⟨F,E,G,r,C,A,D⟩;rw[h] at r;injection r with h1 h2
 injection h1 with h3 h4
 subst h2;subst h3;subst h4;exact⟨C,A,D⟩
def uv(m:Int)(v:Bool)(e f:El):(Bool×El)×Int:=if v=true then takeS v e (gfuseE e f).1 (gfuseE e f).2 else setS m v e f
theorem T9(g:Nat)(m:Int)(v:Bool)(x y a b d h j n p l:Int)(w:World)(B:Blk w g (flt m v x y a b d) 119):Calls prog 311 #[.pointer (some ⟨g,0,none⟩),elC h j n p l] w fun e O=>∃t r P,uv m v ⟨x,y,a,b,d⟩ ⟨h,j,n,p,l⟩=((t,r),P)/\e=.returned (.int .i64 P)/\ah g w O/\Blk O g (flt m t r.x r.y r.a r.b r.d) 119:=by
 have M:=Lh B;obtain⟨W,T,f1,-⟩:=cz B;have lg:=B.lt;cases v with
 | false=>
  obtain⟨⟨t,⟨D,L,J,I,G⟩⟩,k,c⟩:∃o k,setS m false ⟨x,y,a,b,d⟩ ⟨h,j,n,p,l⟩=(o,k):=⟨_,_,rfl⟩;have E:Hid (uv m false ⟨x,y,a,b,d⟩ ⟨h,j,n,p,l⟩=((t,⟨D,L,J,I,G⟩),k)):=show _=_ from by unfold uv;rw[if_neg (by decide)];exact c
  have ES:=Lh c;clear B c;go_enter func311,ntmps311;go_wp2_with fail;refine Calls.mono (S8 _ _ _ _ _ _ _ _ _ _ _ _ _ _ _ _ _ _ _ _ ES.out _ (M.out.alloc _)) ?_;rintro e w5 ⟨rfl,u,q⟩;go_wp2_with fail;go_ret;exact⟨_,_,_,E.out,rfl,dY,q⟩
 | true=>
  obtain⟨⟨fx,fy,fa,U,fd⟩,kf,F⟩:∃o k,gfuseE ⟨x,y,a,b,d⟩ ⟨h,j,n,p,l⟩=(o,k):=⟨_,_,rfl⟩;obtain⟨⟨t,⟨D,L,J,I,G⟩⟩,k,H⟩:∃o k,takeS true ⟨x,y,a,b,d⟩ ⟨fx,fy,fa,U,fd⟩ kf=(o,k):=⟨_,_,rfl⟩;have E:Hid (uv m true ⟨x,y,a,b,d⟩ ⟨h,j,n,p,l⟩=((t,⟨D,L,J,I,G⟩),k)):=show _=_ from by unfold uv;rw[if_pos rfl,F];exact H
  have R:=Lh F;have ET:=Lh H;clear B F H;go_enter func311,ntmps311;obtain⟨s,f⟩:∃s,s=w.alloc (Obj.cells #[h,j,n,p,l] 35):=⟨_,rfl⟩;go_wp2_with fail;rw[<-f];have BG:Hid (Blk s g (flt m true x y a b d) 119):=by rw[f];exact M.out.alloc _
  have z:Hid (Blk s w.heap.size #[h,j,n,p,l] 35):=by rw[f];exact Blk.new _ _ _
  have N:Hid (zB w s):=by rw[f];exact(show Below _ _ _ from ad)
  clear f W T f1 M;have V:=@ci _ _ _ (BG.out.cell (i:=2) rfl);have r3:=@ci _ _ _ (BG.out.cell (i:=3) rfl);have Z:=@ci _ _ _ (BG.out.cell (i:=4) rfl);have r5:=@ci _ _ _ (BG.out.cell (i:=5) rfl);have S:=@ci _ _ _ (BG.out.cell (i:=6) rfl);have u0:=@ci _ _ _ (z.out.cell (i:=0) rfl);have Y:=@ci _ _ _ (z.out.cell (i:=1) rfl);have Q:=@ci _ _ _ (z.out.cell (i:=2) rfl);have u3:=@ci _ _ _ (z.out.cell (i:=3) rfl);have X:=@ci _ _ _ (z.out.cell (i:=4) rfl);refine aB 9 (fun _=>none) (fun _=>[]) (by kernel_rfl) (by kernel_rfl) ?_;apply Eb;apply Eb;apply Eb;apply Eb;apply Eb;apply Eb;apply Eb;apply Eb;apply Eb;refine⟨[],fun gg NN hN=>?_⟩;simp only[List.take_succ_cons,List.take_zero,List.drop_succ_cons,List.drop_zero];(repeat (refine bi rfl ?_;go_big_quiet_step (first|exact rfl|(first|(go_at_call 42;exact aF (ur _ _ _ _ _ _ _ _ _ _ _ _ _ _ _ _ R.out _))));refine wpQuiet_nil ⟨rfl,?_⟩));refine bF ?_;intro w2 A _ _;have C:zB s w2:=A;have K:=Lh (BG.out.keep C);clear A V r3 Z r5 S u0 Y Q u3 X;go_wp2_with fail;refine Calls.mono (OE _ _ _ _ _ _ _ _ _ _ _ _ _ _ _ _ _ _ _ _ _ ET.out _ K.out) ?_;rintro e w5 ⟨rfl,u,q⟩;go_wp2_with fail;go_ret;exact⟨_,_,_,E.out,rfl,(ah.of_below (Below.trans N.out (C.mono N.out.size))).trans u,q⟩
def nh(m:Int)(v:Bool)(e n:El)(lo hi:Int):(Bool×El)×Int:=
 if v=true then takeS v e (updE e n lo hi).1 (updE e n lo hi).2 else if (acqE n hi).2=0 then setS m v e (acqE n hi).1 else ((v,e),(acqE n hi).2)
theorem Rq(g:Nat)(m:Int)(v:Bool)(x y a b d l q j p n z t:Int)(w:World)(B:Blk w g (flt m v x y a b d) 119):Calls prog 338 #[.pointer (some ⟨g,0,none⟩),elC l q j p n,z,t] w fun e T=>∃A u V,nh m v ⟨x,y,a,b,d⟩ ⟨l,q,j,p,n⟩ z t=((A,u),V)/\e=.returned (.int .i64 V)/\ah g w T/\Blk T g (flt m A u.x u.y u.a u.b u.d) 119:=by
 have J:=Lh B;obtain⟨X,c1,f1,-⟩:=cz B;have lg:=B.lt;cases v with
 | false=>
  obtain⟨⟨qx,Z,qa,qb,qd⟩,I,F⟩:∃o k,acqE ⟨l,q,j,p,n⟩ t=(o,k):=⟨_,_,rfl⟩;have U:=Lh F;by_cases K:I=0
  ·subst K;obtain⟨⟨A,⟨L,M,R,O,P⟩⟩,k,f⟩:∃o k,setS m false ⟨x,y,a,b,d⟩ ⟨qx,Z,qa,qb,qd⟩=(o,k):=⟨_,_,rfl⟩;have E:Hid (nh m false ⟨x,y,a,b,d⟩ ⟨l,q,j,p,n⟩ z t=((A,⟨L,M,R,O,P⟩),k)):=show _=_ from by unfold nh;rw[if_neg (by decide),F,if_pos rfl];exact f
   have ES:=Lh f;clear B f F;go_enter func338,ntmps338;go_wp2_with fail;refine(GcU _ _ _ _ _ _ _ _ _ _ _ _ U.out _).mono ?_;rintro e r ⟨rfl,h⟩;have z1:=h.size;go_wp2_with fail;refine Calls.mono (S8 _ _ _ _ _ _ _ _ _ _ _ _ _ _ _ _ _ _ _ _ ES.out _ (((J.out.alloc _).keep h).alloc _)) ?_;rintro e w5 ⟨rfl,H,s⟩;go_wp2_with fail;go_ret;exact⟨_,_,_,E.out,rfl,dY,s⟩
  ·have E:Hid (nh m false ⟨x,y,a,b,d⟩ ⟨l,q,j,p,n⟩ z t=((false,⟨x,y,a,b,d⟩),I)):=show _=_ from by unfold nh;rw[if_neg (by decide),F,if_neg K]
   have b0:(I==0)=false:=by simp[K]
   have b1:(I != 0)=true:=by simp[K]
   clear B F;go_enter func338,ntmps338;go_wp2_with fail;refine(GcU _ _ _ _ _ _ _ _ _ _ _ _ U.out _).mono ?_;rintro e r ⟨rfl,h⟩;have z1:=h.size;go_wp2_with fail;go_ret;exact⟨_,_,_,E.out,rfl,dY,((J.out.alloc _).keep h).alloc _⟩
 | true=>
  obtain⟨⟨fx,fy,fa,fb,fd⟩,Y,N⟩:∃o k,updE ⟨x,y,a,b,d⟩ ⟨l,q,j,p,n⟩ z t=(o,k):=⟨_,_,rfl⟩;obtain⟨⟨A,⟨L,M,R,O,P⟩⟩,k,Q⟩:∃o k,takeS true ⟨x,y,a,b,d⟩ ⟨fx,fy,fa,fb,fd⟩ Y=(o,k):=⟨_,_,rfl⟩;have E:Hid (nh m true ⟨x,y,a,b,d⟩ ⟨l,q,j,p,n⟩ z t=((A,⟨L,M,R,O,P⟩),k)):=show _=_ from by unfold nh;rw[if_pos rfl,N];exact Q
  have EF:=Lh N;have ET:=Lh Q;clear B N Q;go_enter func338,ntmps338;obtain⟨r,c⟩:∃r,r=w.alloc (Obj.cells #[l,q,j,p,n] 35):=⟨_,rfl⟩;go_wp2_with fail;rw[<-c];have BG:Hid (Blk r g (flt m true x y a b d) 119):=by rw[c];exact J.out.alloc _
  have C:Hid (Blk r w.heap.size #[l,q,j,p,n] 35):=by rw[c];exact Blk.new _ _ _
  have W:Hid (zB w r):=by rw[c];exact(show Below _ _ _ from ad)
  clear c X c1 f1 J;have r2:=@ci _ _ _ (BG.out.cell (i:=2) rfl);have r3:=@ci _ _ _ (BG.out.cell (i:=3) rfl);have r4:=@ci _ _ _ (BG.out.cell (i:=4) rfl);have r5:=@ci _ _ _ (BG.out.cell (i:=5) rfl);have r6:=@ci _ _ _ (BG.out.cell (i:=6) rfl);have u0:=@ci _ _ _ (C.out.cell (i:=0) rfl);have u1:=@ci _ _ _ (C.out.cell (i:=1) rfl);have u2:=@ci _ _ _ (C.out.cell (i:=2) rfl);have u3:=@ci _ _ _ (C.out.cell (i:=3) rfl);have u4:=@ci _ _ _ (C.out.cell (i:=4) rfl);refine aB 11 (fun _=>none) (fun _=>[]) (by kernel_rfl) (by kernel_rfl) ?_;apply Eb;apply Eb;apply Eb;apply Eb;apply Eb;apply Eb;apply Eb;apply Eb;apply Eb;apply Eb;apply Eb;refine⟨[],fun gg NN hN=>?_⟩;simp only[List.take_succ_cons,List.take_zero,List.drop_succ_cons,List.drop_zero];(repeat (refine bi rfl ?_;go_big_quiet_step (first|exact rfl|(first|(go_at_call 345;exact aF (CB _ _ _ _ _ _ _ _ _ _ _ _ _ _ _ _ _ _ EF.out _))));refine wpQuiet_nil ⟨rfl,?_⟩));refine bF ?_;intro w2 D _ _;have G:zB r w2:=D;have S:=Lh (BG.out.keep G);clear D r2 r3 r4 r5 r6 u0 u1 u2 u3 u4;go_wp2_with fail;refine Calls.mono (OE _ _ _ _ _ _ _ _ _ _ _ _ _ _ _ _ _ _ _ _ _ ET.out _ S.out) ?_;rintro e w5 ⟨rfl,H,s⟩;go_wp2_with fail;go_ret;exact⟨_,_,_,E.out,rfl,(ah.of_below (Below.trans W.out (G.mono W.out.size))).trans H,s⟩
def qj:Nat->Nat->Nat->Nat
 | 0,_,r=>r
 | k+1,n,r=>if (r+2^k)*(r+2^k)<=n then qj k n (r+2^k) else qj k n r
def rtF(n:Nat):Nat:=qj 64 n 0
theorem vk(k n r:Nat)(d:r*r<=n)(b:n<(r+2^k)*(r+2^k)):qj k n r*qj k n r<=n/\n<(qj k n r+1)*(qj k n r+1):=by
 induction k generalizing r with
 | zero=>exact⟨d,b⟩
 | succ k a=>
  unfold qj;split
  ·rename_i c;refine a _ c ?_;have e:r+2^k+2^k=r+2^(k+1):=by rw[Nat.pow_succ];omega
   rw[e];exact b
  ·rename_i c;exact a _ d (by omega)
theorem Fs(n:Nat)(h:n<340282366920938463463374607431768211456):rt n=rtF n:=by
 have:=vk 64 n 0 (by omega) (by rw[Nat.zero_add];exact Nat.lt_of_lt_of_le h (by decide));exact jA this.1 this.2
def Dj(z:Int):Int:=(rtF z.toNat:Nat)
theorem Fu(z:Int)(h:z<340282366920938463463374607431768211456):rtI z=Dj z:=by unfold rtI Dj;rw [Fs _ (by omega)]
end Go.Proofs.YtechbdnhalmobaaGreatDoor
