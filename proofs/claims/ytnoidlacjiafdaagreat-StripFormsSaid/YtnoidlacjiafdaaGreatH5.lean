/- golden.found where there is nothing more. -/
import Derived.Test.YtnoidlacjiafdaaGreatHA
namespace Go.Proofs.YtnoidlacjiafdaaGreat
set_option maxRecDepth 100000
set_option maxHeartbeats 16000000
set_option linter.unusedSimpArgs false
set_option linter.unusedVariables false
open Go.RowKit
theorem A8 {w:World} {base n g cap:Nat} {e:TypeId} {size:Nat} {xs:List Value} (h:w.ownsRow base e size (.slice (some ⟨g,0,none⟩) n cap) n xs):n≤cap:=by
 rcases h.2 with ⟨h,-⟩|⟨g',cap',cur,h,-,-,h3,-⟩
 ·cases h
 ·injection h with _ _ h;subst h;exact h3
theorem eu {P:Program} (w:World) {ops:Array Oper} {rest:List Oper} {o:Oper} {a:Act} {Q:Exit→Act→World→Prop} (hgd:o.guard=none) (s x:Operand) (t:TypeId)
  (ho:o.op = .call { callee := .builtin .append,args:=#[s,x],argTypes:=#[t,t] }) (e:TypeId) (i:TypeInfo) (ht:P.underlying t=some (.slice e)) (hi:P.info? e=some i)
  (g n cap:Nat) (hn:n≤cap) (hs:a.eval s = .slice (some ⟨g,0,none⟩) n cap) (hx:a.eval x = .slice none 0 0)
  (h:wpList P ops Q rest (a.put o.dst (.slice (some ⟨g,0,none⟩) n cap)) w):wpList P ops Q (o :: rest) a w :=
 wpList_plain hgd fun _ hK=>by
  have hr:(Builtin.append_ #[t,t] o.type #[.slice (some ⟨g,0,none⟩) n cap,.slice none 0 0]).run P w = .ok (.slice (some ⟨g,0,none⟩) n cap) w:=by
   simp[Builtin.append_,run_underlying ht,sizeOf,typeInfo,hi,Builtin.lenOf,Builtin.firstCells,hn,storeCells]
  unfold Oper.wp execOp;simp only[ho,resolve,invoke,builtin,Sem.run_bind,Sem.run_pure,Result.andThen_ok,List.map_toArray,List.map_cons,List.map_nil,hs,hx,hr];exact hK _ _ h
theorem yz (x y a b d:Int) (fn:FuncId) (caps:Array Value) (O:Int→El × Int) (w:World) (hfn:∀ args w,Sem.run Tryz.prog (callFunc fn args) w = .ok (.enter fn args) w)
  (hO:∀ (k:Int) (w':World),0≤k→k≤34→Below w.heap.size w w'→Calls Tryz.prog fn (#[.int .i64 k]++caps) w' fun e w''=>e = .returned (.tuple #[elV (O k).1,.int .i64 (O k).2])∧Below w'.heap.size w' w'') :
  Calls Tryz.prog 87 #[elC x y a b d,.func (.func fn) #[] caps,.slice none 0 0] w fun e w'=>e = .returned (.tuple #[elV (foundE ⟨x,y,a,b,d⟩ O []).1,.int .i64 (foundE ⟨x,y,a,b,d⟩ O []).2])∧Below w.heap.size w w':=by
 have HO:=Lh hO;clear hO;obtain⟨i0,hi,hz0,hz1,hz2⟩:=info_parts yv;go_enter Tryz.func87,Tryz.ntmps87;go_wp2_with fail;obtain⟨W1,hW1⟩:∃ W1,W1=(((w.alloc (Obj.cells #[.int .i64 x,.int .i64 y,.int .i64 a,.int .i64 b,.int .i64 d] 27)).alloc (Obj.cells #[.func (.func fn) #[] caps] 110)).alloc (Obj.cells #[.int .i64 0,.int .i64 0,.int .i64 0,.int .i64 0,.int .i64 0] 27)).alloc (Obj.cells #[.bool false] 4):=⟨_,rfl⟩;rw[← hW1]
 have hI:wQ w x y a b d fn caps O [] W1:=by
  rw[hW1];refine⟨(show Below _ _ _ from ad),?_,?_,?_,?_⟩
  ·exact(((Blk.new _ _ _).alloc _).alloc _).alloc _
  ·exact((Blk.new' _ _ _ (by simp)).alloc _).alloc _
  ·exact(Blk.new' _ _ _ (by simp)).alloc _
  ·exact Blk.new' _ _ _ (by simp)
 have hsz:w.heap.size≤W1.heap.size:=hI.1.size;clear hW1
 have M:=Lh (zu 132 #[.pointer (some ⟨w.heap.size+1,0,none⟩),.pointer (some ⟨w.heap.size+1+1+1,0,none⟩)] (ovV O) (wQ w x y a b d fn caps O) W1 (by intro args w;rfl)
  (fun l w1 w2 hs h=>⟨Below.side (Nat.le_refl _) h.1 hs hsz,h.2.1.side hs (by decide) (by decide),h.2.2.1.side hs (by decide) (by decide),h.2.2.2.1.side hs (by decide) (by decide),h.2.2.2.2.side hs (by decide) (by decide)⟩)
  (fun l k w1 _ h0 h1 h=>uC w x y a b d fn caps O hfn HO.out l k w1 h0 h1 h) hI)
 obtain⟨hgi,-⟩:=jc (ovV O);have hfb:=hgi.best;have hfr:=hgi.rng;have EV:Hid (foundE ⟨x,y,a,b,d⟩ O []=if emptyB O (gfin (ovV O)).asked then (El.zero,3) else ((gI ⟨x,y,a,b,d⟩ O []).foldl dJ ⟨x,y,a,b,d⟩,0)):=rfl;have EC:Hid (gI ⟨x,y,a,b,d⟩ O []=(⟨x,y,a,b,d⟩ :: if (gfin (ovV O)).ok then [(O (gfin (ovV O)).w).1] else []) ++ []):=rfl;generalize gfin (ovV O)=s at M hfb hfr EV EC;obtain⟨asked,gw,gn,gok⟩:=s;simp only at M hfb hfr EV EC;clear hgi hI hsz;obtain⟨em,hem⟩:∃ em,emptyB O asked=em:=⟨_,rfl⟩;rw[hem] at EV;refine M.out.mono ?_;rintro e w1 ⟨rfl,⟨hb,b3,b4,b6,b8⟩,hsz⟩;rw[hem] at b8;clear M hem;obtain⟨y3,c3,f3,-⟩:=aw b3;obtain⟨y4,c4,f4,-⟩:=aw b4;obtain⟨y6,c6,f6,-⟩:=aw b6;obtain⟨y8,c8,f8,-⟩:=aw b8;cases em with
 | true =>
  go_wp2_with fail;exact rT 5 z5 (.int .i64 3) ⟨by rw[EV.out];rfl,ad⟩
 | false =>
  have hbe:gok=true→0≤gw∧gw≤34:=fun h=>hfr _ (hfb h).1
  -- TAIL
  cases gok with
  | false =>
   go_wp2_with (at_builtin;refine eu _ rfl _ _ 167 rfl 27 i0 Tryz.underlying167 hi w1.heap.size _ _ (Nat.le_refl _) rfl rfl ?_)
   obtain⟨w5,hw5⟩:∃ w5,w5=(w1.alloc (Obj.cells #[.int .i64 x,.int .i64 y,.int .i64 a,.int .i64 b,.int .i64 d] 27)).alloc (Obj.cells #[.int .i64 x,.int .i64 y,.int .i64 a,.int .i64 b,.int .i64 d] 27):=⟨_,rfl⟩;rw[← hw5];have hown:w5.ownsRow w.heap.size 27 5 (.slice (some ⟨w1.heap.size,0,none⟩) 1 1) 1 (elc ⟨x,y,a,b,d⟩):=by rw[hw5];exact pj ((Blk.new w1 _ _).alloc _) (by have:=hb.size;omega)
   have BO:Blk w5 (w1.heap.size+1) #[.int .i64 x,.int .i64 y,.int .i64 a,.int .i64 b,.int .i64 d] 27:=by rw[hw5];exact Blk.new' _ _ _ (by simp)
   have B6:Blk w5 (w.heap.size+1+1) #[.int .i64 0,.int .i64 0,.int .i64 0,.int .i64 0,.int .i64 0] 27:=by rw[hw5];exact(b6.alloc _).alloc _
   have hb5:Below w.heap.size w w5:=by rw[hw5];exact(hb.alloc hb.size _).alloc (by have:=hb.size;simp;omega) _
   have zz:=y6;clear hw5 b3 b4 b6 b8 y3 c3 f3 y4 c4 f4 y6 c6 f6 y8 c8 f8;generalize hg3:w1.heap.size=g3 at hown BO zz ⊢;clear hg3;have zq:w.heap.size+1+1<g3+1:=by omega
   clear zz;have hne0:¬ g3=g3+1:=by omega
   generalize g3+1=go at BO zq hne0 ⊢;obtain⟨cur,hcur,hcs,htake⟩:=hZ hown;have hX:∀ k e,([⟨x,y,a,b,d⟩]:List El)[k]? = some e→∀ j,j<5→cur[k*5+j]? = (elc e)[j]?:=jo [⟨x,y,a,b,d⟩] cur htake;have hne:=hne0;have HG:=Lh hcur;have HBO:=Lh BO;have HB6:=Lh B6;have HB:=Lh hb5;have zs:=hb5.size;have HX:=Lh hX;clear hown htake hcur BO B6 hb5 hcs hX hfb hfr hbe;go_wp2_with fail;go_loopw [44] (fun ti wr=>∃ (k:Nat) (o:El),k≤1∧ti = .int .i64 k∧o=(([⟨x,y,a,b,d⟩]:List El).take k).foldl dJ ⟨x,y,a,b,d⟩∧Hid (Blk wr (go) #[.int .i64 o.x,.int .i64 o.y,.int .i64 o.a,.int .i64 o.b,.int .i64 o.d] 27)∧Hid (Blk wr g3 cur 27)∧Hid (Blk wr (w.heap.size+1+1) #[.int .i64 0,.int .i64 0,.int .i64 0,.int .i64 0,.int .i64 0] 27)∧Hid (Below w.heap.size w wr)) (fun ti _=>1-(intOf ti).toNat)
   case atStart=>exact⟨0,⟨x,y,a,b,d⟩,by omega,rfl,rfl,HBO.out,HG.out,HB6.out,HB.out⟩
   case round =>
    obtain⟨k,⟨qx,qy,qa,qb,qd⟩,hk,rfl,hq,RO,RG,R6,RB⟩:=hrel;simp only at RO;have HQ0:=Lh hq;clear HBO HG HB6 HB;have hbr:=RB.out;have zr:=hbr.size;by_cases hlt:k<1
    ·obtain⟨⟨ex,ey,ea,eb,ed⟩,he⟩:∃ e,([⟨x,y,a,b,d⟩]:List El)[k]? = some e:=⟨_,List.getElem?_eq_getElem (by simpa using hlt)⟩;have m0:wr.cell? ⟨g3,k*5,none⟩=some (.int .i64 ex):=(RG.out.at (k*5+0)).trans (HX.out k _ he 0 (by decide));have m1:wr.cell? ⟨g3,k*5+1,none⟩=some (.int .i64 ey):=(RG.out.at (k*5+1)).trans (HX.out k _ he 1 (by decide));have m2:wr.cell? ⟨g3,k*5+2,none⟩=some (.int .i64 ea):=(RG.out.at (k*5+2)).trans (HX.out k _ he 2 (by decide));have m3:wr.cell? ⟨g3,k*5+3,none⟩=some (.int .i64 eb):=(RG.out.at (k*5+3)).trans (HX.out k _ he 3 (by decide));have m4:wr.cell? ⟨g3,k*5+4,none⟩=some (.int .i64 ed):=(RG.out.at (k*5+4)).trans (HX.out k _ he 4 (by decide));have hpk:=gW ([⟨x,y,a,b,d⟩]:List El) k ⟨x,y,a,b,d⟩ _ he;rw[← hq] at hpk;have k1:(k:Int)<1:=by omega
     have k2:(0:Int)≤k:=by omega
     obtain⟨t1,ht1⟩:∃ t,El.tr ⟨ex,ey,ea,eb,ed⟩=t:=⟨_,rfl⟩;obtain⟨t2,ht2⟩:∃ t,El.tr ⟨qx,qy,qa,qb,qd⟩=t:=⟨_,rfl⟩;have T1:=Lh ht1;have T2:=Lh ht2;rw[show dJ ⟨qx,qy,qa,qb,qd⟩ ⟨ex,ey,ea,eb,ed⟩=if El.tr ⟨ex,ey,ea,eb,ed⟩<El.tr ⟨qx,qy,qa,qb,qd⟩ then ⟨ex,ey,ea,eb,ed⟩ else ⟨qx,qy,qa,qb,qd⟩ from rfl,ht1,ht2] at hpk;have HPK:=Lh hpk;clear hpk he ht1 ht2 hq;go_wp2_with fail;obtain⟨w6,hw6⟩:∃ w6,w6=wr.alloc (Obj.cells #[.int .i64 ex,.int .i64 ey,.int .i64 ea,.int .i64 eb,.int .i64 ed] 27):=⟨_,rfl⟩;rw[← hw6];have SX:Hid (Blk w6 wr.heap.size #[.int .i64 ex,.int .i64 ey,.int .i64 ea,.int .i64 eb,.int .i64 ed] 27):=by rw[hw6];exact Blk.new _ _ _
     have SO:Hid (Blk w6 (go) #[.int .i64 qx,.int .i64 qy,.int .i64 qa,.int .i64 qb,.int .i64 qd] 27):=by rw[hw6];exact RO.out.alloc _
     have SG:Hid (Blk w6 g3 cur 27):=by rw[hw6];exact RG.out.alloc _
     have S6:Hid (Blk w6 (w.heap.size+1+1) #[.int .i64 0,.int .i64 0,.int .i64 0,.int .i64 0,.int .i64 0] 27):=by rw[hw6];exact R6.out.alloc _
     have SB:Hid (Below w.heap.size w w6):=by rw[hw6];exact hbr.alloc zr _
     have zgo:=RO.out.lt;have zg6:=R6.out.lt;clear hw6 m0 m1 m2 m3 m4 RO RG R6 RB hbr;have c0:=cell_regrown (SX.out.cell (i:=0) rfl);have d0:=cell_regrown (SO.out.cell (i:=0) rfl);have c1:=cell_regrown (SX.out.cell (i:=1) rfl);have d1:=cell_regrown (SO.out.cell (i:=1) rfl);have c2:=cell_regrown (SX.out.cell (i:=2) rfl);have d2:=cell_regrown (SO.out.cell (i:=2) rfl);have c3:=cell_regrown (SX.out.cell (i:=3) rfl);have d3:=cell_regrown (SO.out.cell (i:=3) rfl);have c4:=cell_regrown (SX.out.cell (i:=4) rfl);have d4:=cell_regrown (SO.out.cell (i:=4) rfl);refine wp_region_quiet_below (by kernel_rfl) (by kernel_rfl) ?_;repeat (go_big_quiet_step (exact Calls.regrown_of (gO _ _ _ _ _ _ (by first|with_reducible exact T1.out|with_reducible exact T2.out) _)))
     refine wpQuiet_nil ?_;intro w7 hwq;have hb7:=ay hwq;clear hwq c0 c1 c2 c3 c4 d0 d1 d2 d3 d4;have UX:=SX.out.keep hb7;have UO:=SO.out.keep hb7;have UG:=SG.out.keep hb7;have U6:=S6.out.keep hb7;have UB:=SB.out.trans (hb7.mono SB.out.size);obtain⟨vy1,vc1,vf1,-⟩:=aw UX;obtain⟨vy2,vc2,vf2,-⟩:=aw UO;clear SX SO SG S6 SB hb7;by_cases ht:t1<t2
     ·go_wp2_with fail;go_roundw
      case rel =>
       refine⟨k+1,⟨ex,ey,ea,eb,ed⟩,by omega,by go_num,by rw[HPK.out,if_pos ht],?_,?_,?_,?_⟩
       ·exact((((UO.ab 0 _).ab 1 _).ab 2 _).ab 3 _).ab 4 _
       ·exact(((((UG.ac (a:=⟨go,0,none⟩) (hne) _).ac (a:=⟨go,1,none⟩) (hne) _).ac (a:=⟨go,2,none⟩) (hne) _).ac (a:=⟨go,3,none⟩) (hne) _).ac (a:=⟨go,4,none⟩) (hne) _)
       ·exact(((((U6.ac (a:=⟨go,0,none⟩) (by simp only;omega) _).ac (a:=⟨go,1,none⟩) (by simp only;omega) _).ac (a:=⟨go,2,none⟩) (by simp only;omega) _).ac (a:=⟨go,3,none⟩) (by simp only;omega) _).ac (a:=⟨go,4,none⟩) (by simp only;omega) _)
       ·exact(show Below _ _ _ from ad)
      case measure=>simp[intOf];omega
     ·go_wp2_with fail;go_roundw
      case rel=>exact⟨k+1,⟨qx,qy,qa,qb,qd⟩,by omega,by go_num,by rw[HPK.out,if_neg ht],UO,UG,U6,UB⟩
      case measure=>simp[intOf];omega
    ·obtain rfl:k=1:=by omega
     have hF:Hid (foundE ⟨x,y,a,b,d⟩ O []=(⟨qx,qy,qa,qb,qd⟩,0)):=by show _=_;rw[EV.out,EC.out,HQ0.out];rfl
     obtain⟨vy1,vc1,vf1,-⟩:=aw RO.out;obtain⟨vy2,vc2,vf2,-⟩:=aw R6.out;clear EV EC hq;go_wp2_with fail;exact rT 5 #[.int .i64 qx,.int .i64 qy,.int .i64 qa,.int .i64 qb,.int .i64 qd] (.int .i64 0) ⟨by rw[hF.out],ad⟩
  | true =>
   obtain⟨h0,h1⟩:=hbe rfl;obtain⟨⟨ox,oy,oa,ob,od⟩,r,ho⟩:∃ o r,O gw=(o,r):=⟨_,_,rfl⟩;have HQ:=HO.out gw (w1.alloc (Obj.cells #[.int .i64 x,.int .i64 y,.int .i64 a,.int .i64 b,.int .i64 d] 27)) h0 h1 (hb.alloc hb.size _);rw[ho] at HQ EC
   -- S11
   have HQ2:=Lh HQ;clear HQ ho;go_wp2_with fail
   -- S13
   refine HQ2.out.mono ?_;rintro e w2 ⟨rfl,hb2⟩
   -- S14
   have zw2:=hb2.size;simp at zw2;have BL2:=(Blk.new w1 #[.int .i64 x,.int .i64 y,.int .i64 a,.int .i64 b,.int .i64 d] 27).keep hb2;have b32:=(b3.alloc (Obj.cells #[.int .i64 x,.int .i64 y,.int .i64 a,.int .i64 b,.int .i64 d] 27)).keep hb2;have b62:=(b6.alloc (Obj.cells #[.int .i64 x,.int .i64 y,.int .i64 a,.int .i64 b,.int .i64 d] 27)).keep hb2;have hbw2:=(hb.alloc hb.size (Obj.cells #[.int .i64 x,.int .i64 y,.int .i64 a,.int .i64 b,.int .i64 d] 27)).trans (hb2.mono (by have:=hb.size;simp;omega));have zb:=hb.size;have zz6:=y6;clear hb2 b3 b4 b6 b8 y3 c3 f3 y4 c4 f4 y6 c6 f6 y8 c8 f8 hb;obtain⟨y3,c3,f3,-⟩:=aw b32
   -- S15
   go_wp2_with (at_builtin;refine wpList_append_own _ rfl _ _ 167 rfl w.heap.size 27 i0 (.agg #[.int .i64 0,.int .i64 0,.int .i64 0,.int .i64 0,.int .i64 0]) 5 40 Tryz.underlying167 hi hz0 hz1 hz2 rfl (by decide) _ 1 _ rfl (pj ((BL2.alloc _).alloc _) (by omega)) ⟨w2.heap.size+1,0,none⟩ 1 1 (elc ⟨ox,oy,oa,ob,od⟩) rfl rfl (jg (Blk.new' _ _ _ (by simp))) (lj _) (by unfold maxLen;omega) (by omega) (by simp;omega) ?_)
   -- S12
   intro v4 w3 hown1 hgrow1 _;obtain⟨g4,cap4,rfl⟩:=fw hown1 (by omega);have b33:=((b32.alloc _).alloc _).grown hgrow1 (by simp[Value.ownBlock];omega);have b63:=((b62.alloc _).alloc _).grown hgrow1 (by simp[Value.ownBlock];omega);have hb3:=Below.grown (Nat.le_refl _) ((hbw2.alloc hbw2.size _).alloc (by have:=hbw2.size;simp;omega) _) hgrow1 (fun g hg=>by simp[Value.ownBlock] at hg;omega);have zg4:=(hown1.lt g4 (by simp[Value.ownBlock])).2;have zl4:=(hown1.lt g4 (by simp[Value.ownBlock])).1;have hcap4:=A8 hown1;clear hgrow1 b32 b62 hbw2 y3 c3 f3;obtain⟨cur4,hcur4,hcs4,-⟩:=hZ hown1;have n36:=mT hcur4 b63 (by intro h;rw[h] at hcs4;simp at hcs4);clear hcur4 hcs4;obtain⟨y3,c3,f3,-⟩:=aw b33;go_wp2_with (at_builtin;refine eu _ rfl _ _ 167 rfl 27 i0 Tryz.underlying167 hi g4 _ _ (hcap4) rfl rfl ?_)
   -- S16
   obtain⟨w5,hw5⟩:∃ w5,w5=w3.alloc (Obj.cells #[.int .i64 x,.int .i64 y,.int .i64 a,.int .i64 b,.int .i64 d] 27):=⟨_,rfl⟩;rw[← hw5];have hown:w5.ownsRow w.heap.size 27 5 (.slice (some ⟨g4,0,none⟩) 2 cap4) 2 (elc ⟨x,y,a,b,d⟩++elc ⟨ox,oy,oa,ob,od⟩):=by rw[hw5];exact hown1.alloc _
   have BO:Blk w5 w3.heap.size #[.int .i64 x,.int .i64 y,.int .i64 a,.int .i64 b,.int .i64 d] 27:=by rw[hw5];exact Blk.new _ _ _
   have B6:Blk w5 (w.heap.size+1+1) #[.int .i64 0,.int .i64 0,.int .i64 0,.int .i64 0,.int .i64 0] 27:=by rw[hw5];exact b63.alloc _
   have hb5:Below w.heap.size w w5:=by rw[hw5];exact hb3.alloc hb3.size _
   have zr3:=hb3.size;have zz:=b63.lt;clear hw5 b33 b63 y3 c3 f3 hb3 hown1 n36 zg4 zl4 BL2 zw2 zz6 zb HQ2 zr3
   -- S17
   clear hcap4;generalize g4=g3 at hown ⊢;have zq:w.heap.size+1+1<w3.heap.size:=by omega
   clear zz;generalize hgo:w3.heap.size=go at BO zq ⊢;clear hgo;obtain⟨cur,hcur,hcs,htake⟩:=hZ hown;have hX:∀ k e,([⟨x,y,a,b,d⟩,⟨ox,oy,oa,ob,od⟩]:List El)[k]? = some e→∀ j,j<5→cur[k*5+j]? = (elc e)[j]?:=jo [⟨x,y,a,b,d⟩,⟨ox,oy,oa,ob,od⟩] cur htake;have hne:=mT hcur BO (by intro h;rw[h] at hcs;simp at hcs);have HG:=Lh hcur;have HBO:=Lh BO;have HB6:=Lh B6;have HB:=Lh hb5;have zs:=hb5.size;have HX:=Lh hX;clear hown htake hcur BO B6 hb5 hcs hX hfb hfr hbe;go_wp2_with fail;go_loopw [44] (fun ti wr=>∃ (k:Nat) (o:El),k≤2∧ti = .int .i64 k∧o=(([⟨x,y,a,b,d⟩,⟨ox,oy,oa,ob,od⟩]:List El).take k).foldl dJ ⟨x,y,a,b,d⟩∧Hid (Blk wr (go) #[.int .i64 o.x,.int .i64 o.y,.int .i64 o.a,.int .i64 o.b,.int .i64 o.d] 27)∧Hid (Blk wr g3 cur 27)∧Hid (Blk wr (w.heap.size+1+1) #[.int .i64 0,.int .i64 0,.int .i64 0,.int .i64 0,.int .i64 0] 27)∧Hid (Below w.heap.size w wr)) (fun ti _=>2-(intOf ti).toNat)
   case atStart=>exact⟨0,⟨x,y,a,b,d⟩,by omega,rfl,rfl,HBO.out,HG.out,HB6.out,HB.out⟩
   case round =>
    obtain⟨k,⟨qx,qy,qa,qb,qd⟩,hk,rfl,hq,RO,RG,R6,RB⟩:=hrel;simp only at RO;have HQ0:=Lh hq;clear HBO HG HB6 HB;have hbr:=RB.out;have zr:=hbr.size;by_cases hlt:k<2
    ·obtain⟨⟨ex,ey,ea,eb,ed⟩,he⟩:∃ e,([⟨x,y,a,b,d⟩,⟨ox,oy,oa,ob,od⟩]:List El)[k]? = some e:=⟨_,List.getElem?_eq_getElem (by simpa using hlt)⟩;have m0:wr.cell? ⟨g3,k*5,none⟩=some (.int .i64 ex):=(RG.out.at (k*5+0)).trans (HX.out k _ he 0 (by decide));have m1:wr.cell? ⟨g3,k*5+1,none⟩=some (.int .i64 ey):=(RG.out.at (k*5+1)).trans (HX.out k _ he 1 (by decide));have m2:wr.cell? ⟨g3,k*5+2,none⟩=some (.int .i64 ea):=(RG.out.at (k*5+2)).trans (HX.out k _ he 2 (by decide));have m3:wr.cell? ⟨g3,k*5+3,none⟩=some (.int .i64 eb):=(RG.out.at (k*5+3)).trans (HX.out k _ he 3 (by decide));have m4:wr.cell? ⟨g3,k*5+4,none⟩=some (.int .i64 ed):=(RG.out.at (k*5+4)).trans (HX.out k _ he 4 (by decide));have hpk:=gW ([⟨x,y,a,b,d⟩,⟨ox,oy,oa,ob,od⟩]:List El) k ⟨x,y,a,b,d⟩ _ he;rw[← hq] at hpk;have k1:(k:Int)<2:=by omega
     have k2:(0:Int)≤k:=by omega
     obtain⟨t1,ht1⟩:∃ t,El.tr ⟨ex,ey,ea,eb,ed⟩=t:=⟨_,rfl⟩;obtain⟨t2,ht2⟩:∃ t,El.tr ⟨qx,qy,qa,qb,qd⟩=t:=⟨_,rfl⟩;have T1:=Lh ht1;have T2:=Lh ht2;rw[show dJ ⟨qx,qy,qa,qb,qd⟩ ⟨ex,ey,ea,eb,ed⟩=if El.tr ⟨ex,ey,ea,eb,ed⟩<El.tr ⟨qx,qy,qa,qb,qd⟩ then ⟨ex,ey,ea,eb,ed⟩ else ⟨qx,qy,qa,qb,qd⟩ from rfl,ht1,ht2] at hpk;have HPK:=Lh hpk;clear hpk he ht1 ht2 hq;go_wp2_with fail;obtain⟨w6,hw6⟩:∃ w6,w6=wr.alloc (Obj.cells #[.int .i64 ex,.int .i64 ey,.int .i64 ea,.int .i64 eb,.int .i64 ed] 27):=⟨_,rfl⟩;rw[← hw6];have SX:Hid (Blk w6 wr.heap.size #[.int .i64 ex,.int .i64 ey,.int .i64 ea,.int .i64 eb,.int .i64 ed] 27):=by rw[hw6];exact Blk.new _ _ _
     have SO:Hid (Blk w6 (go) #[.int .i64 qx,.int .i64 qy,.int .i64 qa,.int .i64 qb,.int .i64 qd] 27):=by rw[hw6];exact RO.out.alloc _
     have SG:Hid (Blk w6 g3 cur 27):=by rw[hw6];exact RG.out.alloc _
     have S6:Hid (Blk w6 (w.heap.size+1+1) #[.int .i64 0,.int .i64 0,.int .i64 0,.int .i64 0,.int .i64 0] 27):=by rw[hw6];exact R6.out.alloc _
     have SB:Hid (Below w.heap.size w w6):=by rw[hw6];exact hbr.alloc zr _
     have zgo:=RO.out.lt;have zg6:=R6.out.lt;clear hw6 m0 m1 m2 m3 m4 RO RG R6 RB hbr;have c0:=cell_regrown (SX.out.cell (i:=0) rfl);have d0:=cell_regrown (SO.out.cell (i:=0) rfl);have c1:=cell_regrown (SX.out.cell (i:=1) rfl);have d1:=cell_regrown (SO.out.cell (i:=1) rfl);have c2:=cell_regrown (SX.out.cell (i:=2) rfl);have d2:=cell_regrown (SO.out.cell (i:=2) rfl);have c3:=cell_regrown (SX.out.cell (i:=3) rfl);have d3:=cell_regrown (SO.out.cell (i:=3) rfl);have c4:=cell_regrown (SX.out.cell (i:=4) rfl);have d4:=cell_regrown (SO.out.cell (i:=4) rfl);refine wp_region_quiet_below (by kernel_rfl) (by kernel_rfl) ?_;repeat (go_big_quiet_step (exact Calls.regrown_of (gO _ _ _ _ _ _ (by first|with_reducible exact T1.out|with_reducible exact T2.out) _)))
     refine wpQuiet_nil ?_;intro w7 hwq;have hb7:=ay hwq;clear hwq c0 c1 c2 c3 c4 d0 d1 d2 d3 d4;have UX:=SX.out.keep hb7;have UO:=SO.out.keep hb7;have UG:=SG.out.keep hb7;have U6:=S6.out.keep hb7;have UB:=SB.out.trans (hb7.mono SB.out.size);obtain⟨vy1,vc1,vf1,-⟩:=aw UX;obtain⟨vy2,vc2,vf2,-⟩:=aw UO;clear SX SO SG S6 SB hb7;by_cases ht:t1<t2
     ·go_wp2_with fail;go_roundw
      case rel =>
       refine⟨k+1,⟨ex,ey,ea,eb,ed⟩,by omega,by go_num,by rw[HPK.out,if_pos ht],?_,?_,?_,?_⟩
       ·exact((((UO.ab 0 _).ab 1 _).ab 2 _).ab 3 _).ab 4 _
       ·exact(((((UG.ac (a:=⟨go,0,none⟩) (hne) _).ac (a:=⟨go,1,none⟩) (hne) _).ac (a:=⟨go,2,none⟩) (hne) _).ac (a:=⟨go,3,none⟩) (hne) _).ac (a:=⟨go,4,none⟩) (hne) _)
       ·exact(((((U6.ac (a:=⟨go,0,none⟩) (by simp only;omega) _).ac (a:=⟨go,1,none⟩) (by simp only;omega) _).ac (a:=⟨go,2,none⟩) (by simp only;omega) _).ac (a:=⟨go,3,none⟩) (by simp only;omega) _).ac (a:=⟨go,4,none⟩) (by simp only;omega) _)
       ·exact(show Below _ _ _ from ad)
      case measure=>simp[intOf];omega
     ·go_wp2_with fail;go_roundw
      case rel=>exact⟨k+1,⟨qx,qy,qa,qb,qd⟩,by omega,by go_num,by rw[HPK.out,if_neg ht],UO,UG,U6,UB⟩
      case measure=>simp[intOf];omega
    ·obtain rfl:k=2:=by omega
     have hF:Hid (foundE ⟨x,y,a,b,d⟩ O []=(⟨qx,qy,qa,qb,qd⟩,0)):=by show _=_;rw[EV.out,EC.out,HQ0.out];rfl
     obtain⟨vy1,vc1,vf1,-⟩:=aw RO.out;obtain⟨vy2,vc2,vf2,-⟩:=aw R6.out;clear EV EC hq;go_wp2_with fail;exact rT 5 #[.int .i64 qx,.int .i64 qy,.int .i64 qa,.int .i64 qb,.int .i64 qd] (.int .i64 0) ⟨by rw[hF.out],ad⟩
theorem yy (e:El) (f:St) (he:e.may=true) (hf:f.may=true):gcutE e f=foundE e (cutE e f) []:=by unfold gcutE;rw [if_pos ⟨he,hf⟩]
theorem ux (e:El) (f:St) (h:e.may=false∨f.may=false):gcutE e f=(El.zero,1):=by
 unfold gcutE;rw[if_neg];rintro⟨h1,h2⟩;rcases h with h|h
 ·rw[h1] at h;cases h
 ·rw[h2] at h;cases h
theorem DZ (x y a b d s1 s2 s3 s4 s5 s6:Int) (w:World) :
  Calls Tryz.prog 34 #[elC x y a b d,stC s1 s2 s3 s4 s5 s6] w fun e w'=>e = .returned (.tuple #[elV (gcutE ⟨x,y,a,b,d⟩ ⟨s1,s2,s3,s4,s5,s6⟩).1,.int .i64 (gcutE ⟨x,y,a,b,d⟩ ⟨s1,s2,s3,s4,s5,s6⟩).2])∧Below w.heap.size w w':=by
 cases hm:El.may ⟨x,y,a,b,d⟩ with
 | false =>
  have HM:=Lh hm;have EV:=Lh (ux ⟨x,y,a,b,d⟩ ⟨s1,s2,s3,s4,s5,s6⟩ (.inl hm));clear hm;go_enter Tryz.func34,Tryz.ntmps34;go_wp2_with fail;refine(aN _ _ _ _ _ _ HM.out _).mono ?_;rintro e w1 ⟨rfl,hb1⟩;have z_w1:=hb1.size;(try simp at z_w1);have K_w1_0:=bq3 hb1 (w.heap.size);go_wp2_with fail;exact rT 5 z5 (.int .i64 1) ⟨by rw[EV.out];rfl,ad⟩
 | true =>
  have HM:=Lh hm;cases hf:St.may ⟨s1,s2,s3,s4,s5,s6⟩ with
  | false =>
   have HF:=Lh hf;have EV:=Lh (ux ⟨x,y,a,b,d⟩ ⟨s1,s2,s3,s4,s5,s6⟩ (.inr hf));clear hm hf;go_enter Tryz.func34,Tryz.ntmps34;go_wp2_with fail;refine(aN _ _ _ _ _ _ HM.out _).mono ?_;rintro e w1 ⟨rfl,hb1⟩;have z_w1:=hb1.size;(try simp at z_w1);have K_w1_0:=bq3 hb1 (w.heap.size);go_wp2_with fail;refine(fK _ _ _ _ _ _ _ HF.out _).mono ?_;rintro e w2 ⟨rfl,hb2⟩;have z_w2:=hb2.size;(try simp at z_w2);have K_w2_0:=bq3 hb2 (w.heap.size);go_wp2_with fail;exact rT 5 z5 (.int .i64 1) ⟨by rw[EV.out];rfl,ad⟩
  | true =>
   have HF:=Lh hf;obtain⟨⟨ox,oy,oa,ob,od⟩,k,ho⟩:∃ o k,foundE ⟨x,y,a,b,d⟩ (cutE ⟨x,y,a,b,d⟩ ⟨s1,s2,s3,s4,s5,s6⟩) []=(o,k):=⟨_,_,rfl⟩;have EV:Hid (gcutE ⟨x,y,a,b,d⟩ ⟨s1,s2,s3,s4,s5,s6⟩=(⟨ox,oy,oa,ob,od⟩,k)):=by show _=_;rw[yy _ _ hm hf,ho]
   have HO:=Lh ho;clear hm hf ho;go_enter Tryz.func34,Tryz.ntmps34;go_wp2_with fail;refine(aN _ _ _ _ _ _ HM.out _).mono ?_;rintro e w1 ⟨rfl,hb1⟩;have z_w1:=hb1.size;(try simp at z_w1);have K_w1_0:=bq3 hb1 (w.heap.size);go_wp2_with fail;refine(fK _ _ _ _ _ _ _ HF.out _).mono ?_;rintro e w2 ⟨rfl,hb2⟩;have z_w2:=hb2.size;(try simp at z_w2);have K_w2_0:=bq3 hb2 (w.heap.size);have BE:=((((Blk.new w #[.int .i64 x,.int .i64 y,.int .i64 a,.int .i64 b,.int .i64 d] 27).alloc _).alloc _).keep hb1).keep hb2;have BF:=(((Blk.new' (w.alloc _) #[.int .i64 s1,.int .i64 s2,.int .i64 s3,.int .i64 s4,.int .i64 s5,.int .i64 s6] 29 (b:=w.heap.size+1) (by simp)).alloc _).keep hb1).keep hb2;go_wp2_with fail
   have FC:=yz x y a b d 90 #[.pointer (some ⟨w.heap.size,0,none⟩),.pointer (some ⟨w.heap.size+1,0,none⟩)] (cutE ⟨x,y,a,b,d⟩ ⟨s1,s2,s3,s4,s5,s6⟩) w2 (by intro args w;rfl)
    (fun k w' _ _ hb=>FE x y a b d s1 s2 s3 s4 s5 s6 k _ _ w' (BE.keep hb) (BF.keep hb))
   rw[HO.out] at FC;clear BE BF;refine FC.mono ?_;rintro e w3 ⟨rfl,hb3⟩;have z_w3:=hb3.size;(try simp at z_w3);have K_w3_0:=bq3 hb3 (w.heap.size);go_wp2_with fail;exact rT 5 #[.int .i64 ox,.int .i64 oy,.int .i64 oa,.int .i64 ob,.int .i64 od] (.int .i64 k) ⟨by rw[EV.out],ad⟩
theorem jJ (x y a b d s1 s2 s3 s4 s5 s6 ox oy oa ob od k:Int) (h:gcutE ⟨x,y,a,b,d⟩ ⟨s1,s2,s3,s4,s5,s6⟩=(⟨ox,oy,oa,ob,od⟩,k)) (w:World) :
  Calls Tryz.prog 34 #[elC x y a b d,stC s1 s2 s3 s4 s5 s6] w fun e w'=>e = .returned (.tuple #[elC ox oy oa ob od,.int .i64 k])∧Below w.heap.size w w':=by
 have:=DZ x y a b d s1 s2 s3 s4 s5 s6 w;rw[h] at this;exact this
end Go.Proofs.YtnoidlacjiafdaaGreat
