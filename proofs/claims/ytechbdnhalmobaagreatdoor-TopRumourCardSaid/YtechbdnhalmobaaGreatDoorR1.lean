/- The walk of the document's numbers: trim, bits, made. -/
import Derived.Test.YtechbdnhalmobaaGreatDoorR0
import Derived.WalkKit
import Derived.BigQuiet
import Derived.BigRegion
import Derived.Deep.OwnRows
import Derived.OwnWalk
import Derived.Test.YtechbdnhalmobaaGreatDoorN1
import Derived.Test.YtechbdnhalmobaaGreatDoorK1
namespace Go.Proofs.YtechbdnhalmobaaGreatDoor
set_option linter.unusedSimpArgs false
set_option linter.unusedVariables false
set_option maxRecDepth 100000
set_option maxHeartbeats 16000000
open Go.RowKit
def Rd (w:World) (s:Value) (xs:List Nat):Prop :=
 Dig xs∧((s = .slice none 0 0∧xs = [])∨∃ b o cap,s = .slice (some ⟨b,o,none⟩) xs.length cap∧xs.length≤cap∧xs.length≤1099511627776∧b<w.heap.size∧∀ (i:Nat) (h:i<xs.length),w.cell? ⟨b,o+i,none⟩=some (.int .u32 (xs[i]:Nat)))
theorem Rd.nil (w:World):Rd w (.slice none 0 0) []:=⟨fun _ h=>(by cases h),.inl ⟨rfl,rfl⟩⟩
theorem Rd.below {w w':World} {s:Value} {xs:List Nat} (h:Rd w s xs) (hb:Below w.heap.size w w'):Rd w' s xs:=by
 obtain ⟨hd,h|⟨b,o,cap,hs,h1,h2,h3,h4⟩⟩:=h
 ·exact ⟨hd,.inl h⟩
 ·exact ⟨hd,.inr ⟨b,o,cap,hs,h1,h2,Nat.lt_of_lt_of_le h3 hb.size,fun i hi=>(hb.cell (p:=⟨b,_,none⟩) h3).trans (h4 i hi)⟩⟩
theorem Rd.take {w:World} {b o cap:Nat} {xs:List Nat} (h:Rd w (.slice (some ⟨b,o,none⟩) xs.length cap) xs) (n:Nat) (hn:n≤xs.length):Rd w (.slice (some ⟨b,o,none⟩) n cap) (xs.take n):=by
 obtain ⟨hd,⟨h0,-⟩|⟨b',o',cap',he,h1,h2,h3,h4⟩⟩:=h
 ·cases h0
 ·injection he with e1 e2 e3
  injection e1 with e1
  injection e1 with e4 e5
  subst e4;subst e5;subst e3
  exact ⟨dig_take hd _,.inr ⟨b,o,cap,by rw [List.length_take,Nat.min_eq_left hn],by rw [List.length_take];omega,by rw [List.length_take];omega,h3,fun i hi=>by rw [List.getElem_take];exact h4 i (by rw [List.length_take] at hi;omega)⟩⟩
def BigIs (w:World) (v:Value) (x:WI):Prop:=∃ s,v = .agg #[.bool x.ng,.bool x.ov,s]∧Rd w s (dg x.sz)
theorem BigIs.below {w w':World} {v:Value} {x:WI} (h:BigIs w v x) (hb:Below w.heap.size w w'):BigIs w' v x:=by
 obtain ⟨s,hs,hr⟩:=h;exact ⟨s,hs,hr.below hb⟩
theorem Rd.form {w:World} {s:Value} {xs:List Nat} (h:Rd w s xs):∃ A cap,s = .slice A xs.length cap:=by
 obtain ⟨-,⟨rfl,rfl⟩|⟨b,o,cap,rfl,-⟩⟩:=h
 ·exact ⟨_,_,rfl⟩
 ·exact ⟨_,_,rfl⟩
def cy (f g:Nat→Nat):Nat→Nat
 | 0=>0
 | k+1=>(cy f g k+f k+g k)/4294967296
theorem infoU32:(Tryz.prog.info? 256).map (fun i=>(i.zero,i.size,i.bytes))=some (some (.int .u32 0),1,4):=by kernel_rfl
theorem Rd.row {w:World} {g n:Nat} {t:TypeId} {f:Nat→Nat} (h:w.rowIs g t n (fun i => .int .u32 (f i:Nat))) (hn:n≤1099511627776) (hf:∀ i,i<n→f i<4294967296):Rd w (.slice (some ⟨g,0,none⟩) n n) ((List.range n).map f):=by
 refine ⟨fun d hd=>?_,.inr ⟨g,0,n,by simp,by simp,by simpa using hn,h.lt,fun i hi=>?_⟩⟩
 ·obtain ⟨i,hi,rfl⟩:=List.mem_map.1 hd
  exact hf i (List.mem_range.1 hi)
 ·have hi':i<n:=by simpa using hi
  rw [Nat.zero_add,h.cell hi']
  simp
theorem Rd.at {w:World} {b o cap n:Nat} {xs:List Nat} (h:Rd w (.slice (some ⟨b,o,none⟩) n cap) xs) (i:Nat) (hi:i<xs.length):b<w.heap.size∧w.cell? ⟨b,o+i,none⟩=some (.int .u32 (xs.getD i 0:Nat))∧xs.getD i 0<4294967296:=by
 obtain ⟨hd,⟨h0,-⟩|⟨b',o',cap',he,h1,h2,h3,h4⟩⟩:=h
 ·cases h0
 ·injection he with e1 e2 e3
  injection e1 with e1
  injection e1 with e4 e5
  subst e4;subst e5
  have:xs.getD i 0=xs[i]:=by simp [List.getD,hi]
  rw [this]
  exact ⟨h3,h4 i hi,hd _ (List.getElem_mem hi)⟩
theorem new1 (w:World) (x:Value) (t:TypeId):∀ (j:Nat) (u:Value),[x][j]? = some u→(w.alloc (Obj.cells #[x] t)).cell? ((⟨w.heap.size,0,none⟩:Addr).add j)=some u:=by
 intro j u hj
 match j,hj with
 | 0,hj=>simp at hj;subst hj;simp [Addr.add]
theorem one1 (x:Value) (h:x.oneCell'=true):∀ u ∈ [x],u.oneCell'=true:=by
 intro u hu;simp at hu;subst hu;exact h
theorem infoU8:(Tryz.prog.info? 5).map (fun i=>(i.zero,i.size,i.bytes))=some (some (.int .u8 0),1,1):=by kernel_rfl
def OwnR (w:World) (B:Nat) (v:Value) (xs:List Nat):Prop :=
 Byt xs∧w.ownsRow B 5 1 v xs.length (xs.map fun (c:Nat)=>Value.int .u8 (c:Int))
def FullB (w:World) (v:Value) (xs:List Nat):Prop :=
 Byt xs∧∃ g,v = .slice (some ⟨g,0,none⟩) xs.length xs.length∧g<w.heap.size∧∀ j,j<xs.length→w.cell? ⟨g,j,none⟩=some (.int .u8 ((xs.getD j 0:Nat):Int))
def OwnB (w:World) (B:Nat) (v:Value) (xs:List Nat):Prop:=OwnR w B v xs∨FullB w v xs
theorem OwnR.rd {w:World} {B:Nat} {v:Value} {xs:List Nat} (h:OwnR w B v xs):RdB w v xs:=by
 obtain ⟨hy,hl,⟨rfl,h0⟩|⟨g,cap,cur,rfl,hB,hg,hc,hm,hs,ht⟩⟩:=h
 ·exact ⟨hy,⟨none,0,by rw [h0],by omega,fun j hj=>absurd hj (by omega)⟩⟩
 ·have own:w.ownsRow B 5 1 (.slice (some ⟨g,0,none⟩) xs.length cap) xs.length (xs.map fun (c:Nat)=>Value.int .u8 (c:Int)):=⟨hl,.inr ⟨g,cap,cur,rfl,hB,hg,hc,hm,hs,ht⟩⟩
  refine ⟨hy,some ⟨g,0,none⟩,cap,rfl,hc,fun j hj=>⟨g,0,rfl,(Array.getElem?_eq_some_iff.1 hg).1,?_⟩⟩
  rw [Nat.zero_add,own.cellAt j (by omega),List.getElem?_map,List.getElem?_eq_getElem hj,List.getD_eq_getElem?_getD,List.getElem?_eq_getElem hj];rfl
theorem FullB.rd {w:World} {v:Value} {xs:List Nat} (h:FullB w v xs):RdB w v xs:=by
 obtain ⟨hy,g,rfl,hg,H⟩:=h
 exact ⟨hy,some ⟨g,0,none⟩,xs.length,rfl,Nat.le_refl _,fun j hj=>⟨g,0,rfl,hg,by rw [Nat.zero_add];exact H j hj⟩⟩
theorem OwnB.rd {w:World} {B:Nat} {v:Value} {xs:List Nat} (h:OwnB w B v xs):RdB w v xs:=h.elim OwnR.rd FullB.rd
theorem OwnR.mono {w:World} {B B':Nat} {v:Value} {xs:List Nat} (h:OwnR w B v xs) (hb:B'≤B):OwnR w B' v xs:=by
 obtain ⟨hy,hl,h|⟨g,cap,cur,e,hB,r⟩⟩:=h
 ·exact ⟨hy,hl,.inl h⟩
 ·exact ⟨hy,hl,.inr ⟨g,cap,cur,e,Nat.le_trans hb hB,r⟩⟩
theorem OwnR.keep {w w':World} {B:Nat} {v:Value} {xs:List Nat} (h:OwnR w B v xs) (hb:Below w.heap.size w w'):OwnR w' B v xs:=by
 obtain ⟨hy,hl,h|⟨g,cap,cur,e,hB,hg,r⟩⟩:=h
 ·exact ⟨hy,hl,.inl h⟩
 ·exact ⟨hy,hl,.inr ⟨g,cap,cur,e,hB,(hb.block g (Array.getElem?_eq_some_iff.1 hg).1).trans hg,r⟩⟩
theorem FullB.keep {w w':World} {v:Value} {xs:List Nat} (h:FullB w v xs) (hb:Below w.heap.size w w'):FullB w' v xs:=by
 obtain ⟨hy,g,rfl,hg,H⟩:=h
 exact ⟨hy,g,rfl,Nat.lt_of_lt_of_le hg hb.size,fun j hj=>(hb.cell (p:=⟨g,j,none⟩) hg).trans (H j hj)⟩
theorem OwnB.keep {w w':World} {B:Nat} {v:Value} {xs:List Nat} (h:OwnB w B v xs) (hb:Below w.heap.size w w'):OwnB w' B v xs:=h.imp (·.keep hb) (·.keep hb)
theorem OwnB.mono {w:World} {B B':Nat} {v:Value} {xs:List Nat} (h:OwnB w B v xs) (hb:B'≤B):OwnB w B' v xs:=h.imp (·.mono hb) id
theorem RdB.form {w:World} {v:Value} {xs:List Nat} (h:RdB w v xs):∃ ao cap,v = .slice ao xs.length cap:=by
 obtain ⟨_,ao,cap,e,_⟩:=h;exact ⟨ao,cap,e⟩
theorem byt_append {x y:List Nat} (hx:Byt x) (hy:Byt y):Byt (x++y):=fun a ha=>(List.mem_append.1 ha).elim (hx a) (hy a)
theorem bytes_one (ys:List Nat):∀ u ∈ ys.map (fun (c:Nat)=>Value.int .u8 (c:Int)),u.oneCell'=true:=by
 intro u hu;obtain ⟨c,_,rfl⟩:=List.mem_map.1 hu;rfl
theorem append_full {w:World} {v:Value} {xs:List Nat} (h:FullB w v xs) (hx:xs.length≤2000000) (ad:Addr) (c:Nat) (ys:List Nat) (hy:Byt ys) (hpos:0<ys.length) (hl:ys.length≤1000000)
  (hnews:∀ j u,(ys.map fun (c:Nat)=>Value.int .u8 (c:Int))[j]? = some u→w.cell? (ad.add j)=some u) :
  ∃ v' w',(Builtin.append_ #[36,36] 36 #[v,.slice (some ad) ys.length c]).run Tryz.prog w = .ok v' w'∧OwnR w' w.heap.size v' (xs++ys)∧Below w.heap.size w w':=by
 obtain ⟨i0,hi,hz0,hz1,hz2⟩:=info_parts infoU8
 obtain ⟨hyx,g,rfl,hg,H⟩:=h
 have hr:=run_append_grow (P:=Tryz.prog) w 36 36 5 i0 (.int .u8 0) Tryz.underlying36 hi hz0 ⟨g,0,none⟩ xs.length xs.length (xs.map fun (c:Nat)=>Value.int .u8 (c:Int)) (by rw [hz1];simp)
  (fun j u hj=>by
   rw [List.getElem?_map] at hj
   by_cases hjl:j<xs.length
   ·rw [List.getElem?_eq_getElem hjl] at hj
    obtain rfl:=Option.some.inj hj
    rw [Addr.add_lit,Nat.zero_add,H j hjl,List.getD_eq_getElem?_getD,List.getElem?_eq_getElem hjl];rfl
   ·rw [List.getElem?_eq_none (by omega)] at hj;cases hj)
  ad ys.length c (ys.map fun (c:Nat)=>Value.int .u8 (c:Int)) (by rw [hz1];simp) hnews (by omega) (by omega) (growslice_fits (by omega) (by rw [hz2];omega))
 have hge:=grownCap_ge w (xs.length+ys.length) xs.length 5
 have hcm:=grownCap_le_maxLen w (xs.length+ys.length) xs.length 5 (by unfold maxLen;omega)
 refine ⟨_,_,hr,⟨byt_append hyx hy,by simp,.inr ⟨w.heap.size,_,_,by rw [List.length_append],Nat.le_refl _,heap_alloc_new w.drew _,by rw [List.length_append];exact hge,hcm,?_,?_⟩⟩,(Below.refl _ _).drew.alloc (Nat.le_refl _) _⟩
 ·simp only [Array.size_append,List.size_toArray,size_zeroCells,List.length_map]
  rw [show (Value.int IntKind.u8 0).cells.size=1 from rfl];omega
 ·simp only [Array.toList_append,List.map_append]
  rw [show (xs++ys).length*1=((xs.map fun (c:Nat)=>Value.int .u8 (c:Int))++(ys.map fun (c:Nat)=>Value.int .u8 (c:Int))).length by simp]
  exact List.take_left
theorem append_own {w:World} {B:Nat} {v:Value} {xs:List Nat} (h:OwnR w B v xs) (hB:B≤w.heap.size) (hx:xs.length≤2000000) (ad:Addr) (c:Nat) (ys:List Nat) (hy:Byt ys) (hl:ys.length≤1000000)
  (hnews:∀ j u,(ys.map fun (c:Nat)=>Value.int .u8 (c:Int))[j]? = some u→w.cell? (ad.add j)=some u) :
  ∃ v' w',(Builtin.append_ #[36,36] 36 #[v,.slice (some ad) ys.length c]).run Tryz.prog w = .ok v' w'∧OwnR w' B v' (xs++ys)∧Below B w w':=by
 obtain ⟨i0,hi,hz0,hz1,hz2⟩:=info_parts infoU8
 obtain ⟨v',w',hr,ho,hg,-⟩:=run_append_own (P:=Tryz.prog) w B 36 36 5 i0 (.int .u8 0) 1 1 Tryz.underlying36 hi hz0 hz1 hz2 rfl (by decide) v xs.length _ h.2 ad ys.length c (ys.map fun (c:Nat)=>Value.int .u8 (c:Int)) (by simp) hnews (bytes_one ys) (by unfold maxLen;omega) (by omega) hB
 exact ⟨v',w',hr,⟨byt_append h.1 hy,by rw [List.length_append,List.map_append];exact ho⟩,(Below.refl _ _).grown hg hB (fun g hg'=>(h.2.lt g hg').1)⟩
theorem append_bytes {w:World} {B:Nat} {v:Value} {xs:List Nat} (h:OwnB w B v xs) (hB:B≤w.heap.size) (hx:xs.length≤2000000) (ad:Addr) (c:Nat) (ys:List Nat) (hy:Byt ys) (hpos:0<ys.length) (hl:ys.length≤1000000)
  (hnews:∀ j u,(ys.map fun (c:Nat)=>Value.int .u8 (c:Int))[j]? = some u→w.cell? (ad.add j)=some u) :
  ∃ v' w',(Builtin.append_ #[36,36] 36 #[v,.slice (some ad) ys.length c]).run Tryz.prog w = .ok v' w'∧OwnR w' B v' (xs++ys)∧Below B w w':=by
 rcases h with h|h
 ·exact append_own h hB hx ad c ys hy hl hnews
 ·obtain ⟨v',w',hr,ho,hb⟩:=append_full h hx ad c ys hy hpos hl hnews
  exact ⟨v',w',hr,ho.mono hB,hb.mono hB⟩
theorem wpList_append_run {P:Program} {w:World} {ops:Array Oper} {rest:List Oper} {o:Oper} {a:Act} {Q:Exit→Act→World→Prop} (hgd:o.guard=none) (s x:Operand) (t:TypeId)
  (ho:o.op = .call { callee := .builtin .append,args:=#[s,x],argTypes:=#[t,t] }) {sv xv v':Value} {w':World} (hr:(Builtin.append_ #[t,t] o.type #[sv,xv]).run P w = .ok v' w')
  (hs:a.eval s=sv) (hx:a.eval x=xv) (h:wpList P ops Q rest (a.put o.dst v') w'):wpList P ops Q (o :: rest) a w :=
 wpList_plain hgd fun _ hK=>by
  unfold Oper.wp execOp
  simp only [ho,resolve,invoke,builtin,Sem.run_bind,Sem.run_pure,Result.andThen_ok,List.map_toArray,List.map_cons,List.map_nil,hs,hx,hr]
  exact hK _ _ h
theorem OwnB.alloc {w:World} {B:Nat} {v:Value} {xs:List Nat} (h:OwnB w B v xs) (o:Obj):OwnB (w.alloc o) B v xs:=h.keep ((Below.refl _ _).alloc (Nat.le_refl _) o)
theorem OwnB.form {w:World} {B:Nat} {v:Value} {xs:List Nat} (h:OwnB w B v xs):∃ ao cap,v = .slice ao xs.length cap:=h.rd.form
theorem new1b (w:World) (c:Nat) (t:TypeId):∀ (j:Nat) (u:Value),([c].map fun (c:Nat)=>Value.int .u8 (c:Int))[j]? = some u→(w.alloc (Obj.cells #[.int .u8 (c:Int)] t)).cell? ((⟨w.heap.size,0,none⟩:Addr).add j)=some u:=new1 w _ t
theorem ownH_drew {w:World} {B:Nat} {v:Value} {xs:List Nat} (h:Hid (OwnB w B v xs)):Hid (OwnB w.drew B v xs):=h.out.keep (Below.refl _ _).drew
theorem ownH_drewN {w:World} {B k:Nat} {v:Value} {xs:List Nat} (h:Hid (OwnB w B v xs)):Hid (OwnB (w.drewN k) B v xs):=h
def TabIs (w:World) (v:Value):Prop :=
 ∃ g cap,v = .slice (some ⟨g,0,none⟩) 256 cap∧g<w.heap.size∧∀ i,i<256→w.cell? ⟨g,i,none⟩=some (.int .u32 ((ent i:Nat):Int))
theorem TabIs.below {w w':World} {v:Value} (h:TabIs w v) (hb:Below w.heap.size w w'):TabIs w' v:=by
 obtain ⟨g,cap,rfl,hg,H⟩:=h
 exact ⟨g,cap,rfl,Nat.lt_of_lt_of_le hg hb.size,fun i hi=>(hb.cell (p:=⟨g,i,none⟩) hg).trans (H i hi)⟩
abbrev entL (k:Nat):List Value:=(List.range k).map fun i=>Value.int .u32 ((ent i:Nat):Int)
theorem entL_succ (k:Nat):entL (k+1)=entL k ++ [.int .u32 ((ent k:Nat):Int)]:=by
 unfold entL;rw [List.range_succ,List.map_append];rfl
theorem table_c (w:World) :
  Calls Tryz.prog 245 #[] w fun e w'=>(∃ v,e = .returned v∧TabIs w' v)∧Below w.heap.size w w':=by
 obtain ⟨i0,hi,hz0,hz1,hz2⟩:=info_parts infoU32
 go_enter Tryz.func245,Tryz.ntmps245
 go_wp2_with fail
 go_loopw [1,5] (fun t1 t5 wr=>∃ k:Nat,k≤256∧t5 = .int .i64 k∧Hid (wr.ownsRow w.heap.size 256 1 t1 k (entL k))∧Hid (Below w.heap.size w wr)) (fun _ t5 _=>256-(intOf t5).toNat)
 case atStart=>exact ⟨0,by omega,rfl,World.ownsRow_nil _ _ _ _,below_by⟩
 case round =>
  obtain ⟨k,hk,rfl,hown,hb⟩:=hrel
  by_cases hlt:k<256
  ·have hlt2:Hid (∀ j,bitN j k<4294967296):=fun j=>bitN_lt j (by omega)
   go_wp2_with fail
   go_loopw [3,10] (fun t3 t10 wz=>∃ j:Nat,j≤8∧t10 = .int .i64 j∧t3 = .int .u32 ((bitN j k:Nat):Int)∧wz=wr) (fun _ t10 _=>8-(intOf t10).toNat)
   case atStart=>exact ⟨0,by omega,rfl,by go_num,rfl⟩
   case round =>
    obtain ⟨j,hj,rfl,rfl,rfl⟩:=hrel
    by_cases hlt8:j<8
    ·obtain ⟨m,hm⟩:∃ m,m=bitN j k:=⟨_,rfl⟩
     have hml:m<4294967296:=by rw [hm];exact hlt2.out j
     have HS:Hid (bitN (j+1) k=bitS m):=by show _=_;rw [hm];rfl
     rw [← hm]
     have ha:=and1_u32 m hml
     have hx:bits .xor .u32 ((m:Int)/2) 3988292384=(((m/2) ^^^ 3988292384:Nat):Int):=u32_xor_nat (m/2) 3988292384 (by omega) (by decide)
     clear hlt2 hm
     by_cases hp:m%2=1
     ·have hS:Hid (bitS m=(m/2) ^^^ 3988292384):=by show _=_;unfold bitS;rw [if_pos hp]
      rw [hp] at ha
      go_wp2
      go_roundw
      case rel=>exact ⟨j+1,by omega,by go_num,by rw [HS.out,hS.out],trivial⟩
      case measure=>simp [intOf];omega
     ·have hS:Hid (bitS m=m/2):=by show _=_;unfold bitS;rw [if_neg hp]
      have h0:m%2=0:=by omega
      rw [h0] at ha
      go_wp2
      go_roundw
      case rel=>exact ⟨j+1,by omega,by go_num,by rw [HS.out,hS.out];rfl,trivial⟩
      case measure=>simp [intOf];omega
    ·have h8:j=8:=by omega
     subst h8
     obtain ⟨m,hm⟩:∃ m,m=bitN 8 k:=⟨_,rfl⟩
     have HM:Hid (ent k=m):=hm.symm
     rw [← hm]
     clear hlt2 hm
     go_wp2_with (first
      | (at_builtin;refine wpList_append_own _ rfl _ _ 336 rfl w.heap.size 256 i0 (.int .u32 0) 1 4 Tryz.underlying336 hi hz0 hz1 hz2 rfl (by decide) _ _ _ rfl (hown.out.alloc _) ⟨wr.heap.size,0,none⟩ 1 1 [.int .u32 (m:Int)] rfl rfl (new1 _ _ _) (one1 _ rfl) (by unfold maxLen;omega) (by omega) (by have:=hb.out.size;simp;omega) ?_;intro v' w1 hown' hgrow hnn)
      | go_in)
     have HO:Hid (w1.ownsRow w.heap.size 256 1 v' (k+1) (entL (k+1))):=by show World.ownsRow _ _ _ _ _ _ _;rw [entL_succ,HM.out];exact hown'
     have hb2:Hid (Below w.heap.size w w1):=(hb.out.alloc hb.out.size _).grown hgrow (by have:=hb.out.size;simp;omega) (fun g hg=>(hown.out.lt g hg).1)
     clear hown' hgrow hown hb hnn
     go_wp2_with fail
     go_roundw
     case rel=>exact ⟨k+1,by omega,by go_num,HO,hb2⟩
     case measure=>simp [intOf];omega
  ·have h8:k=256:=by omega
   subst h8
   go_wp2_with fail
   go_ret
   refine ⟨⟨_,rfl,?_⟩,hb.out⟩
   obtain ⟨hl,⟨rfl,h0⟩|⟨g,cap,cur,e,hB,hg,r⟩⟩:=hown.out
   ·cases h0
   ·have own:=hown.out
    rw [e] at own
    refine ⟨g,cap,e,(Array.getElem?_eq_some_iff.1 hg).1,fun i hi=>?_⟩
    rw [own.cellAt i (by omega),List.getElem?_map,List.getElem?_range hi];rfl
theorem with_c (t v:Value) (xs:List Nat) (w:World) (ht:TabIs w t) (h:RdB w v xs) (hx:xs.length≤1000000) :
  Calls Tryz.prog 244 #[t,v] w fun e w'=>e = .returned (.int .u32 ((crc xs:Nat):Int))∧Below w.heap.size w w':=by
 obtain ⟨hy,ao,cap,rfl,hc,H⟩:=h
 obtain ⟨g,tcap,rfl,hg,HT⟩:=ht
 obtain ⟨S,hS⟩:∃ f:Nat→Nat,f=fun k=>crcF 4294967295 (xs.take k):=⟨_,rfl⟩
 have Slt:Hid (∀ k,S k<4294967296):=fun k=>by rw [hS];exact crcF_lt (fun c hc=>hy c (List.mem_of_mem_take hc)) (by decide)
 have Sst:Hid (∀ k,k<xs.length→S (k+1)=ent (S k%256 ^^^ xs.getD k 0) ^^^ (S k/256)):=fun k hk=>by rw [hS];exact crcF_take _ _ _ hk
 have S0:Hid (S 0=4294967295):=by show _=_;rw [hS];rfl
 have SN:Hid (crc xs=4294967295-S xs.length):=by show _=_;rw [hS];unfold crc;simp only [List.take_length]
 have HB:=Lib.hid H
 have HT':=Lib.hid HT
 have HY:=Lib.hid (byt_getD hy)
 clear hy H HT hS
 obtain ⟨n,hn⟩:∃ n,xs.length=n:=⟨_,rfl⟩
 obtain ⟨X,hX⟩:∃ f:Nat→Nat,f=fun j=>xs.getD j 0:=⟨_,rfl⟩
 have hX':Hid (∀ j,xs.getD j 0=X j):=fun j=>by rw [hX]
 rw [hn] at hx hc HB Sst SN ⊢
 clear hX hn
 go_enter Tryz.func244,Tryz.ntmps244
 go_wp2_with fail
 go_loopw [5,11] (fun t5 t11 wr=>∃ k:Nat,k≤n∧t11 = .int .i64 k∧t5 = .int .u32 ((S k:Nat):Int)∧wr=w) (fun _ t11 _=>n-(intOf t11).toNat)
 case atStart=>exact ⟨0,by omega,rfl,by rw [S0.out];rfl,rfl⟩
 case round =>
  obtain ⟨k,hk,rfl,rfl,rfl⟩:=hrel
  have hsl:=Slt.out k
  by_cases hlt:k<n
  ·obtain ⟨b,o,rfl,hbl,hc'⟩:=HB.out k hlt
   have hyk:=HY.out k
   have hst:=Lib.hid (Sst.out k hlt)
   rw [hX'.out] at hc' hyk hst
   obtain ⟨s,hs⟩:∃ s,s=S k:=⟨_,rfl⟩
   obtain ⟨c,hcc⟩:∃ c,c=X k:=⟨_,rfl⟩
   rw [← hcc] at hc' hyk hst
   rw [← hs] at hst hsl ⊢
   clear Slt Sst S0 SN HB HY hX' hs hcc
   obtain ⟨i,hi⟩:∃ i,s%256 ^^^ c=i:=⟨_,rfl⟩
   have hil:i<256:=by rw [← hi];exact Nat.xor_lt_two_pow (n:=8) (Nat.mod_lt _ (by decide)) hyk
   have h2:bits .xor .u8 ((s:Int)%256) (c:Int)=((s%256 ^^^ c:Nat):Int):=u8_xor_nat (s%256) c (Nat.mod_lt _ (by decide)) hyk
   rw [hi] at h2 hst
   have hci:=HT'.out i hil
   obtain ⟨e,he⟩:∃ e,ent i=e:=⟨_,rfl⟩
   have hel:e<4294967296:=by rw [← he];exact bitN_lt 8 (by omega)
   rw [he] at hst hci
   have h3:bits .xor .u32 ((s:Int)/256) (e:Int)=((e ^^^ (s/256):Nat):Int):=by rw [Nat.xor_comm];exact u32_xor_nat (s/256) e (by omega) hel
   clear hi he HT'
   go_wp2_with fail
   go_roundw
   case rel=>exact ⟨k+1,by omega,by go_num,by rw [hst.out],trivial⟩
   case measure=>simp [intOf];omega
  ·have h8:k=n:=by omega
   subst h8
   obtain ⟨s,hs⟩:∃ s,s=S k:=⟨_,rfl⟩
   rw [← hs] at SN hsl ⊢
   have hnot:=not_u32 s hsl
   clear Slt Sst S0 HB HY hX' hs HT'
   go_wp2_with fail
   go_ret
   exact ⟨by rw [SN.out,← hnot];rfl,Below.refl _ _⟩
theorem fsum_c (v:Value) (xs:List Nat) (w:World) (h:RdB w v xs) (hx:xs.length≤1000000) :
  Calls Tryz.prog 183 #[v] w fun e w'=>e = .returned (.int .u32 ((crc xs:Nat):Int))∧Below w.heap.size w w':=by
 have H:=Lib.hid h
 clear h
 go_enter Tryz.func183,Tryz.ntmps183
 go_wp2_with fail
 refine (table_c _).mono ?_;rintro e w1 ⟨⟨t,rfl,ht⟩,hb1⟩
 have HT:=Lib.hid ht
 clear ht
 go_wp2_with fail
 refine (with_c _ _ _ _ HT.out (H.out.below hb1) hx).mono ?_;rintro e w2 ⟨rfl,hb2⟩
 go_wp2_with fail
 go_ret
 exact ⟨rfl,hb1.trans (hb2.mono hb1.size)⟩
theorem be_take (n:Int):∀ (wd d:Nat),d+1≤wd→(be wd n).take (wd-d)=(be wd n).take (wd-(d+1)) ++ [((n/((256^d:Nat):Int))%256).toNat]:=by
 intro wd
 induction wd with
 | zero=>intro d h;omega
 | succ w ih =>
  intro d h
  by_cases e:d=w
  ·subst e
   rw [show d+1-d=0+1 by omega,show d+1-(d+1)=0 by omega];rfl
  ·rw [show w+1-d=(w-d)+1 by omega,show w+1-(d+1)=(w-(d+1))+1 by omega]
   show _ :: _=(_ :: _)++_
   rw [List.cons_append,ih d (by omega)]
theorem pow_byte (d:Nat):(2:Int)^(8*d)=((256^d:Nat):Int):=by
 have h:2^(8*d)=256^d:=by rw [Nat.pow_mul]
 rw [← h,Int.natCast_pow];rfl
theorem put_c2 (B:Nat) (v:Value) (xs:List Nat) (n:Int) (wd:Nat) (hw:wd≤8) (w:World) (h:OwnB w B v xs) (hB:B≤w.heap.size) (hx:xs.length≤1000000) :
  Calls Tryz.prog 182 #[v,.int .i64 n,.int .i64 (wd:Int)] w fun e w'=>(∃ v',e = .returned v'∧OwnB w' B v' (xs++be wd n)∧(0<wd→OwnR w' B v' (xs++be wd n)))∧Below B w w':=by
 obtain ⟨i0,hi,hz0,hz1,hz2⟩:=info_parts infoU8
 have H:=Lib.hid h
 clear h
 go_enter Tryz.func182,Tryz.ntmps182
 go_wp2_with fail
 go_loopw [0,7] (fun t0 t7 wr=>∃ d:Nat,d≤wd∧t7 = .int .i64 ((d:Int)-1)∧Hid (OwnB wr B t0 (xs++(be wd n).take (wd-d)))∧Hid (d<wd→OwnR wr B t0 (xs++(be wd n).take (wd-d)))∧Hid (Below B w wr)) (fun _ t7 _=>(intOf t7+1).toNat)
 case atStart=>exact ⟨wd,by omega,by go_num,by rw [Nat.sub_self,List.take_zero,List.append_nil];exact H,(show _→_ from fun h=>absurd h (Nat.lt_irrefl _)),Below.refl _ _⟩
 case round =>
  obtain ⟨d,hd,rfl,hown,hor,hb⟩:=hrel
  by_cases hlt:0<d
  ·obtain ⟨d,rfl⟩:∃ d',d=d'+1:=⟨d-1,by omega⟩
   have hT:=be_take n wd d hd
   obtain ⟨c,hc⟩:∃ c,((n/((256^d:Nat):Int))%256).toNat=c:=⟨_,rfl⟩
   have hcl:c<256:=by omega
   have hci:n/2^(8*d)%256=(c:Int):=by rw [pow_byte];omega
   rw [hc] at hT
   clear hc
   obtain ⟨v',w1,hr,hO,hb2⟩:=append_bytes (hown.out.alloc (Obj.cells #[.int .u8 (c:Int)] 5)) (by have:=hb.out.size;simp;omega) (by rw [List.length_append,List.length_take];omega) ⟨wr.heap.size,0,none⟩ 1 [c] (by intro z hz;simp at hz;omega) (by simp) (by simp) (new1b wr c _)
   have hrh:=Lib.hid hr
   clear hr
   go_wp2_with (first
    | (at_builtin;refine wpList_append_run rfl _ _ 36 rfl hrh.out rfl rfl ?_)
    | go_in)
   have HO3:Hid (d<wd→OwnR w1 B v' (xs++(be wd n).take (wd-d))):=by show _→OwnR _ _ _ _;intro _;rw [hT,← List.append_assoc];exact hO
   have HO:Hid (OwnB w1 B v' (xs++(be wd n).take (wd-d))):=by show OwnB _ _ _ _;rw [hT,← List.append_assoc];exact .inl hO
   have hb2:Hid (Below B w w1):=(hb.out.alloc (Nat.le_trans hB hb.out.size) _).trans hb2
   clear hrh hO hown hor hb
   go_wp2_with fail
   go_roundw
   case rel=>exact ⟨d,by omega,by go_num,HO,HO3,hb2⟩
   case measure=>first|(simp [intOf];done)|(simp [intOf];omega)
  ·have h8:d=0:=by omega
   subst h8
   go_wp2_with fail
   go_ret
   exact ⟨⟨_,rfl,by have:=hown.out;rw [Nat.sub_zero,List.take_of_length_le (by rw [be_length];exact Nat.le_refl _)] at this;exact this,by have:=hor.out;rw [Nat.sub_zero,List.take_of_length_le (by rw [be_length];exact Nat.le_refl _)] at this;exact this⟩,hb.out⟩
theorem put_c (B:Nat) (v:Value) (xs:List Nat) (n:Int) (wd:Nat) (hw:wd≤8) (w:World) (h:OwnB w B v xs) (hB:B≤w.heap.size) (hx:xs.length≤1000000) :
  Calls Tryz.prog 182 #[v,.int .i64 n,.int .i64 (wd:Int)] w fun e w'=>(∃ v',e = .returned v'∧OwnB w' B v' (xs++be wd n))∧Below B w w' :=
 (put_c2 B v xs n wd hw w h hB hx).mono (by rintro e w' ⟨⟨v',h1,h2,-⟩,h3⟩;exact ⟨⟨v',h1,h2⟩,h3⟩)
theorem put_own (B:Nat) (v:Value) (xs:List Nat) (n:Int) (wd:Nat) (hw:wd≤8) (h0:0<wd) (w:World) (h:Hid (OwnB w B v xs)) (hB:B≤w.heap.size) (hx:xs.length≤1000000) :
  Calls Tryz.prog 182 #[v,.int .i64 n,.int .i64 (wd:Int)] w fun e w'=>(∃ v',e = .returned v'∧Hid (OwnR w' B v' (xs++be wd n)))∧Below B w w' :=
 (put_c2 B v xs n wd hw w h.out hB hx).mono (by rintro e w' ⟨⟨v',h1,-,h2⟩,h3⟩;exact ⟨⟨v',h1,h2 h0⟩,h3⟩)
theorem put_h (B:Nat) (v:Value) (xs:List Nat) (n:Int) (wd:Nat) (hw:wd≤8) (w:World) (h:Hid (OwnB w B v xs)) (hB:B≤w.heap.size) (hx:xs.length≤1000000) :
  Calls Tryz.prog 182 #[v,.int .i64 n,.int .i64 (wd:Int)] w fun e w'=>(∃ v',e = .returned v'∧Hid (OwnB w' B v' (xs++be wd n)))∧Below B w w':=put_c B v xs n wd hw w h hB hx
structure FrD where
 kind:Int
 src:Int
 boot:Int
 seq:Int
 stamp:Int
 dst:Int
 t1:Int
 t2:Int
 who:Int
 when:Int
 x:Int
 y:Int
 a:Int
 b:Int
 d:Int
deriving DecidableEq
abbrev frC (k s bo sq st ds ta tb wh wn x y a b d:Int):Value := .agg #[.int .i64 k,.int .i64 s,.int .i64 bo,.int .i64 sq,.int .i64 st,.int .i64 ds,.int .i64 ta,.int .i64 tb,.int .i64 wh,.int .i64 wn,.int .i64 x,.int .i64 y,.int .i64 a,.int .i64 b,.int .i64 d]
abbrev frV (f:FrD):Value:=frC f.kind f.src f.boot f.seq f.stamp f.dst f.t1 f.t2 f.who f.when f.x f.y f.a f.b f.d
def FrD.el (f:FrD):El:=⟨f.x,f.y,f.a,f.b,f.d⟩
def nodeB (n:Int):Bool:=decide (0≤n)&&decide (n<64)
def inFB (n m:Int):Bool:=decide (0≤n)&&decide (n≤m)
def restF (f:FrD):FrD × Bool :=
 if f.kind=1∨f.kind=7 then (f,true)
 else if f.kind=2 then ({ f with dst:=0 },nodeB f.dst&&decide (f.dst≠f.src))
 else if f.kind=3 then ({ f with dst:=0,t1:=0 },nodeB f.dst&&(decide (f.dst≠f.src)&&inFB f.t1 4294967295))
 else if f.kind=4 then ({ f with dst:=0,t1:=0,t2:=0,when:=0 },nodeB f.dst&&(decide (f.dst≠f.src)&&(inFB f.t1 70368744177664&&(inFB f.t2 70368744177664&&inFB f.when 4294967295))))
 else if f.kind=5 then ({ f with x:=0,y:=0,a:=0,b:=0,d:=0 },f.el.may)
 else if f.kind=6 then ({ f with who:=0,when:=0,x:=0,y:=0,a:=0,b:=0,d:=0 },nodeB f.who&&(decide (f.who≠f.src)&&(inFB f.when f.stamp&&f.el.may)))
 else (f,false)
theorem node_v (n:Int) (k:Bool) (h:nodeB n=k) (w:World):Calls Tryz.prog 242 #[.int .i64 n] w fun e w'=>e = .returned (.bool k)∧w'=w:=by
 subst h
 have E:nodeB n=(decide (0≤n)&&decide (n<64)):=rfl
 by_cases h1:0≤n
 ·have EV:Hid (nodeB n=decide (n<64)):=by show _=_;rw [E];simp [h1]
  clear E
  go_enter Tryz.func242,Tryz.ntmps242
  go_wp2
  go_ret
  exact ⟨by rw [EV.out];rfl,rfl⟩
 ·have EV:Hid (nodeB n=false):=by show _=_;rw [E];simp [h1]
  clear E
  go_enter Tryz.func242,Tryz.ntmps242
  go_wp2
  go_ret
  exact ⟨by rw [EV.out];rfl,rfl⟩
theorem in_v (n m:Int) (k:Bool) (h:inFB n m=k) (w:World):Calls Tryz.prog 243 #[.int .i64 n,.int .i64 m] w fun e w'=>e = .returned (.bool k)∧w'=w:=by
 subst h
 have E:inFB n m=(decide (0≤n)&&decide (n≤m)):=rfl
 by_cases h1:0≤n
 ·have EV:Hid (inFB n m=decide (n≤m)):=by show _=_;rw [E];simp [h1]
  clear E
  go_enter Tryz.func243,Tryz.ntmps243
  go_wp2
  go_ret
  exact ⟨by rw [EV.out];rfl,rfl⟩
 ·have EV:Hid (inFB n m=false):=by show _=_;rw [E];simp [h1]
  clear E
  go_enter Tryz.func243,Tryz.ntmps243
  go_wp2
  go_ret
  exact ⟨by rw [EV.out];rfl,rfl⟩
@[go_sem ↓] theorem lcf_15 (P : Program) (w : World) (b o : Nat) : (loadCellsFrom ⟨b, o, none⟩ 0 15 #[]).run P w = rowResA (w.row? b o 15) w (lcf P b o 15 w) := lcf_row? w b o 15
theorem ones15 (k s bo sq st ds ta tb wh wn x y a b d:Int):ones #[.int .i64 k,.int .i64 s,.int .i64 bo,.int .i64 sq,.int .i64 st,.int .i64 ds,.int .i64 ta,.int .i64 tb,.int .i64 wh,.int .i64 wn,.int .i64 x,.int .i64 y,.int .i64 a,.int .i64 b,.int .i64 d]=true:=by
 unfold ones
 simp [Array.all_eq_true_iff_forall_mem,Value.oneCell']
theorem name_calls {P:Program} {f:FuncId} {args:Array Value} {W:World} {K:Ending→World→Prop} (h:∀ u,u=W→Calls P f args u K):Calls P f args W K:=h W rfl
theorem name_wp {P:Program} {c:Code} {Q:Exit→Act→World→Prop} {a:Act} {W:World} (h:∀ u,u=W→Code.wp P c Q a u):Code.wp P c Q a W:=h W rfl
theorem ellmay_n (x y a b d:Int) (m:Bool) (h:El.may ⟨x,y,a,b,d⟩=m) (w:World) :
  Calls Tryz.prog 34 #[elC x y a b d] w fun e w'=>e = .returned (.bool m)∧Below w.heap.size w w':=by
 rw [← h];exact ellmay_c x y a b d w
structure Cfg where
 nodes:Int
 table:Int
 speed:Int
 err:Int
 skew:Int
 drift:Int
 stale:Int
 silent:Int
 every:Int
 rate:Int
 cap:Int
def inRg (n lo hi:Int):Bool:=decide (lo≤n)&&decide (n≤hi)
def Cfg.may (c:Cfg):Bool :=
 inRg c.nodes 1 64&&inRg c.table 1 64&&inRg c.speed 0 1000&&inRg c.err 0 1000&&inRg c.drift 0 1000&&inRg c.skew 0 100&&inRg c.stale 1 1000&&inRg c.every 1 1000&&inRg c.silent 1 10000&&inRg c.rate 1 100&&inRg c.cap 2 140737488355328&&decide (c.rate*(c.stale+2*c.skew+2)≤32767)
/- serial -/
def serMay (s:Int):Bool:=decide (0≤s)&&decide (s≤65535)
def serNext (s:Int):Int:=if serMay s then (s+1)%65536 else 0
def serDiff (a b:Int):Int:=if serMay a&&serMay b then (if 32768<(b-a)%65536 then (b-a)%65536-65536 else (b-a)%65536) else 0
def serLess (a b:Int):Bool:=decide (0<serDiff a b)&&decide (serDiff a b<32768)
/- window -/
structure WinD where
 any:Bool
 last:Int
 seen:Nat
def WinD.bit (w:WinD) (s:Int):Nat:=let d := -serDiff w.last s;if d<0∨64≤d then 0 else 2^d.toNat
def WinD.hear (w:WinD) (s:Int):WinD × Int :=
 if serMay s=false then (w,1)
 else if w.any=false then (⟨true,s,1⟩,0)
 else if serDiff w.last s=32768 then (w,9)
 else if 0<serDiff w.last s then (⟨w.any,s,(w.seen <<< (serDiff w.last s).toNat)%18446744073709551616 ||| 1⟩,0)
 else if w.bit s=0∨w.seen &&& w.bit s≠0 then (w,9)
 else (⟨w.any,w.last,w.seen ||| w.bit s⟩,0)
/- timer, rate -/
structure TimD where
 every:Int
 next:Int
def TimD.new (every:Int):TimD:=⟨max 1 (min every 1000000),0⟩
def TimD.due (t:TimD) (now:Int):TimD × Bool:=if now<t.next∨1000000<now then (t,false) else (⟨t.every,now+t.every⟩,true)
structure BukD where
 n:Int
 left:Int
def BukD.new (n:Int):BukD:=⟨max 0 (min n 1000),max 0 (min n 1000)⟩
def BukD.take (b:BukD):BukD × Bool:=if b.left=0 then (b,false) else (⟨b.n,b.left-1⟩,true)
/- clock -/
def btw (n lo hi:Int):Int:=max lo (min n hi)
def localF (skew t:Int):Int:=btw (btw t 0 1000000+btw skew (-1000000) 1000000) 0 1000000
def fineF (drift off g:Int):Int × Int :=
 if inRg drift (-1000) 1000&&inRg off 0 70368744177664&&inRg g 0 70368744177664 then ((g*(1000000+drift)).fdiv 1000000+off,0) else (0,1)
def spanF (d drift:Int):(Int × Int) × Int :=
 if inRg d 0 70368744177664&&inRg drift 0 1000 then (((max 0 (d-1)*1000000).fdiv (1000000+drift),cdiv ((d+1)*1000000) (1000000-drift)),0) else ((0,0),1)
/- twr -/
structure HalfD where
 st:Int
 fr:Int
 til:Int
 mrk:Int
 sp:Int
def HalfD.zero:HalfD:=⟨0,0,0,0,0⟩
structure SesD where
 ask:HalfD
 tell:HalfD
def SesD.new:SesD:=⟨.zero,.zero⟩
def fineB (t:Int):Bool:=decide (0≤t)&&decide (t≤70368744177664)
def begunF (at_ mark stamp:Int):HalfD:=if fineB at_ then ⟨1,at_,0,mark,stamp⟩ else .zero
def HalfD.answer (h:HalfD) (at_:Int):HalfD × Bool:=if h.st≠1∨fineB at_=false∨at_<h.fr then (h,false) else ({ h with st:=2,til:=at_ },true)
def HalfD.ends (h:HalfD) (at_:Int):Bool:=decide (h.st=2)&&fineB at_&&decide (h.til≤at_)
def SesD.poll (s:SesD) (at_ mark:Int):SesD:={ s with ask:=begunF at_ mark 0 }
def SesD.gotResp (s:SesD) (at_ mark:Int):SesD × Bool:=if s.ask.mrk=mark then ({ s with ask:=(s.ask.answer at_).1 },(s.ask.answer at_).2) else (s,false)
def SesD.final (s:SesD) (at_:Int):SesD × (Int × Int × Bool):=if s.ask.ends at_ then ({ s with ask := .zero },(s.ask.til-s.ask.fr,at_-s.ask.til,true)) else (s,(0,0,false))
def SesD.gotPoll (s:SesD) (at_ stamp:Int):SesD:={ s with tell:=begunF at_ 0 stamp }
def SesD.resp (s:SesD) (at_ mark:Int):SesD × Bool:=if (s.tell.answer at_).2 then ({ s with tell:={ (s.tell.answer at_).1 with mrk:=mark } },true) else (s,false)
structure TmgD where
 ra:Int
 db:Int
 da:Int
 rb:Int
def SesD.gotFinal (s:SesD) (at_ ra da mark:Int):SesD × (TmgD × Int × Bool) :=
 if s.tell.mrk=mark∧s.tell.ends at_=true then ({ s with tell := .zero },(⟨ra,s.tell.til-s.tell.fr,da,at_-s.tell.til⟩,s.tell.sp,true)) else (s,(⟨0,0,0,0⟩,0,false))
def twrRange (t:TmgD) (drift slack:Int):(Int × Int) × Int :=
 if drift<0∨1000<drift∨slack<0∨4194304<slack then ((0,0),1)
 else if (spanF t.ra drift).2≠0∨(spanF t.db drift).2≠0∨(spanF t.rb drift).2≠0∨(spanF t.da drift).2≠0 then ((0,0),1)
 else
  let l0:=(spanF t.ra drift).1;let l1:=(spanF t.db drift).1;let l2:=(spanF t.rb drift).1;let l3:=(spanF t.da drift).1
  let lo:=max 0 ((max (l0.1-l1.2) (l2.1-l3.2)).fdiv 2-slack)
  let hi:=cdiv (min (l0.2-l1.1) (l2.2-l3.1)) 2+1+slack
  if hi<lo then ((0,0),3) else if 4194304<hi then ((0,0),2) else ((lo,hi),0)
/- gossip -/
structure NxD where
 least:Int
 any:Bool
 next:Int
 behind:Bool
def nxStep (after:Int) (s:NxD) (n:Int):NxD :=
 let s1:NxD:=if s.any=false∨n<s.least then { s with least:=n,any:=true } else s
 if after<n∧(s1.behind=false∨n<s1.next) then { s1 with next:=n,behind:=true } else s1
def nextF (ids:List Int) (after:Int):Int × Bool :=
 let s:=ids.foldl (nxStep after) ⟨0,false,0,false⟩
 if s.behind then (s.next,true) else (s.least,s.any)
def freshF (stamp now stale skew:Int):Int :=
 if timeB stamp=false∨timeB now=false∨timeB stale=false∨timeB skew=false then 1 else if stamp+stale<now∨now+2*skew<stamp then 9 else 0
/- table -/
structure EntD where
 node:Int
 boot:Int
 heard:Int
 has:Bool
 e:El
 when:Int
def EntD.zero:EntD:=⟨0,0,0,false,.zero,0⟩
structure LifD where
 boot:Int
 left:Bool
 w:WinD
def lk {α:Type} (m:List (Int × α)) (k:Int):Option α:=(m.find? (fun p=>decide (p.1=k))).map (·.2)
def del {α:Type} (m:List (Int × α)) (k:Int):List (Int × α):=m.filter (fun p=>! decide (p.1=k))
def insS {α:Type} (x:Int × α):List (Int × α)→List (Int × α)
 | []=>[x]
 | y :: r=>if x.1<y.1 then x :: y :: r else y :: insS x r
def ins {α:Type} (m:List (Int × α)) (k:Int) (v : α):List (Int × α):=insS (k,v) (del m k)
structure TabD where
 most:Int
 ents:List (Int × EntD)
 lives:List (Int × LifD)
def TabD.new (most:Int):TabD:=⟨max 1 (min most 64),[],[]⟩
def TabD.all (t:TabD):List EntD:=t.ents.map (·.2)
def elderF:List EntD→EntD
 | [] => .zero
 | x :: r=>r.foldl (fun m y=>if y.heard<m.heard∨y.heard=m.heard∧y.node<m.node then y else m) x
def TabD.begin (t:TabD) (n boot:Int):TabD × (LifD × Int) :=
 match lk t.lives n with
 | some l =>
  if l.boot=boot then (if l.left then (t,(⟨0,false,⟨false,0,0⟩⟩,9)) else (t,(l,0)))
  else if serLess l.boot boot=false then (t,(⟨0,false,⟨false,0,0⟩⟩,9))
  else ({ t with ents:=match lk t.ents n with|some x=>ins t.ents n ⟨n,x.boot,x.heard,false,.zero,0⟩|none=>t.ents },(⟨boot,false,⟨false,0,0⟩⟩,0))
 | none=>({ t with ents:=match lk t.ents n with|some x=>ins t.ents n ⟨n,x.boot,x.heard,false,.zero,0⟩|none=>t.ents },(⟨boot,false,⟨false,0,0⟩⟩,0))
def TabD.hear (t:TabD) (n boot seq now:Int):TabD × Int :=
 if nodeB n=false∨serMay boot=false∨serMay seq=false∨timeB now=false then (t,1)
 else if (t.begin n boot).2.2≠0 then ((t.begin n boot).1,(t.begin n boot).2.2)
 else
  let t1:=(t.begin n boot).1;let l:=(t.begin n boot).2.1
  let t2:TabD:={ t1 with lives:=ins t1.lives n { l with w:=(l.w.hear seq).1 } }
  if (l.w.hear seq).2≠0 then (t2,(l.w.hear seq).2)
  else
   match lk t2.ents n with
   | some x=>({ t2 with ents:=ins t2.ents n { x with node:=n,boot:=boot,heard:=now } },0)
   | none =>
    let es:=if t2.most≤t2.ents.length then del t2.ents (elderF t2.all).node else t2.ents
    ({ t2 with ents:=ins es n ⟨n,boot,now,false,.zero,0⟩ },0)
def TabD.leave (t:TabD) (n:Int):TabD × Bool :=
 match lk t.lives n with
 | some l=>({ t with lives:=ins t.lives n { l with left:=true },ents:=del t.ents n },true)
 | none=>(t,false)
def TabD.put (t:TabD) (n:Int) (e:El) (when:Int):TabD × Int :=
 match lk t.ents n with
 | none=>(t,7)
 | some x=>if e.may=false∨timeB when=false then (t,1) else ({ t with ents:=ins t.ents n { x with has:=true,e:=e,when:=when } },0)
def goneB (silent now:Int) (x:EntD):Bool:=decide (max 1 silent≤now)&&decide (x.heard≤now-max 1 silent)
def TabD.evict (t:TabD) (now silent:Int):TabD:={ t with ents:=t.ents.filter (fun p=>! goneB silent now p.2) }
theorem serMay_true {s:Int} (h0:0≤s) (h1:s≤65535):serMay s=true:=by simp [serMay,h0,h1]
theorem serMay_iff (s:Int):serMay s=true↔0≤s∧s≤65535:=by simp [serMay]
theorem serMay_c (s:Int) (k:Bool) (h:serMay s=k) (w:World):Calls Tryz.prog 115 #[.int .i64 s] w fun e w'=>e = .returned (.bool k)∧w'=w:=by
 subst h
 have E:serMay s=(decide (0≤s)&&decide (s≤65535)):=rfl
 by_cases h1:0≤s
 ·have EV:Hid (serMay s=decide (s≤65535)):=by show _=_;rw [E];simp [h1]
  clear E
  go_enter Tryz.func115,Tryz.ntmps115
  go_wp2
  go_ret
  exact ⟨by rw [EV.out] <;> rfl,rfl⟩
 ·have EV:Hid (serMay s=false):=by show _=_;rw [E];simp [h1]
  clear E
  go_enter Tryz.func115,Tryz.ntmps115
  go_wp2
  go_ret
  exact ⟨by rw [EV.out] <;> rfl,rfl⟩
theorem serNext_c (s:Int) (h0:0≤s) (h1:s≤65535) (w:World):Calls Tryz.prog 147 #[.int .i64 s] w fun e w'=>e = .returned (.int .i64 (serNext s))∧w'=w:=by
 have HM:=Lib.hid (serMay_true h0 h1)
 have a1:bits .and .i64 (s+1) 65535=(s+1)%65536:=by have:=and_low (s+1) 16 65535 (by decide) (by decide);simpa using this
 have EV:Hid (serNext s=(s+1)%65536):=by show _=_;unfold serNext;rw [HM.out,if_pos rfl]
 have wr:IntKind.i64.wrap (s+1)=s+1:=by rw [IntKind.wrap_i64];omega
 go_enter Tryz.func147,Tryz.ntmps147
 go_wp2_with fail
 refine (serMay_c _ _ HM.out _).mono ?_;rintro e w1 ⟨rfl,rfl⟩
 go_wp2_with fail
 go_ret
 exact ⟨by rw [EV.out] <;> rfl,rfl⟩
/- buckets -/
abbrev bukC (b:BukD):Array Value:=#[.int .i64 b.n,.int .i64 b.left]
theorem bukNew_c (n:Int) (w:World):Calls Tryz.prog 119 #[.int .i64 n] w fun e w'=>∃ g,e = .returned (.pointer (some ⟨g,0,none⟩))∧w.heap.size≤g∧Blk w' g (bukC (.new n)) 239∧Below w.heap.size w w':=by
 go_enter Tryz.func119,Tryz.ntmps119
 go_wp2_with fail
 go_ret
 exact ⟨_,rfl,(by first|omega|(simp;done)|(simp;omega)|fail),Blk.new _ _ _,below_byR⟩
section
variable (g:Nat) (w:World)
theorem bukTick_c (b:BukD) (B:Blk w g (bukC b) 239):Calls Tryz.prog 135 #[.pointer (some ⟨g,0,none⟩)] w fun e w'=>e = .returned (.tuple #[])∧OnlyAt g w w'∧Blk w' g (bukC ⟨b.n,b.n⟩) 239:=by
 obtain ⟨n,l⟩:=b
 have HB:=Lib.hid B
 obtain ⟨y1,c1,f1,-⟩:=bk_o B
 clear B
 go_enter Tryz.func135,Tryz.ntmps135
 go_wp2_with fail
 refine bodyPost_end (results_none rfl _ _ _) rfl ?_
 exact ⟨rfl,(by repeat (first|with_reducible exact OnlyAt.refl|with_reducible refine OnlyAt.drew ?_|with_reducible refine OnlyAt.setCell ?_ _ _|(with_reducible refine OnlyAt.setNew ?_ ?hB _ _;case hB=>(first|omega|(simp;done)|(simp;omega)))|with_reducible refine OnlyAt.alloc ?_ _|with_reducible refine OnlyAt.trans ?_ (OnlyAt.of_below (by assumption))|with_reducible refine OnlyAt.trans ?_ (by assumption))),HB.out.setCell_same 1 _⟩
theorem bukLeft_c (b:BukD) (B:Blk w g (bukC b) 239):Calls Tryz.prog 247 #[.pointer (some ⟨g,0,none⟩)] w fun e w'=>e = .returned (.int .i64 b.left)∧w'=w:=by
 obtain ⟨n,l⟩:=b
 obtain ⟨y1,c1,f1,-⟩:=bk_o B
 clear B
 go_enter Tryz.func247,Tryz.ntmps247
 go_wp2_with fail
 go_ret
 exact ⟨rfl,rfl⟩
theorem bukTake_c (b:BukD) (h0:0≤b.left) (h1:b.left≤1000) (B:Blk w g (bukC b) 239):Calls Tryz.prog 185 #[.pointer (some ⟨g,0,none⟩)] w fun e w'=>e = .returned (.bool b.take.2)∧OnlyAt g w w'∧Blk w' g (bukC b.take.1) 239:=by
 have HC:=Lib.hid (bukLeft_c g w b B)
 obtain ⟨n,l⟩:=b
 have HB:=Lib.hid B
 obtain ⟨y1,c1,f1,-⟩:=bk_o B
 clear B
 replace h0:0≤l:=h0
 replace h1:l≤1000:=h1
 by_cases hl:l=0
 ·have EV:Hid (BukD.take ⟨n,l⟩=(⟨n,l⟩,false)):=by show _=_;unfold BukD.take;rw [if_pos hl]
  go_enter Tryz.func185,Tryz.ntmps185
  go_wp2_with fail
  refine HC.out.mono ?_;rintro e w1 ⟨rfl,rfl⟩
  go_wp2_with fail
  go_ret
  rw [EV.out]
  exact ⟨rfl,(by repeat (first|with_reducible exact OnlyAt.refl|with_reducible refine OnlyAt.drew ?_|with_reducible refine OnlyAt.setCell ?_ _ _|(with_reducible refine OnlyAt.setNew ?_ ?hB _ _;case hB=>(first|omega|(simp;done)|(simp;omega)))|with_reducible refine OnlyAt.alloc ?_ _|with_reducible refine OnlyAt.trans ?_ (OnlyAt.of_below (by assumption))|with_reducible refine OnlyAt.trans ?_ (by assumption))),HB.out⟩
 ·have EV:Hid (BukD.take ⟨n,l⟩=(⟨n,l-1⟩,true)):=by show _=_;unfold BukD.take;rw [if_neg hl]
  have hz:(l==0)=false:=by simp [hl]
  have wr:IntKind.i64.wrap (l-1)=l-1:=by rw [IntKind.wrap_i64];omega
  go_enter Tryz.func185,Tryz.ntmps185
  go_wp2_with fail
  refine HC.out.mono ?_;rintro e w1 ⟨rfl,rfl⟩
  go_wp2_with fail
  go_ret
  rw [EV.out]
  exact ⟨rfl,(by repeat (first|with_reducible exact OnlyAt.refl|with_reducible refine OnlyAt.drew ?_|with_reducible refine OnlyAt.setCell ?_ _ _|(with_reducible refine OnlyAt.setNew ?_ ?hB _ _;case hB=>(first|omega|(simp;done)|(simp;omega)))|with_reducible refine OnlyAt.alloc ?_ _|with_reducible refine OnlyAt.trans ?_ (OnlyAt.of_below (by assumption))|with_reducible refine OnlyAt.trans ?_ (by assumption))),HB.out.setCell_same 1 _⟩
end
/- timers -/
abbrev timC (t:TimD):Array Value:=#[.int .i64 t.every,.int .i64 t.next]
theorem timNew_c (n:Int) (w:World):Calls Tryz.prog 120 #[.int .i64 n] w fun e w'=>∃ g,e = .returned (.pointer (some ⟨g,0,none⟩))∧w.heap.size≤g∧Blk w' g (timC (.new n)) 241∧Below w.heap.size w w':=by
 go_enter Tryz.func120,Tryz.ntmps120
 go_wp2_with fail
 go_ret
 exact ⟨_,rfl,(by first|omega|(simp;done)|(simp;omega)|fail),Blk.new _ _ _,below_byR⟩
theorem timDue_c (g:Nat) (w:World) (t:TimD) (now:Int) (h0:0≤t.every) (h1:t.every≤1000000) (h5:0≤now) (B:Blk w g (timC t) 241):Calls Tryz.prog 137 #[.pointer (some ⟨g,0,none⟩),.int .i64 now] w fun e w'=>e = .returned (.bool (t.due now).2)∧OnlyAt g w w'∧Blk w' g (timC (t.due now).1) 241:=by
 obtain ⟨n,l⟩:=t
 have HB:=Lib.hid B
 obtain ⟨y1,c1,f1,-⟩:=bk_o B
 clear B
 replace h0:0≤n:=h0
 replace h1:n≤1000000:=h1
 by_cases h2:now<l
 ·have EV:Hid (TimD.due ⟨n,l⟩ now=(⟨n,l⟩,false)):=by show _=_;unfold TimD.due;rw [if_pos (.inl h2)]
  go_enter Tryz.func137,Tryz.ntmps137
  go_wp2_with fail
  go_ret
  rw [EV.out]
  exact ⟨rfl,(by repeat (first|with_reducible exact OnlyAt.refl|with_reducible refine OnlyAt.drew ?_|with_reducible refine OnlyAt.setCell ?_ _ _|(with_reducible refine OnlyAt.setNew ?_ ?hB _ _;case hB=>(first|omega|(simp;done)|(simp;omega)))|with_reducible refine OnlyAt.alloc ?_ _|with_reducible refine OnlyAt.trans ?_ (OnlyAt.of_below (by assumption))|with_reducible refine OnlyAt.trans ?_ (by assumption))),HB.out⟩
 ·by_cases h3:1000000<now
  ·have EV:Hid (TimD.due ⟨n,l⟩ now=(⟨n,l⟩,false)):=by show _=_;unfold TimD.due;rw [if_pos (.inr h3)]
   go_enter Tryz.func137,Tryz.ntmps137
   go_wp2_with fail
   go_ret
   rw [EV.out]
   exact ⟨rfl,(by repeat (first|with_reducible exact OnlyAt.refl|with_reducible refine OnlyAt.drew ?_|with_reducible refine OnlyAt.setCell ?_ _ _|(with_reducible refine OnlyAt.setNew ?_ ?hB _ _;case hB=>(first|omega|(simp;done)|(simp;omega)))|with_reducible refine OnlyAt.alloc ?_ _|with_reducible refine OnlyAt.trans ?_ (OnlyAt.of_below (by assumption))|with_reducible refine OnlyAt.trans ?_ (by assumption))),HB.out⟩
  ·have EV:Hid (TimD.due ⟨n,l⟩ now=(⟨n,now+n⟩,true)):=by show _=_;unfold TimD.due;rw [if_neg (fun h=>h.elim h2 h3)]
   have wr:IntKind.i64.wrap (now+n)=now+n:=by rw [IntKind.wrap_i64];omega
   go_enter Tryz.func137,Tryz.ntmps137
   go_wp2_with fail
   go_ret
   rw [EV.out]
   exact ⟨rfl,(by repeat (first|with_reducible exact OnlyAt.refl|with_reducible refine OnlyAt.drew ?_|with_reducible refine OnlyAt.setCell ?_ _ _|(with_reducible refine OnlyAt.setNew ?_ ?hB _ _;case hB=>(first|omega|(simp;done)|(simp;omega)))|with_reducible refine OnlyAt.alloc ?_ _|with_reducible refine OnlyAt.trans ?_ (OnlyAt.of_below (by assumption))|with_reducible refine OnlyAt.trans ?_ (by assumption))),HB.out.setCell_same 1 _⟩
/- clocks -/
theorem btw_c (n lo hi:Int) (w:World):Calls Tryz.prog 190 #[.int .i64 n,.int .i64 lo,.int .i64 hi] w fun e w'=>e = .returned (.int .i64 (btw n lo hi))∧Below w.heap.size w w':=by
 go_enter Tryz.func190,Tryz.ntmps190
 go_wp2_with fail
 go_ret
 exact ⟨rfl,below_byR⟩
theorem btw_bd (n lo hi:Int) (h:lo≤hi):lo≤btw n lo hi∧btw n lo hi≤hi:=by unfold btw;omega
theorem local_c (s t:Int) (w:World):Calls Tryz.prog 141 #[.int .i64 s,.int .i64 t] w fun e w'=>e = .returned (.int .i64 (localF s t))∧Below w.heap.size w w':=by
 have EV:Hid (localF s t=btw (btw t 0 1000000+btw s (-1000000) 1000000) 0 1000000):=rfl
 obtain ⟨a,ha⟩:∃ z,btw t 0 1000000=z:=⟨_,rfl⟩
 obtain ⟨b,hb⟩:∃ z,btw s (-1000000) 1000000=z:=⟨_,rfl⟩
 have k1:=btw_bd t 0 1000000 (by decide)
 have k2:=btw_bd s (-1000000) 1000000 (by decide)
 rw [ha] at k1;rw [hb] at k2
 have wr:IntKind.i64.wrap (a+b)=a+b:=by rw [IntKind.wrap_i64];omega
 have HA:=Lib.hid ha
 have HB:=Lib.hid hb
 obtain ⟨k11,k12⟩:=k1
 obtain ⟨k21,k22⟩:=k2
 clear ha hb
 go_enter Tryz.func141,Tryz.ntmps141
 go_wp2_with fail
 refine (btw_c _ _ _ _).mono ?_;rintro e w1 ⟨rfl,hb1⟩;have z1:=hb1.size
 rw [HA.out]
 go_wp2_with fail
 refine (btw_c _ _ _ _).mono ?_;rintro e w2 ⟨rfl,hb2⟩;have z2:=hb2.size
 rw [HB.out]
 go_wp2_with fail
 refine (btw_c _ _ _ _).mono ?_;rintro e w3 ⟨rfl,hb3⟩
 go_wp2_with fail
 go_ret
 exact ⟨by rw [EV.out,HA.out,HB.out] <;> rfl,below_byR⟩
abbrev sesC (s:SesD):Array Value:=#[.int .i64 s.ask.st,.int .i64 s.ask.fr,.int .i64 s.ask.til,.int .i64 s.ask.mrk,.int .i64 s.ask.sp,.int .i64 s.tell.st,.int .i64 s.tell.fr,.int .i64 s.tell.til,.int .i64 s.tell.mrk,.int .i64 s.tell.sp]
theorem sesNew_c (w:World):Calls Tryz.prog 121 #[] w fun e w'=>e = .returned (.pointer (some ⟨w.heap.size,0,none⟩))∧w'=w.alloc (Obj.cells (sesC .new) 245):=by
 go_enter Tryz.func121,Tryz.ntmps121
 go_wp2
 go_ret
 exact ⟨rfl,rfl⟩
theorem ses_set5 {w:World} {g:Nat} {t:TypeId} {c:Array Value} (o:Nat) (h:Blk w g c t) (a b d e f:Value) :
  Blk (((((w.setCell ⟨g,o,none⟩ a).setCell ⟨g,o+1,none⟩ b).setCell ⟨g,o+2,none⟩ d).setCell ⟨g,o+3,none⟩ e).setCell ⟨g,o+4,none⟩ f) g (((((c.setIfInBounds o a).setIfInBounds (o+1) b).setIfInBounds (o+2) d).setIfInBounds (o+3) e).setIfInBounds (o+4) f) t :=
 ((((h.setCell_same _ _).setCell_same _ _).setCell_same _ _).setCell_same _ _).setCell_same _ _
section
variable (g:Nat) (w:World) (s:SesD) (B:Blk w g (sesC s) 245)
include B
end
end Go.Proofs.YtechbdnhalmobaaGreatDoor
