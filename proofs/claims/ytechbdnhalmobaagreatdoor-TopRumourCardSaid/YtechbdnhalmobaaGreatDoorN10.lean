/- Laws and walks that the claim names. -/
import Derived.Test.YtechbdnhalmobaaGreatDoorN4a
import Derived.Laws.BytesString
namespace Go.Proofs.YtechbdnhalmobaaGreatDoor
set_option linter.unusedSimpArgs false
set_option linter.unusedVariables false
set_option maxRecDepth 100000
set_option maxHeartbeats 16000000
open Go.RowKit
def strB (xs:List Nat):Value := .string ⟨(xs.map UInt8.ofNat).toArray⟩
theorem ba_toList (l:List UInt8):(ByteArray.mk l.toArray).toList=l:=by rw [ByteArray.toList_eq]
theorem fold_push (ns:List Nat):∀ s:List UInt8,(ns.map fun (c:Nat)=>(c:Int)).foldl (fun r n=>r.push (UInt8.ofNat n.toNat)) (ByteArray.mk s.toArray)=ByteArray.mk (s++ns.map UInt8.ofNat).toArray:=by
 induction ns with
 | nil=>intro s;simp
 | cons n ns ih =>
  intro s
  have h:(ByteArray.mk s.toArray).push (UInt8.ofNat n)=ByteArray.mk (s ++ [UInt8.ofNat n]).toArray:=by
   apply ByteArray.ext;simp [ByteArray.push]
  simp only [List.map_cons,List.foldl_cons,Int.toNat_natCast]
  rw [h,ih,List.append_assoc];rfl
theorem conv_rd {w:World} {v:Value} {xs:List Nat} (h:RdB w v xs):(convert 36 9 v).run Tryz.prog w = .ok (strB xs) w:=by
 obtain ⟨hy,ao,cap,rfl,hc,H⟩:=h
 rw [run_convert_bytes_string w _ _ _ _ _ _ Tryz.underlying36 Tryz.underlying5 Tryz.underlying9]
 by_cases h0:xs = []
 ·subst h0
  cases ao with
  | none=>rfl
  | some a =>
   rw [run_bytesToString w a _ _ [] (by simp [loadCells,loadCellsFrom])]
   rfl
 ·have hp:=List.length_pos_iff.2 h0
  obtain ⟨b,o,rfl,hb,-⟩:=H 0 hp
  have hl:=run_loadCells_list (P:=Tryz.prog) w ⟨b,o,none⟩ ((xs.map fun (c:Nat)=>(c:Int)).map (Value.int .u8)) (fun j u hj=>by
   rw [List.map_map,List.getElem?_map] at hj
   by_cases hjl:j<xs.length
   ·rw [List.getElem?_eq_getElem hjl] at hj
    obtain rfl:=Option.some.inj hj
    obtain ⟨b',o',e,_,hv⟩:=H j hjl
    cases e
    rw [Addr.add_lit,hv,List.getD_eq_getElem?_getD,List.getElem?_eq_getElem hjl];rfl
   ·rw [List.getElem?_eq_none (by omega)] at hj;cases hj)
  simp only [List.length_map] at hl
  rw [run_bytesToString w ⟨b,o,none⟩ _ _ (xs.map fun (c:Nat)=>(c:Int)) (by simpa using hl)]
  have:=fold_push xs []
  simp only [List.nil_append] at this
  exact congrArg (fun z=>Result.ok (Value.string z) w) this
theorem ofNat_inj:∀ (xs ys:List Nat),Byt xs→Byt ys→(xs.map UInt8.ofNat=ys.map UInt8.ofNat↔xs=ys):=by
 intro xs
 induction xs with
 | nil=>intro ys _ _;cases ys <;> simp
 | cons c xs ih =>
  intro ys hx hy
  cases ys with
  | nil=>simp
  | cons d ys =>
   have hc:=hx c List.mem_cons_self
   have hd:=hy d List.mem_cons_self
   rw [List.map_cons,List.map_cons,List.cons.injEq,List.cons.injEq,ih ys (fun z hz=>hx z (List.mem_cons_of_mem _ hz)) (fun z hz=>hy z (List.mem_cons_of_mem _ hz))]
   have:UInt8.ofNat c=UInt8.ofNat d↔c=d:=by
    constructor
    ·intro h
     have:=congrArg UInt8.toNat h
     simp at this;omega
    ·rintro rfl;rfl
   rw [this]
theorem neq_strB (xs ys:List Nat) (hx:Byt xs) (hy:Byt ys) (t:TypeId) (w:World):(binOp .neq t (strB xs) (strB ys)).run Tryz.prog w = .ok (.bool (decide (xs≠ys))) w:=by
 have:(!((xs.map UInt8.ofNat)==(ys.map UInt8.ofNat)))=decide (xs≠ys):=by
  rw [Bool.eq_iff_iff];simp [ofNat_inj xs ys hx hy]
 simp only [binOp,strB,Op.stringOp,ba_toList,Sem.run_pure,this]
theorem eqg_strB {P:Program} (op:BinOp) (t:TypeId) (x y:Operand) (l m:List Nat) (w:World):(eqGuard op t x y (strB l) (strB m)).run P w = .ok () w:=by
 unfold eqGuard strB;cases op <;> simp
theorem byt_take {l:List Nat} (h:Byt l) (n:Nat):Byt (l.take n):=fun c hc=>h c (List.mem_of_mem_take hc)
theorem byt_drop {l:List Nat} (h:Byt l) (n:Nat):Byt (l.drop n):=fun c hc=>h c (List.mem_of_mem_drop hc)
def nAt (l:List Nat) (off wd:Nat):Nat:=nb ((l.drop off).take wd)
def frL (l:List Nat):FrD :=
 { kind:=wrap64 (nAt l 4 1),src:=wrap64 (nAt l 5 1),dst:=wrap64 (nAt l 6 1),who:=wrap64 (nAt l 7 1),boot:=wrap64 (nAt l 8 2),seq:=wrap64 (nAt l 10 2),stamp:=wrap64 (nAt l 12 8),t1:=wrap64 (nAt l 20 8),t2:=wrap64 (nAt l 28 8),when:=wrap64 (nAt l 36 8),x:=wrap32 (nAt l 44 4),y:=wrap32 (nAt l 48 4),a:=wrap64 (nAt l 52 8),b:=wrap64 (nAt l 60 8),d:=wrap64 (nAt l 68 8) }
def FrD.zero:FrD:=⟨0,0,0,0,0,0,0,0,0,0,0,0,0,0,0⟩
def decE (l:List Nat):FrD × Int :=
 if l.length<80 then (FrD.zero,4)
 else if 80<l.length∨l.take 4 ≠ [97,108,105,49] then (FrD.zero,5)
 else if nAt l 76 4≠crc (l.take 76) then (FrD.zero,6)
 else if mayF (frL l)=true then (frL l,0) else (FrD.zero,5)
theorem take_at (g:Nat) (v:Value) (l:List Nat) (off wd off':Nat) (he:off'=off+wd) (h0:0<wd) (hw:off'≤l.length) (hl:l.length≤1000000) (w:World) (B:Blk w g #[v] 341) (h:RdB w v (l.drop off)) :
  Calls Tryz.prog 249 #[.pointer (some ⟨g,0,none⟩),.int .i64 (wd:Int)] w fun e w'=>(∃ v',e = .returned (.int .i64 (wrap64 (nAt l off wd)))∧Blk w' g #[v'] 341∧RdB w' v' (l.drop off'))∧OnlyAt g w w':=by
 subst he
 have:=ftake_c g v (l.drop off) wd h0 (by rw [List.length_drop];omega) (by rw [List.length_drop];omega) w B h
 rw [List.drop_drop] at this;exact this
theorem small_at (g:Nat) (v:Value) (l:List Nat) (off off':Nat) (he:off'=off+4) (hw:off'≤l.length) (hl:l.length≤1000000) (w:World) (B:Blk w g #[v] 341) (h:RdB w v (l.drop off)) :
  Calls Tryz.prog 250 #[.pointer (some ⟨g,0,none⟩)] w fun e w'=>(∃ v',e = .returned (.int .i64 (wrap32 (nAt l off 4)))∧Blk w' g #[v'] 341∧RdB w' v' (l.drop off'))∧OnlyAt g w w':=by
 subst he
 have:=small_c g v (l.drop off) (by rw [List.length_drop];omega) (by rw [List.length_drop];omega) w B h
 rw [List.drop_drop] at this;exact this
theorem RdB.cutL {w:World} {ao:Option Addr} {cap:Nat} {l:List Nat} (h:RdB w (.slice ao l.length cap) l) (n c:Nat) (hn:n≤l.length) (hc:n≤c):RdB w (.slice ao n c) (l.take n):=by
 obtain ⟨hy,ao',cap',e,hc',H⟩:=h
 cases e
 refine ⟨byt_take hy n,ao,c,by rw [List.length_take,Nat.min_eq_left hn],by rw [List.length_take];omega,fun j hj=>?_⟩
 rw [List.length_take] at hj
 obtain ⟨b,o,e,hb,hv⟩:=H j (by omega)
 refine ⟨b,o,e,hb,?_⟩
 rw [hv,List.getD_eq_getElem?_getD,List.getD_eq_getElem?_getD,List.getElem?_take_of_lt (by omega)]
theorem RdB.cutR {w:World} {b o cap:Nat} {l:List Nat} (h:RdB w (.slice (some ⟨b,o,none⟩) l.length cap) l) (k n c:Nat) (hk:k+n=l.length) (hc:n≤c):RdB w (.slice (some ⟨b,o+k,none⟩) n c) (l.drop k):=by
 obtain ⟨hy,ao',cap',e,hc',H⟩:=h
 cases e
 refine ⟨byt_drop hy k,some ⟨b,o+k,none⟩,c,by rw [List.length_drop];congr 1;omega,by rw [List.length_drop];omega,fun j hj=>?_⟩
 rw [List.length_drop] at hj
 obtain ⟨b',o',e,hb,hv⟩:=H (k+j) (by omega)
 cases e
 refine ⟨b,o+k,rfl,hb,?_⟩
 rw [Nat.add_assoc,hv,List.getD_eq_getElem?_getD,List.getD_eq_getElem?_getD,List.getElem?_drop]
theorem nb_lt (l:List Nat) (h:Byt l):nb l<256^l.length:=by
 induction l with
 | nil=>simp [nb]
 | cons c l ih =>
  have h1:=ih (fun d hd=>h d (List.mem_cons_of_mem _ hd))
  have hc:=h c List.mem_cons_self
  rw [nb_cons,List.length_cons,Nat.pow_succ]
  have:c*256^l.length≤255*256^l.length:=Nat.mul_le_mul_right _ (by omega)
  omega
theorem nb_lt4 {l:List Nat} (h:Byt l) (hl:l.length≤4):nb l<4294967296 :=
 Nat.lt_of_lt_of_le (nb_lt l h) (by have:256^l.length≤256^4:=Nat.pow_le_pow_right (by decide) hl;simpa using this)
theorem Blk.setCell_self {w:World} {b i:Nat} {c:Array Value} {t:TypeId} {v:Value} (h:Blk w b c t) (hv:c[i]? = some v):w.setCell ⟨b,i,none⟩ v=w:=by
 have e:c.setIfInBounds i v=c:=by
  apply Array.ext
  ·simp
  ·intro j h1 h2
   rw [Array.getElem_setIfInBounds]
   ·split
    ·rename_i hij;subst hij;rw [Array.getElem?_eq_getElem h2] at hv;exact (Option.some.inj hv).symm
    ·rfl
 have hh:(w.setCell ⟨b,i,none⟩ v).heap=w.heap:=by
  apply Array.ext_getElem?;intro k
  by_cases hk:k=b
  ·subst hk
   exact (h.setCell_same i v).trans (by rw [e];exact h.symm)
  ·exact heap_setCell_other _ _ _ _ hk
 cases w;simp only [World.setCell] at hh ⊢;rw [hh]
theorem OnlyAt.undrew {g:Nat} {w w':World} (h:OnlyAt g w.drew w'):OnlyAt g w w':=⟨h.os,h.tape,h.output,h.size,h.block⟩
theorem ne_words (N C:Nat) (hN:N<4294967296) (hC:C<4294967296):(wrap64 (N:Int) != IntKind.i64.wrap (C:Int))=decide (N≠C):=by
 have e1:wrap64 (N:Int)=N:=by unfold wrap64;omega
 have e2:IntKind.i64.wrap (C:Int)=C:=by rw [wrap_i64_eq];unfold wrap64;omega
 rw [e1,e2,Bool.eq_iff_iff]
 simp [Int.ofNat_inj]
theorem sum_x (v:Value) (xs:List Nat) (C:Nat) (w:World) (hC:crc xs=C) (h:RdB w v xs) (hx:xs.length≤1000000) :
  Calls Tryz.prog 183 #[v] w fun e w'=>e = .returned (.int .u32 (C:Int))∧Below w.heap.size w w':=by
 subst hC;exact fsum_c v xs w h hx
theorem rd_only {g:Nat} {w w':World} {v u:Value} {l:List Nat} (h:OnlyAt g w w') (B:Blk w g #[u] 341) (R:RdB w v l) (hu:∀ n,u ≠ .int .u8 n:=by intro n h;cases h):RdB w' v l:=by
 obtain ⟨hy,ao,cap,rfl,hc,H⟩:=R
 refine ⟨hy,ao,cap,rfl,hc,fun j hj=>?_⟩
 obtain ⟨b,o,e,hb,hv⟩:=H j hj
 have hne:b≠g:=by
  rintro rfl
  rw [B.at] at hv
  rcases hoj:o+j with _|k
  ·rw [hoj] at hv;exact hu _ (Option.some.inj hv)
  ·rw [hoj,Array.getElem?_eq_none (by simp)] at hv;cases hv
 exact ⟨b,o,e,Nat.lt_of_lt_of_le hb h.size,(World.cell?_of_block (a:=⟨b,o+j,none⟩) (h.block b hb hne)).trans hv⟩
theorem no_u8 (k s bo sq st ds ta tb wh wn x y a b d n:Int) (i:Nat):(#[.int .i64 k,.int .i64 s,.int .i64 bo,.int .i64 sq,.int .i64 st,.int .i64 ds,.int .i64 ta,.int .i64 tb,.int .i64 wh,.int .i64 wn,.int .i64 x,.int .i64 y,.int .i64 a,.int .i64 b,.int .i64 d]:Array Value)[i]? ≠ some (.int .u8 n):=by
 intro e
 rcases i with _|_|_|_|_|_|_|_|_|_|_|_|_|_|_|i
 all_goals first|(cases e;done)|(simp at e)
theorem rd_only15 {g:Nat} {w w':World} {v:Value} {l:List Nat} {k s bo sq st ds ta tb wh wn x y a b d:Int} (h:OnlyAt g w w') (B:Blk w g #[.int .i64 k,.int .i64 s,.int .i64 bo,.int .i64 sq,.int .i64 st,.int .i64 ds,.int .i64 ta,.int .i64 tb,.int .i64 wh,.int .i64 wn,.int .i64 x,.int .i64 y,.int .i64 a,.int .i64 b,.int .i64 d] 193) (R:RdB w v l):RdB w' v l:=by
 obtain ⟨hy,ao,cap,rfl,hc,H⟩:=R
 refine ⟨hy,ao,cap,rfl,hc,fun j hj=>?_⟩
 obtain ⟨b,o,e,hb,hv⟩:=H j hj
 have hne:b≠g:=by
  rintro rfl
  rw [B.at] at hv
  exact no_u8 _ _ _ _ _ _ _ _ _ _ _ _ _ _ _ _ _ hv
 exact ⟨b,o,e,Nat.lt_of_lt_of_le hb h.size,(World.cell?_of_block (a:=⟨b,o+j,none⟩) (h.block b hb hne)).trans hv⟩
theorem take_x (g:Nat) (v:Value) (l:List Nat) (off wd off':Nat) (z:Int) (he:off'=off+wd) (hz:wrap64 (nAt l off wd)=z) (h0:0<wd) (hw:off'≤l.length) (hl:l.length≤1000000) (w:World) (B:Blk w g #[v] 341) (h:RdB w v (l.drop off)) :
  Calls Tryz.prog 249 #[.pointer (some ⟨g,0,none⟩),.int .i64 (wd:Int)] w fun e w'=>(∃ v',e = .returned (.int .i64 z)∧Blk w' g #[v'] 341∧RdB w' v' (l.drop off'))∧OnlyAt g w w':=by
 subst hz;exact take_at g v l off wd off' he h0 hw hl w B h
theorem small_x (g:Nat) (v:Value) (l:List Nat) (off off':Nat) (z:Int) (he:off'=off+4) (hz:wrap32 (nAt l off 4)=z) (hw:off'≤l.length) (hl:l.length≤1000000) (w:World) (B:Blk w g #[v] 341) (h:RdB w v (l.drop off)) :
  Calls Tryz.prog 250 #[.pointer (some ⟨g,0,none⟩)] w fun e w'=>(∃ v',e = .returned (.int .i64 z)∧Blk w' g #[v'] 341∧RdB w' v' (l.drop off'))∧OnlyAt g w w':=by
 subst hz;exact small_at g v l off off' he hw hl w B h
abbrev frZ:Value:=frC 0 0 0 0 0 0 0 0 0 0 0 0 0 0 0
theorem decode_short (v:Value) (l:List Nat) (w:World) (h:RdB w v l) (hl:l.length<80) :
  Calls Tryz.prog 193 #[v] w fun e w'=>e = .returned (.tuple #[frZ,.int .i64 4])∧Below w.heap.size w w':=by
 obtain ⟨ao,cap,rfl⟩:=h.form
 obtain ⟨n,hn⟩:∃ n,l.length=n:=⟨_,rfl⟩
 rw [hn] at hl ⊢
 clear hn h
 have hi:(n:Int)<80:=by omega
 go_enter Tryz.func193,Tryz.ntmps193
 go_wp2_with fail
 exact bodyPost_row_t 15 #[.int .i64 0,.int .i64 0,.int .i64 0,.int .i64 0,.int .i64 0,.int .i64 0,.int .i64 0,.int .i64 0,.int .i64 0,.int .i64 0,.int .i64 0,.int .i64 0,.int .i64 0,.int .i64 0,.int .i64 0] (.int .i64 4) rfl rfl rfl rfl Tryz.underlying193 rfl (by kernel_rfl) (row_of_cells 14 _ rfl (by intro i hi;rcases i with _|_|_|_|_|_|_|_|_|_|_|_|_|_|_|i;(go_simp);(go_simp);(go_simp);(go_simp);(go_simp);(go_simp);(go_simp);(go_simp);(go_simp);(go_simp);(go_simp);(go_simp);(go_simp);(go_simp);(go_simp);exact absurd hi (by omega))) ⟨rfl,below_byR⟩
theorem decode_long (v:Value) (l:List Nat) (w:World) (h:RdB w v l) (hl:80<l.length) :
  Calls Tryz.prog 193 #[v] w fun e w'=>e = .returned (.tuple #[frZ,.int .i64 5])∧Below w.heap.size w w':=by
 obtain ⟨ao,cap,rfl⟩:=h.form
 obtain ⟨n,hn⟩:∃ n,l.length=n:=⟨_,rfl⟩
 rw [hn] at hl ⊢
 clear hn h
 have hi:¬ (n:Int)<80:=by omega
 have hj:(80:Int)<(n:Int):=by omega
 go_enter Tryz.func193,Tryz.ntmps193
 go_wp2_with fail
 exact bodyPost_row_t 15 #[.int .i64 0,.int .i64 0,.int .i64 0,.int .i64 0,.int .i64 0,.int .i64 0,.int .i64 0,.int .i64 0,.int .i64 0,.int .i64 0,.int .i64 0,.int .i64 0,.int .i64 0,.int .i64 0,.int .i64 0] (.int .i64 5) rfl rfl rfl rfl Tryz.underlying193 rfl (by kernel_rfl) (row_of_cells 14 _ rfl (by intro i hi;rcases i with _|_|_|_|_|_|_|_|_|_|_|_|_|_|_|i;(go_simp);(go_simp);(go_simp);(go_simp);(go_simp);(go_simp);(go_simp);(go_simp);(go_simp);(go_simp);(go_simp);(go_simp);(go_simp);(go_simp);(go_simp);exact absurd hi (by omega))) ⟨rfl,below_byR⟩
theorem decode_magic (v:Value) (l:List Nat) (w:World) (h:RdB w v l) (hl:l.length=80) (hm:l.take 4 ≠ [97,108,105,49]) :
  Calls Tryz.prog 193 #[v] w fun e w'=>e = .returned (.tuple #[frZ,.int .i64 5])∧Below w.heap.size w w':=by
 obtain ⟨ao,cap,rfl⟩:=h.form
 have hy:=h.1
 have hcap:80≤cap:=by obtain ⟨_,_,_,e,hc,_⟩:=h;cases e;omega
 obtain ⟨b,o,rfl,hb,hc0⟩:∃ b o,ao=some ⟨b,o,none⟩∧b<w.heap.size∧w.cell? ⟨b,o+0,none⟩=some (.int .u8 ((l.getD 0 0:Nat):Int)):=by
  obtain ⟨_,ao',_,e,_,H⟩:=h;cases e;exact H 0 (by omega)
 have h4:=h.cutL 4 cap (by omega) (by omega)
 rw [hl] at h ⊢
 have hcv:=conv_rd (h4.below (w':=w.alloc (Obj.cells #[.int .i64 0,.int .i64 0,.int .i64 0,.int .i64 0,.int .i64 0,.int .i64 0,.int .i64 0,.int .i64 0,.int .i64 0,.int .i64 0,.int .i64 0,.int .i64 0,.int .i64 0,.int .i64 0,.int .i64 0] 193)) ((Below.refl _ _).alloc (Nat.le_refl _) _))
 obtain ⟨M,hM⟩:∃ M,M=l.take 4:=⟨_,rfl⟩
 rw [← hM] at hcv hm
 have hyM:Byt M:=by rw [hM];exact byt_take hy 4
 have hne:∀ w',Sem.run Tryz.prog (binOp .neq 9 (strB M) (Value.string { data:=#[97,108,105,49] })) w' = .ok (.bool true) w':=fun w'=>by
  have:=neq_strB M [97,108,105,49] hyM (by intro c hc;simp at hc;omega) 9 w'
  rw [decide_eq_true hm] at this;exact this
 have hgd:∀ (x y:Operand) (w':World),Sem.run Tryz.prog (eqGuard .neq 9 x y (strB M) (Value.string { data:=#[97,108,105,49] })) w' = .ok () w':=fun x y w'=>eqg_strB .neq 9 x y M [97,108,105,49] w'
 clear hM h4 h hc0 hb
 go_enter Tryz.func193,Tryz.ntmps193
 go_wp2_with fail
 exact bodyPost_row_t 15 #[.int .i64 0,.int .i64 0,.int .i64 0,.int .i64 0,.int .i64 0,.int .i64 0,.int .i64 0,.int .i64 0,.int .i64 0,.int .i64 0,.int .i64 0,.int .i64 0,.int .i64 0,.int .i64 0,.int .i64 0] (.int .i64 5) rfl rfl rfl rfl Tryz.underlying193 rfl (by kernel_rfl) (row_of_cells 14 _ rfl (by intro i hi;rcases i with _|_|_|_|_|_|_|_|_|_|_|_|_|_|_|i;(go_simp);(go_simp);(go_simp);(go_simp);(go_simp);(go_simp);(go_simp);(go_simp);(go_simp);(go_simp);(go_simp);(go_simp);(go_simp);(go_simp);(go_simp);exact absurd hi (by omega))) ⟨rfl,below_byR⟩
theorem decode_sum (v:Value) (l:List Nat) (w:World) (h:RdB w v l) (hl:l.length=80) (hm:l.take 4 = [97,108,105,49]) (hsum:nAt l 76 4≠crc (l.take 76)) :
  Calls Tryz.prog 193 #[v] w fun e w'=>e = .returned (.tuple #[frZ,.int .i64 6])∧Below w.heap.size w w':=by
 obtain ⟨ao,cap,rfl⟩:=h.form
 have hy:=h.1
 have hcap:80≤cap:=by obtain ⟨_,_,_,e,hc,_⟩:=h;cases e;omega
 obtain ⟨b,o,rfl,hb,hc0⟩:∃ b o,ao=some ⟨b,o,none⟩∧b<w.heap.size∧w.cell? ⟨b,o+0,none⟩=some (.int .u8 ((l.getD 0 0:Nat):Int)):=by
  obtain ⟨_,ao',_,e,_,H⟩:=h;cases e;exact H 0 (by omega)
 have h4:=h.cutL 4 cap (by omega) (by omega)
 have HD:=Lib.hid (h.cutR 76 4 (cap-76) (by omega) (by omega))
 have HD4:=Lib.hid (h.cutR 4 76 (cap-4) (by omega) (by omega))
 have HS:=Lib.hid (h.cutL 76 cap (by omega) (by omega))
 rw [hl] at h
 rw [hl]
 have hcv:=conv_rd (h4.below (w':=w.alloc (Obj.cells #[.int .i64 0,.int .i64 0,.int .i64 0,.int .i64 0,.int .i64 0,.int .i64 0,.int .i64 0,.int .i64 0,.int .i64 0,.int .i64 0,.int .i64 0,.int .i64 0,.int .i64 0,.int .i64 0,.int .i64 0] 193)) ((Below.refl _ _).alloc (Nat.le_refl _) _))
 rw [hm] at hcv
 have hne:∀ w',Sem.run Tryz.prog (binOp .neq 9 (strB [97,108,105,49]) (Value.string { data:=#[97,108,105,49] })) w' = .ok (.bool false) w':=fun w'=>neq_strB [97,108,105,49] [97,108,105,49] (by intro c hc;simp at hc;omega) (by intro c hc;simp at hc;omega) 9 w'
 have hgd:∀ (x y:Operand) (w':World),Sem.run Tryz.prog (eqGuard .neq 9 x y (strB [97,108,105,49]) (Value.string { data:=#[97,108,105,49] })) w' = .ok () w':=fun x y w'=>eqg_strB .neq 9 x y [97,108,105,49] [97,108,105,49] w'
 have HL:=Lib.hid hl
 have hnl:nAt l 76 4<4294967296:=by unfold nAt;exact nb_lt4 (byt_take (byt_drop hy 76) 4) (by rw [List.length_take,List.length_drop];omega)
 have HY:=Lib.hid hy
 have c76:(76:Int)≤(cap:Int):=by omega
 have c4:(4:Int)≤(cap:Int):=by omega
 have d76:¬ cap-76=0:=by omega
 have d4:¬ cap-4=0:=by omega
 clear hm h4 h hc0 hl hy
 go_enter Tryz.func193,Tryz.ntmps193
 go_wp2_with fail
 refine name_wp ?_;intro u0 hu0
 obtain ⟨b0,hb0⟩:∃ b0,b0=w.heap.size:=⟨_,rfl⟩
 have R0:Hid (Blk u0 b0 #[.int .i64 0,.int .i64 0,.int .i64 0,.int .i64 0,.int .i64 0,.int .i64 0,.int .i64 0,.int .i64 0,.int .i64 0,.int .i64 0,.int .i64 0,.int .i64 0,.int .i64 0,.int .i64 0,.int .i64 0] 193):=by rw [hu0,hb0];exact (Blk.new _ _ _).alloc _
 have G1:Hid (Blk u0 (b0+1) #[.slice (some ⟨b,o+76,none⟩) 4 (cap-76)] 341):=by rw [hu0,hb0];exact Blk.new' _ _ _ (by simp)
 have hB0:Below b0 w u0:=by rw [hu0,hb0];show Below w.heap.size w _;exact below_byR
 have HB:=Lib.hid hB0
 have HB0:=Lib.hid hb0
 have hbw:Below w.heap.size w u0:=by rw [← hb0];exact hB0
 replace HD:=Lib.hid (HD.out.below hbw)
 replace HD4:=Lib.hid (HD4.out.below hbw)
 replace HS:=Lib.hid (HS.out.below hbw)
 have hbl:b<b0:=by omega
 rw [← hb0]
 have hsz:b0+1<u0.heap.size:=G1.out.lt
 clear hu0 hb0 hB0 hbw hb hcv hne hgd
 obtain ⟨N,hN⟩:∃ N,N=nAt l 76 4:=⟨_,rfl⟩
 obtain ⟨C,hC⟩:∃ C,C=crc (l.take 76):=⟨_,rfl⟩
 have hCl:C<4294967296:=by rw [hC];exact crc_lt _
 rw [← hN] at hnl
 have HN:=Lib.hid hN.symm
 have HC:=Lib.hid hC.symm
 clear hN hC
 go_cut [33] from 27 (fun s33 wc=>s33 = .bool (decide (N≠C))∧Hid (OnlyAt (b0+1) u0 wc))
 case first =>
  go_region_held3 (fun _=>True) (trivial)
   (first
    | (go_at_call 249;refine Calls.mono (take_at (b0+1) _ l 76 4 80 rfl (by decide) (by have:=HL.out;omega) (by have:=HL.out;omega) _ (by first|exact G1.out|exact G1.out.drew) (by first|exact HD.out|exact HD.out.below (Below.refl _ _).drew)) ?_;rintro e w2 ⟨⟨v2,rfl,hG2,hR2⟩,ho2⟩;rw [HN.out])
    | (go_at_call 183;refine Calls.mono (sum_x _ (l.take 76) C _ HC.out (by first|exact rd_only ho2 G1.out HS.out|exact (rd_only ho2 G1.out HS.out).below (Below.refl _ _).drew) (by rw [List.length_take];omega)) ?_;rintro e w3 ⟨rfl,hb3⟩))
  go_wp2_with fail
  go_meet
  exact ⟨congrArg Value.bool (ne_words N C hnl hCl),(show OnlyAt (b0+1) u0 w2 from by first|exact ho2|exact ho2.undrew).trans (OnlyAt.of_below (by first|exact hb3|exact below_undrew hb3))⟩
 case rest =>
  obtain ⟨rfl,ho⟩:=hcut
  replace HD4:=Lib.hid (rd_only ho.out G1.out HD4.out)
  replace R0:=Lib.hid (ho.out.blk R0.out (by omega))
  have hsw:=ho.out.size
  replace HB:=Lib.hid (ho.out.below HB.out (by rw [HB0.out];exact Nat.le_refl _) (Nat.le_succ _))
  clear ho G1 HD HS
  have hd:decide (N≠C)=true:=decide_eq_true (by rw [← HN.out,← HC.out];exact hsum)
  rw [hd]
  clear hd
  have e0:wc.setCell ⟨b0,0,none⟩ (.int .i64 0)=wc:=R0.out.setCell_self rfl
  have e1:wc.setCell ⟨b0,1,none⟩ (.int .i64 0)=wc:=R0.out.setCell_self rfl
  have e2:wc.setCell ⟨b0,2,none⟩ (.int .i64 0)=wc:=R0.out.setCell_self rfl
  have e3:wc.setCell ⟨b0,3,none⟩ (.int .i64 0)=wc:=R0.out.setCell_self rfl
  have e4:wc.setCell ⟨b0,4,none⟩ (.int .i64 0)=wc:=R0.out.setCell_self rfl
  have e5:wc.setCell ⟨b0,5,none⟩ (.int .i64 0)=wc:=R0.out.setCell_self rfl
  have e6:wc.setCell ⟨b0,6,none⟩ (.int .i64 0)=wc:=R0.out.setCell_self rfl
  have e7:wc.setCell ⟨b0,7,none⟩ (.int .i64 0)=wc:=R0.out.setCell_self rfl
  have e8:wc.setCell ⟨b0,8,none⟩ (.int .i64 0)=wc:=R0.out.setCell_self rfl
  have e9:wc.setCell ⟨b0,9,none⟩ (.int .i64 0)=wc:=R0.out.setCell_self rfl
  have e10:wc.setCell ⟨b0,10,none⟩ (.int .i64 0)=wc:=R0.out.setCell_self rfl
  have e11:wc.setCell ⟨b0,11,none⟩ (.int .i64 0)=wc:=R0.out.setCell_self rfl
  have e12:wc.setCell ⟨b0,12,none⟩ (.int .i64 0)=wc:=R0.out.setCell_self rfl
  have e13:wc.setCell ⟨b0,13,none⟩ (.int .i64 0)=wc:=R0.out.setCell_self rfl
  have e14:wc.setCell ⟨b0,14,none⟩ (.int .i64 0)=wc:=R0.out.setCell_self rfl
  have k0:wc.cell? ⟨b0,0,none⟩=some (.int .i64 0):=R0.out.cell rfl
  have k1:wc.cell? ⟨b0,1,none⟩=some (.int .i64 0):=R0.out.cell rfl
  have k2:wc.cell? ⟨b0,2,none⟩=some (.int .i64 0):=R0.out.cell rfl
  have k3:wc.cell? ⟨b0,3,none⟩=some (.int .i64 0):=R0.out.cell rfl
  have k4:wc.cell? ⟨b0,4,none⟩=some (.int .i64 0):=R0.out.cell rfl
  have k5:wc.cell? ⟨b0,5,none⟩=some (.int .i64 0):=R0.out.cell rfl
  have k6:wc.cell? ⟨b0,6,none⟩=some (.int .i64 0):=R0.out.cell rfl
  have k7:wc.cell? ⟨b0,7,none⟩=some (.int .i64 0):=R0.out.cell rfl
  have k8:wc.cell? ⟨b0,8,none⟩=some (.int .i64 0):=R0.out.cell rfl
  have k9:wc.cell? ⟨b0,9,none⟩=some (.int .i64 0):=R0.out.cell rfl
  have k10:wc.cell? ⟨b0,10,none⟩=some (.int .i64 0):=R0.out.cell rfl
  have k11:wc.cell? ⟨b0,11,none⟩=some (.int .i64 0):=R0.out.cell rfl
  have k12:wc.cell? ⟨b0,12,none⟩=some (.int .i64 0):=R0.out.cell rfl
  have k13:wc.cell? ⟨b0,13,none⟩=some (.int .i64 0):=R0.out.cell rfl
  have k14:wc.cell? ⟨b0,14,none⟩=some (.int .i64 0):=R0.out.cell rfl
  have f0:=R0.out.frozen
  have l0:=R0.out.lt
  have r0:=R0.out.row?_all 15 rfl
  go_wp2_with fail
  exact bodyPost_row_t 15 #[.int .i64 0,.int .i64 0,.int .i64 0,.int .i64 0,.int .i64 0,.int .i64 0,.int .i64 0,.int .i64 0,.int .i64 0,.int .i64 0,.int .i64 0,.int .i64 0,.int .i64 0,.int .i64 0,.int .i64 0] (.int .i64 6) rfl rfl rfl rfl Tryz.underlying193 rfl (by kernel_rfl) r0 ⟨rfl,by rw [← HB0.out];exact HB.out⟩
theorem decode_t (v:Value) (l:List Nat) (w:World) (h:RdB w v l) (hl:l.length=80) (hm:l.take 4 = [97,108,105,49]) (hsum:nAt l 76 4=crc (l.take 76)) (hmay:mayF (frL l)=true) :
  Calls Tryz.prog 193 #[v] w fun e w'=>e = .returned (.tuple #[frV (frL l),.int .i64 0])∧Below w.heap.size w w':=by
 obtain ⟨zk,hk⟩:∃ z,wrap64 (nAt l 4 1)=z:=⟨_,rfl⟩
 obtain ⟨zs,hs⟩:∃ z,wrap64 (nAt l 5 1)=z:=⟨_,rfl⟩
 obtain ⟨zds,hds⟩:∃ z,wrap64 (nAt l 6 1)=z:=⟨_,rfl⟩
 obtain ⟨zwh,hwh⟩:∃ z,wrap64 (nAt l 7 1)=z:=⟨_,rfl⟩
 obtain ⟨zbo,hbo⟩:∃ z,wrap64 (nAt l 8 2)=z:=⟨_,rfl⟩
 obtain ⟨zsq,hsq⟩:∃ z,wrap64 (nAt l 10 2)=z:=⟨_,rfl⟩
 obtain ⟨zst,hst⟩:∃ z,wrap64 (nAt l 12 8)=z:=⟨_,rfl⟩
 obtain ⟨zta,hta⟩:∃ z,wrap64 (nAt l 20 8)=z:=⟨_,rfl⟩
 obtain ⟨ztb,htb⟩:∃ z,wrap64 (nAt l 28 8)=z:=⟨_,rfl⟩
 obtain ⟨zwn,hwn⟩:∃ z,wrap64 (nAt l 36 8)=z:=⟨_,rfl⟩
 obtain ⟨zx,hx⟩:∃ z,wrap32 (nAt l 44 4)=z:=⟨_,rfl⟩
 obtain ⟨zy,hy⟩:∃ z,wrap32 (nAt l 48 4)=z:=⟨_,rfl⟩
 obtain ⟨za,ha⟩:∃ z,wrap64 (nAt l 52 8)=z:=⟨_,rfl⟩
 obtain ⟨zbb,hbb⟩:∃ z,wrap64 (nAt l 60 8)=z:=⟨_,rfl⟩
 obtain ⟨zd,hd⟩:∃ z,wrap64 (nAt l 68 8)=z:=⟨_,rfl⟩
 have HF:Hid (frL l=⟨zk,zs,zbo,zsq,zst,zds,zta,ztb,zwh,zwn,zx,zy,za,zbb,zd⟩):=by show _=_;unfold frL;rw [hk,hs,hds,hwh,hbo,hsq,hst,hta,htb,hwn,hx,hy,ha,hbb,hd]
 rw [HF.out] at hmay
 rw [HF.out]
 replace hk:=Lib.hid hk
 replace hs:=Lib.hid hs
 replace hds:=Lib.hid hds
 replace hwh:=Lib.hid hwh
 replace hbo:=Lib.hid hbo
 replace hsq:=Lib.hid hsq
 replace hst:=Lib.hid hst
 replace hta:=Lib.hid hta
 replace htb:=Lib.hid htb
 replace hwn:=Lib.hid hwn
 replace hx:=Lib.hid hx
 replace hy:=Lib.hid hy
 replace ha:=Lib.hid ha
 replace hbb:=Lib.hid hbb
 replace hd:=Lib.hid hd
 have HM:=Lib.hid hmay
 clear hmay
 obtain ⟨ao,cap,rfl⟩:=h.form
 have hy:=h.1
 have hcap:80≤cap:=by obtain ⟨_,_,_,e,hc,_⟩:=h;cases e;omega
 obtain ⟨b,o,rfl,hb,hc0⟩:∃ b o,ao=some ⟨b,o,none⟩∧b<w.heap.size∧w.cell? ⟨b,o+0,none⟩=some (.int .u8 ((l.getD 0 0:Nat):Int)):=by
  obtain ⟨_,ao',_,e,_,H⟩:=h;cases e;exact H 0 (by omega)
 have h4:=h.cutL 4 cap (by omega) (by omega)
 have HD:=Lib.hid (h.cutR 76 4 (cap-76) (by omega) (by omega))
 have HD4:=Lib.hid (h.cutR 4 76 (cap-4) (by omega) (by omega))
 have HS:=Lib.hid (h.cutL 76 cap (by omega) (by omega))
 rw [hl] at h
 rw [hl]
 have hcv:=conv_rd (h4.below (w':=w.alloc (Obj.cells #[.int .i64 0,.int .i64 0,.int .i64 0,.int .i64 0,.int .i64 0,.int .i64 0,.int .i64 0,.int .i64 0,.int .i64 0,.int .i64 0,.int .i64 0,.int .i64 0,.int .i64 0,.int .i64 0,.int .i64 0] 193)) ((Below.refl _ _).alloc (Nat.le_refl _) _))
 rw [hm] at hcv
 have hne:∀ w',Sem.run Tryz.prog (binOp .neq 9 (strB [97,108,105,49]) (Value.string { data:=#[97,108,105,49] })) w' = .ok (.bool false) w':=fun w'=>neq_strB [97,108,105,49] [97,108,105,49] (by intro c hc;simp at hc;omega) (by intro c hc;simp at hc;omega) 9 w'
 have hgd:∀ (x y:Operand) (w':World),Sem.run Tryz.prog (eqGuard .neq 9 x y (strB [97,108,105,49]) (Value.string { data:=#[97,108,105,49] })) w' = .ok () w':=fun x y w'=>eqg_strB .neq 9 x y [97,108,105,49] [97,108,105,49] w'
 have HL:=Lib.hid hl
 have hnl:nAt l 76 4<4294967296:=by unfold nAt;exact nb_lt4 (byt_take (byt_drop hy 76) 4) (by rw [List.length_take,List.length_drop];omega)
 have HY:=Lib.hid hy
 have c76:(76:Int)≤(cap:Int):=by omega
 have c4:(4:Int)≤(cap:Int):=by omega
 have d76:¬ cap-76=0:=by omega
 have d4:¬ cap-4=0:=by omega
 clear hm h4 h hc0 hl hy
 go_enter Tryz.func193,Tryz.ntmps193
 go_wp2_with fail
 refine name_wp ?_;intro u0 hu0
 obtain ⟨b0,hb0⟩:∃ b0,b0=w.heap.size:=⟨_,rfl⟩
 have R0:Hid (Blk u0 b0 #[.int .i64 0,.int .i64 0,.int .i64 0,.int .i64 0,.int .i64 0,.int .i64 0,.int .i64 0,.int .i64 0,.int .i64 0,.int .i64 0,.int .i64 0,.int .i64 0,.int .i64 0,.int .i64 0,.int .i64 0] 193):=by rw [hu0,hb0];exact (Blk.new _ _ _).alloc _
 have G1:Hid (Blk u0 (b0+1) #[.slice (some ⟨b,o+76,none⟩) 4 (cap-76)] 341):=by rw [hu0,hb0];exact Blk.new' _ _ _ (by simp)
 have hB0:Below b0 w u0:=by rw [hu0,hb0];show Below w.heap.size w _;exact below_byR
 have HB:=Lib.hid hB0
 have HB0:=Lib.hid hb0
 have hbw:Below w.heap.size w u0:=by rw [← hb0];exact hB0
 replace HD:=Lib.hid (HD.out.below hbw)
 replace HD4:=Lib.hid (HD4.out.below hbw)
 replace HS:=Lib.hid (HS.out.below hbw)
 have hbl:b<b0:=by omega
 rw [← hb0]
 have hsz:b0+1<u0.heap.size:=G1.out.lt
 clear hu0 hb0 hB0 hbw hb hcv hne hgd
 obtain ⟨N,hN⟩:∃ N,N=nAt l 76 4:=⟨_,rfl⟩
 obtain ⟨C,hC⟩:∃ C,C=crc (l.take 76):=⟨_,rfl⟩
 have hCl:C<4294967296:=by rw [hC];exact crc_lt _
 rw [← hN] at hnl
 have HN:=Lib.hid hN.symm
 have HC:=Lib.hid hC.symm
 clear hN hC
 go_cut [33] from 27 (fun s33 wc=>s33 = .bool (decide (N≠C))∧Hid (OnlyAt (b0+1) u0 wc))
 case first =>
  go_region_held3 (fun _=>True) (trivial)
   (first
    | (go_at_call 249;refine Calls.mono (take_at (b0+1) _ l 76 4 80 rfl (by decide) (by have:=HL.out;omega) (by have:=HL.out;omega) _ (by first|exact G1.out|exact G1.out.drew) (by first|exact HD.out|exact HD.out.below (Below.refl _ _).drew)) ?_;rintro e w2 ⟨⟨v2,rfl,hG2,hR2⟩,ho2⟩;rw [HN.out])
    | (go_at_call 183;refine Calls.mono (sum_x _ (l.take 76) C _ HC.out (by first|exact rd_only ho2 G1.out HS.out|exact (rd_only ho2 G1.out HS.out).below (Below.refl _ _).drew) (by rw [List.length_take];omega)) ?_;rintro e w3 ⟨rfl,hb3⟩))
  go_wp2_with fail
  go_meet
  exact ⟨congrArg Value.bool (ne_words N C hnl hCl),(show OnlyAt (b0+1) u0 w2 from by first|exact ho2|exact ho2.undrew).trans (OnlyAt.of_below (by first|exact hb3|exact below_undrew hb3))⟩
 case rest =>
  obtain ⟨rfl,ho⟩:=hcut
  replace HD4:=Lib.hid (rd_only ho.out G1.out HD4.out)
  replace R0:=Lib.hid (ho.out.blk R0.out (by omega))
  have hsw:=ho.out.size
  replace HB:=Lib.hid (ho.out.below HB.out (by rw [HB0.out];exact Nat.le_refl _) (Nat.le_succ _))
  clear ho G1 HD HS
  have hd:decide (N≠C)=false:=decide_eq_false (by rw [← HN.out,← HC.out];simp [hsum])
  rw [hd]
  clear hd
  go_wp2_with fail
  refine name_calls ?_;intro u1 hu1
  obtain ⟨g2,hg2⟩:∃ g2,g2=wc.heap.size:=⟨_,rfl⟩
  have G2:Hid (Blk u1 g2 #[.slice (some ⟨b,o+4,none⟩) 76 (cap-4)] 341):=by rw [hu1,hg2];exact Blk.new _ _ _
  replace R0:Hid (Blk u1 b0 #[.int .i64 0,.int .i64 0,.int .i64 0,.int .i64 0,.int .i64 0,.int .i64 0,.int .i64 0,.int .i64 0,.int .i64 0,.int .i64 0,.int .i64 0,.int .i64 0,.int .i64 0,.int .i64 0,.int .i64 0] 193):=by rw [hu1];exact R0.out.alloc _
  have hbA:Below wc.heap.size wc u1:=by rw [hu1];exact (Below.refl _ _).alloc (Nat.le_refl _) _
  have hgl:b0+1<g2:=by rw [hg2];omega
  replace HB:=Lib.hid (HB.out.trans (hbA.mono (by omega)))
  replace HD4:=Lib.hid (HD4.out.below hbA)
  rw [← hg2]
  clear hu1 hg2 hbA
  refine Calls.mono (take_x g2 _ l 4 1 5 zk rfl hk.out (by decide) (by have:=HL.out;omega) (by have:=HL.out;omega) _ G2.out HD4.out) ?_;rintro e x2 ⟨⟨v2,rfl,hG,hR⟩,ho⟩
  replace G2:=Lib.hid hG;replace HD4:=Lib.hid hR
  replace R0:=Lib.hid (ho.blk R0.out (by omega))
  replace HB:=Lib.hid (ho.below HB.out (by rw [HB0.out];exact Nat.le_refl _) (by omega))
  clear ho hG hR
  go_wp2_with fail
  refine Calls.mono (take_x g2 _ l 5 1 6 zs rfl hs.out (by decide) (by have:=HL.out;omega) (by have:=HL.out;omega) _ G2.out HD4.out) ?_;rintro e x3 ⟨⟨v3,rfl,hG,hR⟩,ho⟩
  replace G2:=Lib.hid hG;replace HD4:=Lib.hid hR
  replace R0:=Lib.hid (ho.blk R0.out (by omega))
  replace HB:=Lib.hid (ho.below HB.out (by rw [HB0.out];exact Nat.le_refl _) (by omega))
  clear ho hG hR
  go_wp2_with fail
  refine Calls.mono (take_x g2 _ l 6 1 7 zds rfl hds.out (by decide) (by have:=HL.out;omega) (by have:=HL.out;omega) _ G2.out HD4.out) ?_;rintro e x4 ⟨⟨v4,rfl,hG,hR⟩,ho⟩
  replace G2:=Lib.hid hG;replace HD4:=Lib.hid hR
  replace R0:=Lib.hid (ho.blk R0.out (by omega))
  replace HB:=Lib.hid (ho.below HB.out (by rw [HB0.out];exact Nat.le_refl _) (by omega))
  clear ho hG hR
  go_wp2_with fail
  refine Calls.mono (take_x g2 _ l 7 1 8 zwh rfl hwh.out (by decide) (by have:=HL.out;omega) (by have:=HL.out;omega) _ G2.out HD4.out) ?_;rintro e x5 ⟨⟨v5,rfl,hG,hR⟩,ho⟩
  replace G2:=Lib.hid hG;replace HD4:=Lib.hid hR
  replace R0:=Lib.hid (ho.blk R0.out (by omega))
  replace HB:=Lib.hid (ho.below HB.out (by rw [HB0.out];exact Nat.le_refl _) (by omega))
  clear ho hG hR
  go_wp2_with fail
  refine name_calls ?_;intro u2 hu2
  obtain ⟨gf,hgf⟩:∃ gf,gf=x5.heap.size:=⟨_,rfl⟩
  have hg2l:=G2.out.lt
  have GF:Hid (Blk u2 gf #[.int .i64 zk,.int .i64 zs,.int .i64 0,.int .i64 0,.int .i64 0,.int .i64 zds,.int .i64 0,.int .i64 0,.int .i64 zwh,.int .i64 0,.int .i64 0,.int .i64 0,.int .i64 0,.int .i64 0,.int .i64 0] 193):=by rw [hu2,hgf];exact Blk.new _ _ _
  replace G2:=(show Hid (Blk u2 g2 _ 341) by rw [hu2];exact G2.out.alloc _)
  replace R0:Hid (Blk u2 b0 #[.int .i64 0,.int .i64 0,.int .i64 0,.int .i64 0,.int .i64 0,.int .i64 0,.int .i64 0,.int .i64 0,.int .i64 0,.int .i64 0,.int .i64 0,.int .i64 0,.int .i64 0,.int .i64 0,.int .i64 0] 193):=by rw [hu2];exact R0.out.alloc _
  have hbA:Below x5.heap.size x5 u2:=by rw [hu2];exact (Below.refl _ _).alloc (Nat.le_refl _) _
  have hgf2:g2<gf:=by omega
  replace HB:=Lib.hid (HB.out.trans (hbA.mono (by omega)))
  replace HD4:=Lib.hid (HD4.out.below hbA)
  have hFb:b<gf:=by omega
  rw [← hgf]
  clear hu2 hgf hbA hg2l
  refine Calls.mono (take_x g2 _ l 8 2 10 zbo rfl hbo.out (by decide) (by have:=HL.out;omega) (by have:=HL.out;omega) _ G2.out HD4.out) ?_;rintro e x6 ⟨⟨v6,rfl,hG,hR⟩,ho⟩
  replace G2:=Lib.hid hG;replace HD4:=Lib.hid hR
  replace R0:=Lib.hid (ho.blk R0.out (by omega))
  replace GF:=Lib.hid (ho.blk GF.out (by omega))
  replace HB:=Lib.hid (ho.below HB.out (by rw [HB0.out];exact Nat.le_refl _) (by omega))
  clear ho hG hR
  go_wp2_with fail
  refine Calls.mono (take_x g2 _ l 10 2 12 zsq rfl hsq.out (by decide) (by have:=HL.out;omega) (by have:=HL.out;omega) _ G2.out HD4.out) ?_;rintro e x7 ⟨⟨v7,rfl,hG,hR⟩,ho⟩
  replace G2:=Lib.hid hG;replace HD4:=Lib.hid hR
  replace R0:=Lib.hid (ho.blk R0.out (by omega))
  replace GF:=Lib.hid (ho.blk GF.out (by omega))
  replace HB:=Lib.hid (ho.below HB.out (by rw [HB0.out];exact Nat.le_refl _) (by omega))
  clear ho hG hR
  have lf:=GF.out.lt;have ff:=GF.out.frozen
  have q2:=GF.out.cell (i:=2) (v := .int .i64 0) rfl
  have q3:=GF.out.cell (i:=3) (v := .int .i64 0) rfl
  go_wp2_with fail
  refine name_calls ?_;intro y0 hy0
  have hne2:g2≠gf:=by omega
  have hne0:b0≠gf:=by omega
  replace G2:=(show Hid (Blk y0 g2 _ 341) by rw [hy0];exact ((G2.out.setCell_other hne2 _).setCell_other hne2 _))
  replace R0:=(show Hid (Blk y0 b0 #[.int .i64 0,.int .i64 0,.int .i64 0,.int .i64 0,.int .i64 0,.int .i64 0,.int .i64 0,.int .i64 0,.int .i64 0,.int .i64 0,.int .i64 0,.int .i64 0,.int .i64 0,.int .i64 0,.int .i64 0] 193) by rw [hy0];exact ((R0.out.setCell_other hne0 _).setCell_other hne0 _))
  have hbS:OnlyAt gf x7 y0:=by rw [hy0];exact ((OnlyAt.refl.setCell 2 _).setCell 3 _)
  replace HD4:=Lib.hid (rd_only15 hbS GF.out HD4.out)
  have GF2:Hid (Blk y0 gf #[.int .i64 zk,.int .i64 zs,.int .i64 zbo,.int .i64 zsq,.int .i64 0,.int .i64 zds,.int .i64 0,.int .i64 0,.int .i64 zwh,.int .i64 0,.int .i64 0,.int .i64 0,.int .i64 0,.int .i64 0,.int .i64 0] 193):=by rw [hy0];exact Blk.of_eq (((GF.out.setCell_same 2 _).setCell_same 3 _)) (by simp)
  replace GF:=GF2
  replace HB:=Lib.hid (hbS.below HB.out (by rw [HB0.out];exact Nat.le_refl _) (by omega))
  clear GF2 hbS hne2 hne0 hy0 lf ff q2 q3
  refine Calls.mono (take_x g2 _ l 12 8 20 zst rfl hst.out (by decide) (by have:=HL.out;omega) (by have:=HL.out;omega) _ G2.out HD4.out) ?_;rintro e x8 ⟨⟨v8,rfl,hG,hR⟩,ho⟩
  replace G2:=Lib.hid hG;replace HD4:=Lib.hid hR
  replace R0:=Lib.hid (ho.blk R0.out (by omega))
  replace GF:=Lib.hid (ho.blk GF.out (by omega))
  replace HB:=Lib.hid (ho.below HB.out (by rw [HB0.out];exact Nat.le_refl _) (by omega))
  clear ho hG hR
  go_wp2_with fail
  refine Calls.mono (take_x g2 _ l 20 8 28 zta rfl hta.out (by decide) (by have:=HL.out;omega) (by have:=HL.out;omega) _ G2.out HD4.out) ?_;rintro e x9 ⟨⟨v9,rfl,hG,hR⟩,ho⟩
  replace G2:=Lib.hid hG;replace HD4:=Lib.hid hR
  replace R0:=Lib.hid (ho.blk R0.out (by omega))
  replace GF:=Lib.hid (ho.blk GF.out (by omega))
  replace HB:=Lib.hid (ho.below HB.out (by rw [HB0.out];exact Nat.le_refl _) (by omega))
  clear ho hG hR
  go_wp2_with fail
  refine Calls.mono (take_x g2 _ l 28 8 36 ztb rfl htb.out (by decide) (by have:=HL.out;omega) (by have:=HL.out;omega) _ G2.out HD4.out) ?_;rintro e x10 ⟨⟨v10,rfl,hG,hR⟩,ho⟩
  replace G2:=Lib.hid hG;replace HD4:=Lib.hid hR
  replace R0:=Lib.hid (ho.blk R0.out (by omega))
  replace GF:=Lib.hid (ho.blk GF.out (by omega))
  replace HB:=Lib.hid (ho.below HB.out (by rw [HB0.out];exact Nat.le_refl _) (by omega))
  clear ho hG hR
  go_wp2_with fail
  refine Calls.mono (take_x g2 _ l 36 8 44 zwn rfl hwn.out (by decide) (by have:=HL.out;omega) (by have:=HL.out;omega) _ G2.out HD4.out) ?_;rintro e x11 ⟨⟨v11,rfl,hG,hR⟩,ho⟩
  replace G2:=Lib.hid hG;replace HD4:=Lib.hid hR
  replace R0:=Lib.hid (ho.blk R0.out (by omega))
  replace GF:=Lib.hid (ho.blk GF.out (by omega))
  replace HB:=Lib.hid (ho.below HB.out (by rw [HB0.out];exact Nat.le_refl _) (by omega))
  clear ho hG hR
  have lf:=GF.out.lt;have ff:=GF.out.frozen
  have q4:=GF.out.cell (i:=4) (v := .int .i64 0) rfl
  have q6:=GF.out.cell (i:=6) (v := .int .i64 0) rfl
  have q7:=GF.out.cell (i:=7) (v := .int .i64 0) rfl
  have q9:=GF.out.cell (i:=9) (v := .int .i64 0) rfl
  go_wp2_with fail
  refine name_calls ?_;intro y1 hy1
  have hne2:g2≠gf:=by omega
  have hne0:b0≠gf:=by omega
  replace G2:=(show Hid (Blk y1 g2 _ 341) by rw [hy1];exact ((((G2.out.setCell_other hne2 _).setCell_other hne2 _).setCell_other hne2 _).setCell_other hne2 _))
  replace R0:=(show Hid (Blk y1 b0 #[.int .i64 0,.int .i64 0,.int .i64 0,.int .i64 0,.int .i64 0,.int .i64 0,.int .i64 0,.int .i64 0,.int .i64 0,.int .i64 0,.int .i64 0,.int .i64 0,.int .i64 0,.int .i64 0,.int .i64 0] 193) by rw [hy1];exact ((((R0.out.setCell_other hne0 _).setCell_other hne0 _).setCell_other hne0 _).setCell_other hne0 _))
  have hbS:OnlyAt gf x11 y1:=by rw [hy1];exact ((((OnlyAt.refl.setCell 4 _).setCell 6 _).setCell 7 _).setCell 9 _)
  replace HD4:=Lib.hid (rd_only15 hbS GF.out HD4.out)
  have GF2:Hid (Blk y1 gf #[.int .i64 zk,.int .i64 zs,.int .i64 zbo,.int .i64 zsq,.int .i64 zst,.int .i64 zds,.int .i64 zta,.int .i64 ztb,.int .i64 zwh,.int .i64 zwn,.int .i64 0,.int .i64 0,.int .i64 0,.int .i64 0,.int .i64 0] 193):=by rw [hy1];exact Blk.of_eq (((((GF.out.setCell_same 4 _).setCell_same 6 _).setCell_same 7 _).setCell_same 9 _)) (by simp)
  replace GF:=GF2
  replace HB:=Lib.hid (hbS.below HB.out (by rw [HB0.out];exact Nat.le_refl _) (by omega))
  clear GF2 hbS hne2 hne0 hy1 lf ff q4 q6 q7 q9
  refine Calls.mono (small_x g2 _ l 44 48 zx rfl hx.out (by have:=HL.out;omega) (by have:=HL.out;omega) _ G2.out HD4.out) ?_;rintro e x12 ⟨⟨v12,rfl,hG,hR⟩,ho⟩
  replace G2:=Lib.hid hG;replace HD4:=Lib.hid hR
  replace R0:=Lib.hid (ho.blk R0.out (by omega))
  replace GF:=Lib.hid (ho.blk GF.out (by omega))
  replace HB:=Lib.hid (ho.below HB.out (by rw [HB0.out];exact Nat.le_refl _) (by omega))
  clear ho hG hR
  go_wp2_with fail
  refine Calls.mono (small_x g2 _ l 48 52 zy rfl hy.out (by have:=HL.out;omega) (by have:=HL.out;omega) _ G2.out HD4.out) ?_;rintro e x13 ⟨⟨v13,rfl,hG,hR⟩,ho⟩
  replace G2:=Lib.hid hG;replace HD4:=Lib.hid hR
  replace R0:=Lib.hid (ho.blk R0.out (by omega))
  replace GF:=Lib.hid (ho.blk GF.out (by omega))
  replace HB:=Lib.hid (ho.below HB.out (by rw [HB0.out];exact Nat.le_refl _) (by omega))
  clear ho hG hR
  have lf:=GF.out.lt;have ff:=GF.out.frozen
  have q10:=GF.out.cell (i:=10) (v := .int .i64 0) rfl
  have q11:=GF.out.cell (i:=11) (v := .int .i64 0) rfl
  go_wp2_with fail
  refine name_calls ?_;intro y2 hy2
  have hne2:g2≠gf:=by omega
  have hne0:b0≠gf:=by omega
  replace G2:=(show Hid (Blk y2 g2 _ 341) by rw [hy2];exact ((G2.out.setCell_other hne2 _).setCell_other hne2 _))
  replace R0:=(show Hid (Blk y2 b0 #[.int .i64 0,.int .i64 0,.int .i64 0,.int .i64 0,.int .i64 0,.int .i64 0,.int .i64 0,.int .i64 0,.int .i64 0,.int .i64 0,.int .i64 0,.int .i64 0,.int .i64 0,.int .i64 0,.int .i64 0] 193) by rw [hy2];exact ((R0.out.setCell_other hne0 _).setCell_other hne0 _))
  have hbS:OnlyAt gf x13 y2:=by rw [hy2];exact ((OnlyAt.refl.setCell 10 _).setCell 11 _)
  replace HD4:=Lib.hid (rd_only15 hbS GF.out HD4.out)
  have GF2:Hid (Blk y2 gf #[.int .i64 zk,.int .i64 zs,.int .i64 zbo,.int .i64 zsq,.int .i64 zst,.int .i64 zds,.int .i64 zta,.int .i64 ztb,.int .i64 zwh,.int .i64 zwn,.int .i64 zx,.int .i64 zy,.int .i64 0,.int .i64 0,.int .i64 0] 193):=by rw [hy2];exact Blk.of_eq (((GF.out.setCell_same 10 _).setCell_same 11 _)) (by simp)
  replace GF:=GF2
  replace HB:=Lib.hid (hbS.below HB.out (by rw [HB0.out];exact Nat.le_refl _) (by omega))
  clear GF2 hbS hne2 hne0 hy2 lf ff q10 q11
  refine Calls.mono (take_x g2 _ l 52 8 60 za rfl ha.out (by decide) (by have:=HL.out;omega) (by have:=HL.out;omega) _ G2.out HD4.out) ?_;rintro e x14 ⟨⟨v14,rfl,hG,hR⟩,ho⟩
  replace G2:=Lib.hid hG;replace HD4:=Lib.hid hR
  replace R0:=Lib.hid (ho.blk R0.out (by omega))
  replace GF:=Lib.hid (ho.blk GF.out (by omega))
  replace HB:=Lib.hid (ho.below HB.out (by rw [HB0.out];exact Nat.le_refl _) (by omega))
  clear ho hG hR
  go_wp2_with fail
  refine Calls.mono (take_x g2 _ l 60 8 68 zbb rfl hbb.out (by decide) (by have:=HL.out;omega) (by have:=HL.out;omega) _ G2.out HD4.out) ?_;rintro e x15 ⟨⟨v15,rfl,hG,hR⟩,ho⟩
  replace G2:=Lib.hid hG;replace HD4:=Lib.hid hR
  replace R0:=Lib.hid (ho.blk R0.out (by omega))
  replace GF:=Lib.hid (ho.blk GF.out (by omega))
  replace HB:=Lib.hid (ho.below HB.out (by rw [HB0.out];exact Nat.le_refl _) (by omega))
  clear ho hG hR
  go_wp2_with fail
  refine Calls.mono (take_x g2 _ l 68 8 76 zd rfl hd.out (by decide) (by have:=HL.out;omega) (by have:=HL.out;omega) _ G2.out HD4.out) ?_;rintro e x16 ⟨⟨v16,rfl,hG,hR⟩,ho⟩
  replace G2:=Lib.hid hG;replace HD4:=Lib.hid hR
  replace R0:=Lib.hid (ho.blk R0.out (by omega))
  replace GF:=Lib.hid (ho.blk GF.out (by omega))
  replace HB:=Lib.hid (ho.below HB.out (by rw [HB0.out];exact Nat.le_refl _) (by omega))
  clear ho hG hR
  have lf:=GF.out.lt;have ff:=GF.out.frozen
  have q12:=GF.out.cell (i:=12) (v := .int .i64 0) rfl
  have q13:=GF.out.cell (i:=13) (v := .int .i64 0) rfl
  have q14:=GF.out.cell (i:=14) (v := .int .i64 0) rfl
  go_upto_region 14 with fail
  refine name_wp ?_;intro y3 hy3
  have hne2:g2≠gf:=by omega
  have hne0:b0≠gf:=by omega
  replace G2:=(show Hid (Blk y3 g2 _ 341) by rw [hy3];exact (((G2.out.setCell_other hne2 _).setCell_other hne2 _).setCell_other hne2 _))
  replace R0:=(show Hid (Blk y3 b0 #[.int .i64 0,.int .i64 0,.int .i64 0,.int .i64 0,.int .i64 0,.int .i64 0,.int .i64 0,.int .i64 0,.int .i64 0,.int .i64 0,.int .i64 0,.int .i64 0,.int .i64 0,.int .i64 0,.int .i64 0] 193) by rw [hy3];exact (((R0.out.setCell_other hne0 _).setCell_other hne0 _).setCell_other hne0 _))
  have hbS:OnlyAt gf x16 y3:=by rw [hy3];exact (((OnlyAt.refl.setCell 12 _).setCell 13 _).setCell 14 _)
  replace HD4:=Lib.hid (rd_only15 hbS GF.out HD4.out)
  have GF2:Hid (Blk y3 gf #[.int .i64 zk,.int .i64 zs,.int .i64 zbo,.int .i64 zsq,.int .i64 zst,.int .i64 zds,.int .i64 zta,.int .i64 ztb,.int .i64 zwh,.int .i64 zwn,.int .i64 zx,.int .i64 zy,.int .i64 za,.int .i64 zbb,.int .i64 zd] 193):=by rw [hy3];exact Blk.of_eq ((((GF.out.setCell_same 12 _).setCell_same 13 _).setCell_same 14 _)) (by simp)
  replace GF:=GF2
  replace HB:=Lib.hid (hbS.below HB.out (by rw [HB0.out];exact Nat.le_refl _) (by omega))
  clear GF2 hbS hne2 hne0 hy3 lf ff q12 q13 q14
  obtain ⟨RR,hRR⟩:∃ R:Array Value,R=#[.int .i64 zk,.int .i64 zs,.int .i64 zbo,.int .i64 zsq,.int .i64 zst,.int .i64 zds,.int .i64 zta,.int .i64 ztb,.int .i64 zwh,.int .i64 zwn,.int .i64 zx,.int .i64 zy,.int .i64 za,.int .i64 zbb,.int .i64 zd]:=⟨_,rfl⟩
  have rw2:y3.row? gf 0 15=some RR:=by rw [hRR];exact GF.out.row?_all 15 rfl
  have HR:=Lib.hid hRR
  clear hRR
  go_wp2_with fail
  rw [HR.out]
  refine Calls.mono (framemay_v ⟨zk,zs,zbo,zsq,zst,zds,zta,ztb,zwh,zwn,zx,zy,za,zbb,zd⟩ _ HM.out _) ?_;rintro e wd ⟨rfl,hb⟩
  rw [← HR.out]
  replace GF:=Lib.hid (GF.out.keep hb)
  have hl0:=R0.out.lt
  replace R0:=Lib.hid (R0.out.keep hb)
  replace HB:=Lib.hid (HB.out.trans (hb.mono (by omega)))
  clear hb rw2 hl0 G2 HD4
  have rw3:wd.row? gf 0 15=some RR:=by rw [HR.out];exact GF.out.row?_all 15 rfl
  have pt3:wd.put? b0 0 RR=some (wd.putRow b0 0 RR):=R0.out.put? 0 RR (by rw [HR.out];simp) (by rw [HR.out];exact ones15 _ _ _ _ _ _ _ _ _ _ _ _ _ _ _)
  have hsz3:RR.size=15:=by rw [HR.out];rfl
  have l0:=R0.out.lt;have l3:=GF.out.lt
  go_wp2_with fail
  exact bodyPost_row_t 15 RR (.int .i64 0) rfl rfl rfl rfl Tryz.underlying193 rfl (by kernel_rfl) (row_put pt3 (by rw [HR.out];rfl)) ⟨by rw [HR.out],by rw [← HB0.out];exact Below_putRow HB.out (Nat.le_refl _) _ _⟩
end Go.Proofs.YtechbdnhalmobaaGreatDoor
