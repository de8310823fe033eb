/- Memory: what may turn; maps of whatever values. -/
import Derived.Test.YtechbdnhalmobaaGreatDoorR1
import Derived.Maps.OwnSet
namespace Go.Proofs.YtechbdnhalmobaaGreatDoor
set_option linter.unusedSimpArgs false
set_option linter.unusedVariables false
open Go.RowKit Go.Maps
structure Turns (S:Nat→Prop) (w w':World):Prop where
 os:w'.os=w.os
 tape:w'.tape=w.tape
 output:w'.output=w.output
 size:w.heap.size≤w'.heap.size
 block:∀ k,k<w.heap.size→¬ S k→w'.heap[k]? = w.heap[k]?
def Sn (S:Nat→Prop) (w:World) (k:Nat):Prop:=S k∨w.heap.size≤k
section
variable {S S':Nat→Prop} {w w' w'':World}
theorem Turns.refl:Turns S w w:=⟨rfl,rfl,rfl,Nat.le_refl _,fun _ _ _=>rfl⟩
theorem Turns.of_below (h:Below w.heap.size w w'):Turns S w w':=⟨h.os,h.tape,h.output,h.size,fun k hk _=>h.block k hk⟩
theorem Turns.of_only {g:Nat} (h:OnlyAt g w w') (hg:Sn S w g):Turns S w w' :=
 ⟨h.os,h.tape,h.output,h.size,fun k hk hs=>h.block k hk (fun e=>by subst e;rcases hg with h1|h1;exact hs h1;omega)⟩
theorem Turns.trans (h:Turns S w w') (h':Turns S' w' w'') (hs:∀ k,k<w.heap.size→S' k→S k):Turns S w w'' :=
 ⟨h'.os.trans h.os,h'.tape.trans h.tape,h'.output.trans h.output,Nat.le_trans h.size h'.size,fun k hk hg=>(h'.block k (Nat.lt_of_lt_of_le hk h.size) (fun e=>hg (hs k hk e))).trans (h.block k hk hg)⟩
theorem Turns.mono (h:Turns S w w') (hs:∀ k,k<w.heap.size→S k→S' k):Turns S' w w':=⟨h.os,h.tape,h.output,h.size,fun k hk hg=>h.block k hk (fun e=>hg (hs k hk e))⟩
theorem Turns.then_below (h:Turns S w w') (h':Below w'.heap.size w' w''):Turns S w w'':=h.trans (Turns.of_below (S:=S) h') (fun _ _ a=>a)
theorem Turns.then_only {g:Nat} (h:Turns S w w') (h':OnlyAt g w' w'') (hg:Sn S w g):Turns S w w'' :=
 h.trans (S':=fun k=>k=g) ⟨h'.os,h'.tape,h'.output,h'.size,fun k hk hs=>h'.block k hk hs⟩ (fun k hk e=>by subst e;rcases hg with h1|h1;exact h1;omega)
theorem Turns.alloc (h:Turns S w w') (o:Obj):Turns S w (w'.alloc o):=h.then_below ((Below.refl _ _).alloc (Nat.le_refl _) _)
theorem Turns.drew (h:Turns S w w'):Turns S w w'.drew:=⟨h.os,h.tape,h.output,h.size,h.block⟩
theorem Turns.setCell (h:Turns S w w') {g:Nat} (hg:Sn S w g) (i:Nat) (v:Value):Turns S w (w'.setCell ⟨g,i,none⟩ v):=h.then_only (OnlyAt.refl.setCell i v) hg
theorem Turns.blk (h:Turns S w w') {b:Nat} {c:Array Value} {t:TypeId} (hb:Blk w b c t) (hs:¬ S b):Blk w' b c t:=(h.block b hb.lt hs).trans hb
theorem Turns.below {B:Nat} {w0:World} (h:Turns S w w') (hb:Below B w0 w) (hB:B≤w0.heap.size) (hS:∀ k,S k→B≤k):Below B w0 w' :=
 ⟨h.os.trans hb.os,h.tape.trans hb.tape,h.output.trans hb.output,Nat.le_trans hb.size h.size,fun k hk=>(h.block k (by have:=hb.size;omega) (fun e=>by have:=hS k e;omega)).trans (hb.block k hk)⟩
end
/- maps -/
def heldE (v:Value):Option (DataW Value × List MemPlace):=some (.held v,[])
def mapD (m:List (Int × Value)):DataW Value := .map (m.map fun p=>(.int .i64 p.1,.held p.2))
theorem mapD_has (m:List (Int × Value)) (k:Int):Maps.has (mapD m) (.int .i64 k)=(lk m k).isSome:=by
 unfold mapD lk
 rw [Maps.has_eq,List.any_map,Option.isSome_map,List.isSome_find?]
 congr 1
 funext p;simp [Lit.sameKey]
theorem mapD_at (m:List (Int × Value)) (k:Int) (z:Value):(mapD m).atKey (.int .i64 k) (.held z) = .held ((lk m k).getD z):=by
 unfold mapD DataW.atKey lk
 simp only
 rw [List.find?_map]
 have e:((fun p:Lit × DataW Value=>p.1.sameKey (.int .i64 k)) ∘ fun p:Int × Value=>((.int .i64 p.1:Lit),(.held p.2:DataW Value)))=fun p=>decide (p.1=k):=by funext p;simp [Lit.sameKey]
 rw [e]
 cases m.find? (fun p=>decide (p.1=k)) <;> rfl
theorem mapD_del (m:List (Int × Value)) (k:Int):(mapD m).del (.int .i64 k)=mapD (del m k):=by
 unfold mapD DataW.del del
 simp only
 rw [List.filter_map]
 congr 2
 congr 1
 funext p;simp [Lit.sameKey]
theorem mapD_insS (x:Int × Value):∀ m:List (Int × Value),DataW.insert ((.int .i64 x.1:Lit),(.held x.2:DataW Value)) (m.map fun p=>(.int .i64 p.1,.held p.2))=(insS x m).map fun p=>(.int .i64 p.1,.held p.2)
 | []=>rfl
 | y :: r=>by
  simp only [List.map_cons,DataW.insert,insS,Lit.before]
  by_cases h:x.1<y.1
  ·simp [h]
  ·simp [h,mapD_insS x r]
theorem mapD_put (m:List (Int × Value)) (k:Int) (v:Value):(mapD m).put (.int .i64 k) (.held v)=mapD (ins m k v):=by
 have h:=mapD_del m k
 unfold mapD DataW.del at h
 simp only [DataW.map.injEq] at h
 unfold mapD DataW.put ins
 simp only
 rw [h]
 exact congrArg DataW.map (mapD_insS (k,v) _)
def MapAt (w:World) (b:Nat) (m:List (Int × Value)):Prop:=w.ownsMap Tryz.prog 3 heldE b m.length (mapD m)
theorem MapAt.of_owns {w:World} {b n:Nat} {m:List (Int × Value)} (h:w.ownsMap Tryz.prog 3 heldE b n (mapD m)):MapAt w b m:=by
 obtain ⟨es,clock,hb,F,hs,hD⟩:=h
 refine ⟨es,clock,hb,F,?_,hD⟩
 unfold mapD at hD
 simp only [DataW.map.injEq] at hD
 have:=congrArg List.length hD
 rw [length_sorted] at this
 simp at this
 omega
theorem MapAt.new (w:World):MapAt (w.alloc (.map #[] 0)) w.heap.size []:=World.ownsMap_made _ _ _ _
section
variable {w w':World} {b:Nat} {m:List (Int × Value)} (h:MapAt w b m)
include h
theorem MapAt.lt:b<w.heap.size:=World.ownsMap.lt h
theorem MapAt.kept (hb:w'.heap[b]? = w.heap[b]?):MapAt w' b m:=by
 obtain ⟨es,clock,h1,F,hs,hD⟩:=h
 exact ⟨es,clock,hb.trans h1,F,hs,hD⟩
theorem MapAt.below (hb:Below w.heap.size w w'):MapAt w' b m:=MapAt.kept h (hb.block b (MapAt.lt h))
theorem MapAt.only {g:Nat} (ho:OnlyAt g w w') (hne:b≠g):MapAt w' b m:=MapAt.kept h (ho.block b (MapAt.lt h) hne)
theorem MapAt.turns {S:Nat→Prop} (ho:Turns S w w') (hne:¬ S b):MapAt w' b m:=MapAt.kept h (ho.block b (MapAt.lt h) hne)
theorem MapAt.ne {g:Nat} {c:Array Value} {t:TypeId} (hb:Blk w g c t):b≠g:=by
 obtain ⟨es,clock,h1,_⟩:=h
 intro e;subst e
 unfold Blk at hb
 rw [h1] at hb;cases hb
end
/- what may turn, by the types of blocks -/
def OfT (ty:List TypeId) (mp:Bool) (w:World) (k:Nat):Prop :=
 (∀ c t f,w.heap[k]? = some (.cells c t f)→t ∈ ty)∧(∀ es cl,w.heap[k]? = some (.map es cl)→mp=true)
def TurnsT (S:Nat→Prop) (ty:List TypeId) (mp:Bool) (w w':World):Prop:=Turns (fun k=>S k∧OfT ty mp w k) w w'
theorem OfT.same {ty:List TypeId} {mp:Bool} {w w':World} {k:Nat} (h:OfT ty mp w' k) (e:w'.heap[k]? = w.heap[k]?):OfT ty mp w k:=by
 unfold OfT at h ⊢;rw [e] at h;exact h
theorem OfT.blk {ty:List TypeId} {mp:Bool} {w:World} {k:Nat} {c:Array Value} {t:TypeId} (h:Blk w k c t) (ht:t ∈ ty):OfT ty mp w k:=by
 unfold Blk at h
 refine ⟨fun c' t' f' e=>?_,fun es cl e=>?_⟩
 ·rw [h] at e;cases e;exact ht
 ·rw [h] at e;cases e
section
variable {S S':Nat→Prop} {ty ty':List TypeId} {mp mp':Bool} {w w' w'':World}
theorem TurnsT.refl:TurnsT S ty mp w w:=Turns.refl
theorem TurnsT.of_below (h:Below w.heap.size w w'):TurnsT S ty mp w w':=Turns.of_below h
theorem TurnsT.of_only {g:Nat} {c:Array Value} {t:TypeId} (h:OnlyAt g w w') (hb:Blk w g c t) (ht:t ∈ ty) (hg:S g):TurnsT S ty mp w w':=Turns.of_only h (.inl ⟨hg,OfT.blk hb ht⟩)
theorem TurnsT.trans (h:TurnsT S ty mp w w') (h':TurnsT S' ty mp w' w'') (hS:∀ k,k<w.heap.size→S' k→S k):TurnsT S ty mp w w'':=by
 refine ⟨h'.os.trans h.os,h'.tape.trans h.tape,h'.output.trans h.output,Nat.le_trans h.size h'.size,fun k hk hn=>?_⟩
 have e1:=h.block k hk hn
 refine (h'.block k (Nat.lt_of_lt_of_le hk h.size) ?_).trans e1
 rintro ⟨a,b⟩
 exact hn ⟨hS k hk a,b.same e1⟩
theorem TurnsT.mono (h:TurnsT S ty mp w w') (hS:∀ k,k<w.heap.size→S k→S' k) (ht:∀ t,t ∈ ty→t ∈ ty') (hm:mp=true→mp'=true):TurnsT S' ty' mp' w w' :=
 Turns.mono h (fun k hk ⟨a,b,c⟩=>⟨hS k hk a,fun c' t' f' e=>ht _ (b c' t' f' e),fun es cl e=>hm (c es cl e)⟩)
theorem TurnsT.turns (h:TurnsT S ty mp w w'):Turns S w w':=Turns.mono h (fun _ _ a=>a.1)
theorem TurnsT.blk (h:TurnsT S ty mp w w') {b:Nat} {c:Array Value} {t:TypeId} (hb:Blk w b c t) (ht:t ∉ ty):Blk w' b c t :=
 Turns.blk h hb (fun ⟨_,a,_⟩=>ht (a c t _ hb))
theorem TurnsT.map (h:TurnsT S ty false w w') {b:Nat} {m:List (Int × Value)} (hb:MapAt w b m):MapAt w' b m:=by
 refine MapAt.turns hb h (fun ⟨_,_,a⟩=>?_)
 obtain ⟨es,clock,h1,_⟩:=hb
 exact absurd (a es clock h1) (by decide)
end
/- lists of entries -/
section
variable {α β:Type}
theorem lk_map (f:Int → α → β) (m:List (Int × α)) (k:Int):lk (m.map fun p=>(p.1,f p.1 p.2)) k=(lk m k).map (f k):=by
 induction m with
 | nil=>rfl
 | cons y r ih =>
  unfold lk at ih ⊢
  by_cases h:y.1=k
  ·simp [List.find?_cons,h]
  ·simp only [List.map_cons,List.find?_cons,h,decide_false];exact ih
theorem del_map (f:Int → α → β) (m:List (Int × α)) (k:Int):del (m.map fun p=>(p.1,f p.1 p.2)) k=(del m k).map fun p=>(p.1,f p.1 p.2):=by
 unfold del;rw [List.filter_map];rfl
theorem insS_map (f:Int → α → β) (x:Int × α):∀ m:List (Int × α),insS (x.1,f x.1 x.2) (m.map fun p=>(p.1,f p.1 p.2))=(insS x m).map fun p=>(p.1,f p.1 p.2)
 | []=>rfl
 | y :: r=>by
  simp only [List.map_cons,insS]
  by_cases h:x.1<y.1
  ·simp [h]
  ·simp [h,insS_map f x r]
theorem ins_map (f:Int → α → β) (m:List (Int × α)) (k:Int) (v : α):ins (m.map fun p=>(p.1,f p.1 p.2)) k (f k v)=(ins m k v).map fun p=>(p.1,f p.1 p.2):=by
 unfold ins;rw [del_map];exact insS_map f (k,v) _
theorem mem_insS {x q:Int × α} : ∀ {m:List (Int × α)},q ∈ insS x m↔q=x∨q ∈ m
 | []=>by simp [insS]
 | y :: r=>by
  unfold insS
  split
  ·simp
  ·simp only [List.mem_cons,mem_insS (m:=r)]
   constructor
   ·rintro (h|h|h) <;> simp [h]
   ·rintro (h|h|h) <;> simp [h]
theorem mem_del {q:Int × α} {m:List (Int × α)} {k:Int} : q ∈ del m k↔q ∈ m∧q.1≠k:=by simp [del]
theorem mem_ins {q:Int × α} {m:List (Int × α)} {k:Int} {v : α} : q ∈ ins m k v↔q=(k,v)∨(q ∈ m∧q.1≠k):=by
 unfold ins;rw [mem_insS,mem_del]
end
theorem lawInt:Keyed Tryz.prog 3:=int_keyed Tryz.underlying3
theorem key_int {k:Int} (h : -9223372036854775808≤k∧k≤9223372036854775807):keyOf Tryz.prog 3 (.int .i64 k)=some (.int .i64 k):=keyOf_int_mk Tryz.underlying3 (WalkArith.wf_i64 h)
theorem held_inv {v:Value} {d:DataW Value} {ps:List MemPlace} (h:heldE v=some (d,ps)):d = .held v:=by
 unfold heldE at h;injection h with h;injection h with h1 h2;exact h1.symm
section
variable {w:World} {ops:Array Oper} {rest:List Oper} {o:Oper} {a:Act} {Q:Exit→Act→World→Prop}
theorem wpList_lookM (hg:o.guard=none) (m x:Operand) (t e:TypeId) (hop:o.op=Op.lookup t m x true) (ht:Tryz.prog.underlying t=some (.map 3 e)) (z:Value) (hz:∀ w,(zeroValue e).run Tryz.prog w = .ok z w)
  (b:Nat) (M:List (Int × Value)) (hm:a.eval m = .map (some b)) (hM:MapAt w b M) (k:Int) (hx:a.eval x = .int .i64 k) (hk : -9223372036854775808≤k∧k≤9223372036854775807) (r:Option Value) (hr:lk M k=r)
  (hK:wpList Tryz.prog ops Q rest (a.put o.dst (.tuple #[r.getD z,.bool r.isSome])) w):wpList Tryz.prog ops Q (o :: rest) a w:=by
 refine wpList_lookup_own_ok w hg m x t hop 3 e lawInt ht heldE (hz w) (.held z) [] rfl b M.length (mapD M) hm hM _ _ hx (key_int hk) ?_
 intro v ps hv
 have h1:=held_inv hv
 rw [mapD_at,DataW.held.injEq] at h1
 rw [mapD_has,← h1,hr]
 exact hK
theorem wpList_lookN (hg:o.guard=none) (m x:Operand) (t e:TypeId) (hop:o.op=Op.lookup t m x false) (ht:Tryz.prog.underlying t=some (.map 3 e)) (z:Value) (hz:∀ w,(zeroValue e).run Tryz.prog w = .ok z w)
  (b:Nat) (M:List (Int × Value)) (hm:a.eval m = .map (some b)) (hM:MapAt w b M) (k:Int) (hx:a.eval x = .int .i64 k) (hk : -9223372036854775808≤k∧k≤9223372036854775807) (r:Option Value) (hr:lk M k=r)
  (hK:wpList Tryz.prog ops Q rest (a.put o.dst (r.getD z)) w):wpList Tryz.prog ops Q (o :: rest) a w:=by
 refine wpList_plain hg fun K' hK'=>?_
 obtain ⟨v,ps,hrun,hv⟩:=World.ownsMap.lookup hM lawInt ht (hz w) (zd := .held z) (zp:=[]) rfl (key_int hk)
 have h1:=held_inv hv
 rw [mapD_at,DataW.held.injEq,hr] at h1
 subst h1
 unfold Oper.wp
 simp [execOp,hop,hm,hx,hrun,Result.andThen]
 exact hK' _ _ hK
end
theorem MapAt.store_run {w:World} {b:Nat} {M:List (Int × Value)} (h:MapAt w b M) (t e:TypeId) (ht:Tryz.prog.underlying t=some (.map 3 e)) (hn:M.length<maxLen) (k:Int) (hk : -9223372036854775808≤k∧k≤9223372036854775807) (val:Value) :
  ∃ w',(Instr.mapUpdate t (.map (some b)) (.int .i64 k) val).run Tryz.prog w.drew = .ok () w'∧MapAt w' b (ins M k val)∧OnlyAt b w w':=by
 have hd:MapAt w.drew b M:=h
 obtain ⟨w',hr,ho,ht'⟩:=World.ownsMap.store hd lawInt ht hn (key_int hk) (val:=val) (d := .held val) (ps:=[]) rfl
 rw [mapD_put] at ho
 have g:=ht'.grown
 exact ⟨w',hr,MapAt.of_owns ho,⟨g.os,g.tape,g.output,g.size,fun k hk hs=>g.block k hk (fun e=>hs (by injection e))⟩⟩
/- entries: rows of ten cells -/
abbrev entC (x:EntD):Array Value:=#[.int .i64 x.node,.int .i64 x.boot,.int .i64 x.heard,.bool x.has,.int .i64 x.e.x,.int .i64 x.e.y,.int .i64 x.e.a,.int .i64 x.e.b,.int .i64 x.e.d,.int .i64 x.when]
abbrev entV (x:EntD):Value := .agg (entC x)
@[go_sem ↓] theorem lcf_10 (P : Program) (w : World) (b o : Nat) : (loadCellsFrom ⟨b, o, none⟩ 0 10 #[]).run P w = rowResA (w.row? b o 10) w (lcf P b o 10 w) := lcf_row? w b o 10
@[go_sem ↓] theorem scf_10 (P : Program) (w : World) (b o : Nat) (a0 a1 a2 a3 a4 a5 a6 a7 a8 a9 : Value) :
    (storeCells ⟨b,o,none⟩ [a0,a1,a2,a3,a4,a5,a6,a7,a8,a9]).run P w=putRes (w.put? b o #[a0,a1,a2,a3,a4,a5,a6,a7,a8,a9]) (scf P b o #[a0,a1,a2,a3,a4,a5,a6,a7,a8,a9] w):=scf_put? w b o _
@[go_sem] theorem ones_ent (a0 a1 a2 a4 a5 a6 a7 a8 a9 : Int) (a3 : Bool) : ones #[.int .i64 a0, .int .i64 a1, .int .i64 a2, .bool a3, .int .i64 a4, .int .i64 a5, .int .i64 a6, .int .i64 a7, .int .i64 a8, .int .i64 a9] = true := by
  unfold ones
  simp [Array.all_eq_true_iff_forall_mem,Value.oneCell']
@[go_sem] theorem splice_10 (a0 a1 a2 a3 a4 a5 a6 a7 a8 a9 b0 b1 b2 b3 b4 b5 b6 b7 b8 b9 : Value) : splice #[a0, a1, a2, a3, a4, a5, a6, a7, a8, a9] 0 #[b0, b1, b2, b3, b4, b5, b6, b7, b8, b9] = #[b0, b1, b2, b3, b4, b5, b6, b7, b8, b9] := splice_all _ _ rfl
theorem zeroEnt (w:World):(zeroValue 99).run Tryz.prog w = .ok (entV .zero) w:=by kernel_rfl
/- lives -/
abbrev winC (w:WinD):Array Value:=#[.bool w.any,.int .i64 w.last,.int .u64 (w.seen:Int)]
abbrev lifV (b:Nat) (l:LifD):Value := .agg #[.int .i64 l.boot,.bool l.left,.pointer (some ⟨b,0,none⟩)]
theorem zeroLif (w:World):(zeroValue 344).run Tryz.prog w = .ok (.agg #[.int .i64 0,.bool false,.pointer none]) w:=by kernel_rfl
structure TLay where
 me:Nat
 ml:Nat
 wb:Int→Nat
structure TabAt (S:Nat→Prop) (w:World) (g:Nat) (L:TLay) (t:TabD):Prop where
 blk:Blk w g #[.int .i64 t.most,.map (some L.me),.map (some L.ml)] 128
 me:MapAt w L.me (t.ents.map fun p=>(p.1,entV p.2))
 ml:MapAt w L.ml (t.lives.map fun p=>(p.1,lifV (L.wb p.1) p.2))
 ne:L.me≠L.ml
 sg:S g
 sm:S L.me
 sl:S L.ml
 win:∀ p ∈ t.lives,Blk w (L.wb p.1) (winC p.2.w) 375∧S (L.wb p.1)
 inj:∀ p ∈ t.lives,∀ q ∈ t.lives,L.wb p.1=L.wb q.1→p.1=q.1
structure TabOK (t:TabD):Prop where
 most:1≤t.most∧t.most≤64
 ents:∀ p ∈ t.ents,p.2.node=p.1∧0≤p.1∧p.1<64∧0≤p.2.boot∧p.2.boot≤65535∧0≤p.2.heard∧p.2.heard≤1000000∧(p.2.has=true→p.2.e.may=true)∧0≤p.2.when∧p.2.when≤1000000
 lives:∀ p ∈ t.lives,0≤p.1∧p.1<64∧0≤p.2.boot∧p.2.boot≤65535∧0≤p.2.w.last∧p.2.w.last≤65535∧p.2.w.seen<18446744073709551616
 asc:t.ents.Pairwise (fun p q=>p.1<q.1)
 lasc:t.lives.Pairwise (fun p q=>p.1<q.1)
section
variable {S S':Nat→Prop} {w w':World} {g:Nat} {L:TLay} {t:TabD}
theorem TabAt.kept (h:TabAt S w g L t) (hb:∀ k,k<w.heap.size→S k→w'.heap[k]? = w.heap[k]?) (hS:∀ k,k<w.heap.size→S k→S' k):TabAt S' w' g L t :=
 ⟨(hb g h.blk.lt h.sg).trans h.blk,h.me.kept (hb _ h.me.lt h.sm),h.ml.kept (hb _ h.ml.lt h.sl),h.ne,hS _ h.blk.lt h.sg,hS _ h.me.lt h.sm,hS _ h.ml.lt h.sl,
  fun p hp=>⟨(hb _ (h.win p hp).1.lt (h.win p hp).2).trans (h.win p hp).1,hS _ (h.win p hp).1.lt (h.win p hp).2⟩,h.inj⟩
theorem TabAt.below (h:TabAt S w g L t) (hb:Below w.heap.size w w'):TabAt S w' g L t:=h.kept (fun k hk _=>hb.block k hk) (fun _ _ a=>a)
theorem TabAt.turnsT {R:Nat→Prop} {ty:List TypeId} (h:TabAt S w g L t) (hb:TurnsT R ty false w w') (h1:128 ∉ ty) (h2:375 ∉ ty):TabAt S w' g L t :=
 ⟨hb.blk h.blk h1,hb.map h.me,hb.map h.ml,h.ne,h.sg,h.sm,h.sl,fun p hp=>⟨hb.blk (h.win p hp).1 h2,(h.win p hp).2⟩,h.inj⟩
theorem TabAt.only {k:Nat} {c:Array Value} {ty:TypeId} (h:TabAt S w g L t) (ho:OnlyAt k w w') (hk:Blk w k c ty) (h1:128≠ty) (h2:375≠ty):TabAt S w' g L t :=
 h.turnsT (R:=fun _=>True) (ty:=[ty]) (TurnsT.of_only ho hk (by simp) trivial) (by simpa using h1) (by simpa using h2)
end
theorem name_then {K:Act→World→Prop} {Q:Exit→Act→World→Prop} {e:Exit} {a:Act} {W:World} (h:∀ u,u=W→Exit.then K Q e a u):Exit.then K Q e a W:=h W rfl
section
variable {S:Nat→Prop} {w w':World} {g:Nat} {L:TLay} {t:TabD}
theorem TabAt.set_ents (h:TabAt S w g L t) (ho:OnlyAt L.me w w') {es:List (Int × EntD)} (hm:MapAt w' L.me (es.map fun p=>(p.1,entV p.2))):TabAt S w' g L { t with ents:=es } :=
 ⟨ho.blk h.blk (Ne.symm (h.me.ne h.blk)),hm,h.ml.only ho (Ne.symm h.ne),h.ne,h.sg,h.sm,h.sl,fun p hp=>⟨ho.blk (h.win p hp).1 (Ne.symm (h.me.ne (h.win p hp).1)),(h.win p hp).2⟩,h.inj⟩
theorem ents_ins (es:List (Int × EntD)) (k:Int) (v:EntD):ins (es.map fun p=>(p.1,entV p.2)) k (entV v)=(ins es k v).map fun p=>(p.1,entV p.2):=ins_map (fun _ x=>entV x) es k v
theorem ents_del (es:List (Int × EntD)) (k:Int):del (es.map fun p=>(p.1,entV p.2)) k=(del es k).map fun p=>(p.1,entV p.2):=del_map (fun _ x=>entV x) es k
theorem TabAt.store (h:TabAt S w g L t) (n:Int) (hn : -9223372036854775808≤n∧n≤9223372036854775807) (hl:t.ents.length≤64) (v:EntD) :
  ∃ w',(Instr.mapUpdate 125 (.map (some L.me)) (.int .i64 n) (entV v)).run Tryz.prog w.drew = .ok () w'∧OnlyAt L.me w w'∧TabAt S w' g L { t with ents:=ins t.ents n v }:=by
 obtain ⟨w',h1,h2,h3⟩:=h.me.store_run 125 99 Tryz.underlying125 (by simp [maxLen];omega) n hn (entV v)
 rw [ents_ins] at h2
 exact ⟨w',h1,h3,h.set_ents h3 h2⟩
end
end Go.Proofs.YtechbdnhalmobaaGreatDoor
