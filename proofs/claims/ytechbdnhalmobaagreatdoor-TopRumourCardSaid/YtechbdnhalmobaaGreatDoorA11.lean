/- Nodes in memory; a node sends. -/
import Derived.Test.YtechbdnhalmobaaGreatDoorA10
import Derived.Test.YtechbdnhalmobaaGreatDoorAb
import Derived.Deep.RegionLaw
import Derived.BigRegion
import Derived.StillTailTactics
import Derived.WalkMore
namespace Go.Proofs.YtechbdnhalmobaaGreatDoor
set_option linter.unusedSimpArgs false
set_option linter.unusedVariables false
set_option maxRecDepth 100000
set_option maxHeartbeats 16000000
open Go.RowKit Go.Maps
abbrev ptr (g:Nat):Value := .pointer (some ⟨g,0,none⟩)
structure NLay where
 f:Nat
 t:Nat
 b:Nat
 tm:Nat
 s:Nat→Nat
 T:TLay
abbrev cfgL (c:Cfg):List Value:=[.int .i64 c.nodes,.int .i64 c.table,.int .i64 c.speed,.int .i64 c.err,.int .i64 c.skew,.int .i64 c.drift,.int .i64 c.stale,.int .i64 c.silent,.int .i64 c.every,.int .i64 c.rate,.int .i64 c.cap]
abbrev cfgV (c:Cfg):Value := .agg #[.int .i64 c.nodes,.int .i64 c.table,.int .i64 c.speed,.int .i64 c.err,.int .i64 c.skew,.int .i64 c.drift,.int .i64 c.stale,.int .i64 c.silent,.int .i64 c.every,.int .i64 c.rate,.int .i64 c.cap]
def nodeC (L:NLay) (n:NodeD):Array Value :=
 (cfgL n.c ++ [.int .i64 n.id,.int .i64 n.boot,ptr L.f,ptr L.t]++((List.range 64).map fun i=>ptr (L.s i)) ++ [ptr L.b,ptr L.tm,.int .i64 n.seq,.int .i64 n.told,.int .i64 n.asked,.int .i64 n.bad]).toArray
structure NodeAt (S:Nat→Prop) (w:World) (g:Nat) (L:NLay) (n:NodeD):Prop where
 blk:Blk w g (nodeC L n) 81
 sg:S g
 f:Blk w L.f (flt n.cap n.fv n.fe.x n.fe.y n.fe.a n.fe.b n.fe.d) 119
 sf:S L.f
 t:TabAt S w L.t L.T n.t
 s:∀ i,i<64→Blk w (L.s i) (sesC (n.s i)) 245∧S (L.s i)
 si:∀ i j,i<64→j<64→L.s i=L.s j→i=j
 b:Blk w L.b (bukC n.b) 239
 sb:S L.b
 tm:Blk w L.tm (timC n.tm) 241
 stm:S L.tm
structure NodeOK (n:NodeD):Prop where
 c:n.c.may=true
 id:0≤n.id∧n.id<64
 boot:0≤n.boot∧n.boot≤65535
 seq:0≤n.seq∧n.seq≤65535
 bad:0≤n.bad∧n.bad≤1000000
 t:TabOK n.t
 b:0≤n.b.left∧n.b.left≤1000∧0≤n.b.n∧n.b.n≤1000
 tm:1≤n.tm.every∧n.tm.every≤1000000
 fe:n.fv=true→n.fe.may=true
/- frames that are sent -/
abbrev frL' (f:FrD):List Value:=[.int .i64 f.kind,.int .i64 f.src,.int .i64 f.boot,.int .i64 f.seq,.int .i64 f.stamp,.int .i64 f.dst,.int .i64 f.t1,.int .i64 f.t2,.int .i64 f.who,.int .i64 f.when,.int .i64 f.x,.int .i64 f.y,.int .i64 f.a,.int .i64 f.b,.int .i64 f.d]
abbrev outL (o:OutD):List Value:=frL' o.1 ++ [.int .i64 o.2]
structure SndAt (S:Nat→Prop) (w:World) (s g:Nat) (now fine:Int) (l:List OutD):Prop where
 ex:∃ v B,Blk w s #[ptr g,.int .i64 now,.int .i64 fine,v] 203∧w.ownsRow B 195 16 v l.length (l.flatMap outL)∧B≤w.heap.size∧∀ k,B≤k→S k
 ss:S s
theorem step_append_own {P:Program} {ops:Array Oper} {o:Oper} {a:Act} {w:World} {K:Act→World→Prop} {Q:Exit→Act→World→Prop} {E:Prop} (hg:o.guard=none) (s x:Operand) (t:TypeId)
  (ho:o.op = .call { callee := .builtin .append,args:=#[s,x],argTypes:=#[t,t] })
  (base:Nat) (e:TypeId) (i:TypeInfo) (z:Value) (size bytes:Nat) (ht:P.underlying t=some (.slice e)) (hi:P.info? e=some i) (hz:i.zero=some z)
  (hsize:i.size=size) (hby:i.bytes=bytes) (hzs:z.cells.size=size) (hsz:0<size)
  (v:Value) (n:Nat) (xs:List Value) (hs:a.eval s=v) (hown:w.ownsRow base e size v n xs)
  (ad:Addr) (m c:Nat) (news:List Value) (hx:a.eval x = .slice (some ad) m c) (hl:news.length=m*size) (hnews:∀ j u,news[j]? = some u→w.cell? (ad.add j)=some u) (h1:∀ u ∈ news,u.oneCell'=true)
  (h63:n+m≤maxLen) (hbytes:(n+m)*bytes≤140737488355328) (hbase:base≤w.heap.size)
  (h:∀ v' w',w'.ownsRow base e size v' (n+m) (xs++news)→w.grownBy w' v.ownBlock→(v' = .slice none 0 0↔v = .slice none 0 0∧m=0)→K (a.put o.dst v') w') :
  if Region.wanted o (yielded ops a.tmps)=true then Oper.wp P o a w K Q else E:=by
 rw [if_pos (by simp [Region.wanted,hg])]
 exact wp_append_own w s x t ho base e i z size bytes ht hi hz hsize hby hzs hsz v n xs hs hown ad m c news hx hl hnews h1 h63 hbytes hbase h
theorem infoOut:(Tryz.prog.info? 195).map (fun i=>(i.zero,i.size,i.bytes))=some (some (.agg #[.int .i64 0,.int .i64 0,.int .i64 0,.int .i64 0,.int .i64 0,.int .i64 0,.int .i64 0,.int .i64 0,.int .i64 0,.int .i64 0,.int .i64 0,.int .i64 0,.int .i64 0,.int .i64 0,.int .i64 0,.int .i64 0]),16,128):=by kernel_rfl
section
variable {S:Nat→Prop} {w w':World} {g:Nat} {L:NLay} {n:NodeD}
theorem NodeAt.turnsT {R:Nat→Prop} {ty:List TypeId} (h:NodeAt S w g L n) (hb:TurnsT R ty false w w') (h1:81 ∉ ty) (h2:119 ∉ ty) (h3:128 ∉ ty) (h4:375 ∉ ty) (h5:245 ∉ ty) (h6:239 ∉ ty) (h7:241 ∉ ty):NodeAt S w' g L n :=
 ⟨hb.blk h.blk h1,h.sg,hb.blk h.f h2,h.sf,h.t.turnsT hb h3 h4,fun i hi=>⟨hb.blk (h.s i hi).1 h5,(h.s i hi).2⟩,h.si,hb.blk h.b h6,h.sb,hb.blk h.tm h7,h.stm⟩
theorem NodeAt.below (h:NodeAt S w g L n) (hb:Below w.heap.size w w'):NodeAt S w' g L n :=
 ⟨h.blk.keep hb,h.sg,h.f.keep hb,h.sf,h.t.below hb,fun i hi=>⟨(h.s i hi).1.keep hb,(h.s i hi).2⟩,h.si,h.b.keep hb,h.sb,h.tm.keep hb,h.stm⟩
theorem NodeAt.set_b (h:NodeAt S w g L n) (ho:OnlyAt L.b w w') {b:BukD} (hb:Blk w' L.b (bukC b) 239):NodeAt S w' g L { n with b:=b } :=
 have K {k:Nat} {c:Array Value} {t:TypeId} (hk:Blk w k c t) (ht:t≠239):Blk w' k c t:=ho.blk hk (Blk.ne hk h.b ht)
 ⟨K h.blk (by decide),h.sg,K h.f (by decide),h.sf,h.t.only ho h.b (by decide) (by decide),fun i hi=>⟨K (h.s i hi).1 (by decide),(h.s i hi).2⟩,h.si,hb,h.sb,K h.tm (by decide),h.stm⟩
theorem NodeAt.set_g (h:NodeAt S w g L n) (ho:OnlyAt g w w') {m:NodeD} (hb:Blk w' g (nodeC L m) 81) (e1:m.cap=n.cap) (e2:m.fv=n.fv) (e3:m.fe=n.fe) (e4:m.t=n.t) (e5:m.s=n.s) (e6:m.b=n.b) (e7:m.tm=n.tm):NodeAt S w' g L m :=
 have K {k:Nat} {c:Array Value} {t:TypeId} (hk:Blk w k c t) (ht:t≠81):Blk w' k c t:=ho.blk hk (Blk.ne hk h.blk ht)
 ⟨hb,h.sg,by rw [e1,e2,e3];exact K h.f (by decide),h.sf,by rw [e4];exact h.t.only ho h.blk (by decide) (by decide),fun i hi=>⟨by rw [e5];exact K (h.s i hi).1 (by decide),(h.s i hi).2⟩,h.si,by rw [e6];exact K h.b (by decide),h.sb,by rw [e7];exact K h.tm (by decide),h.stm⟩
end
theorem nodeC_seq (L:NLay) (n:NodeD) (v:Int):(nodeC L n).setIfInBounds 81 (.int .i64 v)=nodeC L { n with seq:=v }:=by rfl
theorem node_cells {w:World} {g:Nat} {L:NLay} {n:NodeD} (h:Blk w g (nodeC L n) 81) :
  w.cell? ⟨g,2,none⟩=some (.int .i64 n.c.speed)∧w.cell? ⟨g,3,none⟩=some (.int .i64 n.c.err)∧w.cell? ⟨g,4,none⟩=some (.int .i64 n.c.skew)∧w.cell? ⟨g,5,none⟩=some (.int .i64 n.c.drift)∧w.cell? ⟨g,6,none⟩=some (.int .i64 n.c.stale)∧w.cell? ⟨g,7,none⟩=some (.int .i64 n.c.silent) ∧
  w.cell? ⟨g,11,none⟩=some (.int .i64 n.id)∧w.cell? ⟨g,12,none⟩=some (.int .i64 n.boot)∧w.cell? ⟨g,13,none⟩=some (ptr L.f)∧w.cell? ⟨g,14,none⟩=some (ptr L.t)∧w.cell? ⟨g,79,none⟩=some (ptr L.b)∧w.cell? ⟨g,80,none⟩=some (ptr L.tm) ∧
  w.cell? ⟨g,81,none⟩=some (.int .i64 n.seq)∧w.cell? ⟨g,82,none⟩=some (.int .i64 n.told)∧w.cell? ⟨g,83,none⟩=some (.int .i64 n.asked)∧w.cell? ⟨g,84,none⟩=some (.int .i64 n.bad)∧(∀ o,w.frozen? ⟨g,o,none⟩=false)∧g<w.heap.size :=
 ⟨h.cell rfl,h.cell rfl,h.cell rfl,h.cell rfl,h.cell rfl,h.cell rfl,h.cell rfl,h.cell rfl,h.cell rfl,h.cell rfl,h.cell rfl,h.cell rfl,h.cell rfl,h.cell rfl,h.cell rfl,h.cell rfl,h.frozen,h.lt⟩
theorem outL_one (o:OutD):∀ u ∈ outL o,u.oneCell'=true:=by intro u hu;simp at hu;rcases hu with rfl|rfl|rfl|rfl|rfl|rfl|rfl|rfl|rfl|rfl|rfl|rfl|rfl|rfl|rfl|rfl <;> rfl
theorem btake_v (g:Nat) (w:World) (b b':BukD) (k:Bool) (hk:b.take=(b',k)) (h0:0≤b.left) (h1:b.left≤1000) (B:Blk w g (bukC b) 239) :
  Calls Tryz.prog 185 #[ptr g] w fun e w'=>e = .returned (.bool k)∧OnlyAt g w w'∧Blk w' g (bukC b') 239:=by
 have:=bukTake_c g w b h0 h1 B
 rw [hk] at this;exact this
theorem row_turns {R:Nat→Prop} {ty:List TypeId} {mp:Bool} {w w':World} {B e size k:Nat} {v:Value} {xs:List Value} (h:w.ownsRow B e size v k xs) (hb:TurnsT R ty mp w w') (h2:e ∉ ty):w'.ownsRow B e size v k xs:=by
 obtain ⟨k1,k2|⟨g',cap,cur,rfl,hB,hg,k3⟩⟩:=h
 ·exact ⟨k1,.inl k2⟩
 ·have hB2:Blk w g' cur e:=hg
  exact ⟨k1,.inr ⟨g',cap,cur,rfl,hB,hb.blk hB2 h2,k3⟩⟩
theorem own_some {w:World} {base size n:Nat} {e:TypeId} {v:Value} {xs:List Value} (h:w.ownsRow base e size v n xs) (hn:0<n):∃ g cap,v = .slice (some ⟨g,0,none⟩) n cap:=by
 rcases h.2 with ⟨-,h⟩|⟨g',cap',cur,h,-⟩
 ·omega
 ·exact ⟨_,_,h⟩
theorem mark_c (fk fs fb fq fst fd ft1 ft2 fw fwn fx fy fa fbb fdd:Int) (h1:0≤fb∧fb≤65535) (h2:0≤fq∧fq≤65535) (w:World) :
  Calls Tryz.prog 186 #[frC fk fs fb fq fst fd ft1 ft2 fw fwn fx fy fa fbb fdd] w fun e w'=>e = .returned (.int .i64 (fb*65536+fq))∧Below w.heap.size w w':=by
 obtain ⟨h11,h12⟩:=h1
 obtain ⟨h21,h22⟩:=h2
 have w1:IntKind.i64.wrap (fb*65536)=fb*65536:=by rw [IntKind.wrap_i64];omega
 have w2:IntKind.i64.wrap (fb*65536+fq)=fb*65536+fq:=by rw [IntKind.wrap_i64];omega
 go_enter Tryz.func186,Tryz.ntmps186
 go_wp2
 go_ret
 exact ⟨by first|rfl|(simp;done)|(simp;omega),below_byR⟩
def Snd3 (S:Nat→Prop) (x w:World) (s g:Nat) (now fine:Int) (B m:Nat) (ys:List Value):Prop :=
 (∃ v,Blk w s #[ptr g,.int .i64 now,.int .i64 fine,v] 203∧w.ownsRow B 195 16 v m ys)∧TurnsT S [203,195] false x w
theorem snd_blk {x W w5:World} {s g:Nat} {now fine:Int} {B m:Nat} {xs:List Value} {v:Value} (AL:Below x.heap.size x W) (XS:Blk x s #[ptr g,.int .i64 now,.int .i64 fine,v] 203) (XR:x.ownsRow B 195 16 v m xs) (hg:W.grownBy w5 v.ownBlock) :
  Blk w5 s #[ptr g,.int .i64 now,.int .i64 fine,v] 203:=(turns_app (row_below XR AL) hg).blk (XS.keep AL) (by decide)
theorem snd_end {S:Nat→Prop} {x W w5:World} {s g:Nat} {now fine:Int} {B m m':Nat} {xs ys:List Value} {v v':Value} (AL:Below x.heap.size x W) (XS:Blk x s #[ptr g,.int .i64 now,.int .i64 fine,v] 203) (XR:x.ownsRow B 195 16 v m xs)
  (hown:w5.ownsRow B 195 16 v' m' ys) (hg:W.grownBy w5 v.ownBlock) (hS:∀ k,B≤k→S k) (ss:S s):Snd3 S x (w5.setCell ⟨s,3,none⟩ v') s g now fine B m' ys:=by
 have YS:=snd_blk AL XS XR hg
 have O:OnlyAt s w5 (w5.setCell ⟨s,3,none⟩ v'):=OnlyAt.refl.setCell 3 _
 refine ⟨⟨v',YS.setCell_same 3 _,row_turns hown (TurnsT.of_only (S:=fun _=>True) (mp:=false) O YS (List.mem_singleton.2 rfl) trivial) (by decide)⟩,?_⟩
 refine (TurnsT.of_below AL).trans (S':=S) (((turns_app (row_below XR AL) hg).mono (fun k _ h=>hS k h) (by simp) (fun h=>h)).trans (TurnsT.of_only O YS (by simp) ss) (fun _ _ h=>h)) (fun _ _ h=>h)
section
variable {S:Nat→Prop} {w:World} {g:Nat} {L:NLay} {n:NodeD} {s:Nat} {now fine:Int} {l:List OutD}
theorem SndAt.turnsT {R:Nat→Prop} {ty:List TypeId} {mp:Bool} {w':World} (h:SndAt S w s g now fine l) (hb:TurnsT R ty mp w w') (h1:203 ∉ ty) (h2:195 ∉ ty):SndAt S w' s g now fine l:=by
 obtain ⟨v,B,h3,h4,h5,h6⟩:=h.ex
 refine ⟨⟨v,B,hb.blk h3 h1,?_,Nat.le_trans h5 hb.size,h6⟩,h.ss⟩
 obtain ⟨k1,k2|⟨g',cap,cur,rfl,hB,hg,k3⟩⟩:=h4
 ·exact ⟨k1,.inl k2⟩
 ·have hB2:Blk w g' cur 195:=hg
  exact ⟨k1,.inr ⟨g',cap,cur,rfl,hB,hb.blk hB2 h2,k3⟩⟩
variable (H:NodeAt S w g L n) (OK:NodeOK n) (HS:SndAt S w s g now fine l)
include H OK HS
theorem send_ok (b':BukD) (hbt:n.b.take=(b',true)) (f:FrD) (hl:l.length≤1000) :
  Calls Tryz.prog 138 #[ptr s,frV f] w fun e w'=>e = .returned (.tuple #[.int .i64 (n.boot*65536+n.seq),.bool true])∧TurnsT S [81,239,203,195] false w w' ∧
   NodeAt S w' g L (n.send now fine f).1∧SndAt S w' s g now fine (l++(n.send now fine f).2.2):=by
 have EV:Hid (n.send now fine f=({ n with b:=b',seq:=serNext n.seq },(n.boot*65536+n.seq,true),[({ f with src:=n.id,boot:=n.boot,seq:=n.seq,stamp:=now },fine)])):=by
  show _=_;unfold NodeD.send;rw [hbt];rfl
 obtain ⟨v,B,hs1,hs2,hs3,hs4⟩:=HS.ex
 have HH:=Lib.hid H
 have HO:=Lib.hid OK
 have HT:=Lib.hid hbt
 have HS1:=Lib.hid hs1
 have HS2:=Lib.hid hs2
 have HS4:=Lib.hid hs4
 have HSS:=Lib.hid HS.ss
 obtain ⟨y1,c1,f1,-⟩:=bk_o hs1
 obtain ⟨-,-,-,-,-,-,-,-,-,-,q79,-,-,-,-,-,fz,yg⟩:=node_cells H.blk
 have hz:=H.b.lt
 obtain ⟨i0,hi,hz0,hz1,hz2⟩:=info_parts infoOut
 obtain ⟨fk,fs,fb,fq,fst,fd,ft1,ft2,fw,fwn,fx,fy,fa,fbb,fdd⟩:=f
 clear H OK HS hbt hs1 hs2
 go_enter Tryz.func138,Tryz.ntmps138
 go_wp2_with (go_at_call 185;refine (btake_v L.b _ n.b b' true HT.out HO.out.b.1 HO.out.b.2.1 (HH.out.b.alloc _)).mono ?_;rintro e w1 ⟨rfl,hO,hB⟩)
 have hgl:=HH.out.blk.lt
 have hsl:=HS1.out.lt
 have ne1:¬ (g=w.heap.size):=by omega
 have ne2:¬ (s=w.heap.size):=by omega
 have A0:Below w.heap.size w (w.alloc (Obj.cells #[.int .i64 fk,.int .i64 fs,.int .i64 fb,.int .i64 fq,.int .i64 fst,.int .i64 fd,.int .i64 ft1,.int .i64 ft2,.int .i64 fw,.int .i64 fwn,.int .i64 fx,.int .i64 fy,.int .i64 fa,.int .i64 fbb,.int .i64 fdd] 193)):=(Below.refl _ _).alloc (Nat.le_refl _) _
 have N1:=Lib.hid ((HH.out.below A0).set_b hO hB)
 have F1:=Lib.hid (hO.blk (Blk.new w #[.int .i64 fk,.int .i64 fs,.int .i64 fb,.int .i64 fq,.int .i64 fst,.int .i64 fd,.int .i64 ft1,.int .i64 ft2,.int .i64 fw,.int .i64 fwn,.int .i64 fx,.int .i64 fy,.int .i64 fa,.int .i64 fbb,.int .i64 fdd] 193) (by omega))
 have TA:Hid (TurnsT S [81,239,203,195] false w w1):=(TurnsT.of_below A0).trans (TurnsT.of_only hO (HH.out.b.keep A0) (by simp) HH.out.sb) (fun _ _ a=>a)
 have HS1':=Lib.hid (hO.blk (HS1.out.keep A0) (Blk.ne (HS1.out.keep A0) (HH.out.b.keep A0) (by decide)))
 have HR1:Hid (w1.ownsRow B 195 16 v l.length (l.flatMap outL)):=row_turns (row_below HS2.out A0) (TurnsT.of_only (S:=fun _=>True) (mp:=false) hO (HH.out.b.keep A0) (List.mem_singleton.2 rfl) trivial) (by decide)
 clear y1 c1 f1 q79 fz yg hO hB
 obtain ⟨y1,c1,f1,-⟩:=bk_o HS1'.out
 obtain ⟨y2,c2,f2,-⟩:=bk_o F1.out
 obtain ⟨-,-,-,-,-,-,q11,q12,-,-,-,-,q81,-,-,-,fz,yg⟩:=node_cells N1.out.blk
 go_region
 refine name_then ?_;intro u hu
 have UF:Hid (Blk u w.heap.size #[.int .i64 fk,.int .i64 n.id,.int .i64 n.boot,.int .i64 n.seq,.int .i64 now,.int .i64 fd,.int .i64 ft1,.int .i64 ft2,.int .i64 fw,.int .i64 fwn,.int .i64 fx,.int .i64 fy,.int .i64 fa,.int .i64 fbb,.int .i64 fdd] 193):=by rw [hu];have XX:=F1.out;exact (by apply Blk.of_eq;(focus (repeat (first|with_reducible exact XX|with_reducible apply Blk.drew|with_reducible apply blk_drewN|with_reducible apply Blk.alloc|with_reducible apply Blk.setCell_same)));first|rfl|(simp;done))
 have UO:OnlyAt w.heap.size w1 u:=by rw [hu];exact (show OnlyAt _ _ _ from (by repeat (first|with_reducible exact OnlyAt.refl|with_reducible refine OnlyAt.drew ?_|with_reducible refine OnlyAt.setCell ?_ _ _|(with_reducible refine OnlyAt.setNew ?_ ?hB _ _;case hB=>(first|omega|(simp;done)|(simp;omega)))|with_reducible refine OnlyAt.alloc ?_ _|with_reducible refine OnlyAt.trans ?_ (OnlyAt.of_below (by assumption))|with_reducible refine OnlyAt.trans ?_ (by assumption))))
 have UT:TurnsT (fun _=>True) [193] false w1 u:=TurnsT.of_only UO F1.out (by simp) trivial
 have UN:=Lib.hid (N1.out.turnsT UT (by decide) (by decide) (by decide) (by decide) (by decide) (by decide) (by decide))
 have US:=Lib.hid (UT.blk HS1'.out (by decide))
 have UR:=Lib.hid (row_turns HR1.out UT (by decide))
 have UA:Hid (TurnsT S [81,239,203,195] false w u):=Turns.then_only TA.out UO (.inr (Nat.le_refl _))
 clear hu UO UT N1 F1 HS1' HR1 TA A0 y1 c1 f1 y2 c2 f2 q11 q12 q81 fz yg
 obtain ⟨-,-,-,-,-,-,-,-,-,-,-,-,q81,-,-,-,fz,yg⟩:=node_cells UN.out.blk
 go_wp2_with (go_at_call 147;refine (serNext_c _ HO.out.seq.1 HO.out.seq.2 _).mono ?_;rintro e w2 ⟨rfl,h2⟩;have h9:=h2.symm;subst h9)
 refine name_wp ?_;intro x hx
 have XO:OnlyAt g u x:=by rw [hx];exact OnlyAt.refl.setCell 81 _
 have XB:Blk x g (nodeC L { n with b:=b',seq:=serNext n.seq }) 81:=by rw [hx];exact (UN.out.blk.setCell_same 81 _).of_eq (nodeC_seq _ _ _)
 have XN:=Lib.hid (UN.out.set_g XO XB rfl rfl rfl rfl rfl rfl rfl)
 have XT:TurnsT (fun _=>True) [81] false u x:=TurnsT.of_only XO UN.out.blk (by simp) trivial
 have XS:=Lib.hid (XT.blk US.out (by decide))
 have XR:=Lib.hid (row_turns UR.out XT (by decide))
 have XF:=Lib.hid (XT.blk UF.out (by decide))
 have XA:Hid (TurnsT S [81,239,203,195] false w x):=UA.out.trans (TurnsT.of_only XO UN.out.blk (by simp) HH.out.sg) (fun _ _ a=>a)
 have hxz:w.heap.size≤x.heap.size:=XA.out.size
 clear hx XO XB XT UN US UR UF UA q81 fz yg
 obtain ⟨y1,c1,f1,-⟩:=bk_o XS.out
 have r15:=XF.out.row?_all 15 rfl
 go_cut [] from 45 (fun wc=>Hid (Snd3 S x wc s g now fine B (l.length+1) (l.flatMap outL++outL (⟨fk,n.id,n.boot,n.seq,now,fd,ft1,ft2,fw,fwn,fx,fy,fa,fbb,fdd⟩,fine))))
 case first =>
  go_region_law (refine step_append_own rfl (.tmp 49) (.tmp 56) 139 rfl B 195 i0 (.agg #[.int .i64 0,.int .i64 0,.int .i64 0,.int .i64 0,.int .i64 0,.int .i64 0,.int .i64 0,.int .i64 0,.int .i64 0,.int .i64 0,.int .i64 0,.int .i64 0,.int .i64 0,.int .i64 0,.int .i64 0,.int .i64 0]) 16 128 Tryz.underlying139 hi hz0 hz1 hz2 rfl (by decide) v l.length (l.flatMap outL) (by simp [Act.eval,Act.put]) (row_below (w:=x.drew) XR.out ((Below.refl _ _).alloc (Nat.le_refl _) _)) ⟨x.heap.size,0,none⟩ 1 1 (outL (⟨fk,n.id,n.boot,n.seq,now,fd,ft1,ft2,fw,fwn,fx,fy,fa,fbb,fdd⟩,fine)) (by simp [Act.eval,Act.put]) rfl (news_of (Blk.new x.drew _ 195)) (outL_one _) (by unfold maxLen;omega) (by omega) (by simp;omega) ?_;intro v' w5 hown hgrow _;obtain ⟨g',cap',rfl⟩:=own_some hown (by omega);have YS:=snd_blk (W:=x.drew.alloc (Obj.cells (outL (⟨fk,n.id,n.boot,n.seq,now,fd,ft1,ft2,fw,fwn,fx,fy,fa,fbb,fdd⟩,fine)).toArray 195)) ((Below.refl _ _).alloc (Nat.le_refl _) _) XS.out XR.out hgrow;obtain ⟨y3,c3,f3,-⟩:=bk_o YS;have YE:=Lib.hid (snd_end (x:=x) (W:=x.drew.alloc (Obj.cells (outL (⟨fk,n.id,n.boot,n.seq,now,fd,ft1,ft2,fw,fwn,fx,fy,fa,fbb,fdd⟩,fine)).toArray 195)) ((Below.refl _ _).drew.alloc (Nat.le_refl _) _) XS.out XR.out hown hgrow HS4.out HSS.out);clear hgrow hown YS)
  all_goals go_wp2_with fail
  all_goals go_meet
  all_goals exact YE
 case rest =>
  obtain ⟨⟨v2,k1,k2⟩,kt⟩:=hcut.out
  have ZF:=Lib.hid (kt.blk XF.out (by decide))
  have ZN:=Lib.hid (XN.out.turnsT kt (by decide) (by decide) (by decide) (by decide) (by decide) (by decide) (by decide))
  have ZA:Hid (TurnsT S [81,239,203,195] false w wc):=XA.out.trans (kt.mono (fun _ _ h=>h) (by simp) (fun h=>h)) (fun _ _ h=>h)
  have r15':=ZF.out.row?_all 15 rfl
  have ZS:Hid (SndAt S wc s g now fine (l ++ [(⟨fk,n.id,n.boot,n.seq,now,fd,ft1,ft2,fw,fwn,fx,fy,fa,fbb,fdd⟩,fine)])):=⟨⟨v2,B,k1,by rw [List.length_append,List.flatMap_append];simpa using k2,Nat.le_trans hs3 ZA.out.size,HS4.out⟩,HSS.out⟩
  clear hcut k1 k2 kt XN XS XR XF XA r15 y1 c1 f1
  go_wp2_with (go_at_call 186;refine (mark_c _ _ _ _ _ _ _ _ _ _ _ _ _ _ _ HO.out.boot HO.out.seq _).mono ?_;rintro e w9 ⟨rfl,hb9⟩)
  go_ret2
  rw [EV.out]
  exact ⟨rfl,ZA.out.trans (TurnsT.of_below hb9) (fun _ _ h=>h),ZN.out.below hb9,ZS.out.turnsT (TurnsT.of_below (S:=S) (ty:=[]) (mp:=false) hb9) (by simp) (by simp)⟩
end
theorem ntime_c (k:Int) (h:timeB k=true) (w:World):Calls Tryz.prog 134 #[.int .i64 k] w fun e w'=>e = .returned (.bool true)∧w'=w:=by
 have h':0≤k∧k≤1000000:=by simpa [timeB] using h
 obtain ⟨h1,h2⟩:=h'
 go_enter Tryz.func134,Tryz.ntmps134
 go_wp2
 go_ret
 exact ⟨by simp [h2],rfl⟩
theorem next_nil (A:Option Addr) (cap:Nat) (after:Int) (w:World) :
  Calls Tryz.prog 188 #[.slice A 0 cap,.int .i64 after] w fun e w'=>e = .returned (.tuple #[.int .i64 0,.bool false])∧w'=w :=
 next_c A [] cap after w (by simp) (by intro i hi;simp at hi)
theorem tell_nil (A:Option Addr) (cap:Nat) (after:Int) (w:World) :
  Calls Tryz.prog 187 #[.slice A 0 cap,.int .i64 after] w fun e w'=>e = .returned (.tuple #[.int .i64 0,.bool false])∧w'=w:=by
 go_enter Tryz.func187,Tryz.ntmps187
 go_wp2_with fail
 go_loop [6,11] (fun a i=>a = .slice none 0 0∧i = .int .i64 0) (fun _ _=>0)
 case atStart=>exact ⟨rfl,rfl⟩
 case round =>
  obtain ⟨rfl,rfl⟩:=hrel
  go_wp2_with (go_at_call 188;refine (next_nil _ _ _ _).mono ?_;rintro e w1 ⟨rfl,h⟩;have h9:=h.symm;subst h9)
  go_ret2
  exact ⟨rfl,rfl⟩
section
variable {S:Nat→Prop} {w w':World} {g:Nat} {L:NLay} {n:NodeD}
theorem NodeAt.set_t {R:Nat→Prop} (h:NodeAt S w g L n) (ho:TurnsT R [375] true w w') {T':TLay} {t':TabD} (ht:TabAt S w' L.t T' t'):NodeAt S w' g { L with T:=T' } { n with t:=t' } :=
 ⟨ho.blk h.blk (by decide),h.sg,ho.blk h.f (by decide),h.sf,ht,fun i hi=>⟨ho.blk (h.s i hi).1 (by decide),(h.s i hi).2⟩,h.si,ho.blk h.b (by decide),h.sb,ho.blk h.tm (by decide),h.stm⟩
theorem NodeAt.set_tm (h:NodeAt S w g L n) (ho:OnlyAt L.tm w w') {b:TimD} (hb:Blk w' L.tm (timC b) 241):NodeAt S w' g L { n with tm:=b } :=
 have K {k:Nat} {c:Array Value} {t:TypeId} (hk:Blk w k c t) (ht:t≠241):Blk w' k c t:=ho.blk hk (Blk.ne hk h.tm ht)
 ⟨K h.blk (by decide),h.sg,K h.f (by decide),h.sf,h.t.only ho h.tm (by decide) (by decide),fun i hi=>⟨K (h.s i hi).1 (by decide),(h.s i hi).2⟩,h.si,K h.b (by decide),h.sb,hb,h.stm⟩
theorem TurnsT.of_map {ty:List TypeId} {L:TLay} {t:TabD} {gt:Nat} (h:TabAt S w gt L t) (ho:OnlyAt L.me w w'):TurnsT S ty true w w':=Turns.of_only ho (.inl ⟨h.sm,OfT.map h.me⟩)
theorem due_v (g:Nat) (w:World) (t t':TimD) (k:Bool) (now:Int) (hk:t.due now=(t',k)) (h0:0≤t.every) (h1:t.every≤1000000) (h5:0≤now) (B:Blk w g (timC t) 241) :
  Calls Tryz.prog 137 #[ptr g,.int .i64 now] w fun e w'=>e = .returned (.bool k)∧OnlyAt g w w'∧Blk w' g (timC t') 241:=by
 have:=timDue_c g w t now h0 h1 h5 B
 rw [hk] at this;exact this
theorem cfg_bd (c:Cfg) (h:c.may=true):1≤c.silent∧c.silent≤10000∧1≤c.stale∧c.stale≤1000∧0≤c.skew∧c.skew≤100∧0≤c.speed∧c.speed≤1000∧0≤c.err∧c.err≤1000∧0≤c.drift∧c.drift≤1000∧1≤c.nodes∧c.nodes≤64:=by
 simp [Cfg.may,inRg] at h;omega
end
section
variable {S:Nat→Prop} {w:World} {g:Nat} {L:NLay} {n:NodeD} {s:Nat} {now fine:Int} {l:List OutD} (H:NodeAt S w g L n) (OK:NodeOK n) (hE:n.t.ents = [])
include H OK hE
theorem ntell_none (s:Nat):Calls Tryz.prog 139 #[ptr g,ptr s] w fun e w'=>e = .returned (.tuple #[])∧Below w.heap.size w w':=by
 have HA:Hid (∀ w',Below w.heap.size w w'→Calls Tryz.prog 27 #[ptr L.t] w' fun e w''=>e = .returned (.slice none 0 0)∧Below w'.heap.size w' w''):=fun w' hb =>
  Calls.mono (tabAll_c (H.t.below hb) OK.t) (by rintro e w2 ⟨v,rfl,-,hv,hb2⟩;exact ⟨by rw [hv hE],hb2⟩)
 obtain ⟨-,-,-,-,-,-,-,-,-,q14,-,-,-,q82,-,-,fz,yg⟩:=node_cells H.blk
 have k14:=fun d os=>cell_regrown q14 d os
 have k82:=fun d os=>cell_regrown q82 d os
 clear H OK hE q14 q82
 go_enter Tryz.func139,Tryz.ntmps139
 go_wp2_with fail
 refine wp_region_quiet_below (by kernel_rfl) (by kernel_rfl) ?_
 repeat (go_big_quiet_step (first
  | (go_at_call 27;exact Calls.regrown_of (HA.out _ (below_regrown _ _ _)))
  | (go_at_call 187;exact Calls.regrown_of (Calls.mono (tell_nil _ _ _ _) (by rintro e w1 ⟨rfl,rfl⟩;exact ⟨rfl,Below.refl _ _⟩)))))
 refine wpQuiet_nil ?_
 intro wq hwq
 have hbq:=below_of_regrown hwq
 clear hwq k14 k82
 go_wp2_with fail
 refine bodyPost_ret (results_none rfl _ _ _) rfl ?_
 exact ⟨rfl,hbq⟩
theorem npoll_none (s:Nat):Calls Tryz.prog 140 #[ptr g,ptr s] w fun e w'=>e = .returned (.tuple #[])∧Below w.heap.size w w':=by
 have HA:Hid (Calls Tryz.prog 27 #[ptr L.t] w fun e w''=>e = .returned (.slice none 0 0)∧Below w.heap.size w w'') :=
  Calls.mono (tabAll_c H.t OK.t) (by rintro e w2 ⟨v,rfl,-,hv,hb2⟩;exact ⟨by rw [hv hE],hb2⟩)
 have HK:=Lib.hid (fun w' hb=>node_cells (Blk.keep (w':=w') H.blk hb))
 obtain ⟨-,-,-,-,-,-,-,-,-,q14,-,-,-,-,q83,-,fz,yg⟩:=node_cells H.blk
 clear H OK hE
 go_enter Tryz.func140,Tryz.ntmps140
 go_wp2_with (go_at_call 27;refine HA.out.mono ?_;rintro e w2 ⟨rfl,hb2⟩)
 have k83:=(hb2.cell (p:=⟨g,83,none⟩) yg).trans q83
 go_loop [4,17] (fun a i=>a = .slice none 0 0∧i = .int .i64 0) (fun _ _=>0)
 case atStart=>exact ⟨rfl,rfl⟩
 case round =>
  obtain ⟨rfl,rfl⟩:=hrel
  go_wp2_with (go_at_call 188;refine (next_nil _ _ _ _).mono ?_;rintro e w1 ⟨rfl,h⟩;have h9:=h.symm;subst h9)
  refine bodyPost_ret (results_none rfl _ _ _) rfl ?_
  exact ⟨rfl,hb2⟩
omit hE in
theorem tick_idle (hn:timeB now=true) (t':TimD) (hd:n.tm.due now=(t',false)) :
  Calls Tryz.prog 67 #[ptr g,.int .i64 now,.int .i64 fine] w fun e w'=>e = .returned (.slice none 0 0)∧Turns S w w'∧∃ T',NodeAt S w' g { L with T:=T' } { n with b:=⟨n.b.n,n.b.n⟩,t:=n.t.evict now n.c.silent,tm:=t' }:=by
 have hn':0≤now∧now≤1000000:=by simpa [timeB] using hn
 have hc:=cfg_bd n.c OK.c
 have HH:=Lib.hid H
 have HO:=Lib.hid OK
 have HN:=Lib.hid hn
 have HN':=Lib.hid hn'
 have HD:=Lib.hid hd
 have HC:=Lib.hid hc
 obtain ⟨-,-,-,-,-,q7,-,-,-,q14,q79,q80,-,-,-,-,fz,yg⟩:=node_cells H.blk
 clear H OK hn hn' hd hc
 go_enter Tryz.func67,Tryz.ntmps67
 go_wp2_with (first
  | (go_at_call 134;refine (ntime_c _ HN.out _).mono ?_;rintro e w1 ⟨rfl,h⟩;have h9:=h.symm;subst h9)
  | (go_at_call 135;refine (bukTick_c L.b w n.b HH.out.b).mono ?_;rintro e w1 ⟨rfl,hO,hB⟩))
 have N1:=Lib.hid (HH.out.set_b hO hB)
 have T1:Hid (Turns S w w1):=Turns.of_only hO (.inl HH.out.sb)
 clear hO hB q7 q14 q79 q80 fz yg
 obtain ⟨-,-,-,-,-,q7,-,-,-,q14,q79,q80,-,-,-,-,fz,yg⟩:=node_cells N1.out.blk
 refine still_tail 10 (by kernel_rfl) (by kernel_rfl) ?_
 simp only [List.take_succ_cons,List.take_zero,List.drop_succ_cons,List.drop_zero];(repeat still_step);(try refine wpStill_nil ?_)
 go_wp2_with (first
  | (go_at_call 136;refine (tabEvict_c (N1.out.t.below (w':=w1.drew) (Below.refl _ _).drew) HO.out.t now n.c.silent HN'.out ⟨HC.out.1,by have:=HC.out.2.1;omega⟩).mono ?_;rintro e w2 ⟨⟨ve,rfl⟩,hO,hT⟩;have hD:=TurnsT.of_map (ty:=[375]) (N1.out.t.below (w':=w1.drew) (Below.refl _ _).drew) hO;have N2:=Lib.hid ((N1.out.below (w':=w1.drew) (Below.refl _ _).drew).set_t hD hT);have T2:Hid (Turns S w w2):=Turns.trans (Turns.drew T1.out) hD.turns (fun _ _ a=>a);clear hO hT hD q7 q14 q79 q80 fz yg;obtain ⟨-,-,-,-,-,q7,-,-,-,q14,q79,q80,-,-,-,-,fz,yg⟩:=node_cells N2.out.blk)
  | (go_at_call 137;refine (due_v L.tm _ n.tm t' false now HD.out (by have:=HO.out.tm.1;omega) HO.out.tm.2 HN'.out.1 N2.out.tm).mono ?_;rintro e w3 ⟨rfl,hO,hB⟩))
 go_ret
 exact ⟨rfl,T2.out.then_only hO (.inl HH.out.stm),_,N2.out.set_tm hO hB⟩
end
theorem TabAt.mono {S S':Nat→Prop} {w:World} {g:Nat} {L:TLay} {t:TabD} (h:TabAt S w g L t) (hS:∀ k,k<w.heap.size→S k→S' k):TabAt S' w g L t:=h.kept (fun _ _ _=>rfl) hS
theorem NodeAt.mono {S S':Nat→Prop} {w:World} {g:Nat} {L:NLay} {n:NodeD} (h:NodeAt S w g L n) (hS:∀ k,k<w.heap.size→S k→S' k):NodeAt S' w g L n :=
 ⟨h.blk,hS _ h.blk.lt h.sg,h.f,hS _ h.f.lt h.sf,h.t.mono hS,fun i hi=>⟨(h.s i hi).1,hS _ (h.s i hi).1.lt (h.s i hi).2⟩,h.si,h.b,hS _ h.b.lt h.sb,h.tm,hS _ h.tm.lt h.stm⟩
theorem valid_v (g:Nat) (m:Int) (v:Bool) (e:El) (w:World) (k:Bool) (hk:v=k) (B:Blk w g (flt m v e.x e.y e.a e.b e.d) 119) :
  Calls Tryz.prog 25 #[ptr g] w fun e w'=>e = .returned (.bool k)∧Below w.heap.size w w':=by
 subst hk;exact valid_c g m v _ _ _ _ _ w B
def estF (e:El):FrD:={ fr0 5 with x:=e.x,y:=e.y,a:=e.a,b:=e.b,d:=e.d }
theorem send_v {S:Nat→Prop} {w:World} {g:Nat} {L:NLay} {n:NodeD} {s:Nat} {now fine:Int} {l:List OutD} (H:NodeAt S w g L n) (OK:NodeOK n) (HS:SndAt S w s g now fine l) (b':BukD) (hbt:n.b.take=(b',true)) (f:FrD) (hl:l.length≤1000)
  (n2:NodeD) (m:Int) (o:List OutD) (hq:n.send now fine f=(n2,(m,true),o)) :
  Calls Tryz.prog 138 #[ptr s,frV f] w fun e w'=>(∃ v,e = .returned v)∧TurnsT S [81,239,203,195] false w w'∧NodeAt S w' g L n2∧SndAt S w' s g now fine (l++o):=by
 have h:=send_ok H OK HS b' hbt f hl
 rw [hq] at h
 exact h.mono (by rintro e w' ⟨h1,h2,h3,h4⟩;exact ⟨⟨_,h1⟩,h2,h3,h4⟩)
theorem fe_v (g:Nat) (m:Int) (v:Bool) (e e':El) (w:World) (he:e=e') (B:Blk w g (flt m v e.x e.y e.a e.b e.d) 119) :
  Calls Tryz.prog 26 #[ptr g] w fun r w'=>r = .returned (elV e')∧Below w.heap.size w w':=by
 subst he;exact e_c g m v _ _ _ _ _ w B
theorem tick_lift {S:Nat→Prop} {w w3 w4:World} {g:Nat} {L:NLay} {n n1:NodeD} (h1:n=n1) (h:NodeAt S w3 g L n) (hb:Below w3.heap.size w3 w4):NodeAt (Sn S w) w4 g L n1:=by
 subst h1;exact (h.below hb).mono (fun k _ hk => .inl hk)
section
variable {S:Nat→Prop} {w:World} {g:Nat} {L:NLay} {n:NodeD} {now fine:Int} (H:NodeAt S w g L n) (OK:NodeOK n)
include H OK
theorem tick_due (hn:timeB now=true) (t':TimD) (hd:n.tm.due now=(t',true)) (n1 n2:NodeD) (h1 : { n with b:=⟨n.b.n,n.b.n⟩,t:=n.t.evict now n.c.silent,tm:=t' } = n1) (OK1:NodeOK n1) (b':BukD) (hbt:n1.b.take=(b',true)) (OK2:NodeOK n2) (hE2:n2.t.ents = []) (m:Int) (o:List OutD)
  (hv:n.fv=true) (hq:n1.send now fine (estF n.fe)=(n2,(m,true),o)) :
  Calls Tryz.prog 67 #[ptr g,.int .i64 now,.int .i64 fine] w fun e w'=>∃ v B,e = .returned v∧Turns S w w'∧(∃ L',NodeAt (Sn S w) w' g L' n2)∧w'.ownsRow B 195 16 v o.length (o.flatMap outL)∧∀ k,B≤k→Sn S w k:=by
 have hn':0≤now∧now≤1000000:=by simpa [timeB] using hn
 have hc:=cfg_bd n.c OK.c
 have HH:=Lib.hid H
 have HO:=Lib.hid OK
 have HN:=Lib.hid hn
 have HN':=Lib.hid hn'
 have HD:=Lib.hid hd
 have HC:=Lib.hid hc
 have H1:=Lib.hid h1
 have HQ:=Lib.hid hq
 have HB:=Lib.hid hbt
 have HV:=Lib.hid hv
 have K1:=Lib.hid OK1
 have K2:=Lib.hid OK2
 have KE:=Lib.hid hE2
 obtain ⟨-,-,-,-,-,q7,-,-,q13,q14,q79,q80,-,-,-,-,fz,yg⟩:=node_cells H.blk
 clear H OK hn hn' hd hc h1 hq hbt hv OK1 OK2 hE2
 go_enter Tryz.func67,Tryz.ntmps67
 go_wp2_with (first
  | (go_at_call 134;refine (ntime_c _ HN.out _).mono ?_;rintro e w1 ⟨rfl,h⟩;have h9:=h.symm;subst h9)
  | (go_at_call 135;refine (bukTick_c L.b w n.b HH.out.b).mono ?_;rintro e w1 ⟨rfl,hO,hB⟩))
 have N1:=Lib.hid (HH.out.set_b hO hB)
 have T1:Hid (Turns S w w1):=Turns.of_only hO (.inl HH.out.sb)
 clear hO hB q7 q13 q14 q79 q80 fz yg
 obtain ⟨-,-,-,-,-,q7,-,-,q13,q14,q79,q80,-,-,-,-,fz,yg⟩:=node_cells N1.out.blk
 refine still_tail 10 (by kernel_rfl) (by kernel_rfl) ?_
 simp only [List.take_succ_cons,List.take_zero,List.drop_succ_cons,List.drop_zero];(repeat still_step);(try refine wpStill_nil ?_)
 go_wp2_with (first
  | (go_at_call 136;refine (tabEvict_c (N1.out.t.below (w':=w1.drew) (Below.refl _ _).drew) HO.out.t now n.c.silent HN'.out ⟨HC.out.1,by have:=HC.out.2.1;omega⟩).mono ?_;rintro e w2 ⟨⟨ve,rfl⟩,hO,hT⟩;have hD:=TurnsT.of_map (ty:=[375]) (N1.out.t.below (w':=w1.drew) (Below.refl _ _).drew) hO;have N2:=Lib.hid ((N1.out.below (w':=w1.drew) (Below.refl _ _).drew).set_t hD hT);have T2:Hid (Turns S w w2):=Turns.trans (Turns.drew T1.out) hD.turns (fun _ _ a=>a);clear hO hT hD q7 q13 q14 q79 q80 fz yg;obtain ⟨-,-,-,-,-,q7,-,-,q13,q14,q79,q80,-,-,-,-,fz,yg⟩:=node_cells N2.out.blk)
  | (go_at_call 137;refine (due_v L.tm _ n.tm t' true now HD.out (by have:=HO.out.tm.1;omega) HO.out.tm.2 HN'.out.1 N2.out.tm).mono ?_;rintro e w3 ⟨rfl,hO,hB⟩;have N3:=Lib.hid (N2.out.set_tm hO hB);have T3:Hid (Turns S w w3):=T2.out.then_only hO (.inl HH.out.stm);clear hO hB q7 q13 q14 q79 q80 fz yg;obtain ⟨-,-,-,-,-,q7,-,-,q13,q14,q79,q80,-,-,-,-,fz,yg⟩:=node_cells N3.out.blk))
 refine (valid_v L.f n.cap n.fv n.fe _ true HV.out (N3.out.f.alloc _)).mono ?_
 rintro e w4 ⟨rfl,hb4⟩
 have A3:Below w3.heap.size w3 (w3.alloc (Obj.cells #[ptr g,.int .i64 now,.int .i64 fine,.slice none 0 0] 203)):=(Below.refl _ _).alloc (Nat.le_refl _) _
 have B3:=A3.trans (hb4.mono A3.size)
 have N4:Hid (NodeAt (Sn S w) w4 g L n1):=tick_lift H1.out N3.out B3
 have T4:Hid (Turns S w w4):=T3.out.then_below B3
 have S4:Hid (SndAt (Sn S w) w4 w3.heap.size g now fine []):=⟨⟨.slice none 0 0,w.heap.size,(Blk.new w3 _ _).keep hb4,⟨rfl,.inl ⟨rfl,rfl⟩⟩,T4.out.size,fun k hk => .inr hk⟩,.inr T3.out.size⟩
 have E4:n1.fe=n.fe:=by rw [← H1.out]
 clear A3 B3 hb4 N3 T3 q7 q13 q14 q79 q80 fz yg
 obtain ⟨-,-,-,-,-,q7,-,-,q13,q14,q79,q80,-,-,-,-,fz,yg⟩:=node_cells N4.out.blk
 go_wp2_with (first
  | (go_at_call 26;refine (fe_v L.f n1.cap n1.fv n1.fe n.fe w4 E4 N4.out.f).mono ?_;rintro e w5 ⟨rfl,hb5⟩;have N5:=Lib.hid (N4.out.below hb5);have S5:=Lib.hid (S4.out.turnsT (TurnsT.of_below (S:=S) (ty:=[]) (mp:=false) hb5) (by simp) (by simp));have T5:=Lib.hid (T4.out.then_below hb5);clear hb5)
  | (go_at_call 138;refine (send_v N5.out K1.out S5.out b' HB.out (estF n.fe) (by simp) n2 m o HQ.out).mono ?_;rintro e w6 ⟨⟨vq,rfl⟩,hT,hN,hS⟩;have N6:=Lib.hid hN;have S6:=Lib.hid hS;have T6:Hid (Turns S w w6):=T5.out.trans hT.turns (fun k hk h=>h.elim id (fun h2=>by omega));clear hT hN hS q7 q13 q14 q79 q80 fz yg)
  | (go_at_call 139;refine (ntell_none N6.out K2.out KE.out _).mono ?_;rintro e w7 ⟨rfl,hb7⟩;have N7:=Lib.hid (N6.out.below hb7);have S7:=Lib.hid (S6.out.turnsT (TurnsT.of_below (S:=S) (ty:=[]) (mp:=false) hb7) (by simp) (by simp));have T7:=Lib.hid (T6.out.then_below hb7);clear hb7)
  | (go_at_call 140;refine (npoll_none N7.out K2.out KE.out _).mono ?_;rintro e w8 ⟨rfl,hb8⟩;have N8:=Lib.hid (N7.out.below hb8);have S8:=Lib.hid (S7.out.turnsT (TurnsT.of_below (S:=S) (ty:=[]) (mp:=false) hb8) (by simp) (by simp));have T8:=Lib.hid (T7.out.then_below hb8);clear hb8;obtain ⟨v9,B9,hk9,hr9,hB9,hS9⟩:=S8.out.ex;obtain ⟨y9,c9,f9,-⟩:=bk_o hk9;have R9:=Lib.hid hr9;have P9:=Lib.hid hS9;clear hk9 hr9 hS9 hB9))
 go_ret
 exact ⟨v9,B9,rfl,T8.out,⟨_,N8.out⟩,by simpa using R9.out,P9.out⟩
theorem tick_lost (hn:timeB now=true) (t':TimD) (hd:n.tm.due now=(t',true)) (n1 n2:NodeD) (h1 : { n with b:=⟨n.b.n,n.b.n⟩,t:=n.t.evict now n.c.silent,tm:=t' } = n1) (OK1:NodeOK n1) (b':BukD) (hbt:n1.b.take=(b',true)) (OK2:NodeOK n2) (hE2:n2.t.ents = []) (m:Int) (o:List OutD)
  (hv:n.fv=false) (hq:n1.send now fine (fr0 1)=(n2,(m,true),o)) :
  Calls Tryz.prog 67 #[ptr g,.int .i64 now,.int .i64 fine] w fun e w'=>∃ v B,e = .returned v∧Turns S w w'∧(∃ L',NodeAt (Sn S w) w' g L' n2)∧w'.ownsRow B 195 16 v o.length (o.flatMap outL)∧∀ k,B≤k→Sn S w k:=by
 have hn':0≤now∧now≤1000000:=by simpa [timeB] using hn
 have hc:=cfg_bd n.c OK.c
 have HH:=Lib.hid H
 have HO:=Lib.hid OK
 have HN:=Lib.hid hn
 have HN':=Lib.hid hn'
 have HD:=Lib.hid hd
 have HC:=Lib.hid hc
 have H1:=Lib.hid h1
 have HQ:=Lib.hid hq
 have HB:=Lib.hid hbt
 have HV:=Lib.hid hv
 have K1:=Lib.hid OK1
 have K2:=Lib.hid OK2
 have KE:=Lib.hid hE2
 obtain ⟨-,-,-,-,-,q7,-,-,q13,q14,q79,q80,-,-,-,-,fz,yg⟩:=node_cells H.blk
 clear H OK hn hn' hd hc h1 hq hbt hv OK1 OK2 hE2
 go_enter Tryz.func67,Tryz.ntmps67
 go_wp2_with (first
  | (go_at_call 134;refine (ntime_c _ HN.out _).mono ?_;rintro e w1 ⟨rfl,h⟩;have h9:=h.symm;subst h9)
  | (go_at_call 135;refine (bukTick_c L.b w n.b HH.out.b).mono ?_;rintro e w1 ⟨rfl,hO,hB⟩))
 have N1:=Lib.hid (HH.out.set_b hO hB)
 have T1:Hid (Turns S w w1):=Turns.of_only hO (.inl HH.out.sb)
 clear hO hB q7 q13 q14 q79 q80 fz yg
 obtain ⟨-,-,-,-,-,q7,-,-,q13,q14,q79,q80,-,-,-,-,fz,yg⟩:=node_cells N1.out.blk
 refine still_tail 10 (by kernel_rfl) (by kernel_rfl) ?_
 simp only [List.take_succ_cons,List.take_zero,List.drop_succ_cons,List.drop_zero];(repeat still_step);(try refine wpStill_nil ?_)
 go_wp2_with (first
  | (go_at_call 136;refine (tabEvict_c (N1.out.t.below (w':=w1.drew) (Below.refl _ _).drew) HO.out.t now n.c.silent HN'.out ⟨HC.out.1,by have:=HC.out.2.1;omega⟩).mono ?_;rintro e w2 ⟨⟨ve,rfl⟩,hO,hT⟩;have hD:=TurnsT.of_map (ty:=[375]) (N1.out.t.below (w':=w1.drew) (Below.refl _ _).drew) hO;have N2:=Lib.hid ((N1.out.below (w':=w1.drew) (Below.refl _ _).drew).set_t hD hT);have T2:Hid (Turns S w w2):=Turns.trans (Turns.drew T1.out) hD.turns (fun _ _ a=>a);clear hO hT hD q7 q13 q14 q79 q80 fz yg;obtain ⟨-,-,-,-,-,q7,-,-,q13,q14,q79,q80,-,-,-,-,fz,yg⟩:=node_cells N2.out.blk)
  | (go_at_call 137;refine (due_v L.tm _ n.tm t' true now HD.out (by have:=HO.out.tm.1;omega) HO.out.tm.2 HN'.out.1 N2.out.tm).mono ?_;rintro e w3 ⟨rfl,hO,hB⟩;have N3:=Lib.hid (N2.out.set_tm hO hB);have T3:Hid (Turns S w w3):=T2.out.then_only hO (.inl HH.out.stm);clear hO hB q7 q13 q14 q79 q80 fz yg;obtain ⟨-,-,-,-,-,q7,-,-,q13,q14,q79,q80,-,-,-,-,fz,yg⟩:=node_cells N3.out.blk))
 refine (valid_v L.f n.cap n.fv n.fe _ false HV.out (N3.out.f.alloc _)).mono ?_
 rintro e w4 ⟨rfl,hb4⟩
 have A3:Below w3.heap.size w3 (w3.alloc (Obj.cells #[ptr g,.int .i64 now,.int .i64 fine,.slice none 0 0] 203)):=(Below.refl _ _).alloc (Nat.le_refl _) _
 have B3:=A3.trans (hb4.mono A3.size)
 have N4:Hid (NodeAt (Sn S w) w4 g L n1):=tick_lift H1.out N3.out B3
 have T4:Hid (Turns S w w4):=T3.out.then_below B3
 have S4:Hid (SndAt (Sn S w) w4 w3.heap.size g now fine []):=⟨⟨.slice none 0 0,w.heap.size,(Blk.new w3 _ _).keep hb4,⟨rfl,.inl ⟨rfl,rfl⟩⟩,T4.out.size,fun k hk => .inr hk⟩,.inr T3.out.size⟩
 clear A3 B3 hb4 N3 T3 q7 q13 q14 q79 q80 fz yg
 obtain ⟨-,-,-,-,-,q7,-,-,q13,q14,q79,q80,-,-,-,-,fz,yg⟩:=node_cells N4.out.blk
 go_wp2_with (first
  | (go_at_call 138;refine (send_v N4.out K1.out S4.out b' HB.out (fr0 1) (by simp) n2 m o HQ.out).mono ?_;rintro e w6 ⟨⟨vq,rfl⟩,hT,hN,hS⟩;have N6:=Lib.hid hN;have S6:=Lib.hid hS;have T6:Hid (Turns S w w6):=T4.out.trans hT.turns (fun k hk h=>h.elim id (fun h2=>by omega));clear hT hN hS q7 q13 q14 q79 q80 fz yg)
  | (go_at_call 139;refine (ntell_none N6.out K2.out KE.out _).mono ?_;rintro e w7 ⟨rfl,hb7⟩;have N7:=Lib.hid (N6.out.below hb7);have S7:=Lib.hid (S6.out.turnsT (TurnsT.of_below (S:=S) (ty:=[]) (mp:=false) hb7) (by simp) (by simp));have T7:=Lib.hid (T6.out.then_below hb7);clear hb7)
  | (go_at_call 140;refine (npoll_none N7.out K2.out KE.out _).mono ?_;rintro e w8 ⟨rfl,hb8⟩;have N8:=Lib.hid (N7.out.below hb8);have S8:=Lib.hid (S7.out.turnsT (TurnsT.of_below (S:=S) (ty:=[]) (mp:=false) hb8) (by simp) (by simp));have T8:=Lib.hid (T7.out.then_below hb8);clear hb8;obtain ⟨v9,B9,hk9,hr9,hB9,hS9⟩:=S8.out.ex;obtain ⟨y9,c9,f9,-⟩:=bk_o hk9;have R9:=Lib.hid hr9;have P9:=Lib.hid hS9;clear hk9 hr9 hS9 hB9))
 go_ret
 exact ⟨v9,B9,rfl,T8.out,⟨_,N8.out⟩,by simpa using R9.out,P9.out⟩
end
section
variable {S:Nat→Prop} {w:World} {g:Nat} {L:NLay} {n:NodeD} (H:NodeAt S w g L n)
include H
theorem nat_c (x y a b d t u x' y' a' b' d' k:Int) (h:atE ⟨x,y,a,b,d⟩ t u n.c.speed n.c.skew=(⟨x',y',a',b',d'⟩,k)) :
  Calls Tryz.prog 94 #[ptr g,elC x y a b d,.int .i64 t,.int .i64 u] w fun e w'=>e = .returned (.tuple #[elC x' y' a' b' d',.int .i64 k])∧Below w.heap.size w w':=by
 have HV:=Lib.hid h
 obtain ⟨q2,-,q4,-,-,-,-,-,-,-,-,-,-,-,-,-,fz,yg⟩:=node_cells H.blk
 clear H h
 go_enter Tryz.func94,Tryz.ntmps94
 go_wp2_with fail
 go_region_held3 (fun w' => w'.cell? ⟨w.heap.size, 0, none⟩ = some (.int .i64 x) ∧ w'.cell? ⟨w.heap.size, 1, none⟩ = some (.int .i64 y) ∧ w'.cell? ⟨w.heap.size, 2, none⟩ = some (.int .i64 a) ∧ w'.cell? ⟨w.heap.size, 3, none⟩ = some (.int .i64 b) ∧ w'.cell? ⟨w.heap.size, 4, none⟩ = some (.int .i64 d) ∧
     w'.cell? ⟨g,2,none⟩=some (.int .i64 n.c.speed)∧w'.cell? ⟨g,4,none⟩=some (.int .i64 n.c.skew)) (go_simp)
  (first
  | (go_at_call 16;refine (at_v _ _ _ _ _ _ _ _ _ _ _ _ _ _ _ HV.out _).mono ?_;rintro e w1 ⟨rfl,hb1⟩;have z_w1:=hb1.size;(try simp at z_w1);obtain ⟨yw1aa,cw1aa,fw1aa,rw1aa,tw1aa,pw1aa⟩:=bq hb1 (w.heap.size);obtain ⟨yw1ab,cw1ab,fw1ab,rw1ab,tw1ab,pw1ab⟩:=bq hb1 (w.heap.size+1);obtain ⟨y_w1_g,c_w1_g,f_w1_g,r_w1_g,t_w1_g,p_w1_g⟩:=bq hb1 (g)))
 all_goals go_wp2_with fail
 all_goals exact bodyPost_row_t 5 #[.int .i64 x',.int .i64 y',.int .i64 a',.int .i64 b',.int .i64 d'] (.int .i64 k) rfl rfl rfl rfl Tryz.underlying35 rfl (by kernel_rfl) (rc5 (by go_simp) (by go_simp) (by go_simp) (by go_simp) (by go_simp)) ⟨rfl,below_byR⟩
theorem ntrack_no (k now:Int) (hk : -9223372036854775808≤k∧k≤9223372036854775807) (v:EntD) (hl:lk n.t.ents k=some v) (hv:v.has=false) :
  Calls Tryz.prog 46 #[ptr g,.int .i64 k,.int .i64 now] w fun e w'=>e = .returned (.tuple #[elC 0 0 0 0 0,.bool false])∧Below w.heap.size w w':=by
 obtain ⟨x0,x1,x2,x3,⟨e0,e1,e2,e3,e4⟩,x5⟩:=v
 simp only at hv;subst hv
 have HT:Hid (∀ w1,Below w.heap.size w w1→Calls Tryz.prog 93 #[ptr L.t,.int .i64 k] w1 fun e w'=>e = .returned (.tuple #[entV ⟨x0,x1,x2,false,⟨e0,e1,e2,e3,e4⟩,x5⟩,.bool true])∧Below w1.heap.size w1 w'):=fun w1 hb=>tabGet_c (H.t.below hb) k hk _ hl
 obtain ⟨-,-,-,-,-,-,-,-,-,q14,-,-,-,-,-,-,fz,yg⟩:=node_cells H.blk
 clear H hl hk
 go_enter Tryz.func46,Tryz.ntmps46
 go_wp2_with fail
 refine (HT.out _ below_byR).mono ?_;rintro e w1 ⟨rfl,hb1⟩;have z_w1:=hb1.size;(try simp at z_w1);obtain ⟨yw1aa,cw1aa,fw1aa,rw1aa,tw1aa,pw1aa⟩:=bq hb1 (w.heap.size);obtain ⟨y_w1_g,c_w1_g,f_w1_g,r_w1_g,t_w1_g,p_w1_g⟩:=bq hb1 (g)
 go_wp2_with fail
 exact bodyPost_row_t 5 #[.int .i64 0,.int .i64 0,.int .i64 0,.int .i64 0,.int .i64 0] (.bool false) rfl rfl rfl rfl Tryz.underlying35 rfl (by kernel_rfl) (rc5 (by go_simp) (by go_simp) (by go_simp) (by go_simp) (by go_simp)) ⟨rfl,below_byR⟩
end
section
variable {S:Nat→Prop} {w:World} {g:Nat} {L:NLay} {n:NodeD} (H:NodeAt S w g L n)
include H
theorem nput_c (OK:TabOK n.t) (k now:Int) (hk : -9223372036854775808≤k∧k≤9223372036854775807) (v:EntD) (hl:lk n.t.ents k=some v) (hv:v.has=false) (x y a b d t x' y' a' b' d':Int)
  (h:atE ⟨x,y,a,b,d⟩ t now n.c.speed n.c.skew=(⟨x',y',a',b',d'⟩,0)) (hm:El.may ⟨x',y',a',b',d'⟩=true) (hw:timeB now=true) :
  Calls Tryz.prog 257 #[ptr g,.int .i64 k,elC x y a b d,.int .i64 t,.int .i64 now] w fun e w'=>e = .returned (.tuple #[])∧TurnsT S [] true w w'∧NodeAt S w' g L { n with t:=(n.t.put k ⟨x',y',a',b',d'⟩ now).1 }:=by
 have HA:Hid (∀ w1,Below w.heap.size w w1→Calls Tryz.prog 94 #[ptr g,elC x y a b d,.int .i64 t,.int .i64 now] w1 fun e w'=>e = .returned (.tuple #[elC x' y' a' b' d',.int .i64 0])∧Below w1.heap.size w1 w'):=fun w1 hb=>nat_c (H.below hb) _ _ _ _ _ _ _ _ _ _ _ _ _ h
 have HB:Hid (∀ w1,Below w.heap.size w w1→Calls Tryz.prog 46 #[ptr g,.int .i64 k,.int .i64 now] w1 fun e w'=>e = .returned (.tuple #[elC 0 0 0 0 0,.bool false])∧Below w1.heap.size w1 w'):=fun w1 hb=>ntrack_no (H.below hb) _ _ hk _ hl hv
 have HP:Hid (∀ w1,Below w.heap.size w w1→Calls Tryz.prog 310 #[ptr L.t,.int .i64 k,elC x' y' a' b' d',.int .i64 now] w1 fun e w'=>e = .returned (.int .i64 0)∧TurnsT S [] true w w'∧NodeAt S w' g L { n with t:=(n.t.put k ⟨x',y',a',b',d'⟩ now).1 }):=fun w1 hb =>
  (tabPut_c (H.t.below hb) OK k hk v hl _ _ _ _ _ _ hm hw).mono (by
   rintro e w' ⟨rfl,hO,hT⟩
   refine ⟨rfl,(TurnsT.of_below (S:=S) hb).trans (TurnsT.of_map (gt:=L.t) (H.t.below hb) hO) (fun _ _ h=>h),?_⟩
   have hD:=TurnsT.of_map (ty:=[375]) (H.t.below hb) hO
   exact (H.below hb).set_t hD hT)
 obtain ⟨-,-,-,-,-,-,-,-,-,q14,-,-,-,-,-,-,fz,yg⟩:=node_cells H.blk
 clear H h hl hk hm hw OK hv
 go_enter Tryz.func257,Tryz.ntmps257
 go_wp2_with fail
 refine (HA.out _ below_byR).mono ?_;rintro e w1 ⟨rfl,hb1⟩;have z_w1:=hb1.size;(try simp at z_w1);obtain ⟨yw1aa,cw1aa,fw1aa,rw1aa,tw1aa,pw1aa⟩:=bq hb1 (w.heap.size);obtain ⟨y_w1_g,c_w1_g,f_w1_g,r_w1_g,t_w1_g,p_w1_g⟩:=bq hb1 (g)
 go_wp2_with fail
 refine (HB.out _ below_byR).mono ?_;rintro e w2 ⟨rfl,hb2⟩;have z_w2:=hb2.size;(try simp at z_w2);obtain ⟨yw2aa,cw2aa,fw2aa,rw2aa,tw2aa,pw2aa⟩:=bq hb2 (w.heap.size);obtain ⟨y_w2_g,c_w2_g,f_w2_g,r_w2_g,t_w2_g,p_w2_g⟩:=bq hb2 (g)
 go_wp2_with fail
 refine still_tail 7 (by kernel_rfl) (by kernel_rfl) ?_
 simp only [List.take_succ_cons,List.take_zero,List.drop_succ_cons,List.drop_zero];(repeat still_step);(try refine wpStill_nil ?_)
 go_wp2_with fail
 refine (HP.out _ below_byR).mono ?_;rintro e w3 ⟨rfl,hT,hN⟩
 go_wp2_with fail
 refine bodyPost_end (results_none rfl _ _ _) rfl ?_
 exact ⟨rfl,hT,hN⟩
end
theorem blk_set15 {w:World} {b:Nat} {t:TypeId} {a0 a1 a2 a3 a4 a5 a6 a7 a8 a9 a10 a11 a12 a13 a14 c0 c1 c2 c3 c4 c5 c6 c7 c8 c9 c10 c11 c12 c13 c14:Value} (h:Blk w b #[a0,a1,a2,a3,a4,a5,a6,a7,a8,a9,a10,a11,a12,a13,a14] t) :
  Blk (((((((((((((((w.setCell ⟨b,0,none⟩ c0).setCell ⟨b,1,none⟩ c1).setCell ⟨b,2,none⟩ c2).setCell ⟨b,3,none⟩ c3).setCell ⟨b,4,none⟩ c4).setCell ⟨b,5,none⟩ c5).setCell ⟨b,6,none⟩ c6).setCell ⟨b,7,none⟩ c7).setCell ⟨b,8,none⟩ c8).setCell ⟨b,9,none⟩ c9).setCell ⟨b,10,none⟩ c10).setCell ⟨b,11,none⟩ c11).setCell ⟨b,12,none⟩ c12).setCell ⟨b,13,none⟩ c13).setCell ⟨b,14,none⟩ c14) b #[c0,c1,c2,c3,c4,c5,c6,c7,c8,c9,c10,c11,c12,c13,c14] t:=by
 have h0:Blk _ b #[c0,a1,a2,a3,a4,a5,a6,a7,a8,a9,a10,a11,a12,a13,a14] t:=h.setCell_same 0 c0
 have h1:Blk _ b #[c0,c1,a2,a3,a4,a5,a6,a7,a8,a9,a10,a11,a12,a13,a14] t:=h0.setCell_same 1 c1
 have h2:Blk _ b #[c0,c1,c2,a3,a4,a5,a6,a7,a8,a9,a10,a11,a12,a13,a14] t:=h1.setCell_same 2 c2
 have h3:Blk _ b #[c0,c1,c2,c3,a4,a5,a6,a7,a8,a9,a10,a11,a12,a13,a14] t:=h2.setCell_same 3 c3
 have h4:Blk _ b #[c0,c1,c2,c3,c4,a5,a6,a7,a8,a9,a10,a11,a12,a13,a14] t:=h3.setCell_same 4 c4
 have h5:Blk _ b #[c0,c1,c2,c3,c4,c5,a6,a7,a8,a9,a10,a11,a12,a13,a14] t:=h4.setCell_same 5 c5
 have h6:Blk _ b #[c0,c1,c2,c3,c4,c5,c6,a7,a8,a9,a10,a11,a12,a13,a14] t:=h5.setCell_same 6 c6
 have h7:Blk _ b #[c0,c1,c2,c3,c4,c5,c6,c7,a8,a9,a10,a11,a12,a13,a14] t:=h6.setCell_same 7 c7
 have h8:Blk _ b #[c0,c1,c2,c3,c4,c5,c6,c7,c8,a9,a10,a11,a12,a13,a14] t:=h7.setCell_same 8 c8
 have h9:Blk _ b #[c0,c1,c2,c3,c4,c5,c6,c7,c8,c9,a10,a11,a12,a13,a14] t:=h8.setCell_same 9 c9
 have h10:Blk _ b #[c0,c1,c2,c3,c4,c5,c6,c7,c8,c9,c10,a11,a12,a13,a14] t:=h9.setCell_same 10 c10
 have h11:Blk _ b #[c0,c1,c2,c3,c4,c5,c6,c7,c8,c9,c10,c11,a12,a13,a14] t:=h10.setCell_same 11 c11
 have h12:Blk _ b #[c0,c1,c2,c3,c4,c5,c6,c7,c8,c9,c10,c11,c12,a13,a14] t:=h11.setCell_same 12 c12
 have h13:Blk _ b #[c0,c1,c2,c3,c4,c5,c6,c7,c8,c9,c10,c11,c12,c13,a14] t:=h12.setCell_same 13 c13
 have h14:Blk _ b #[c0,c1,c2,c3,c4,c5,c6,c7,c8,c9,c10,c11,c12,c13,c14] t:=h13.setCell_same 14 c14
 exact h14
theorem Blk.new1 (w:World) (o:Obj) (c:Array Value) (t:TypeId):Blk ((w.alloc o).alloc (.cells c t)) (w.heap.size+1) c t:=by
 have h:=Blk.new (w.alloc o) c t
 simpa using h
abbrev heardV (f:FrD) (at_:Int) (s:Nat):Value := .agg #[.int .i64 f.kind,.int .i64 f.src,.int .i64 f.boot,.int .i64 f.seq,.int .i64 f.stamp,.int .i64 f.dst,.int .i64 f.t1,.int .i64 f.t2,.int .i64 f.who,.int .i64 f.when,.int .i64 f.x,.int .i64 f.y,.int .i64 f.a,.int .i64 f.b,.int .i64 f.d,.int .i64 at_,ptr s]
def TakeC (S:Nat→Prop) (g:Nat) (n1 n2:NodeD) (f:FrD) (at_ now fine:Int):Prop :=
 ∀ w L1 s v,NodeAt S w g L1 n1→Blk w s #[ptr g,.int .i64 now,.int .i64 fine,v] 203→Calls Tryz.prog 196 #[ptr g,heardV f at_ s] w fun e w'=>e = .returned (.tuple #[])∧TurnsT S [] true w w'∧∃ L2,NodeAt S w' g L2 n2
theorem ntake_beacon (S:Nat→Prop) (g:Nat) (n:NodeD) (f:FrD) (hk:f.kind=1) (at_ now fine:Int):TakeC S g n n f at_ now fine:=by
 intro w L s v H hs
 have HH:=Lib.hid H
 obtain ⟨fk,fs,fb,fq,fst,fd,ft1,ft2,fw,fwn,fx,fy,fa,fbb,fdd⟩:=f
 simp only at hk;subst hk
 clear H hs
 go_enter Tryz.func196,Tryz.ntmps196
 go_wp2_with fail
 refine bodyPost_end (results_none rfl _ _ _) rfl ?_
 exact ⟨rfl,TurnsT.of_below ((Below.refl _ _).alloc (Nat.le_refl _) _),_,HH.out.below ((Below.refl _ _).alloc (Nat.le_refl _) _)⟩
theorem ntake_est (S:Nat→Prop) (g:Nat) (n:NodeD) (OK:TabOK n.t) (f:FrD) (hk:f.kind=5) (at_ now fine:Int) (h63 : -9223372036854775808≤f.src∧f.src≤9223372036854775807) (v:EntD) (hl:lk n.t.ents f.src=some v) (hv:v.has=false) (x' y' a' b' d':Int)
  (h:atE ⟨f.x,f.y,f.a,f.b,f.d⟩ f.stamp now n.c.speed n.c.skew=(⟨x',y',a',b',d'⟩,0)) (hm:El.may ⟨x',y',a',b',d'⟩=true) (hw:timeB now=true) :
  TakeC S g n { n with t:=(n.t.put f.src ⟨x',y',a',b',d'⟩ now).1 } f at_ now fine:=by
 intro w L s vs H hs
 obtain ⟨fk,fs,fb,fq,fst,fd,ft1,ft2,fw,fwn,fx,fy,fa,fbb,fdd⟩:=f
 simp only at hk h63 hl h;subst hk
 have HP:Hid (∀ w1,Below w.heap.size w w1→Calls Tryz.prog 257 #[ptr g,.int .i64 fs,elC fx fy fa fbb fdd,.int .i64 fst,.int .i64 now] w1 fun e w'=>e = .returned (.tuple #[])∧TurnsT S [] true w w'∧∃ L2,NodeAt S w' g L2 { n with t:=(n.t.put fs ⟨x',y',a',b',d'⟩ now).1 }):=fun w1 hb =>
  (nput_c (H.below hb) OK fs now h63 v hl hv _ _ _ _ _ _ _ _ _ _ _ h hm hw).mono (by
   rintro e w' ⟨rfl,hT,hN⟩
   exact ⟨rfl,(TurnsT.of_below (S:=S) hb).trans hT (fun _ _ h=>h),_,hN⟩)
 obtain ⟨ys,cs,fs',-⟩:=bk_o hs
 clear H hs OK hl h hm hw
 go_enter Tryz.func196,Tryz.ntmps196
 go_wp2_with fail
 refine still_tail 15 (by kernel_rfl) (by kernel_rfl) ?_
 simp only [List.take_succ_cons,List.take_zero,List.drop_succ_cons,List.drop_zero];(repeat still_step);(try refine wpStill_nil ?_)
 go_wp2_with fail
 refine (HP.out _ below_byR).mono ?_;rintro e w3 ⟨rfl,hT,hN⟩
 go_wp2_with fail
 refine bodyPost_end (results_none rfl _ _ _) rfl ?_
 exact ⟨rfl,hT,hN⟩
theorem nhear_c {S:Nat→Prop} {w:World} {g:Nat} {L:NLay} {n:NodeD} (H:NodeAt S w g L n) (OK:NodeOK n) (hS:∀ k,w.heap.size≤k→S k) (v:Value) (l:List Nat) (f:FrD) (hd:decE l=(f,0)) (hr:RdB w v l) (at_ now fine:Int)
  (hw:timeB now=true) (h1:f.src≠n.id) (h2:freshF f.stamp now n.c.stale n.c.skew=0) (h3:nodeB f.src=true) (h4:serMay f.boot=true) (h5:serMay f.seq=true) (h6:0≤f.stamp∧f.stamp≤1000000)
  (h7:lk n.t.lives f.src=none) (h8:lk n.t.ents f.src=none) (h9:(n.t.ents.length:Int)<n.t.most) (n2:NodeD) (HTK:TakeC S g { n with t:=(n.t.hear f.src f.boot f.seq now).1 } n2 f at_ now fine) :
  Calls Tryz.prog 146 #[ptr g,v,.int .i64 at_,.int .i64 now,.int .i64 fine] w fun e w'=>e = .returned (.tuple #[.slice none 0 0,.int .i64 0])∧Turns S w w'∧∃ L2,NodeAt S w' g L2 n2:=by
 have hc:=cfg_bd n.c OK.c
 obtain ⟨fk,fs,fb,fq,fst,fd,ft1,ft2,fw,fwn,fx,fy,fa,fbb,fdd⟩:=f
 simp only at h1 h2 h3 h4 h5 h6 h7 h8
 have HD:Hid (∀ w1,Below w.heap.size w w1→Calls Tryz.prog 193 #[v] w1 fun e w'=>e = .returned (.tuple #[frC fk fs fb fq fst fd ft1 ft2 fw fwn fx fy fa fbb fdd,.int .i64 0])∧Below w1.heap.size w1 w'):=fun w1 hb=>decode_v _ _ _ _ hd _ (hr.below hb)
 have HTM:Hid (∀ w1,Calls Tryz.prog 134 #[.int .i64 now] w1 fun e w'=>e = .returned (.bool true)∧w'=w1):=fun w1=>ntime_c _ hw _
 have hw':0≤now∧now≤1000000:=by simpa [timeB] using hw
 have HF:Hid (∀ w1,Calls Tryz.prog 194 #[.int .i64 fst,.int .i64 now,.int .i64 n.c.stale,.int .i64 n.c.skew] w1 fun e w'=>e = .returned (.int .i64 0)∧w'=w1):=fun w1=>fresh_c _ _ _ _ _ h2 h6 hw' (by omega) (by omega) _
 have HTH:Hid (∀ w1,Below w.heap.size w w1→Calls Tryz.prog 195 #[ptr L.t,.int .i64 fs,.int .i64 fb,.int .i64 fq,.int .i64 now] w1 fun e w'=>e = .returned (.int .i64 0)∧TurnsT S [375] true w1 w'∧∃ L',NodeAt S w' g L' { n with t:=(n.t.hear fs fb fq now).1 }):=fun w1 hb =>
  (tabHear_new (H.t.below hb) OK.t (fun k hk=>hS k (Nat.le_trans hb.size hk)) fs fb fq now h3 h4 h5 hw h7 h8 h9).mono (by
   rintro e w' ⟨rfl,hT,T',hN⟩
   exact ⟨rfl,hT,_,(H.below hb).set_t hT hN⟩)
 have HK:=Lib.hid HTK
 have H1:Hid (fs≠n.id):=h1
 have HH:=Lib.hid H
 obtain ⟨-,-,q4,-,q6,-,q11,-,-,q14,-,-,-,-,-,-,fz,yg⟩:=node_cells H.blk
 clear H OK hd hr hw h1 h2 h3 h4 h5 h6 h7 h8 h9 HTK hc hw'
 go_enter Tryz.func146,Tryz.ntmps146
 go_wp2_with fail
 go_step3
 go_wp2_with (go_at_call 134;refine (HTM.out _).mono ?_;rintro e w1 ⟨rfl,h⟩;have h9:=h.symm;subst h9)
 refine (HD.out _ below_byR).mono ?_;rintro e w1 ⟨rfl,hb1⟩
 have XX:Blk w1 w.heap.size #[.int .i64 0,.int .i64 0,.int .i64 0,.int .i64 0,.int .i64 0,.int .i64 0,.int .i64 0,.int .i64 0,.int .i64 0,.int .i64 0,.int .i64 0,.int .i64 0,.int .i64 0,.int .i64 0,.int .i64 0] 193:=Blk.keep (by repeat (first|with_reducible assumption|with_reducible exact Blk.new _ _ _|with_reducible refine Blk.alloc ?_ _|with_reducible refine Blk.drew ?_|(with_reducible refine Blk.setCell_other ?_ ?hB _;case hB=>(first|omega|(simp;done)|(simp;omega)))|with_reducible refine Blk.setCell_same ?_ _ _|with_reducible refine Blk.keep ?_ (by assumption))) hb1
 have XS:Blk w1 (w.heap.size+1) #[ptr g,.int .i64 now,.int .i64 fine,.slice none 0 0] 203:=Blk.keep (Blk.new1 _ _ _ _) hb1
 have B1:Below w.heap.size w w1:=below_byR
 have z_w1:=hb1.size;(try simp at z_w1);obtain ⟨yw1aa,cw1aa,fw1aa,rw1aa,tw1aa,pw1aa⟩:=bq hb1 (w.heap.size);obtain ⟨yw1ab,cw1ab,fw1ab,rw1ab,tw1ab,pw1ab⟩:=bq hb1 (w.heap.size+1);obtain ⟨y_w1_g,c_w1_g,f_w1_g,r_w1_g,t_w1_g,p_w1_g⟩:=bq hb1 (g)
 go_wp2_with fail
 refine name_wp ?_;intro u hu
 have HX:Hid (Blk u w.heap.size #[.int .i64 fk,.int .i64 fs,.int .i64 fb,.int .i64 fq,.int .i64 fst,.int .i64 fd,.int .i64 ft1,.int .i64 ft2,.int .i64 fw,.int .i64 fwn,.int .i64 fx,.int .i64 fy,.int .i64 fa,.int .i64 fbb,.int .i64 fdd] 193):=by
  rw [hu];exact blk_set15 XX
 have HS2:Hid (Blk u (w.heap.size+1) #[ptr g,.int .i64 now,.int .i64 fine,.slice none 0 0] 203):=by
  rw [hu];show Blk _ _ _ _;exact (by repeat (first|with_reducible assumption|with_reducible exact Blk.new _ _ _|with_reducible refine Blk.alloc ?_ _|with_reducible refine Blk.drew ?_|(with_reducible refine Blk.setCell_other ?_ ?hB _;case hB=>(first|omega|(simp;done)|(simp;omega)))|with_reducible refine Blk.setCell_same ?_ _ _|with_reducible refine Blk.keep ?_ (by assumption)))
 have HB:Hid (Below w.heap.size w u):=by rw [hu];show Below _ _ _;exact below_byR
 have N1:=Lib.hid (HH.out.below HB.out)
 clear z_w1 yw1aa cw1aa fw1aa rw1aa tw1aa pw1aa yw1ab cw1ab fw1ab rw1ab tw1ab pw1ab y_w1_g c_w1_g f_w1_g r_w1_g t_w1_g p_w1_g
 clear hu XX XS hb1 B1 q4 q6 q11 q14 fz yg
 obtain ⟨-,-,q4,-,q6,-,q11,-,-,q14,-,-,-,-,-,-,fz,yg⟩:=node_cells N1.out.blk
 obtain ⟨y2,c2,f2,-⟩:=bk_o HX.out
 have h1':=H1.out
 go_region
 go_wp2_with fail
 refine still_tail 13 (by kernel_rfl) (by kernel_rfl) ?_
 simp only [List.take_succ_cons,List.take_zero,List.drop_succ_cons,List.drop_zero];(repeat still_step);(try refine wpStill_nil ?_)
 go_wp2_with (go_at_call 194;refine (HF.out _).mono ?_;rintro e w2 ⟨rfl,h⟩;have h9:=h.symm;subst h9)
 refine still_tail 11 (by kernel_rfl) (by kernel_rfl) ?_
 simp only [List.take_succ_cons,List.take_zero,List.drop_succ_cons,List.drop_zero];(repeat still_step);(try refine wpStill_nil ?_)
 go_wp2_with fail
 refine (HTH.out _ below_byR).mono ?_;rintro e w3 ⟨rfl,hT,T',hN⟩
 have N3:=Lib.hid hN
 have X3:=Lib.hid (hT.blk (HX.out.drew.drew.drew) (by decide))
 have S3:=Lib.hid (hT.blk (HS2.out.drew.drew.drew) (by decide))
 have T3:Hid (Turns S w w3):=(Turns.of_below HB.out).drew.drew.drew.trans hT.turns (fun _ _ h=>h)
 clear hT hN q4 q6 q11 q14 fz yg y2 c2 f2
 obtain ⟨y2,c2,f2,-⟩:=bk_o X3.out
 have r2:=X3.out.row?_all 15 rfl
 go_wp2_with fail
 refine (HK.out _ _ _ _ N3.out S3.out).mono ?_;rintro e w4 ⟨rfl,hT,L2,hN⟩
 have S4:=Lib.hid (hT.blk S3.out (by simp))
 have T4:Hid (Turns S w w4):=T3.out.trans hT.turns (fun _ _ h=>h)
 clear y2 c2 f2 r2 hT
 obtain ⟨y2,c2,f2,-⟩:=bk_o S4.out
 go_wp2_with fail
 rw [Exit.noGoto_ret]
 go_ret2
 exact ⟨rfl,T4.out,_,hN⟩
end Go.Proofs.YtechbdnhalmobaaGreatDoor
