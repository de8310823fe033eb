/- Walks. -/
import Derived.Test.YtechbdnhalmobaaGreatDoorAb
import Derived.Lib.SliceRun
import Derived.Deep.RegionLaw
import Derived.Shelf.RegionOpenPlain
import Derived.Maps.AppendAt
namespace Go.Proofs.YtechbdnhalmobaaGreatDoor
set_option maxRecDepth 100000
set_option maxHeartbeats 16000000
set_option linter.unusedSimpArgs false
set_option linter.unusedVariables false
open Go.Proofs.Tryz
open Go.RowKit Go.Maps
def Ix(c:Array Value)(o:Nat):List Value->Array Value
 | []=>c
 | v :: r=>Ix (c.setIfInBounds o v) (o+1) r
theorem BN{b:Nat}{t:TypeId}:∀(l:List Value) (o:Nat) (c:Array Value) (w:World),Blk w b c t->Blk (w.setCells b o l) b (Ix c o l) t
 | [],_,_,_,h=>h
 | v :: r,o,c,w,h=>BN r (o+1) (c.setIfInBounds o v) (w.setCell ⟨b,o,none⟩ v) (h.ab o v)
theorem Ax{b:Nat}{a:World}:∀(l:List Value) (o:Nat) (w:World),ah b a w->ah b a (w.setCells b o l)
 | [],_,_,h=>h
 | v :: r,o,w,h=>Ax r (o+1) (w.setCell ⟨b,o,none⟩ v) (h.setCell o v)
theorem Hl:∀(l:List Value) (o:Nat) (c:Array Value),o+l.length<=c.size->(Ix c o l).toList=c.toList.take o++l++c.toList.drop (o+l.length)
 | [],o,c,_=>by simp[Ix]
 | v :: r,o,c,h=>by
  simp only[List.length_cons] at h
  have e:o<c.toList.length:=by simp;omega
  rw[Ix,Hl r (o+1) _ (by simp;omega),Array.toList_setIfInBounds,List.set_eq_take_append_cons_drop,if_pos e]
  have b:(List.take o c.toList).length=o:=by rw[List.length_take];omega
  have f:o+1-o=1:=by omega
  have d:o+1+r.length-o=r.length+1:=by omega
  have a:List.drop (o+1+r.length) (List.take o c.toList)=[]:=List.drop_eq_nil_of_le (by omega)
  rw[List.take_append,List.drop_append,b,f,d,a,List.take_of_length_le (i:=o+1) (l:=List.take o c.toList) (by omega)]
  simp only[List.take_succ_cons,List.take_zero,List.drop_succ_cons,List.drop_drop,List.nil_append,List.length_cons,List.append_assoc,List.cons_append]
  congr 4
  omega
theorem Hk:∀(l:List Value) (o:Nat) (c:Array Value),(Ix c o l).size=c.size
 | [],_,_=>rfl
 | v :: r,o,c=>by rw[Ix,Hk r];simp
theorem Je{P:Program}(w:World)(t e f:TypeId)(z:Value)(a:List Value)(m:P.underlying t=some (.slice e))(i:∀w,(zeroValue e).run P w=.ok z w)(k:(Builtin.zeroCells z.cells 1).toList=a)(l:∀u∈a,u.oneCell'=true)(b o c:Nat)(h:∀j,j<a.length->(w.cell? ⟨b,o+j,none⟩).isSome=true)(g:∀j,j<a.length->w.frozen? ⟨b,o+j,none⟩=false):(Builtin.clear_ #[t] f #[.slice (some ⟨b,o,none⟩) 1 c]).run P w=.ok (.tuple #[]) (w.setCells b o a):=by
 have d:=run_storeCells_cells (P:=P) b o a 0 w (by simpa using h) (by simpa using g) l;simp only[Nat.add_zero] at d;simp[Builtin.clear_,run_underlying m,i,k,d]
theorem KQ:(prog.info? 143).map (fun i=>(i.zero,i.size,i.bytes))=some (some (.agg #[.int .i64 0,.slice none 0 0,.int .i64 0,.int .i64 0,false]),5,56):=by kernel_rfl
theorem Oi(w:World):(zeroValue 143).run prog w=.ok (.agg #[.int .i64 0,.slice none 0 0,.int .i64 0,.int .i64 0,false]) w:=by kernel_rfl
theorem Nv(g b n i:Nat)(c:Array Value)(w:World)(G:Blk w g c 143)(z:c.size=b*5)(hn:n<=b)(hm:b<=maxLen)(hi:i<n)(O:∀u∈c.toList.take (n*5),u.oneCell'=true):Calls prog 145 #[.slice (some ⟨g,0,none⟩) n b,i,.int .i64 ((i:Int)+1)] w fun e N=>e=.returned (.slice (some ⟨g,0,none⟩) (n-1) b)/\ah g w N/\
   ∃k,Blk N g k 143/\k.size=b*5/\k.toList.take ((n-1)*5)=(c.toList.take (i*5))++((c.toList.take (n*5)).drop ((i+1)*5)):=by
 obtain⟨j,s⟩:∃j,j=i+1:=⟨_,rfl⟩;rw[<-s,show(i:Int)+1=(j:Int) by omega];have F:prog.follows .mixedOrders=true:=by kernel_rfl
 have a4:j<=n:=by omega
 obtain⟨i0,I,a0,B,X⟩:=info_parts KQ;obtain⟨a,d⟩:∃a,a=(c.toList.take (n*5)).drop (j*5):=⟨_,rfl⟩;have y:c.toList.length=b*5:=by simpa using z
 have f:a.length=(n-j)*5:=by rw[d,List.length_drop,List.length_take,y];omega
 have p:∀t u,a[t]?=some u->c[j*5+t]?=some u:=by
  intro t u h;rw[d,List.getElem?_drop,List.getElem?_take] at h;split at h
  ·simpa using h
  ·cases h
 obtain⟨y1,D,R,-⟩:=cz G
 obtain⟨A,hA,v⟩:∃A:Addr,(if b=j then (some ⟨g,0,none⟩:Option Addr) else some ⟨g,j*5,none⟩)=some A/\Hid (∀t u,a[t]?=some u->w.drew.cell? (A.add t)=some u):=by
  by_cases h:b=j
  ·refine⟨⟨g,0,none⟩,by simp[h],fun t u q=>?_⟩;have h0:a.length=0:=by rw[f];omega
   rw[List.length_eq_zero_iff.1 h0] at q;simp at q
  ·refine⟨⟨g,j*5,none⟩,by simp[h],fun t u q=>?_⟩;rw[Addr.add_lit];exact(D _).trans (p t u q)
 have Q:Hid (a.length=(n-j)*5):=f
 have s2:Hid (∀u∈a,u.oneCell'=true):=by
  intro u q;rw[d] at q;exact O u (List.mem_of_mem_drop q)
 have r:∀o,o<b*5->(w.cell? ⟨g,o,none⟩).isSome=true:=by intro o ho;rw[D,Array.getElem?_eq_getElem (by omega)];rfl
 have s3:Hid (∀t,t<a.length->(w.drew.cell? ⟨g,0+i*5+t,none⟩).isSome=true/\w.drew.frozen? ⟨g,0+i*5+t,none⟩=false):=by
  intro t ht;rw[f] at ht;exact⟨r _ (by omega),R _⟩
 obtain⟨m,l⟩:∃m,m=w.drew.setCells g (0+i*5) a:=⟨_,rfl⟩;have x:Hid (Blk m g (Ix c (0+i*5) a) 143):=by rw[l];exact BN _ _ _ _ G.drew
 have J:Hid (ah g w m):=by rw[l];exact Ax _ _ _ (ah.refl.drew)
 have K:(Ix c (0+i*5) a).size=b*5:=by rw[Hk,z]
 obtain⟨y2,S,P,-⟩:=cz x.out
 have a5:∀E,(Builtin.clear_ #[178] E #[.slice (some ⟨g,(n-1)*5,none⟩) 1 (b-(n-1))]).run prog m=.ok (.tuple #[]) (m.setCells g ((n-1)*5) [.int .i64 0,.slice none 0 0,.int .i64 0,.int .i64 0,.bool false]):=
  fun E=>Je m _ _ E _ [.int .i64 0,.slice none 0 0,.int .i64 0,.int .i64 0,.bool false] underlying178 Oi (by kernel_rfl) (by simp[Value.oneCell']) g _ _ (fun j s=>by simp at s;rw[S,Array.getElem?_eq_getElem (by omega)];rfl) (fun j s=>P _)
 have U:Hid (m=w.drew.setCells g (0+i*5) a):=l;have HL:Hid (∀o,o<b*5->(w.cell? ⟨g,o,none⟩).isSome=true):=r;have a6:i<=b:=by omega
 have a3:j<=b:=by omega
 have W:i+(n-j)=n-1:=by omega
 have e2:n-(n-1)=1:=by omega
 have a1:((i:Int)==(j:Int))=false:=by simp;omega
 have HS:Hid (c.size=b*5):=z;have H:Hid (a=(c.toList.take (n*5)).drop (j*5)):=d;have M:Hid ((Ix c (0+i*5) a).size=b*5):=K;have HJ:=Lh s;have a2:i<j:=by omega
 clear z O G d K s;clear l p f D R y1 S P y2 r;go_enter func145,ntmps145;go_wp2_with fail;go_region_law_o (refine step_append_room rfl (.tmp 22) (.tmp 25) 178 rfl 143 i0 5 underlying178 I B g 0 i b (by simp[Act.eval,Act.put]) A (n-j) (b-j) a (by simp[Act.eval,Act.put]) Q.out v.out s2.out (by omega) s3.out ?_;rw[<-U.out,W])
 go_wp2
 go_ret;have Hs:=HS.out;have Hj:=HJ.out;have C:a.length=(n-j)*5:=Q.out;have T:=Hl a (0+i*5) c (by omega);have p2:=Hl [.int .i64 0,.slice none 0 0,.int .i64 0,.int .i64 0,.bool false] ((n-1)*5) (Ix c (0+i*5) a) (by rw[M.out];simp;omega);refine⟨rfl,Ax _ _ _ J.out,_,BN _ _ _ _ x.out,by rw[Hk,M.out],?_⟩
 ·rw[p2,T,Nat.zero_add,<-H.out];have V:(List.take (i*5) c.toList++a).length=(n-1)*5:=by rw[List.length_append,List.length_take,y,C];omega
  generalize List.take (i*5) c.toList++a=Y at V ⊢;have L:∀Z,List.take ((n-1)*5) (Y++Z)=Y:=fun Z=>by rw[List.take_append_of_le_length (by omega),List.take_of_length_le (by omega)]
  rw[List.append_assoc,L,L]
def RdS(S:Nat->Prop)(w:World)(v:Value)(xs:List Nat):Prop:=
 Byt xs/\∃ao cap,v=.slice ao xs.length cap/\xs.length<=cap/\∀j,j<xs.length->∃b o c,ao=some ⟨b,o,none⟩/\Blk w b c 5/\S b/\c[o+j]?=some (.int .u8 ((xs.getD j 0:Nat):Int))
theorem RdS.rd{S:Nat->Prop}{w:World}{v:Value}{e:List Nat}(h:RdS S w v e):RdB w v e:=by
 obtain⟨n,m,a,f,i,p⟩:=h;exact⟨n,m,a,f,i,fun j k=>by obtain⟨b,o,c,g,d,-,l⟩:=p j k;exact⟨b,o,g,d.lt,(d.at _).trans l⟩⟩
theorem RdS.kept{S S':Nat->Prop}{w w':World}{v:Value}{f:List Nat}(h:RdS S w v f)(u:w.heap.size<=w'.heap.size)(t:∀k,k<w.heap.size->S k->w'.heap[k]? = w.heap[k]?)(i:∀k,k<w.heap.size->S k->S' k):RdS S' w' v f:=by
 obtain⟨r,q,a,g,m,s⟩:=h;refine⟨r,q,a,g,m,fun j n=>?_⟩;obtain⟨b,o,c,l,d,e,p⟩:=s j n;exact⟨b,o,c,l,(t b d.lt e).trans d,i b d.lt e,p⟩
theorem RdS.only{S:Nat->Prop}{w w':World}{v:Value}{e:List Nat}{g:Nat}{cs:Array Value}{t:TypeId}(h:RdS S w v e)(n:ah g w w')(l:Blk w g cs t)(r:5≠t):RdS S w' v e:=by
 obtain⟨h1,q,a,h2,i,s⟩:=h;refine⟨h1,q,a,h2,i,fun j k=>?_⟩;obtain⟨b,o,c,f,d,p,m⟩:=s j k;exact⟨b,o,c,f,n.blk d (Blk.ne d l r),p,m⟩
theorem Ai.rdS{w:World}{B:Nat}{v:Value}{d:List Nat}(h:Ai w B v d):RdS (fun k=>B<=k) w v d:=by
 obtain⟨l,s,⟨rfl,r⟩|⟨g,a,b,rfl,n,f,m,p,q,o⟩⟩:=h
 ·exact⟨l,⟨none,0,by rw[r],by omega,fun j e=>absurd e (by omega)⟩⟩
 ·have own:w.ownsRow B 5 1 (.slice (some ⟨g,0,none⟩) d.length a) d.length (d.map fun (c:Nat)=>Value.int .u8 (c:Int)):=⟨s,.inr ⟨g,a,b,rfl,n,f,m,p,q,o⟩⟩;refine⟨l,some ⟨g,0,none⟩,a,rfl,m,fun j e=>⟨g,0,b,rfl,f,n,?_⟩⟩;have i:Blk w g b 5:=f;rw[Nat.zero_add,<-i.at j,own.cellAt j (by omega),List.getElem?_map,List.getElem?_eq_getElem e,List.getD_eq_getElem?_getD,List.getElem?_eq_getElem e];rfl
theorem SI(v:Value)(f:List Nat)(w:World)(h:RdB w v f)(Q:f.length<=1000):Calls prog 192 #[v] w fun e B=>∃q,e=.returned q/\RdS (fun k=>w.heap.size<=k) B q f/\zB w B:=by
 obtain⟨E,M,i,rfl,S,H⟩:=h;have I:=Lh H;cases M with
 | none=>
  have r:f.length=0:=by
   rcases Nat.eq_zero_or_pos f.length with h|h
   ·exact h
   ·obtain⟨b,o,e,-⟩:=H 0 h;cases e
  clear H;have P:Hid (f.length=0):=r;clear r;have F:∀W,(binOp .eql 36 (.slice none f.length i) (.slice none 0 0)).run prog W=.ok (.bool true) W:=fun W=>Lib.run_eql_slice_nil W 36 _ none _ _ 0 0 underlying36;go_enter func192,ntmps192;go_wp2_with fail;go_ret;have r:f.length=0:=P.out;exact⟨.slice none 0 0,rfl,⟨E,none,0,by rw[r],by omega,fun j p=>by omega⟩,Below.refl _ _⟩
 | some ad=>
  clear H;have F:∀W,(binOp .eql 36 (.slice (some ad) f.length i) (.slice none 0 0)).run prog W=.ok (.bool false) W:=fun W=>Lib.run_eql_slice_nil W 36 _ (some ad) _ _ 0 0 underlying36;obtain⟨R,N,z,y,t⟩:=info_parts JZ;obtain⟨d,a⟩:∃d,d=f.map (fun (c:Nat)=>Value.int .u8 (c:Int)):=⟨_,rfl⟩;have D:Hid (d.length=f.length*1):=by show _=_;rw[a];simp
  have G:Hid (∀u∈d,u.oneCell'=true):=by intro u n;rw[a] at n;obtain⟨x,_,rfl⟩:=List.mem_map.1 n;rfl
  have J:Hid (∀j u,d[j]?=some u->(w.alloc (.cells #[] 5)).cell? (ad.add j)=some u):=by
   intro j u n;have p:j<f.length:=by have:=(List.getElem?_eq_some_iff.1 n).1;rw[a] at this;simpa using this
   obtain⟨b,o,s,T,L⟩:=I.out j p;injection s with s;subst s
   rw[Addr.add_lit];refine(Lib.cell?_alloc_some _ L).trans ?_;rw[a] at n;rw[<-n,List.getElem?_map,List.getElem?_eq_getElem p,List.getD_eq_getElem?_getD,List.getElem?_eq_getElem p];rfl
  have C:Hid ((w.alloc (.cells #[] 5)).ownsRow w.heap.size 5 1 (.slice (some ⟨w.heap.size,0,none⟩) 0 0) 0 []):=⟨rfl,.inr ⟨w.heap.size,0,#[],rfl,Nat.le_refl _,Blk.new w _ _,Nat.le_refl _,by decide,rfl,rfl⟩⟩;have O:Hid (d=f.map (fun (c:Nat)=>Value.int .u8 (c:Int))):=a;obtain⟨m,A⟩:∃m,f.length=m:=⟨_,rfl⟩;have K:Hid (f.length=m):=A;rw[A] at D Q F ⊢;clear a A;go_enter func192,ntmps192;go_wp2_with (at_builtin;refine wpList_append_own _ rfl _ _ 36 rfl w.heap.size 5 R (.int .u8 0) 1 1 underlying36 N z y t rfl (by decide) _ 0 _ rfl C.out ad m i d rfl D.out J.out G.out (by simp[maxLen];omega) (by omega) (by simp) ?_;intro q B g l _)
  go_ret;rw[Nat.zero_add,List.nil_append,O.out,<-K.out] at g;exact⟨q,rfl,Ai.rdS ⟨E,g⟩,xE (Nat.le_refl _) ((Below.refl _ _).alloc (Nat.le_refl _) _) l (xA C.out)⟩
theorem IR{w:World}{b k i:Nat}{v:Value}(c:k<w.heap.size)(a:k≠b):(w.setCell ⟨b,i,none⟩ v).heap[k]? = w.heap[k]?:=(ah.refl.setCell i v).block k c a
abbrev AB(m:gE)(v:Value):Value:=.agg #[.int .i64 m.til,v,.int .i64 m.at_,.int .i64 m.tru,.bool m.bent]
abbrev ma(p:gE×Value):List Value:=[.int .i64 p.1.til,p.2,.int .i64 p.1.at_,.int .i64 p.1.tru,.bool p.1.bent]
theorem RdS.form{S:Nat->Prop}{w:World}{v:Value}{b:List Nat}(h:RdS S w v b):∃c a,v=.slice c b.length a:=by
 obtain⟨-,c,a,rfl,-⟩:=h;exact⟨_,_,rfl⟩
theorem RdS.below{S:Nat->Prop}{w w':World}{v:Value}{b:List Nat}(h:RdS S w v b)(hb:zB w w'):RdS S w' v b:=h.kept hb.size (fun k c _=>hb.block k c) (fun _ _ a=>a)
theorem Tc(m:gE)(v:Value)(w:World)(h:RdB w v m.data)(s:m.data.length<=1000):Calls prog 144 #[AB m v] w fun e w'=>∃c,e=.returned (AB m c)/\RdS (fun k=>w.heap.size<=k) w' c m.data/\zB w w':=by
 obtain⟨x,o,rfl⟩:=h.form;have t:Hid (∀a,zB w a->Calls prog 192 #[.slice x m.data.length o] a fun e w'=>∃c,e=.returned c/\RdS (fun k=>a.heap.size<=k) w' c m.data/\zB a w'):=fun a q=>SI _ _ a (h.below q) s;clear h s;go_enter func144,ntmps144;go_wp2_with fail;refine(t.out _ ad).mono ?_;rintro e a ⟨c,rfl,n,f⟩;have g:=f.size;(try simp at g);have i:=bq2 f (w.heap.size);obtain⟨d,b,rfl⟩:=n.form;have z:=Lh n;clear n;go_wp2_with fail
 have y:∀j,a.heap.size<=j.heap.size->(∀k,k<a.heap.size->k≠w.heap.size->k≠w.heap.size+1->j.heap[k]? = a.heap[k]?)->RdS (fun k=>w.heap.size<=k) j (.slice d m.data.length b) m.data:=fun j u q=>z.out.kept u
  (fun k p l=>by
   have r:w.heap.size+2<=k:=by simpa using l
   exact q k p (by omega) (by omega))
  (fun k _ l=>by
   have r:w.heap.size+2<=k:=by simpa using l
   show _<=_;omega)
 exact ak 5 #[.int .i64 m.til,.slice d m.data.length b,.int .i64 m.at_,.int .i64 m.tru,.bool m.bent] rfl rfl rfl underlying143 rfl (by kernel_rfl) rc5 ⟨_,rfl,y _ (by simp) (fun k p l r=>by repeat rw[IR (by simpa using p) (by omega)]),ad⟩
structure Cd (S:Nat->Prop) (w:World) (a:Nat) (v:Value) (lp:List (gE×Value)):Prop where
 blk:Blk w a #[v] 180
 sa:S a
 row:w.ownsRow 0 143 5 v lp.length (lp.flatMap ma)
 sr:∀g,v.ownBlock=some g->S g
 data:∀p∈lp,RdS S w p.2 p.1.data/\p.1.data.length<=1000
def Ap(S:Nat->Prop)(w:World)(a:Nat)(l:List gE):Prop:=∃v lp,lp.map (·.1)=l/\Cd S w a v lp
theorem Hr{w:World}{B e b n:Nat}{v:Value}{d:List Value}(h:w.ownsRow B e b v n d):∃i c,v=.slice i n c:=by
 obtain⟨-,⟨rfl,rfl⟩|⟨g,c,f,rfl,-⟩⟩:=h
 ·exact⟨_,_,rfl⟩
 ·exact⟨_,_,rfl⟩
theorem Cd.kept{S S':Nat->Prop}{w w':World}{a:Nat}{v:Value}{r:List (gE×Value)}(h:Cd S w a v r)(s:w.heap.size<=w'.heap.size)(n:∀k,k<w.heap.size->S k->w'.heap[k]? = w.heap[k]?)(j:∀k,k<w.heap.size->S k->S' k):Cd S' w' a v r:=by
 have c:∀g,v.ownBlock=some g->g<w.heap.size:=by
  intro g c;obtain⟨-,⟨rfl,-⟩|⟨b,d,f,rfl,-,m,-⟩⟩:=h.row
  ·cases c
  ·injection c with c;subst c;exact(Array.getElem?_eq_some_iff.1 m).1
 refine⟨(n a h.blk.lt h.sa).trans h.blk,j a h.blk.lt h.sa,?_,fun g e=>j g (c g e) (h.sr g e),fun p o=>⟨(h.data p o).1.kept s n j,(h.data p o).2⟩⟩;obtain⟨q,i|⟨b,d,f,i,t,x,u⟩⟩:=h.row
 ·exact⟨q,.inl i⟩
 ·have e:v.ownBlock=some b:=by rw[i];rfl
  exact⟨q,.inr ⟨b,d,f,i,t,(n b (c b e) (h.sr b e)).trans x,u⟩⟩
theorem Ap.kept{S S':Nat->Prop}{w w':World}{a:Nat}{l:List gE}(h:Ap S w a l)(e:w.heap.size<=w'.heap.size)(g:∀k,k<w.heap.size->S k->w'.heap[k]? = w.heap[k]?)(d:∀k,k<w.heap.size->S k->S' k):Ap S' w' a l:=by
 obtain⟨v,b,f,c⟩:=h;exact⟨v,b,f,c.kept e g d⟩
theorem QF(w:World):Calls prog 54 #[] w fun e b=>e=.returned (ptr w.heap.size)/\Ap (fun k=>w.heap.size<=k) b w.heap.size []/\zB w b:=by
 go_enter func54,ntmps54;go_wp2
 go_ret;refine⟨rfl,⟨.slice none 0 0,[],rfl,Blk.new _ _ _,Nat.le_refl _,⟨rfl,.inl ⟨rfl,rfl⟩⟩,?_,by simp⟩,ad⟩;intro g h;cases h
theorem Jv(l:List (gE×Value)):∀(k:Nat) (p:gE×Value),l[k]?=some p->((l.flatMap ma).drop (k*5)).take 5=ma p:=by
 induction l with
 | nil=>intro k p h;simp at h
 | cons q r b=>
  intro k p h;cases k with
  | zero=>simp at h;subst h;simp
  | succ k=>
   have c:((q :: r).flatMap ma).drop ((k+1)*5)=(r.flatMap ma).drop (k*5):=by
    rw[List.flatMap_cons,show(k+1)*5=(ma q).length+k*5 by simp;omega,List.drop_append];simp
   rw[c];exact b k p (by simpa using h)
theorem OY{w:World}{B e n:Nat}{v:Value}{l:List (gE×Value)}(h:w.ownsRow B e 5 v n (l.flatMap ma)){k:Nat}{p:gE×Value}(i:l[k]?=some p)(A:l.length=n):∃g b,v=.slice (some ⟨g,0,none⟩) n b/\g<w.heap.size/\w.row? g (k*5) 5=some (ma p).toArray/\∀o,o<5->w.cell? ⟨g,k*5+o,none⟩=(ma p)[o]?:=by
 have q:=(List.getElem?_eq_some_iff.1 i).1;obtain⟨z,⟨-,rfl⟩|⟨g,b,c,rfl,y,m,t,u,x,j⟩⟩:=h
 ·omega
 ·have d:Blk w g c e:=m;refine⟨g,b,rfl,d.lt,?_,?_⟩
  case refine_2=>
   intro o r;have f:=Jv l k p i;rw[<-j] at f;rw[d.at,<-Array.getElem?_toList,<-f,List.getElem?_take,if_pos r,List.getElem?_drop,List.getElem?_take,if_pos (by omega)]
  rw[d.row? (k*5) 5 (by omega)];congr 1
  apply Array.ext';have f:=Jv l k p i;rw[<-j] at f;have s:(c.extract (k*5) (k*5+5)).toList=(c.toList.drop (k*5)).take 5:=by simp
  rw[s,<-f,List.drop_take,List.take_take];congr 1
  omega
section
variable {S:Nat->Prop} {w:World} {a:Nat} {l:List gE} (H:Ap S w a l)
include H
theorem I9:Calls prog 92 #[ptr a] w fun e w'=>e=.returned (.int .i64 l.length)/\w'=w:=by
 obtain⟨v,c,rfl,h⟩:=H;obtain⟨i,b,rfl⟩:=Hr h.row;obtain⟨d,f,g,-⟩:=cz h.blk;clear h;go_enter func92,ntmps92;go_wp2
 go_ret;exact⟨by simp,rfl⟩
theorem Oe(i:Nat)(n:l.length<=i)(d:i<=1000000):zR 70 #[ptr a,i] w (.tuple #[.agg #[.int .i64 0,.slice none 0 0,.int .i64 0,.int .i64 0,false],false]):=by
 have g:Hid (∀b,zB w b->Calls prog 92 #[ptr a] b fun e f=>e=.returned (.int .i64 l.length)/\f=b):=fun b c=>I9 (H.kept c.size (fun k j _=>c.block k j) (fun _ _ h=>h));have p:(l.length:Int)<=(i:Int):=by omega
 have o:¬(i:Int)<0:=by omega
 clear H n;go_enter func70,ntmps70;go_wp2_with (go_at_call 92;refine(g.out _ ad).mono ?_;rintro e b ⟨rfl,h⟩;have m:=h.symm;subst m)
 exact az 5 #[.int .i64 0,.slice none 0 0,.int .i64 0,.int .i64 0,.bool false] (.bool false) rfl rfl rfl rfl underlying143 rfl (by kernel_rfl) rc5 ⟨rfl,ad⟩
end
theorem Lm{S:Nat->Prop}{w:World}{a:Nat}{v:Value}{f:List (gE×Value)}(H:Cd S w a v f)(i:Nat)(p:gE×Value)(y:f[i]?=some p)(hl:f.length<=1000):Calls prog 70 #[ptr a,i] w fun e w'=>∃j,e=.returned (.tuple #[AB p.1 j,true])/\RdS (fun k=>w.heap.size<=k) w' j p.1.data/\zB w w':=by
 have M:=(List.getElem?_eq_some_iff.1 y).1;have z:=H.data p (List.mem_of_getElem? y);obtain⟨m,u⟩:=p;obtain⟨D,E,G⟩:=z.1.form;simp only at G;subst G
 have K:Hid (∀b,zB w b->Calls prog 92 #[ptr a] b fun e w'=>e=.returned (.int .i64 f.length)/\w'=b):=fun b n=>by
  have h:=I9 (l:=f.map (·.1)) (H:=⟨v,f,rfl,H.kept (w':=b) n.size (fun k t _=>n.block k t) (fun _ _ h=>h)⟩);simpa using h
 have J:Hid (∀b,zB w b->Calls prog 144 #[AB m (.slice D m.data.length E)] b fun e w'=>∃j,e=.returned (AB m j)/\RdS (fun k=>b.heap.size<=k) w' j m.data/\zB b w'):=fun b n=>Tc m _ b (z.1.rd.below n) z.2;obtain⟨g,L,rfl,T,q,c⟩:=OY H.row y rfl;have r0:w.cell? ⟨g,i*5,none⟩=some (.int .i64 m.til):=c 0 (by omega);have Q:w.cell? ⟨g,i*5+1,none⟩=some (.slice D m.data.length E):=c 1 (by omega);have V:w.cell? ⟨g,i*5+2,none⟩=some (.int .i64 m.at_):=c 2 (by omega);have r3:w.cell? ⟨g,i*5+3,none⟩=some (.int .i64 m.tru):=c 3 (by omega);have X:w.cell? ⟨g,i*5+4,none⟩=some (.bool m.bent):=c 4 (by omega);clear c;have Y:w.row? g (i*5) 5=some #[.int .i64 m.til,.slice D m.data.length E,.int .i64 m.at_,.int .i64 m.tru,.bool m.bent]:=q;clear q;obtain⟨W,U,Z,-⟩:=cz H.blk;have s:¬(f.length:Int)<=(i:Int):=by omega
 have F:¬(i:Int)<0:=by omega
 have R:(i:Int)<(f.length:Int):=by omega
 have h4:(0:Int)<=(i:Int):=by omega
 clear H y z;go_enter func70,ntmps70;go_wp2_with (go_at_call 92;refine(K.out _ ad).mono ?_;rintro e b ⟨rfl,h⟩;have N:=h.symm;subst N)
 refine(J.out _ ad).mono ?_;rintro e b ⟨j,rfl,B,r⟩;have x:=r.size;(try simp at x);have C:=bq r (w.heap.size);obtain⟨o,d,rfl⟩:=B.form;have P:=Lh B;clear B;go_wp2_with fail
 have O:∀A,b.heap.size<=A.heap.size->(∀k,k<b.heap.size->k≠w.heap.size->A.heap[k]? = b.heap[k]?)->RdS (fun k=>w.heap.size<=k) A (.slice o m.data.length d) m.data:=fun A I n=>P.out.kept I
  (fun k t s=>by
   have F:w.heap.size+1<=k:=by simpa using s
   exact n k t (by omega))
  (fun k _ s=>by
   have F:w.heap.size+1<=k:=by simpa using s
   show _<=_;omega)
 exact az 5 #[.int .i64 m.til,.slice o m.data.length d,.int .i64 m.at_,.int .i64 m.tru,.bool m.bent] (.bool true) rfl rfl rfl rfl underlying143 rfl (by kernel_rfl) rc5 ⟨_,rfl,O _ (by simp) (fun k t s=>by repeat rw[IR (by simpa using t) (by omega)]),ad⟩
theorem NK(l:List (gE×Value))(k:Nat):(l.flatMap ma).drop (k*5)=(l.drop k).flatMap ma:=by
 induction l generalizing k with
 | nil=>simp
 | cons q r a=>
  cases k with
  | zero=>simp
  | succ k=>
   rw[show(k+1)*5=5+k*5 by omega,List.flatMap_cons,<-List.drop_drop,show(ma q++r.flatMap ma).drop 5=r.flatMap ma from rfl];simpa using a k
theorem NJ(l:List (gE×Value))(k:Nat):(l.flatMap ma).take (k*5)=(l.take k).flatMap ma:=by
 induction l generalizing k with
 | nil=>simp
 | cons q r a=>
  cases k with
  | zero=>simp
  | succ k=>
   rw[show(k+1)*5=k*5+5 by omega,List.flatMap_cons,List.take_succ_cons (i:=k),List.flatMap_cons,<-a k];rfl
theorem Ps{S:Nat->Prop}{w:World}{a:Nat}{v:Value}{c:List (gE×Value)}(H:Cd S w a v c):∀u∈c.flatMap ma,u.oneCell'=true:=by
 intro u b;obtain⟨p,d,b⟩:=List.mem_flatMap.1 b;obtain⟨g,f,e⟩:=(H.data p d).1.form;simp[e] at b;rcases b with rfl|rfl|rfl|rfl|rfl<;>rfl
theorem LD{P:Program}{f:Func}{Q:Ending->World->Prop}{x:Exit}{a:Act}{w:World}(h:∀u,w=u->bodyPost P f Q x a u):bodyPost P f Q x a w:=h w rfl
theorem QG{S:Nat->Prop}{w:World}{a:Nat}{v:Value}{c:List (gE×Value)}(H:Cd S w a v c)(i:Nat)(s:i<c.length):Calls prog 145 #[v,i,.int .i64 ((i:Int)+1)] w fun e k=>∃g b,v=.slice (some ⟨g,0,none⟩) c.length b/\e=.returned (.slice (some ⟨g,0,none⟩) (c.length-1) b)/\ah g w k/\
   k.ownsRow 0 143 5 (.slice (some ⟨g,0,none⟩) (c.length-1) b) (c.length-1) ((c.eraseIdx i).flatMap ma):=by
 have u:=Ps H;obtain⟨z,⟨-,y⟩|⟨g,b,m,rfl,x,q,r,o,t,h⟩⟩:=H.row
 ·omega
 ·refine(Nv g b c.length i m w q t r o s (by rw[h];exact u)).mono ?_;rintro e k ⟨rfl,p,d,l,f,j⟩
  have n:d.toList.take ((c.length-1)*5)=(c.eraseIdx i).flatMap ma:=by
   rw[j,h,NK,List.eraseIdx_eq_take_drop_succ,List.flatMap_append,<-NJ,<-h,List.take_take,Nat.min_eq_left (by omega)]
  refine⟨g,b,rfl,rfl,p,?_,.inr ⟨g,b,d,rfl,Nat.zero_le _,l,by omega,o,f,n⟩⟩;rw[<-n,List.length_take];simp;omega
theorem OZ{w j:World}{B e d n g f:Nat}{k:List Value}(h:w.ownsRow B e d (.slice (some ⟨g,0,none⟩) n f) n k)(q:j.heap[g]? = w.heap[g]?):j.ownsRow B e d (.slice (some ⟨g,0,none⟩) n f) n k:=by
 obtain⟨o,⟨a,-⟩|⟨b,c,i,a,l,p,m⟩⟩:=h
 ·cases a
 ·injection a with a _ h6
  injection a with a
  injection a with a
  subst a;subst h6;exact⟨o,.inr ⟨g,f,i,rfl,l,q.trans p,m⟩⟩
theorem Od{S:Nat->Prop}{w:World}{a:Nat}{v:Value}{l:List (gE×Value)}(H:Cd S w a v l)(i:Nat)(hi:i<l.length)(hl:l.length<=1000):Calls prog 71 #[ptr a,i] w fun e y=>(∃M,e=.returned M)/\bg S w y/\Ap S y a ((l.map (·.1)).eraseIdx i):=by
 obtain⟨X,j,rfl⟩:=Hr H.row;obtain⟨p,O⟩:∃p,l[i]?=some p:=⟨_,List.getElem?_eq_getElem hi⟩;have R:Hid (∀f,zB w f->Cd S f a (.slice X l.length j) l):=fun f B=>H.kept B.size (fun k hk _=>B.block k hk) (fun _ _ h=>h);have HG:Hid (∀f,zB w f->Calls prog 70 #[ptr a,i] f fun e y=>∃M,e=.returned (.tuple #[AB p.1 M,true])/\RdS (fun k=>f.heap.size<=k) y M p.1.data/\zB f y):=fun f B=>Lm (R.out f B) i p O hl
 have HD : Hid (∀ f, zB w f->Calls prog 145 #[.slice X l.length j, .int .i64 i, .int .i64 ((i : Int) + 1)] f fun e y => ∃ g t, (.slice X l.length j : Value) = .slice (some ⟨g, 0, none⟩) l.length t/\e = .returned (.slice (some ⟨g, 0, none⟩) (l.length - 1) t)/\ah g f y/\
     y.ownsRow 0 143 5 (.slice (some ⟨g,0,none⟩) (l.length-1) t) (l.length-1) ((l.eraseIdx i).flatMap ma)):=fun f B=>QG (R.out f B) i hi
 obtain⟨m,u⟩:=p;have wk:IntKind.i64.wrap ((i:Int)+1)=(i:Int)+1:=IntWalk.i64_in _ (by omega);have C:=Lh H;obtain⟨y1,c1,f1,-⟩:=cz H.blk;clear H O;go_enter func71,ntmps71;go_wp2_with fail;refine(HG.out _ ad).mono ?_;rintro e f ⟨v1,rfl,I,r⟩;have G:=r.size;(try simp at G);have a1:=bq r (w.heap.size);have N:=bq r (a);obtain⟨o,n,rfl⟩:=I.form;clear I;go_wp2_with fail;refine(HD.out _ ad).mono ?_;rintro e x ⟨g,t,Z,rfl,E,hr⟩;injection Z with hvv1 _ hvv2
 subst hvv1;subst hvv2;have D:=(R.out (f.alloc (.cells #[.int .i64 m.til,.slice o m.data.length n,.int .i64 m.at_,.int .i64 m.tru,.bool m.bent] 143)) ad);have s:=Lh D;have J:S g:=C.out.sr g rfl
 have a3:g<w.heap.size:=by
  obtain⟨-,⟨d,-⟩|⟨b,c,q,d,-,A,-⟩⟩:=C.out.row
  ·cases d
  ·injection d with d;injection d with d;injection d with d;subst d;exact(Array.getElem?_eq_some_iff.1 A).1
 have W:zB w (f.alloc (.cells #[.int .i64 m.til,.slice o m.data.length n,.int .i64 m.at_,.int .i64 m.tru,.bool m.bent] 143)):=ad;have B4:Hid (Blk x w.heap.size #[.int .i64 0,.slice none 0 0,.int .i64 0,.int .i64 0,false] 143):=E.blk ((Blk.keep (Blk.new w _ _) r).alloc _) (by omega);have B6:Hid (Blk x f.heap.size #[.int .i64 m.til,.slice o m.data.length n,.int .i64 m.at_,.int .i64 m.tru,.bool m.bent] 143):=E.blk (Blk.new f _ _) (by omega)
 have BA:Hid (Blk x a #[.slice (some ⟨g,0,none⟩) l.length j] 180):=by
  obtain⟨-,⟨d,-⟩|⟨b,c,q,d,-,A,-⟩⟩:=D.row
  ·cases d
  ·injection d with d;injection d with d;injection d with d;subst d
   exact E.blk D.blk (Blk.ne D.blk (show Blk _ g q 143 from A) (by decide))
 have HO:=Lh E;have U:=Lh hr;have a8:=C.out.blk.lt;have a4:w.heap.size<f.heap.size:=by omega
 have K:a≠w.heap.size:=by omega
 have a6:a≠f.heap.size:=by omega
 have a7:w.heap.size≠f.heap.size:=by omega
 clear E hr D y1 c1 f1 r;obtain⟨y1,c1,f1,-⟩:=cz BA.out;obtain⟨y2,c2,f2,-⟩:=cz B4.out;obtain⟨y3,c3,f3,-⟩:=cz B6.out;go_wp2_with fail;have a0:bg S w x:=((bg.of_below (S:=S) W).gZ HO.out (.inl J))
 have a2:g≠a:=by
  obtain⟨-,⟨d,-⟩|⟨b,c,q,d,-,A,-⟩⟩:=s.out.row
  ·cases d
  ·injection d with d;injection d with d;injection d with d;subst d
   exact Blk.ne (show Blk _ g q 143 from A) s.out.blk (by decide)
 have a5:f.heap.size<x.heap.size:=B6.out.lt;refine LD ?_;intro v V;obtain⟨z,Q⟩:∃z,x.setCell ⟨a,0,none⟩ (.slice (some ⟨g,0,none⟩) (l.length-1) j)=z:=⟨_,rfl⟩;rw[Q] at V;have F:ah a x z:=by rw[<-Q];exact ah.refl.setCell 0 _
 have ZW:Blk z w.heap.size #[.int .i64 0,.slice none 0 0,.int .i64 0,.int .i64 0,false] 143:=F.blk B4.out (fun e=>K e.symm);have ZA:Blk z a #[.slice (some ⟨g,0,none⟩) (l.length-1) j] 180:=by rw[<-Q];exact BA.out.ab 0 _
 have L:ah w.heap.size z v:=by rw[<-V];exact((((ah.refl.setCell 0 _).setCell 1 _).setCell 2 _).setCell 3 _).setCell 4 _
 have VW:Blk v w.heap.size #[.int .i64 m.til,.slice o m.data.length n,.int .i64 m.at_,.int .i64 m.tru,.bool m.bent] 143:=by
  rw[<-V];exact((((ZW.ab 0 _).ab 1 _).ab 2 _).ab 3 _).ab 4 _
 have gB:∃cs,Blk (f.alloc (.cells #[.int .i64 m.til,.slice o m.data.length n,.int .i64 m.at_,.int .i64 m.tru,.bool m.bent] 143)) g cs 143:=by
  obtain⟨-,⟨d,-⟩|⟨b,c,q,d,-,A,-⟩⟩:=s.out.row
  ·cases d
  ·injection d with d;injection d with d;injection d with d;subst d
   exact⟨q,A⟩
 obtain⟨gc,gB⟩:=gB;have Y:(l.eraseIdx i).length=l.length-1:=by rw[List.length_eraseIdx_of_lt hi]
 have P:v.heap[g]? = x.heap[g]?:=by
  have g2:g<x.heap.size:=by omega
  rw[L.block g (Nat.lt_of_lt_of_le g2 F.size) (by omega),F.block g g2 a2]
 refine az 5 #[.int .i64 m.til,.slice o m.data.length n,.int .i64 m.at_,.int .i64 m.tru,.bool m.bent] (.bool true) rfl rfl rfl rfl underlying143 rfl (by kernel_rfl) (VW.row?_all 5 rfl) ⟨⟨_,rfl⟩,?_,?_⟩
 ·exact(a0.gZ F (.inl C.out.sa)).gZ L (.inr (Nat.le_refl _))
 ·refine⟨.slice (some ⟨g,0,none⟩) (l.length-1) j,l.eraseIdx i,by rw[List.eraseIdx_eq_take_drop_succ,List.eraseIdx_eq_take_drop_succ,List.map_append,List.map_take,List.map_drop],L.blk ZA K,C.out.sa,?_,?_,?_⟩
  ·rw[Y];exact OZ U.out P
  ·intro g' e;injection e with e;simp only at e;subst e;exact J
  ·intro p O;have T:=List.mem_of_mem_eraseIdx O;obtain⟨k1,k2⟩:=s.out.data p T;exact⟨((k1.only HO.out gB (by decide)).only F BA.out (by decide)).only L ZW (by decide),k2⟩
theorem na{P:Program}{G:Array Oper}{o:Oper}{a:Act}{w:World}{K:Act->World->Prop}{Q:Exit->Act->World->Prop}{E:Prop}(N:o.guard=none)(s x:Operand)(t:TypeId)(O:o.op=.call {callee:=.builtin .append,args:=#[s,x],argTypes:=#[t,t]})(g:Nat)(e:TypeId)(i:TypeInfo)(z:Value)(b f:Nat)(R:P.underlying t=some (.slice e))(S:P.info? e=some i)(J:i.zero=some z)(q:i.size=b)(B:i.bytes=f)(C:z.cells.size=b)(F:0<b)(v:Value)(n:Nat)(H:List Value)(T:a.eval s=v)(A:w.ownsRow g e b v n H)(ad:Addr)(m c:Nat)(d:List Value)(U:a.eval x=.slice (some ad) m c)(X:d.length=m*b)(p:∀j u,d[j]?=some u->w.cell? (ad.add j)=some u)(W:∀u∈d,u.oneCell'=true)(D:n+m<=maxLen)(k:(n+m)*f<=140737488355328)(l:g<=w.heap.size)(h:∀r y,y.ownsRow g e b r (n+m) (H++d)->w.grownBy y v.ownBlock->(r.ownBlock=v.ownBlock∨r.ownBlock=some w.heap.size)->K (a.put o.dst r) y):if Region.wanted o (yielded G a.tmps)=true then Oper.wp P o a w K Q else E:=by
 rw[if_pos (by simp[Region.wanted,N])];obtain⟨r,y,V,I,L,Y,M⟩:=run_append_own_at (P:=P) w g t o.type e i z b f R S J q B C F v n H A ad m c d X p W D k l;unfold Oper.wp execOp;simp only[O,resolve,invoke,builtin,Sem.run_bind,Sem.run_pure,Result.andThen_ok,List.map_toArray,List.map_cons,List.map_nil,T,U,V];exact h r y I L M
theorem Nu(m:gE)(c:Option Addr)(n a:Nat):∀u∈ma (m,.slice c n a),u.oneCell'=true:=by intro u b;simp only [ma,List.mem_cons,List.mem_nil_iff,or_false] at b;rcases b with rfl|rfl|rfl|rfl|rfl<;>rfl
theorem pc{W a:World}{g:Nat}(h:W.grownBy a (some g)):ah g W a:=⟨h.os,h.tape,h.output,h.size,fun k c b=>h.block k c (fun e=>b (Option.some.inj e))⟩
theorem oq{W a:World}(h:W.grownBy a none):zB W a:=⟨h.os,h.tape,h.output,h.size,fun k b=>h.block k b (fun e=>by cases e)⟩
theorem RdS.grown{S:Nat->Prop}{W d:World}{v u:Value}{b:List Nat}{e n:Nat}{i:List Value}(h:RdS S W u b)(j:W.ownsRow 0 143 5 v n i)(c:W.grownBy d v.ownBlock):RdS S d u b:=by
 obtain⟨-,⟨rfl,-⟩|⟨g,k,a,rfl,-,f,-⟩⟩:=j
 ·exact h.below (oq c)
 ·exact h.only (pc c) (show Blk W g a 143 from f) (by decide)
theorem Mk{S:Nat->Prop}{x W f:World}{a:Nat}{v:Value}{j:List (gE×Value)}(e:Cd S x a v j)(h:zB x W)(i:W.grownBy f v.ownBlock):Blk f a #[v] 180:=by
 have d:=cv e.row h;have b:=e.blk.keep h;obtain⟨-,⟨rfl,-⟩|⟨g,l,c,rfl,-,k,-⟩⟩:=d
 ·exact b.keep (oq i)
 ·exact(pc i).blk b (Blk.ne b (show Blk W g c 143 from k) (by decide))
theorem Rs{S:Nat->Prop}{x W f:World}{a:Nat}{v r g:Value}{n:List (gE×Value)}{m:gE}(i:Cd S x a v n)(o:zB x W)(l:f.ownsRow 0 143 5 g (n.length+1) (n.flatMap ma++ma (m,r)))(d:W.grownBy f v.ownBlock)(s:g.ownBlock=v.ownBlock∨g.ownBlock=some W.heap.size)(y:RdS (fun k=>x.heap.size<=k) W r m.data)(C:m.data.length<=1000):bg S x (f.setCell ⟨a,0,none⟩ g)/\Ap (Sn S x) (f.setCell ⟨a,0,none⟩ g) a (n.map (·.1)++[m]):=by
 have j:=cv i.row o;have u:bg S x f:=(bg.of_below (S:=S) o).trans (S':=fun k=>v.ownBlock=some k) ⟨d.os,d.tape,d.output,d.size,fun k A w=>d.block k A (fun e=>w e.symm)⟩ (fun k _ e=>i.sr k e);have c:Blk f a #[v] 180:=Mk i o d;have O:ah a f (f.setCell ⟨a,0,none⟩ g):=ah.refl.setCell 0 _;refine⟨u.gZ O (.inl i.sa),g,n++[(m,r)],by simp,c.ab 0 _,.inl i.sa,?_,?_,?_⟩
 ·have:=fW l (aa.cU (S:=fun _=>True) (mp:=false) O c (List.mem_singleton.2 rfl) trivial) (by decide);simpa using this
 ·intro b e;rcases s with h|h
  ·exact .inl (i.sr b (h ▸ e))
  ·rw[h] at e;injection e with e
   have:=o.size;exact .inr (by omega)
 ·intro p q;simp only[List.mem_append,List.mem_singleton] at q;rcases q with q|rfl
  ·obtain⟨B,z⟩:=i.data p q;have t:RdS (Sn S x) x p.2 p.1.data:=B.kept (Nat.le_refl _) (fun _ _ _=>rfl) (fun k _ h=>.inl h);exact⟨((t.below o).grown (e:=0) j d).only O c (by decide),z⟩
  ·have t:RdS (Sn S x) W r m.data:=y.kept (Nat.le_refl _) (fun _ _ _=>rfl) (fun k _ h=>.inr h);exact⟨(t.grown (e:=0) j d).only O c (by decide),C⟩
theorem QE{S:Nat->Prop}{w:World}{a:Nat}{l:List gE}(H:Ap S w a l)(hl:l.length<=1000)(m:gE)(u:Value)(D:RdB w u m.data)(M:m.data.length<=1000000):Calls prog 133 #[ptr a,AB m u] w fun e r=>e=.returned (.bool (airPut l m).2)/\bg S w r/\Ap (Sn S w) r a (airPut l m).1:=by
 obtain⟨v,c,rfl,z⟩:=H;obtain⟨T,p,rfl⟩:=Hr z.row;obtain⟨R,W,rfl⟩:=D.form;have a0:c.length<=1000:=by simpa using hl
 have j:(c.map (·.1)).length=c.length:=by simp
 have O:=Lh z;obtain⟨Q,P,Y,-⟩:=cz z.blk;by_cases n:512<=c.length∨1000<m.data.length
 ·have L:Hid (airPut (c.map (·.1)) m=(c.map (·.1),false)):=by show _=_;unfold airPut;rw[j,if_pos n]
  have t:(512:Int)<=(c.length:Int)∨(¬(512:Int)<=(c.length:Int)/\(1000:Int)<(m.data.length:Int)):=by omega
  clear z D n j;rcases t with k1|⟨k1,k2⟩
  all_goals go_enter func133,ntmps133
  all_goals go_wp2_with fail
  all_goals go_ret
  all_goals rw[L.out]
  all_goals exact⟨rfl,(bg.refl).alloc _,_,c,rfl,O.out.kept (by simp) (fun k q _=>Below.heap_alloc _ _ k q) (fun _ _ h=>.inl h)⟩
 ·have L:Hid (airPut (c.map (·.1)) m=(c.map (·.1)++[m],true)):=by show _=_;unfold airPut;rw[j,if_neg n]
  have k1:¬(512:Int)<=(c.length:Int):=by omega
  have k2:¬(1000:Int)<(m.data.length:Int):=by omega
  have f:m.data.length<=1000:=by omega
  obtain⟨i0,hi,J,I,G⟩:=info_parts KQ;have HU:=Lh D;clear z D n j;go_enter func133,ntmps133;go_wp2_with fail;refine eN ?_;intro x K;have s:Hid (zB w x):=by rw[K];show Below _ _ _;exact ad
  have C:Hid (Cd S x a (.slice T c.length p) c):=O.out.kept s.out.size (fun k q _=>s.out.block k q) (fun _ _ h=>h);have U:Hid (Blk x w.heap.size #[.int .i64 m.til,.slice R m.data.length W,.int .i64 m.at_,.int .i64 m.tru,.bool m.bent] 143):=by rw[K];exact Blk.new _ _ _
  have HO:Hid (∀o,zB x o->Calls prog 144 #[AB m (.slice R m.data.length W)] o fun e r=>∃g b,e=.returned (AB m (.slice g m.data.length b))/\RdS (fun k=>o.heap.size<=k) r (.slice g m.data.length b) m.data/\zB o r):=fun o hb=>
   (Tc m _ o (HU.out.below (s.out.trans (hb.mono s.out.size))) f).mono (by
    rintro e r ⟨v',rfl,h1,F⟩;obtain⟨g,b,rfl⟩:=h1.form;exact⟨g,b,rfl,h1,F⟩)
  clear K Q P Y;obtain⟨Q,P,Y,-⟩:=cz C.out.blk;obtain⟨y2,c2,f2,-⟩:=cz U.out;have r2:=U.out.row?_all 5 rfl
  go_region_law (first
   | (go_simp;go_at_call 144;refine(HO.out _ ad).mono ?_;rintro e o ⟨g,b,rfl,N,y⟩;have A:=y.size;(try simp at A);have B:=bq y (a))
   | (refine na rfl (.tmp 25) (.tmp 28) 178 rfl 0 143 i0 (.agg #[.int .i64 0,.slice none 0 0,.int .i64 0,.int .i64 0,false]) 5 56 underlying178 hi J I G rfl (by decide) (.slice T c.length p) c.length (c.flatMap ma) (by simp[Act.eval,Act.put]) (cv C.out.row (show Below _ _ _ from ad)) ⟨o.heap.size,0,none⟩ 1 1 (ma (m,.slice g m.data.length b)) (by simp[Act.eval,Act.put]) rfl (te (Blk.new _ _ 143)) (Nu _ _ _ _) (by unfold maxLen;omega) (by omega) (by simp) ?_;intro v' w5 i d E;obtain⟨g',Z,rfl⟩:=xB i (by omega);have V:=Mk C.out (by exact(show Below _ _ _ from ad)) d;obtain⟨y3,c3,f3,-⟩:=cz V;have X:=Lh (Rs (m:=m) C.out (by exact(show Below _ _ _ from ad)) i d E (N.kept (by simp) (fun k q _=>Below.heap_alloc _ _ k q) (fun k _ h=>by simpa using h)) f);clear d i V))
  all_goals go_wp2_with fail
  all_goals go_ret
  all_goals rw[L.out]
  all_goals exact⟨rfl,(bg.of_below (S:=S) s.out).trans X.out.1 (fun _ _ h=>h),X.out.2.imp (fun v2 h=>h.imp (fun a1 h=>⟨h.1,h.2.kept (Nat.le_refl _) (fun _ _ _=>rfl) (fun k _ q=>q.elim .inl (fun F=>.inr (Nat.le_trans s.out.size F)))⟩))⟩
theorem sA{w:World}{B e a n:Nat}{v:Value}{d:List Value}(h:w.ownsRow B e a v n d):∀b,v.ownBlock=some b->b<w.heap.size:=by
 intro b c;obtain⟨-,⟨rfl,-⟩|⟨g,j,i,rfl,-,f,-⟩⟩:=h
 ·cases c
 ·injection c with c;subst c;exact(Array.getElem?_eq_some_iff.1 f).1
theorem lX{S:Nat->Prop}{w w':World}{B e a n:Nat}{v:Value}{i:List Value}(h:w.ownsRow B e a v n i)(o:∀b,v.ownBlock=some b->S b)(q:∀k,k<w.heap.size->S k->w'.heap[k]? = w.heap[k]?):w'.ownsRow B e a v n i:=by
 have r:=sA h;obtain⟨j,c|⟨g,d,f,c,l,p,m⟩⟩:=h
 ·exact⟨j,.inl c⟩
 ·have e:v.ownBlock=some g:=by rw[c];rfl
  exact⟨j,.inr ⟨g,d,f,c,l,(q g (r g e) (o g e)).trans p,m⟩⟩
theorem Ku{w:World}{B e a n:Nat}{v:Value}{f:List Value}(h:w.ownsRow B e a v n f):w.ownsRow 0 e a v n f:=by
 obtain⟨i,b|⟨g,d,c,b,l,j,k⟩⟩:=h
 ·exact⟨i,.inl b⟩
 ·exact⟨i,.inr ⟨g,d,c,b,Nat.zero_le _,j,k⟩⟩
abbrev ptL(p:Int×Int):List Value:=[.int .i64 p.1,.int .i64 p.2]
def MJ(T:fU)(pv mv:Value):Array Value:=(Ha T.c++[pv,mv,.int .i64 T.time,.int .i64 T.steps]).toArray
structure ph (S:Nat->Prop) (w:World) (g:Nat) (T:fU) (pv mv:Value):Prop where
 blk:Blk w g (MJ T pv mv) 134
 sg:S g
 rp:w.ownsRow 0 31 2 pv T.p.length (T.p.flatMap ptL)
 sp:∀b,pv.ownBlock=some b->S b
 rm:w.ownsRow 0 4 1 mv T.moved.length (T.moved.map Value.bool)
 sm:∀b,mv.ownBlock=some b->S b
def A6(S:Nat->Prop)(w:World)(g:Nat)(T:fU):Prop:=∃pv mv,ph S w g T pv mv
section
variable {S S':Nat->Prop} {w w':World}
theorem ph.kept{g:Nat}{T:fU}{pv mv:Value}(h:ph S w g T pv mv)(c:∀k,k<w.heap.size->S k->w'.heap[k]? = w.heap[k]?)(a:∀k,k<w.heap.size->S k->S' k):ph S' w' g T pv mv:=
 ⟨(c g h.blk.lt h.sg).trans h.blk,a g h.blk.lt h.sg,lX h.rp h.sp c,fun b e=>a b (sA h.rp b e) (h.sp b e),lX h.rm h.sm c,fun b e=>a b (sA h.rm b e) (h.sm b e)⟩
theorem ph.below{g:Nat}{T:fU}{pv mv:Value}(h:ph S w g T pv mv)(hb:zB w w'):ph S w' g T pv mv:=h.kept (fun k b _=>hb.block k b) (fun _ _ a=>a)
theorem A6.kept{g:Nat}{T:fU}(h:A6 S w g T)(b:∀k,k<w.heap.size->S k->w'.heap[k]? = w.heap[k]?)(a:∀k,k<w.heap.size->S k->S' k):A6 S' w' g T:=by
 obtain⟨pv,mv,h⟩:=h;exact⟨pv,mv,h.kept b a⟩
theorem A6.mono{g:Nat}{T:fU}(h:A6 S w g T)(a:∀k,k<w.heap.size->S k->S' k):A6 S' w g T:=h.kept (fun _ _ _=>rfl) a
theorem Ap.mono{a:Nat}{l:List gE}(h:Ap S w a l)(b:∀k,k<w.heap.size->S k->S' k):Ap S' w a l:=h.kept (Nat.le_refl _) (fun _ _ _=>rfl) b
theorem NodeAt.kept{g:Nat}{L:NLay}{n:NodeD}(h:NodeAt S w g L n)(c:∀k,k<w.heap.size->S k->w'.heap[k]? = w.heap[k]?)(a:∀k,k<w.heap.size->S k->S' k):NodeAt S' w' g L n:=
 ⟨(c g h.blk.lt h.sg).trans h.blk,a g h.blk.lt h.sg,(c _ h.f.lt h.sf).trans h.f,a _ h.f.lt h.sf,h.t.kept c a,
  fun i d=>⟨(c _ (h.s i d).1.lt (h.s i d).2).trans (h.s i d).1,a _ (h.s i d).1.lt (h.s i d).2⟩,h.si,(c _ h.b.lt h.sb).trans h.b,a _ h.b.lt h.sb,(c _ h.tm.lt h.stm).trans h.tm,a _ h.tm.lt h.stm⟩
end
def flC(F:FleetD)(tw ta:Nat)(nv bv:Value):Array Value:=([ptr tw,ptr ta]++Ha F.c++[nv,bv,.int .i64 F.lost]).toArray
structure cY (ow:Nat->Nat) (w:World) (g tw ta:Nat) (gs:List Nat) (nv bv:Value) (F:FleetD):Prop where
 blk:Blk w g (flC F tw ta nv bv) 73
 og:ow g=1
 ln:gs.length=F.n.length
 rn:w.ownsRow 0 43 1 nv gs.length (gs.map ptr)
 sn:∀b,nv.ownBlock=some b->ow b=1
 rb:w.ownsRow 0 4 1 bv F.on.length (F.on.map Value.bool)
 sb:∀b,bv.ownBlock=some b->ow b=1
 a:Ap (fun k=>ow k=2) w ta F.a
 t:A6 (fun k=>ow k=3) w tw F.w
 n:∀i n,F.n[i]?=some n->∃L,NodeAt (fun k=>ow k=i+4) w (gs.getD i 0) L n
def ext(ow:Nat->Nat)(m o:Nat)(k:Nat):Nat:=if k<m then ow k else o
theorem gS{ow:Nat->Nat}{m o k:Nat}(h:k<m):ext ow m o k=ow k:=by simp [ext,h]
theorem Bp{ow:Nat->Nat}{w:World}{o k:Nat}(h:Sn (fun k=>ow k=o) w k):ext ow w.heap.size o k=o:=by
 unfold ext;split
 ·rcases h with h|h
  ·exact h
  ·omega
 ·rfl
structure FT (R:Nat->Prop) (ow ow':Nat->Nat) (w w':World):Prop where
 t:bg (fun k=>R (ow k)) w w'
 e:∀k,k<w.heap.size->ow' k=ow k
section
variable {R R':Nat->Prop} {ow ow' ow'':Nat->Nat} {w w' w'':World}
theorem FT.refl:FT R ow ow w w:=⟨bg.refl,fun _ _=>rfl⟩
theorem FT.trans(h:FT R ow ow' w w')(c:FT R ow' ow'' w' w''):FT R ow ow'' w w'':=
 ⟨h.t.trans c.t (fun k b a=>by have a:R (ow' k):=a;rw[h.e k b] at a;exact a),fun k b=>(c.e k (Nat.lt_of_lt_of_le b h.t.size)).trans (h.e k b)⟩
theorem FT.mono(h:FT R ow ow' w w')(a:∀o,R o->R' o):FT R' ow ow' w w':=⟨h.t.mono (fun k _ e=>a _ e),h.e⟩
theorem FT.zZ{o:Nat}(a:R o)(h:bg (fun k=>ow k=o) w w')(c:Nat):FT R ow (ext ow w.heap.size c) w w':=
 ⟨h.mono (fun k _ e=>by show R (ow k);rw[e];exact a),fun k b=>gS b⟩
theorem FT.of_below(h:zB w w')(b:Nat):FT R ow (ext ow w.heap.size b) w w':=⟨bg.of_below h,fun k a=>gS a⟩
theorem FT.blk(h:FT R ow ow' w w'){b:Nat}{c:Array Value}{t:TypeId}(hb:Blk w b c t)(a:¬R (ow b)):Blk w' b c t/\ow' b=ow b:=
 ⟨h.t.blk hb a,h.e b hb.lt⟩
theorem FT.below(h:FT R ow ow' w w'){B:Nat}{w0:World}(hb:Below B w0 w)(hB:B<=w0.heap.size)(c:∀k,k<B->¬R (ow k)):Below B w0 w':=
 h.t.below hb hB (fun k b=>by
  rcases Nat.lt_or_ge k B with a|a
  ·exact absurd b (c k a)
  ·exact a)
theorem FT.rdS(h:FT R ow ow' w w')(f:¬R 0){v:Value}{c:List Nat}(d:RdS (fun k=>ow k=0) w v c):RdS (fun k=>ow' k=0) w' v c:=
 d.kept h.t.size (fun k b e=>h.t.block k b (fun a=>by have a:R (ow k):=a;rw[e] at a;exact f a)) (fun k b e=>(h.e k b).trans e)
theorem FT.row(h:FT R ow ow' w w'){B e a n:Nat}{v:Value}{c:List Value}(d:w.ownsRow B e a v n c)(j:∀b,v.ownBlock=some b->¬R (ow b)):w'.ownsRow B e a v n c/\∀b,v.ownBlock=some b->ow' b=ow b:=
 ⟨lX d (S:=fun k=>¬R (ow k)) j (fun k i f=>h.t.block k i f),fun b e=>h.e b (sA d b e)⟩
variable {g tw ta:Nat} {gs:List Nat} {nv bv:Value} {F:FleetD}
theorem jK{o b:Nat}(d:bg (fun k=>ow k=o) w w')(a:b≠o):∀k,k<w.heap.size->ow k=b->w'.heap[k]? = w.heap[k]?:=
 fun k c e=>d.block k c (fun f=>a (e.symm.trans f))
theorem eW{o a:Nat}:∀k,k<w.heap.size->ow k=a->ext ow w.heap.size o k=a:=fun k b e=>(gS b).trans e
theorem cY.Ki(h:cY ow w g tw ta gs nv bv F)(c:bg (fun k=>ow k=2) w w'){l:List gE}(m:Ap (Sn (fun k=>ow k=2) w) w' ta l):cY (ext ow w.heap.size 2) w' g tw ta gs nv bv {F with a:=l}:=
 ⟨c.blk h.blk (by show ¬ow g=2;rw[h.og];decide),(gS h.blk.lt).trans h.og,h.ln,lX h.rn h.sn (jK c (by decide)),fun b e=>eW b (sA h.rn b e) (h.sn b e),lX h.rb h.sb (jK c (by decide)),fun b e=>eW b (sA h.rb b e) (h.sb b e),
  m.mono (fun k _ f=>Bp f),h.t.kept (jK c (by decide)) eW,fun i n d=>by obtain⟨L,j⟩:=h.n i n d;exact⟨L,j.kept (jK c (by omega)) eW⟩⟩
theorem cY.Kh(h:cY ow w g tw ta gs nv bv F)(c:bg (fun k=>ow k=3) w w'){T:fU}(l:A6 (Sn (fun k=>ow k=3) w) w' tw T):cY (ext ow w.heap.size 3) w' g tw ta gs nv bv {F with w:=T}:=
 ⟨c.blk h.blk (by show ¬ow g=3;rw[h.og];decide),(gS h.blk.lt).trans h.og,h.ln,lX h.rn h.sn (jK c (by decide)),fun b e=>eW b (sA h.rn b e) (h.sn b e),lX h.rb h.sb (jK c (by decide)),fun b e=>eW b (sA h.rb b e) (h.sb b e),
  h.a.kept c.size (jK c (by decide)) eW,l.mono (fun k _ f=>Bp f),fun i n d=>by obtain⟨L,j⟩:=h.n i n d;exact⟨L,j.kept (jK c (by omega)) eW⟩⟩
theorem cY.Jh(h:cY ow w g tw ta gs nv bv F)(i:Nat)(p:i<F.n.length)(d:bg (fun k=>ow k=i+4) w w'){n:NodeD}(o:∃L,NodeAt (Sn (fun k=>ow k=i+4) w) w' (gs.getD i 0) L n):cY (ext ow w.heap.size (i+4)) w' g tw ta gs nv bv (F.setN i n):=
 ⟨d.blk h.blk (by show ¬ow g=i+4;rw[h.og];omega),(gS h.blk.lt).trans h.og,by show _=(F.n.set i n).length;rw[List.length_set];exact h.ln,
  lX h.rn h.sn (jK d (by omega)),fun b e=>eW b (sA h.rn b e) (h.sn b e),lX h.rb h.sb (jK d (by omega)),fun b e=>eW b (sA h.rb b e) (h.sb b e),
  h.a.kept d.size (jK d (by omega)) eW,h.t.kept (jK d (by omega)) eW,fun j m q=>by
   have c:(F.n.set i n)[j]?=some m:=q
   rcases Nat.decEq i j with e|e
   ·rw[List.getElem?_set,if_neg e] at c
    obtain⟨L,f⟩:=h.n j m c
    exact⟨L,f.kept (jK d (by omega)) eW⟩
   ·subst e
    rw[List.getElem?_set,if_pos rfl,if_pos p] at c
    injection c with c;subst c
    obtain⟨L,f⟩:=o
    exact⟨L,f.mono (fun k _ l=>Bp l)⟩⟩
theorem cY.below(h:cY ow w g tw ta gs nv bv F)(hb:zB w w')(o:Nat):cY (ext ow w.heap.size o) w' g tw ta gs nv bv F:=
 have c:∀{j:Nat},∀k,k<w.heap.size->ow k=j->w'.heap[k]? = w.heap[k]?:=fun k c _=>hb.block k c
 ⟨h.blk.keep hb,(gS h.blk.lt).trans h.og,h.ln,lX h.rn h.sn c,fun b e=>eW b (sA h.rn b e) (h.sn b e),lX h.rb h.sb c,fun b e=>eW b (sA h.rb b e) (h.sb b e),
  h.a.kept hb.size c eW,h.t.kept c eW,fun i n d=>by obtain⟨L,f⟩:=h.n i n d;exact⟨L,f.kept c eW⟩⟩
theorem cY.MH(h:cY ow w g tw ta gs nv bv F)(c:bg (fun k=>ow k=1) w w'){nv' bv':Value}{lost:Int}{on':List Bool}(o:Blk w' g (flC {F with on:=on',lost:=lost} tw ta nv' bv') 73)(d:w'.ownsRow 0 43 1 nv' gs.length (gs.map ptr))(j:∀b,nv'.ownBlock=some b->Sn (fun k=>ow k=1) w b)(m:w'.ownsRow 0 4 1 bv' on'.length (on'.map Value.bool))(f:∀b,bv'.ownBlock=some b->Sn (fun k=>ow k=1) w b):cY (ext ow w.heap.size 1) w' g tw ta gs nv' bv' {F with on:=on',lost:=lost}:=
 ⟨o,(gS h.blk.lt).trans h.og,h.ln,d,fun b e=>Bp (j b e),m,fun b e=>Bp (f b e),
  h.a.kept c.size (jK c (by decide)) eW,h.t.kept (jK c (by decide)) eW,fun i n d=>by obtain⟨L,l⟩:=h.n i n d;exact⟨L,l.kept (jK c (by omega)) eW⟩⟩
theorem cY.push(h:cY ow w g tw ta gs nv bv F){gN:Nat}{L:NLay}{n:NodeD}(r:NodeAt (fun k=>ow k=F.n.length+4) w gN L n)(d:bg (fun k=>ow k=1) w w'){nv' bv':Value}{on':List Bool}(p:Blk w' g (flC {F with n:=F.n++[n],on:=on'} tw ta nv' bv') 73)(q:w'.ownsRow 0 43 1 nv' (gs.length+1) (gs.map ptr++[ptr gN]))(j:∀b,nv'.ownBlock=some b->Sn (fun k=>ow k=1) w b)(s:w'.ownsRow 0 4 1 bv' on'.length (on'.map Value.bool))(l:∀b,bv'.ownBlock=some b->Sn (fun k=>ow k=1) w b):cY (ext ow w.heap.size 1) w' g tw ta (gs++[gN]) nv' bv' {F with n:=F.n++[n],on:=on'}:=
 ⟨p,(gS h.blk.lt).trans h.og,by simp[h.ln],by simpa using q,fun b e=>Bp (j b e),s,fun b e=>Bp (l b e),
  h.a.kept d.size (jK d (by decide)) eW,h.t.kept (jK d (by decide)) eW,fun i m c=>by
   have u:=h.ln
   have c:(F.n++[n])[i]?=some m:=c
   rcases Nat.lt_trichotomy i F.n.length with f|f|f
   ·rw[List.getElem?_append_left f] at c
    obtain⟨v,o⟩:=h.n i m c
    rw[List.getD_eq_getElem?_getD,List.getElem?_append_left (by omega),<-List.getD_eq_getElem?_getD]
    exact⟨v,o.kept (jK d (by omega)) eW⟩
   ·subst f
    rw[List.getElem?_append_right (Nat.le_refl _),Nat.sub_self] at c
    injection c with c;subst c
    rw[List.getD_eq_getElem?_getD,List.getElem?_append_right (by omega),u,Nat.sub_self]
    exact⟨L,r.kept (jK d (by omega)) eW⟩
   ·rw[List.getElem?_eq_none (by simp;omega)] at c
    cases c⟩
end
end Go.Proofs.YtechbdnhalmobaaGreatDoor
