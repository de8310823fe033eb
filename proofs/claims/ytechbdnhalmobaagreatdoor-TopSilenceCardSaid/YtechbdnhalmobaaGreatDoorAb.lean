/- Walks. -/
import Derived.Test.YtechbdnhalmobaaGreatDoorH5
import Derived.Deep.RegionLaw
import Derived.BigRegion
import Derived.StillTailTactics
import Derived.WalkMore
namespace Go.Proofs.YtechbdnhalmobaaGreatDoor
set_option linter.unusedSimpArgs false
set_option linter.unusedVariables false
set_option maxRecDepth 100000
set_option maxHeartbeats 16000000
open Go.RowKit
open Go.RowKit Go.Maps
open Go.Proofs.Tryz
structure NodeD where
 c:Cfg
 id:Int
 boot:Int
 cap:Int
 fv:Bool
 fe:El
 t:cB
 s:Nat->cZ
 b:Am
 tm:Cf
 seq:Int
 told:Int
 asked:Int
 bad:Int
abbrev ky:=FrD×Int
def fr0(kind:Int):FrD:=⟨kind,0,0,0,0,0,0,0,0,0,0,0,0,0,0⟩
def tf(f:FrD):Int:=f.boot*65536+f.seq
def nf(n:NodeD)(r:(Bool×El)×Int):NodeD:={n with fv:=r.1.1,fe:=r.1.2}
def NodeD.new(c:Cfg)(id boot:Int)(e:El):NodeD:=
 nf ⟨c,id,boot,max 2 c.cap,false,.zero,.new c.table,fun _=>.new,.new c.rate,.new c.every,0,-1,-1,0⟩ (setS (max 2 c.cap) false .zero e)
def NodeD.send(n:NodeD)(now fine:Int)(f:FrD):NodeD×(Int×Bool)×List ky:=
 if n.b.take.2 then ({n with b:=n.b.take.1,seq:=sc n.seq},(n.boot*65536+n.seq,true),[({f with src:=n.id,boot:=n.boot,seq:=n.seq,stamp:=now},fine)]) else (n,(0,false),[])
def NodeD.tell(n:NodeD)(now fine:Int):NodeD×List ky:=
 let r:=nextF ((n.t.all.filter (·.has)).map (·.node)) n.told
 if r.2=false then (n,[]) else
 let n1:={n with told:=r.1}
 let x:=(lk n.t.ents r.1).getD .zero
 if r.1≠n.id/\x.when<=now then
  let q:=n1.send now fine {fr0 6 with who:=r.1,x:=x.e.x,y:=x.e.y,a:=x.e.a,b:=x.e.b,d:=x.e.d,when:=x.when}
  (q.1,q.2.2)
 else (n1,[])
def NodeD.upd(n:NodeD)(k:Nat)(s:cZ):NodeD:={n with s:=fun j=>if j=k then s else n.s j}
def NodeD.poll(n:NodeD)(now fine:Int):NodeD×List ky:=
 let r:=nextF (n.t.all.map (·.node)) n.asked
 if r.2=false then (n,[]) else
 let n1:={n with asked:=r.1}
 let q:=n1.send now fine {fr0 2 with dst:=r.1}
 if q.2.1.2 then (q.1.upd r.1.toNat ((q.1.s r.1.toNat).poll fine q.2.1.1),q.2.2) else (q.1,q.2.2)
def NodeD.tick(n:NodeD)(now fine:Int):NodeD×List ky:=
 if cA now=false then (n,[]) else
 let n1:={n with b:=⟨n.b.n,n.b.n⟩,t:=n.t.tx now n.c.silent,tm:=(n.tm.due now).1}
 if (n.tm.due now).2=false then (n1,[]) else
 let q1:=n1.send now fine (if n1.fv then {fr0 5 with x:=n1.fe.x,y:=n1.fe.y,a:=n1.fe.a,b:=n1.fe.b,d:=n1.fe.d} else fr0 1)
 let q2:=q1.1.tell now fine
 let q3:=q2.1.poll now fine
 (q3.1,q1.2.2++q2.2++q3.2)
def NodeD.leave(n:NodeD)(now fine:Int):NodeD×List ky:=let q:=n.send now fine (fr0 7);(q.1,q.2.2)
def NodeD.at(n:NodeD)(e:El)(when now:Int):El×Int:=atE e when now n.c.speed n.c.skew
def NodeD.track(n:NodeD)(k now:Int):El×Bool:=
 match lk n.t.ents k with
 | none=>(.zero,false)
 | some x=>if x.has then ((n.at x.e x.when now).1,decide ((n.at x.e x.when now).2=0)) else (.zero,false)
def NodeD.put(n:NodeD)(k:Int)(e:El)(when now:Int):NodeD:=
 if (n.at e when now).2≠0 then n else
 let f:=(n.at e when now).1
 let e2:=if (n.track k now).2 then (mergeE (n.track k now).1 f).1 else f
 {n with t:=(n.t.put k e2 now).1}
def NodeD.tracked(n:NodeD)(f:FrD)(now:Int):NodeD:=
 if f.who=n.id then (if (n.at f.el f.when now).2=0 then nf n (uv n.cap n.fv n.fe (n.at f.el f.when now).1) else n)
 else if (lk n.t.ents f.who).isSome then n.put f.who f.el f.when now else n
def NodeD.measured(n:NodeD)(k:Int)(t:Oh)(stamp now:Int):NodeD:=
 let slack:=2*n.c.speed*ticksE stamp now n.c.skew
 if (n.track k now).2=false∨4194304<slack then n else
 if (twrRange t n.c.drift slack).2=0 then nf n (nh n.cap n.fv n.fe (n.track k now).1 (twrRange t n.c.drift slack).1.1 (twrRange t n.c.drift slack).1.2) else n
def NodeD.ranging(n:NodeD)(f:FrD)(at_ now fine:Int):NodeD×List ky:=
 let k:=f.src.toNat
 if f.kind=2 then
  let n1:=n.upd k ((n.s k).gotPoll at_ f.stamp)
  let q:=n1.send now fine {fr0 3 with dst:=f.src,t1:=tf f}
  if q.2.1.2 then (q.1.upd k ((q.1.s k).resp fine q.2.1.1).1,q.2.2) else (q.1,q.2.2)
 else if f.kind=3 then
  let n1:=n.upd k ((n.s k).gotResp at_ f.t1).1
  if ((n.s k).gotResp at_ f.t1).2=false then (n1,[]) else
  let r:=(n1.s k).final fine
  let n2:=n1.upd k r.1
  if r.2.2.2 then (let q:=n2.send now fine {fr0 4 with dst:=f.src,t1:=r.2.1,t2:=r.2.2.1,when:=tf f};(q.1,q.2.2)) else (n2,[])
 else if f.kind=4 then
  let r:=(n.s k).gotFinal at_ f.t1 f.t2 f.when
  let n1:=n.upd k r.1
  if r.2.2.2 then (n1.measured f.src r.2.1 r.2.2.1 now,[]) else (n1,[])
 else (n,[])
def NodeD.take(n:NodeD)(f:FrD)(at_ now fine:Int):NodeD×List ky:=
 if f.kind=5 then (n.put f.src f.el f.stamp now,[])
 else if f.kind=6 then (n.tracked f now,[])
 else if f.kind=2∨f.kind=3∨f.kind=4 then (if f.dst=n.id then n.ranging f at_ now fine else (n,[]))
 else if f.kind=7 then ({n with t:=(n.t.leave f.src).1},[])
 else (n,[])
def NodeD.hear(n:NodeD)(l:List Nat)(at_ now fine:Int):NodeD×List ky×Int:=
 if cA now=false then (n,[],1)
 else if (decE l).2≠0 then ({n with bad:=min (n.bad+1) 1000000},[],(decE l).2)
 else
  let f:=(decE l).1
  if f.src=n.id then (n,[],9)
  else if freshF f.stamp now n.c.stale n.c.skew≠0 then (n,[],freshF f.stamp now n.c.stale n.c.skew)
  else
   let r:=n.t.hear f.src f.boot f.seq now
   let n1:={n with t:=r.1}
   if r.2≠0 then (n1,[],r.2)
   else ((n1.take f at_ now fine).1,(n1.take f at_ now fine).2,0)
structure gE where
 til:Nat
 data:List Nat
 at_:Int
 tru:Int
 bent:Bool
def airPut(l:List gE)(m:gE):List gE×Bool:=if 512<=l.length∨1000<m.data.length then (l,false) else (l++[m],true)
structure fU where
 c:Cfg
 p:List (Int×Int)
 moved:List Bool
 time:Int
 steps:Int
def fU.new(c:Cfg):fU:=⟨c,(List.range c.nodes.toNat).map (fun (i:Nat)=>(1000*((i:Int)%8),1000*((i:Int)/8))),List.replicate c.nodes.toNat false,0,0⟩
def fU.step(w:fU):fU×Int:=({w with steps:=min (w.steps+1) 16777215},w.time*16777216+min (w.steps+1) 16777215)
def fU.tick(w:fU):fU×Bool:=if 750000<=w.time then (w,false) else ({w with time:=w.time+1,steps:=0,moved:=List.replicate w.p.length false},true)
def offF(i:Nat)(by_ most:Int):Int:=(by_*i).tmod (2*most+1)-most
def fU.now(w:fU)(i:Nat):Int:=if i<w.p.length then localF (offF i 7 w.c.skew) w.time else 0
def fU.fine(w:fU)(i:Nat)(g:Int):Int:=if i<w.p.length then (Ab (offF i 13 w.c.drift) (12345*i) g).1 else 0
def Cq(p q:Int×Int):Int:=if ks p.1 (-4194304) 4194304&&ks p.2 (-4194304) 4194304&&ks q.1 (-4194304) 4194304&&ks q.2 (-4194304) 4194304 then Dj ((p.1-q.1)*(p.1-q.1)+(p.2-q.2)*(p.2-q.2)) else 0
def fU.flight(w:fU)(i j:Nat):Int:=match w.p[i]?,w.p[j]? with|some p,some q=>Cq p q|_,_=>0
structure FleetD where
 w:fU
 a:List gE
 c:Cfg
 n:List NodeD
 on:List Bool
 lost:Int
def FleetD.new(c:Cfg):FleetD:=
 ⟨.new c,[],c,(List.range c.nodes.toNat).map (fun (i:Nat)=>.new c i 0 (if i<3 then (ballE (1000*((i:Int)%8)) (1000*((i:Int)/8)) 10).1 else .zero)),List.replicate c.nodes.toNat true,0⟩
def FleetD.lm(f:FleetD)(i j:Nat)(b:List Nat)(g:Int):FleetD:=
 if j=i∨f.on.getD j false=false then f else
 let t:=g+f.w.flight i j
 let r:=airPut f.a ⟨j,b,f.w.fine j t,t,false⟩
 {f with a:=r.1,lost:=if r.2 then f.lost else min (f.lost+1) 1000000}
def FleetD.send(f:FleetD)(i:Nat)(l:List ky)(g:Int):FleetD:=
 l.foldl (fun f o=>(List.range f.n.length).foldl (fun f j=>f.lm i j (if pl o.1 then nt o.1 else []) g) f) f
def FleetD.setN(f:FleetD)(i:Nat)(n:NodeD):FleetD:={f with n:=f.n.set i n}
def FleetD.lY(f:FleetD)(i:Nat)(g:Int):FleetD:=
 match f.n[i]? with
 | none=>f
 | some n=>if f.on.getD i false then ((f.setN i (n.tick (f.w.now i) (f.w.fine i g)).1).send i (n.tick (f.w.now i) (f.w.fine i g)).2 g) else f
def FleetD.tick(f:FleetD):FleetD×Int:=
 if f.w.tick.2=false then (f,10) else
 let s:=f.w.tick.1.step
 ((List.range f.n.length).foldl (fun f i=>f.lY i s.2) {f with w:=s.1},0)
def FleetD.hear(f:FleetD)(i:Nat)(b:List Nat)(at_ g:Int):FleetD:=
 match f.n[i]? with
 | none=>f
 | some n=>let r:=n.hear b at_ (f.w.now i) (f.w.fine i g);(f.setN i r.1).send i r.2.1 g
def FleetD.deliver(f:FleetD)(i:Int):FleetD×Int:=
 if i<0 then (f,7) else
 match f.a[i.toNat]? with
 | none=>(f,7)
 | some m=>
  let s:=f.w.step
  let f1:={f with w:=s.1}
  if s.2<m.tru then (f1,10) else
  let f2:={f1 with a:=f.a.eraseIdx i.toNat}
  (if f.on.getD m.til false then f2.hear m.til m.data m.at_ s.2 else f2,0)
abbrev ptr(g:Nat):Value:=.pointer (some ⟨g,0,none⟩)
structure NLay where
 f:Nat
 t:Nat
 b:Nat
 tm:Nat
 s:Nat->Nat
 T:Ah
abbrev Ha(c:Cfg):List Value:=[.int .i64 c.nodes,.int .i64 c.table,.int .i64 c.speed,.int .i64 c.err,.int .i64 c.skew,.int .i64 c.drift,.int .i64 c.stale,.int .i64 c.silent,.int .i64 c.every,.int .i64 c.rate,.int .i64 c.cap]
abbrev If(c:Cfg):Value:=.agg #[.int .i64 c.nodes,.int .i64 c.table,.int .i64 c.speed,.int .i64 c.err,.int .i64 c.skew,.int .i64 c.drift,.int .i64 c.stale,.int .i64 c.silent,.int .i64 c.every,.int .i64 c.rate,.int .i64 c.cap]
def uu(L:NLay)(n:NodeD):Array Value:=
 (Ha n.c++[.int .i64 n.id,.int .i64 n.boot,ptr L.f,ptr L.t]++((List.range 64).map fun i=>ptr (L.s i))++[ptr L.b,ptr L.tm,.int .i64 n.seq,.int .i64 n.told,.int .i64 n.asked,.int .i64 n.bad]).toArray
structure NodeAt (S:Nat->Prop) (w:World) (g:Nat) (L:NLay) (n:NodeD):Prop where
 blk:Blk w g (uu L n) 81
 sg:S g
 f:Blk w L.f (flt n.cap n.fv n.fe.x n.fe.y n.fe.a n.fe.b n.fe.d) 119
 sf:S L.f
 t:dR S w L.t L.T n.t
 s:∀i,i<64->Blk w (L.s i) (xX (n.s i)) 245/\S (L.s i)
 si:∀i j,i<64->j<64->L.s i=L.s j->i=j
 b:Blk w L.b (Ig n.b) 239
 sb:S L.b
 tm:Blk w L.tm (JI n.tm) 241
 stm:S L.tm
structure bL (n:NodeD):Prop where
 c:n.c.may=true
 id:0<=n.id/\n.id<64
 boot:0<=n.boot/\n.boot<=65535
 seq:0<=n.seq/\n.seq<=65535
 bad:0<=n.bad/\n.bad<=1000000
 t:dA n.t
 b:0<=n.b.left/\n.b.left<=1000/\0<=n.b.n/\n.b.n<=1000
 tm:1<=n.tm.every/\n.tm.every<=1000000
 fe:n.fv=true->n.fe.may=true
abbrev Vx(f:FrD):List Value:=[.int .i64 f.kind,.int .i64 f.src,.int .i64 f.boot,.int .i64 f.seq,.int .i64 f.stamp,.int .i64 f.dst,.int .i64 f.t1,.int .i64 f.t2,.int .i64 f.who,.int .i64 f.when,.int .i64 f.x,.int .i64 f.y,.int .i64 f.a,.int .i64 f.b,.int .i64 f.d]
abbrev Cj(o:ky):List Value:=Vx o.1++[.int .i64 o.2]
structure uA (S:Nat->Prop) (w:World) (s g:Nat) (now fine:Int) (l:List ky):Prop where
 ex:∃v B,Blk w s #[ptr g,now,fine,v] 203/\w.ownsRow B 195 16 v l.length (l.flatMap Cj)/\B<=w.heap.size/\∀k,B<=k->S k
 ss:S s
theorem Ib{P:Program}{F:Array Oper}{o:Oper}{a:Act}{w:World}{K:Act->World->Prop}{Q:Exit->Act->World->Prop}{E:Prop}(J:o.guard=none)(s x:Operand)(t:TypeId)(M:o.op=.call {callee:=.builtin .append,args:=#[s,x],argTypes:=#[t,t]})(k:Nat)(e:TypeId)(i:TypeInfo)(z:Value)(b f:Nat)(N:P.underlying t=some (.slice e))(O:P.info? e=some i)(I:i.zero=some z)(r:i.size=b)(A:i.bytes=f)(B:z.cells.size=b)(D:0<b)(v:Value)(n:Nat)(H:List Value)(R:a.eval s=v)(y:w.ownsRow k e b v n H)(ad:Addr)(m c:Nat)(d:List Value)(T:a.eval x=.slice (some ad) m c)(V:d.length=m*b)(q:∀j u,d[j]?=some u->w.cell? (ad.add j)=some u)(U:∀u∈d,u.oneCell'=true)(C:n+m<=maxLen)(l:(n+m)*f<=140737488355328)(p:k<=w.heap.size)(h:∀G w',w'.ownsRow k e b G (n+m) (H++d)->w.grownBy w' v.ownBlock->(G=.slice none 0 0↔v=.slice none 0 0/\m=0)->K (a.put o.dst G) w'):if Region.wanted o (yielded F a.tmps)=true then Oper.wp P o a w K Q else E:=by
 rw[if_pos (by simp[Region.wanted,J])];exact wp_append_own w s x t M k e i z b f N O I r A B D v n H R y ad m c d T V q U C l p h
theorem RW:(Tryz.prog.info? 195).map (fun i=>(i.zero,i.size,i.bytes))=some (some (.agg #[.int .i64 0,.int .i64 0,.int .i64 0,.int .i64 0,.int .i64 0,.int .i64 0,.int .i64 0,.int .i64 0,.int .i64 0,.int .i64 0,.int .i64 0,.int .i64 0,.int .i64 0,.int .i64 0,.int .i64 0,.int .i64 0]),16,128):=by kernel_rfl
section
variable {S:Nat->Prop} {w w':World} {g:Nat} {L:NLay} {n:NodeD}
theorem NodeAt.nr{R:Nat->Prop}{ty:List TypeId}(h:NodeAt S w g L n)(a:aa R ty false w w')(l:81∉ty)(d:119∉ty)(j:128∉ty)(e:375∉ty)(o:245∉ty)(m:239∉ty)(k:241∉ty):NodeAt S w' g L n:=
 ⟨a.blk h.blk l,h.sg,a.blk h.f d,h.sf,h.t.nr a j e,fun i c=>⟨a.blk (h.s i c).1 o,(h.s i c).2⟩,h.si,a.blk h.b m,h.sb,a.blk h.tm k,h.stm⟩
theorem NodeAt.below(h:NodeAt S w g L n)(hb:zB w w'):NodeAt S w' g L n:=
 ⟨h.blk.keep hb,h.sg,h.f.keep hb,h.sf,h.t.below hb,fun i a=>⟨(h.s i a).1.keep hb,(h.s i a).2⟩,h.si,h.b.keep hb,h.sb,h.tm.keep hb,h.stm⟩
theorem NodeAt.OQ(h:NodeAt S w g L n)(a:ah L.b w w'){b:Am}(j:Blk w' L.b (Ig b) 239):NodeAt S w' g L {n with b:=b}:=
 have K {k:Nat} {c:Array Value} {t:TypeId} (d:Blk w k c t) (l:t≠239):Blk w' k c t:=a.blk d (Blk.ne d h.b l)
 ⟨K h.blk (by decide),h.sg,K h.f (by decide),h.sf,h.t.only a h.b (by decide) (by decide),fun i e=>⟨K (h.s i e).1 (by decide),(h.s i e).2⟩,h.si,j,h.sb,K h.tm (by decide),h.stm⟩
theorem NodeAt.Kt(h:NodeAt S w g L n)(a:ah g w w'){m:NodeD}(x:Blk w' g (uu L m) 81)(j:m.cap=n.cap)(r:m.fv=n.fv)(p:m.fe=n.fe)(o:m.t=n.t)(l:m.s=n.s)(v:m.b=n.b)(u:m.tm=n.tm):NodeAt S w' g L m:=
 have K {k:Nat} {c:Array Value} {t:TypeId} (e:Blk w k c t) (q:t≠81):Blk w' k c t:=a.blk e (Blk.ne e h.blk q)
 ⟨x,h.sg,by rw[j,r,p];exact K h.f (by decide),h.sf,by rw[o];exact h.t.only a h.blk (by decide) (by decide),fun i d=>⟨by rw[l];exact K (h.s i d).1 (by decide),(h.s i d).2⟩,h.si,by rw[v];exact K h.b (by decide),h.sb,by rw[u];exact K h.tm (by decide),h.stm⟩
end
theorem Nn(L:NLay)(n:NodeD)(v:Int):(uu L n).setIfInBounds 81 (.int .i64 v)=uu L {n with seq:=v}:=by rfl
theorem LO(L:NLay)(n:NodeD)(v:Int):(uu L n).setIfInBounds 82 (.int .i64 v)=uu L {n with told:=v}:=by rfl
theorem KA(L:NLay)(n:NodeD)(v:Int):(uu L n).setIfInBounds 83 (.int .i64 v)=uu L {n with asked:=v}:=by rfl
theorem Np(L:NLay)(n:NodeD)(v:Int):(uu L n).setIfInBounds 84 (.int .i64 v)=uu L {n with bad:=v}:=by rfl
theorem ca{w:World}{g:Nat}{L:NLay}{n:NodeD}(h:Blk w g (uu L n) 81):w.cell? ⟨g,2,none⟩=some (.int .i64 n.c.speed)/\w.cell? ⟨g,3,none⟩=some (.int .i64 n.c.err)/\w.cell? ⟨g,4,none⟩=some (.int .i64 n.c.skew)/\w.cell? ⟨g,5,none⟩=some (.int .i64 n.c.drift)/\w.cell? ⟨g,6,none⟩=some (.int .i64 n.c.stale)/\w.cell? ⟨g,7,none⟩=some (.int .i64 n.c.silent)/\
  w.cell? ⟨g,11,none⟩=some (.int .i64 n.id)/\w.cell? ⟨g,12,none⟩=some (.int .i64 n.boot)/\w.cell? ⟨g,13,none⟩=some (ptr L.f)/\w.cell? ⟨g,14,none⟩=some (ptr L.t)/\w.cell? ⟨g,79,none⟩=some (ptr L.b)/\w.cell? ⟨g,80,none⟩=some (ptr L.tm)/\
  w.cell? ⟨g,81,none⟩=some (.int .i64 n.seq)/\w.cell? ⟨g,82,none⟩=some (.int .i64 n.told)/\w.cell? ⟨g,83,none⟩=some (.int .i64 n.asked)/\w.cell? ⟨g,84,none⟩=some (.int .i64 n.bad)/\(∀o,w.frozen? ⟨g,o,none⟩=false)/\g<w.heap.size:=
 ⟨h.cell rfl,h.cell rfl,h.cell rfl,h.cell rfl,h.cell rfl,h.cell rfl,h.cell rfl,h.cell rfl,h.cell rfl,h.cell rfl,h.cell rfl,h.cell rfl,h.cell rfl,h.cell rfl,h.cell rfl,h.cell rfl,h.frozen,h.lt⟩
theorem Pb(o:ky):∀u∈Cj o,u.oneCell'=true:=by intro u a;simp at a;rcases a with rfl|rfl|rfl|rfl|rfl|rfl|rfl|rfl|rfl|rfl|rfl|rfl|rfl|rfl|rfl|rfl<;>rfl
theorem Mx(g:Nat)(w:World)(b c:Am)(k:Bool)(f:b.take=(c,k))(d:0<=b.left)(h:b.left<=1000)(B:Blk w g (Ig b) 239):Calls prog 185 #[ptr g] w fun e a=>e=.returned (.bool k)/\ah g w a/\Blk a g (Ig c) 239:=by
 have:=JA g w b d h B;rw[f] at this;exact this
theorem fW{R:Nat->Prop}{ty:List TypeId}{mp:Bool}{w f:World}{B e a k:Nat}{v:Value}{i:List Value}(h:w.ownsRow B e a v k i)(u:aa R ty mp w f)(o:e∉ty):f.ownsRow B e a v k i:=by
 obtain⟨m,t|⟨j,c,b,rfl,r,p,q⟩⟩:=h
 ·exact⟨m,.inl t⟩
 ·have d:Blk w j b e:=p;exact⟨m,.inr ⟨j,c,b,rfl,r,u.blk d o,q⟩⟩
theorem xB{w:World}{a b n:Nat}{e:TypeId}{v:Value}{f:List Value}(h:w.ownsRow a e b v n f)(j:0<n):∃g c,v=.slice (some ⟨g,0,none⟩) n c:=by
 rcases h.2 with ⟨-,h⟩|⟨k,d,i,h,-⟩
 ·omega
 ·exact⟨_,_,h⟩
theorem Jf{g:Nat}{w a:World}{c:Array Value}{t:TypeId}(h:ah g w a)(f:Blk w g c t)(b:Blk a g c t):zB w a:=
 ⟨h.os,h.tape,h.output,h.size,fun k d=>if e:k=g then by subst e;exact b.trans f.symm else h.block k d e⟩
theorem LP(r y a b i o h d fw f v p t e c:Int)(u:0<=a/\a<=65535)(k:0<=b/\b<=65535)(w:World):zR 186 #[frC r y a b i o h d fw f v p t e c] w (.int .i64 (a*65536+b)):=by
 obtain⟨m,q⟩:=u;obtain⟨j,x⟩:=k;have z:IntKind.i64.wrap (a*65536)=a*65536:=by rw[IntKind.wrap_i64];omega
 have A:IntKind.i64.wrap (a*65536+b)=a*65536+b:=by rw[IntKind.wrap_i64];omega
 go_enter func186,ntmps186;go_wp2
 go_ret;exact⟨by first|rfl|(simp;done)|(simp;omega),ad⟩
def Vi(S:Nat->Prop)(x w:World)(s g:Nat)(now fine:Int)(B m:Nat)(ys:List Value):Prop:=
 (∃v,Blk w s #[ptr g,now,fine,v] 203/\w.ownsRow B 195 16 v m ys)/\aa S [203,195] false x w
theorem Mi{x W b:World}{s g:Nat}{now fine:Int}{B m:Nat}{d:List Value}{v:Value}(a:zB x W)(c:Blk x s #[ptr g,now,fine,v] 203)(e:x.ownsRow B 195 16 v m d)(f:W.grownBy b v.ownBlock):Blk b s #[ptr g,now,fine,v] 203:=(He (cv e a) f).blk (c.keep a) (by decide)
theorem Ra{S:Nat->Prop}{x W a:World}{s g:Nat}{now fine:Int}{B m j:Nat}{t i:List Value}{v c:Value}(e:zB x W)(r:Blk x s #[ptr g,now,fine,v] 203)(o:x.ownsRow B 195 16 v m t)(b:a.ownsRow B 195 16 c j i)(f:W.grownBy a v.ownBlock)(q:∀k,B<=k->S k)(p:S s):Vi S x (a.setCell ⟨s,3,none⟩ c) s g now fine B j i:=by
 have d:=Mi e r o f;have O:ah s a (a.setCell ⟨s,3,none⟩ c):=ah.refl.setCell 3 _;refine⟨⟨c,d.ab 3 _,fW b (aa.cU (S:=fun _=>True) (mp:=false) O d (List.mem_singleton.2 rfl) trivial) (by decide)⟩,?_⟩;refine(aa.of_below e).trans (S':=S) (((He (cv o e) f).mono (fun k _ h=>q k h) (by simp) (fun h=>h)).trans (aa.cU O d (by simp) p) (fun _ _ h=>h)) (fun _ _ h=>h)
section
variable {S:Nat->Prop} {w:World} {g:Nat} {L:NLay} {n:NodeD} {s:Nat} {now fine:Int} {l:List ky}
theorem uA.nr{R:Nat->Prop}{ty:List TypeId}{mp:Bool}{w':World}(h:uA S w s g now fine l)(c:aa R ty mp w w')(r:203∉ty)(i:195∉ty):uA S w' s g now fine l:=by
 obtain⟨v,B,j,u,k,o⟩:=h.ex;refine⟨⟨v,B,c.blk j r,?_,Nat.le_trans k c.size,o⟩,h.ss⟩;obtain⟨f,t|⟨e,b,a,rfl,q,m,p⟩⟩:=u
 ·exact⟨f,.inl t⟩
 ·have d:Blk w e a 195:=m;exact⟨f,.inr ⟨e,b,a,rfl,q,c.blk d i,p⟩⟩
variable (H:NodeAt S w g L n) (OK:bL n) (HS:uA S w s g now fine l)
include H OK HS
theorem Ri(c:n.b.take.2=false)(f:FrD):zR 138 #[ptr s,frV f] w (.tuple #[.int .i64 0,false]):=by
 have h:n.b.left=0:=by
  unfold Am.take at c;split at c
  ·assumption
  ·cases c
 have a:n.b.take=(n.b,false):=by unfold Am.take;rw[if_pos h]
 obtain⟨v,B,d,k,t,p⟩:=HS.ex;have i:=Lh H;have j:=Lh OK;have o:=Lh a;obtain⟨z,y,C,-⟩:=cz d;obtain⟨-,-,-,-,-,-,-,-,-,-,r,-,-,-,-,-,-,yg⟩:=ca H.blk;have u:=H.b.lt;have A:=Lh (JA (w:=w) L.b);clear H OK HS a c;go_enter func138,ntmps138;go_wp2_with (go_at_call 185;refine(Mx L.b _ n.b n.b false o.out j.out.b.1 j.out.b.2.1 (i.out.b.alloc _)).mono ?_;rintro e x ⟨rfl,m,q⟩)
 go_ret2
 exact⟨rfl,Below.trans ((Below.refl _ _).alloc (Nat.le_refl _) _) ((Jf m (i.out.b.alloc _) q).mono (by simp))⟩
theorem Rg(b':Am)(E:n.b.take=(b',true))(f:FrD)(hl:l.length<=1000):Calls prog 138 #[ptr s,frV f] w fun e w'=>e=.returned (.tuple #[.int .i64 (n.boot*65536+n.seq),true])/\aa S [81,239,203,195] false w w'/\
   NodeAt S w' g L (n.send now fine f).1/\uA S w' s g now fine (l++(n.send now fine f).2.2):=by
 have EV:Hid (n.send now fine f=({n with b:=b',seq:=sc n.seq},(n.boot*65536+n.seq,true),[({f with src:=n.id,boot:=n.boot,seq:=n.seq,stamp:=now},fine)])):=by
  show _=_;unfold NodeD.send;rw[E];rfl
 obtain⟨v,B,D,N,a8,a2⟩:=HS.ex;have r:=Lh H;have M:=Lh OK;have HT:=Lh E;have F:=Lh D;have a9:=Lh N;have Q:=Lh a2;have O:=Lh HS.ss;obtain⟨P,T,V,-⟩:=cz D;obtain⟨-,-,-,-,-,-,-,-,-,-,a6,-,-,-,-,-,fz,yg⟩:=ca H.blk;have hz:=H.b.lt;obtain⟨i0,hi,a5,a1,a0⟩:=info_parts RW;obtain⟨z,fs,fb,fq,U,t,i,d,fw,j,C,A,y,k,c⟩:=f;clear H OK HS E D N;go_enter func138,ntmps138;go_wp2_with (go_at_call 185;refine(Mx L.b _ n.b b' true HT.out M.out.b.1 M.out.b.2.1 (r.out.b.alloc _)).mono ?_;rintro e X ⟨rfl,K,hB⟩)
 have b3:=r.out.blk.lt;have b5:=F.out.lt;have b6:¬(g=w.heap.size):=by omega
 have b2:¬(s=w.heap.size):=by omega
 have q:zB w (w.alloc (Obj.cells #[z,fs,fb,fq,U,t,i,d,fw,j,C,A,y,k,c] 193)):=(Below.refl _ _).alloc (Nat.le_refl _) _;have N1:=Lh ((r.out.below q).OQ K hB);have F1:=Lh (K.blk (Blk.new w #[.int .i64 z,.int .i64 fs,.int .i64 fb,.int .i64 fq,.int .i64 U,.int .i64 t,.int .i64 i,.int .i64 d,.int .i64 fw,.int .i64 j,.int .i64 C,.int .i64 A,.int .i64 y,.int .i64 k,.int .i64 c] 193) (by omega));have TA:Hid (aa S [81,239,203,195] false w X):=(aa.of_below q).trans (aa.cU K (r.out.b.keep q) (by simp) r.out.sb) (fun _ _ a=>a);have o:=Lh (K.blk (F.out.keep q) (Blk.ne (F.out.keep q) (r.out.b.keep q) (by decide)));have R:Hid (X.ownsRow B 195 16 v l.length (l.flatMap Cj)):=fW (cv a9.out q) (aa.cU (S:=fun _=>True) (mp:=false) K (r.out.b.keep q) (List.mem_singleton.2 rfl) trivial) (by decide);clear P T V a6 fz yg K hB;obtain⟨P,T,V,-⟩:=cz o.out;obtain⟨y2,c2,f2,-⟩:=cz F1.out;obtain⟨-,-,-,-,-,-,a3,a4,-,-,-,-,I,-,-,-,fz,yg⟩:=ca N1.out.blk;go_region
 refine Ht ?_;intro u hu;have UF:Hid (Blk u w.heap.size #[z,.int .i64 n.id,.int .i64 n.boot,.int .i64 n.seq,now,t,i,d,fw,j,C,A,y,k,c] 193):=by rw[hu];have XX:=F1.out;exact(by apply Blk.of_eq;(focus (repeat (first|with_reducible exact XX|with_reducible apply Blk.drew|with_reducible apply blk_drewN|with_reducible apply Blk.alloc|with_reducible apply Blk.ab)));first|rfl|(simp;done))
 have UO:ah w.heap.size X u:=by rw[hu];exact(show ah _ _ _ from dY)
 have Z:aa (fun _=>True) [193] false X u:=aa.cU UO F1.out (by simp) trivial;have J:=Lh (N1.out.nr Z (by decide) (by decide) (by decide) (by decide) (by decide) (by decide) (by decide));have US:=Lh (Z.blk o.out (by decide));have UR:=Lh (fW R.out Z (by decide));have UA:Hid (aa S [81,239,203,195] false w u):=bg.gZ TA.out UO (.inr (Nat.le_refl _));clear hu UO Z N1 F1 o R TA q P T V y2 c2 f2 a3 a4 I fz yg;obtain⟨-,-,-,-,-,-,-,-,-,-,-,-,I,-,-,-,fz,yg⟩:=ca J.out.blk;go_wp2_with (go_at_call 147;refine(MY _ M.out.seq.1 M.out.seq.2 _).mono ?_;rintro e w2 ⟨rfl,h2⟩;have h9:=h2.symm;subst h9)
 refine eN ?_;intro x hx;have XO:ah g u x:=by rw[hx];exact ah.refl.setCell 81 _
 have XB:Blk x g (uu L {n with b:=b',seq:=sc n.seq}) 81:=by rw[hx];exact(J.out.blk.ab 81 _).of_eq (Nn _ _ _)
 have XN:=Lh (J.out.Kt XO XB rfl rfl rfl rfl rfl rfl rfl);have XT:aa (fun _=>True) [81] false u x:=aa.cU XO J.out.blk (by simp) trivial;have XS:=Lh (XT.blk US.out (by decide));have XR:=Lh (fW UR.out XT (by decide));have XF:=Lh (XT.blk UF.out (by decide));have XA:Hid (aa S [81,239,203,195] false w x):=UA.out.trans (aa.cU XO J.out.blk (by simp) r.out.sg) (fun _ _ a=>a);have b4:w.heap.size<=x.heap.size:=XA.out.size;clear hx XO XB XT J US UR UF UA I fz yg;obtain⟨P,T,V,-⟩:=cz XS.out;have a7:=XF.out.row?_all 15 rfl;go_cut [] from 45 (fun wc=>Hid (Vi S x wc s g now fine B (l.length+1) (l.flatMap Cj++Cj (⟨z,n.id,n.boot,n.seq,now,t,i,d,fw,j,C,A,y,k,c⟩,fine))))
 case first=>
  go_region_law (refine Ib rfl (.tmp 49) (.tmp 56) 139 rfl B 195 i0 (.agg #[.int .i64 0,.int .i64 0,.int .i64 0,.int .i64 0,.int .i64 0,.int .i64 0,.int .i64 0,.int .i64 0,.int .i64 0,.int .i64 0,.int .i64 0,.int .i64 0,.int .i64 0,.int .i64 0,.int .i64 0,.int .i64 0]) 16 128 underlying139 hi a5 a1 a0 rfl (by decide) v l.length (l.flatMap Cj) (by simp[Act.eval,Act.put]) (cv (w:=x.drew) XR.out ((Below.refl _ _).alloc (Nat.le_refl _) _)) ⟨x.heap.size,0,none⟩ 1 1 (Cj (⟨z,n.id,n.boot,n.seq,now,t,i,d,fw,j,C,A,y,k,c⟩,fine)) (by simp[Act.eval,Act.put]) rfl (te (Blk.new x.drew _ 195)) (Pb _) (by unfold maxLen;omega) (by omega) (by simp;omega) ?_;intro v' w5 p m _;obtain⟨g',b0,rfl⟩:=xB p (by omega);have YS:=Mi (W:=x.drew.alloc (Obj.cells (Cj (⟨z,n.id,n.boot,n.seq,now,t,i,d,fw,j,C,A,y,k,c⟩,fine)).toArray 195)) ((Below.refl _ _).alloc (Nat.le_refl _) _) XS.out XR.out m;obtain⟨y3,c3,f3,-⟩:=cz YS;have YE:=Lh (Ra (x:=x) (W:=x.drew.alloc (Obj.cells (Cj (⟨z,n.id,n.boot,n.seq,now,t,i,d,fw,j,C,A,y,k,c⟩,fine)).toArray 195)) ((Below.refl _ _).drew.alloc (Nat.le_refl _) _) XS.out XR.out p m Q.out O.out);clear m p YS)
  all_goals go_wp2_with fail
  all_goals go_meet
  all_goals exact YE
 case rest=>
  obtain⟨⟨v2,k1,k2⟩,Y⟩:=hcut.out;have ZF:=Lh (Y.blk XF.out (by decide));have ZN:=Lh (XN.out.nr Y (by decide) (by decide) (by decide) (by decide) (by decide) (by decide) (by decide));have ZA:Hid (aa S [81,239,203,195] false w wc):=XA.out.trans (Y.mono (fun _ _ h=>h) (by simp) (fun h=>h)) (fun _ _ h=>h);have b1:=ZF.out.row?_all 15 rfl;have ZS:Hid (uA S wc s g now fine (l++[(⟨z,n.id,n.boot,n.seq,now,t,i,d,fw,j,C,A,y,k,c⟩,fine)])):=⟨⟨v2,B,k1,by rw[List.length_append,List.flatMap_append];simpa using k2,Nat.le_trans a8 ZA.out.size,Q.out⟩,O.out⟩;clear hcut k1 k2 Y XN XS XR XF XA a7 P T V;go_wp2_with (go_at_call 186;refine(LP _ _ _ _ _ _ _ _ _ _ _ _ _ _ _ M.out.boot M.out.seq _).mono ?_;rintro e w9 ⟨rfl,G⟩)
  go_ret2
  rw[EV.out];exact⟨rfl,ZA.out.trans (aa.of_below G) (fun _ _ h=>h),ZN.out.below G,ZS.out.nr (aa.of_below (S:=S) (ty:=[]) (mp:=false) G) (by simp) (by simp)⟩
end
theorem JS(k:Int)(h:cA k=true)(w:World):Calls prog 134 #[k] w fun e w'=>e=.returned (.bool true)/\w'=w:=by
 have b:0<=k/\k<=1000000:=by simpa [cA] using h
 obtain⟨c,a⟩:=b;go_enter func134,ntmps134;go_wp2
 go_ret;exact⟨by simp[a],rfl⟩
section
variable {S:Nat->Prop} {w w':World} {g:Nat} {L:NLay} {n:NodeD}
theorem NodeAt.Kr{R:Nat->Prop}(h:NodeAt S w g L n)(a:aa R [375] true w w'){d:Ah}{c:cB}(j:dR S w' L.t d c):NodeAt S w' g {L with T:=d} {n with t:=c}:=
 ⟨a.blk h.blk (by decide),h.sg,a.blk h.f (by decide),h.sf,j,fun i e=>⟨a.blk (h.s i e).1 (by decide),(h.s i e).2⟩,h.si,a.blk h.b (by decide),h.sb,a.blk h.tm (by decide),h.stm⟩
theorem NodeAt.OO(h:NodeAt S w g L n)(a:ah L.tm w w'){b:Cf}(j:Blk w' L.tm (JI b) 241):NodeAt S w' g L {n with tm:=b}:=
 have K {k:Nat} {c:Array Value} {t:TypeId} (d:Blk w k c t) (m:t≠241):Blk w' k c t:=a.blk d (Blk.ne d h.tm m)
 ⟨K h.blk (by decide),h.sg,K h.f (by decide),h.sf,h.t.only a h.tm (by decide) (by decide),fun i e=>⟨K (h.s i e).1 (by decide),(h.s i e).2⟩,h.si,K h.b (by decide),h.sb,j,h.stm⟩
theorem aa.of_map{ty:List TypeId}{L:Ah}{t:cB}{gt:Nat}(h:dR S w gt L t)(a:ah L.me w w'):aa S ty true w w':=bg.cU a (.inl ⟨h.sm,OfT.map h.me⟩)
theorem Tm(g:Nat)(w:World)(t a:Cf)(k:Bool)(now:Int)(b:t.due now=(a,k))(f:0<=t.every)(c:t.every<=1000000)(d:0<=now)(B:Blk w g (JI t) 241):Calls prog 137 #[ptr g,now] w fun e w'=>e=.returned (.bool k)/\ah g w w'/\Blk w' g (JI a) 241:=by
 have:=Oy g w t now f c d B;rw[b] at this;exact this
theorem Af(c:Cfg)(h:c.may=true):1<=c.silent/\c.silent<=10000/\1<=c.stale/\c.stale<=1000/\0<=c.skew/\c.skew<=100/\0<=c.speed/\c.speed<=1000/\0<=c.err/\c.err<=1000/\0<=c.drift/\c.drift<=1000/\1<=c.nodes/\c.nodes<=64:=by
 simp[Cfg.may,ks] at h;omega
end
section
variable {S:Nat->Prop} {w:World} {g:Nat} {L:NLay} {n:NodeD} {s:Nat} {now fine:Int} {l:List ky} (H:NodeAt S w g L n) (OK:bL n) (hE:n.t.ents=[])
include H OK hE
omit hE in
theorem MP(x:cA now=true)(A:Cf)(E:n.tm.due now=(A,false)):Calls prog 67 #[ptr g,now,fine] w fun e w'=>e=.returned (.slice none 0 0)/\bg S w w'/\∃F,NodeAt S w' g {L with T:=F} {n with b:=⟨n.b.n,n.b.n⟩,t:=n.t.tx now n.c.silent,tm:=A}:=by
 have o:0<=now/\now<=1000000:=by simpa [cA] using x
 have D:=Af n.c OK.c;have p:=Lh H;have v:=Lh OK;have G:=Lh x;have k:=Lh o;have I:=Lh E;have C:=Lh D;obtain⟨-,-,-,-,-,q,-,-,-,f,j,i,-,-,-,-,fz,yg⟩:=ca H.blk;clear H OK x o E D;go_enter func67,ntmps67
 go_wp2_with (first
  | (go_at_call 134;refine(JS _ G.out _).mono ?_;rintro e m ⟨rfl,h⟩;have M:=h.symm;subst M)
  | (go_at_call 135;refine(Jz L.b w n.b p.out.b).mono ?_;rintro e m ⟨rfl,d,r⟩))
 have u:=Lh (p.out.OQ d r);have K:Hid (bg S w m):=bg.cU d (.inl p.out.sb);clear d r q f j i fz yg;obtain⟨-,-,-,-,-,q,-,-,-,f,j,i,-,-,-,-,fz,yg⟩:=ca u.out.blk;refine dv 10 (by kernel_rfl) (by kernel_rfl) ?_;simp only[List.take_succ_cons,List.take_zero,List.drop_succ_cons,List.drop_zero];(repeat still_step);(try refine wpStill_nil ?_)
 go_wp2_with (first
  | (go_at_call 136;refine(It (u.out.t.below (w':=m.drew) (Below.refl _ _).drew) v.out.t now n.c.silent k.out ⟨C.out.1,by have:=C.out.2.1;omega⟩).mono ?_;rintro e J ⟨⟨ve,rfl⟩,d,B⟩;have y:=aa.of_map (ty:=[375]) (u.out.t.below (w':=m.drew) (Below.refl _ _).drew) d;have z:=Lh ((u.out.below (w':=m.drew) (Below.refl _ _).drew).Kr y B);have N:Hid (bg S w J):=bg.trans (bg.drew K.out) y.turns (fun _ _ a=>a);clear d B y q f j i fz yg;obtain⟨-,-,-,-,-,q,-,-,-,f,j,i,-,-,-,-,fz,yg⟩:=ca z.out.blk)
  | (go_at_call 137;refine(Tm L.tm _ n.tm A false now I.out (by have:=v.out.tm.1;omega) v.out.tm.2 k.out.1 z.out.tm).mono ?_;rintro e O ⟨rfl,d,r⟩))
 go_ret;exact⟨rfl,N.out.gZ d (.inl p.out.stm),_,z.out.OO d r⟩
end
theorem dR.mono{S S':Nat->Prop}{w:World}{g:Nat}{L:Ah}{t:cB}(h:dR S w g L t)(a:∀k,k<w.heap.size->S k->S' k):dR S' w g L t:=h.kept (fun _ _ _=>rfl) a
theorem NodeAt.mono{S S':Nat->Prop}{w:World}{g:Nat}{L:NLay}{n:NodeD}(h:NodeAt S w g L n)(a:∀k,k<w.heap.size->S k->S' k):NodeAt S' w g L n:=
 ⟨h.blk,a _ h.blk.lt h.sg,h.f,a _ h.f.lt h.sf,h.t.mono a,fun i c=>⟨(h.s i c).1,a _ (h.s i c).1.lt (h.s i c).2⟩,h.si,h.b,a _ h.b.lt h.sb,h.tm,a _ h.tm.lt h.stm⟩
theorem JG(g:Nat)(m:Int)(v:Bool)(e:El)(w:World)(k:Bool)(c:v=k)(B:Blk w g (flt m v e.x e.y e.a e.b e.d) 119):zR 25 #[ptr g] w (.bool k):=by
 subst c;exact QM g m v _ _ _ _ _ w B
def Un(e:El):FrD:={fr0 5 with x:=e.x,y:=e.y,a:=e.a,b:=e.b,d:=e.d}
theorem Vb(g:Nat)(m:Int)(v:Bool)(e c:El)(w:World)(f:e=c)(B:Blk w g (flt m v e.x e.y e.a e.b e.d) 119):zR 26 #[ptr g] w (elV c):=by
 subst f;exact e_c g m v _ _ _ _ _ w B
theorem MM{S:Nat->Prop}{w c a:World}{g:Nat}{L:NLay}{n b:NodeD}(e:n=b)(h:NodeAt S c g L n)(f:zB c a):NodeAt (Sn S w) a g L b:=by
 subst e;exact(h.below f).mono (fun k _ d=>.inl d)
section
variable {S:Nat->Prop} {w:World} {g:Nat} {L:NLay} {n:NodeD} {now fine:Int} (H:NodeAt S w g L n) (OK:bL n)
include H OK
end
section
variable {S:Nat->Prop} {w:World} {g:Nat} {L:NLay} {n:NodeD} (H:NodeAt S w g L n)
include H
theorem Pm(x y a b d t u o p r s q k:Int)(h:atE ⟨x,y,a,b,d⟩ t u n.c.speed n.c.skew=(⟨o,p,r,s,q⟩,k)):zR 94 #[ptr g,elC x y a b d,t,u] w (.tuple #[elC o p r s q,k]):=by
 have v:=Lh h;obtain⟨A,-,B,-,-,-,-,-,-,-,-,-,-,-,-,-,fz,yg⟩:=ca H.blk;clear H h;go_enter func94,ntmps94;go_wp2_with fail
 go_region_held3 (fun f => f.cell? ⟨w.heap.size, 0, none⟩ = some (.int .i64 x)/\f.cell? ⟨w.heap.size, 1, none⟩ = some (.int .i64 y)/\f.cell? ⟨w.heap.size, 2, none⟩ = some (.int .i64 a)/\f.cell? ⟨w.heap.size, 3, none⟩ = some (.int .i64 b)/\f.cell? ⟨w.heap.size, 4, none⟩ = some (.int .i64 d)/\
     f.cell? ⟨g,2,none⟩=some (.int .i64 n.c.speed)/\f.cell? ⟨g,4,none⟩=some (.int .i64 n.c.skew)) (go_simp)
  (first
  | (go_at_call 16;refine(Vy _ _ _ _ _ _ _ _ _ _ _ _ _ _ _ v.out _).mono ?_;rintro e z ⟨rfl,i⟩;have j:=i.size;(try simp at j);have l:=bq2 i (w.heap.size);have m:=bq i (g)))
 all_goals go_wp2_with fail
 all_goals exact rT 5 #[.int .i64 o,.int .i64 p,.int .i64 r,.int .i64 s,.int .i64 q] (.int .i64 k) ⟨rfl,ad⟩
theorem Nh(k d:Int)(i : -9223372036854775808<=k/\k<=9223372036854775807)(v:EntD)(j:lk n.t.ents k=some v)(h:v.has=false):zR 46 #[ptr g,k,d] w (.tuple #[elC 0 0 0 0 0,false]):=by
 obtain⟨l,q,u,C,⟨m,p,A,z,s⟩,o⟩:=v;simp only at h;subst h;have y:zX w 93 #[ptr L.t,k] (.tuple #[kx ⟨l,q,u,false,⟨m,p,A,z,s⟩,o⟩,true]):=fun r B=>Ch (H.t.below B) k i _ j;obtain⟨-,-,-,-,-,-,-,-,-,x,-,-,-,-,-,-,fz,yg⟩:=ca H.blk;clear H j i;go_enter func46,ntmps46;go_wp2_with fail;refine(y.out _ ad).mono ?_;rintro e r ⟨rfl,a⟩;have b:=a.size;(try simp at b);have f:=bq a (w.heap.size);have c:=bq a (g);go_wp2_with fail;exact az 5 #[.int .i64 0,.int .i64 0,.int .i64 0,.int .i64 0,.int .i64 0] (.bool false) rfl rfl rfl rfl underlying35 rfl (by kernel_rfl) rc5 ⟨rfl,ad⟩
end
section
variable {S:Nat->Prop} {w:World} {g:Nat} {L:NLay} {n:NodeD} (H:NodeAt S w g L n)
include H
end
theorem N9{w:World}{b:Nat}{t:TypeId}{V L F E D C B A x v f e d c a g i k m n p q r u z j l o s y:Value}(h:Blk w b #[V,L,F,E,D,C,B,A,x,v,f,e,d,c,a] t):Blk (((((((((((((((w.setCell ⟨b,0,none⟩ g).setCell ⟨b,1,none⟩ i).setCell ⟨b,2,none⟩ k).setCell ⟨b,3,none⟩ m).setCell ⟨b,4,none⟩ n).setCell ⟨b,5,none⟩ p).setCell ⟨b,6,none⟩ q).setCell ⟨b,7,none⟩ r).setCell ⟨b,8,none⟩ u).setCell ⟨b,9,none⟩ z).setCell ⟨b,10,none⟩ j).setCell ⟨b,11,none⟩ l).setCell ⟨b,12,none⟩ o).setCell ⟨b,13,none⟩ s).setCell ⟨b,14,none⟩ y) b #[g,i,k,m,n,p,q,r,u,z,j,l,o,s,y] t:=by
 have U:Blk _ b #[g,L,F,E,D,C,B,A,x,v,f,e,d,c,a] t:=h.ab 0 g;have R:Blk _ b #[g,i,F,E,D,C,B,A,x,v,f,e,d,c,a] t:=U.ab 1 i;have M:Blk _ b #[g,i,k,E,D,C,B,A,x,v,f,e,d,c,a] t:=R.ab 2 k;have N:Blk _ b #[g,i,k,m,D,C,B,A,x,v,f,e,d,c,a] t:=M.ab 3 m;have W:Blk _ b #[g,i,k,m,n,C,B,A,x,v,f,e,d,c,a] t:=N.ab 4 n;have O:Blk _ b #[g,i,k,m,n,p,B,A,x,v,f,e,d,c,a] t:=W.ab 5 p;have P:Blk _ b #[g,i,k,m,n,p,q,A,x,v,f,e,d,c,a] t:=O.ab 6 q;have Q:Blk _ b #[g,i,k,m,n,p,q,r,x,v,f,e,d,c,a] t:=P.ab 7 r;have S:Blk _ b #[g,i,k,m,n,p,q,r,u,v,f,e,d,c,a] t:=Q.ab 8 u;have T:Blk _ b #[g,i,k,m,n,p,q,r,u,z,f,e,d,c,a] t:=S.ab 9 z;have K:Blk _ b #[g,i,k,m,n,p,q,r,u,z,j,e,d,c,a] t:=T.ab 10 j;have G:Blk _ b #[g,i,k,m,n,p,q,r,u,z,j,l,d,c,a] t:=K.ab 11 l;have I:Blk _ b #[g,i,k,m,n,p,q,r,u,z,j,l,o,c,a] t:=G.ab 12 o;have H:Blk _ b #[g,i,k,m,n,p,q,r,u,z,j,l,o,s,a] t:=I.ab 13 s;have J:Blk _ b #[g,i,k,m,n,p,q,r,u,z,j,l,o,s,y] t:=H.ab 14 y;exact J
theorem Blk.new1(w:World)(o:Obj)(c:Array Value)(t:TypeId):Blk ((w.alloc o).alloc (.cells c t)) (w.heap.size+1) c t:=by
 have h:=Blk.new (w.alloc o) c t;simpa using h
abbrev IQ(f:FrD)(at_:Int)(s:Nat):Value:=.agg #[.int .i64 f.kind,.int .i64 f.src,.int .i64 f.boot,.int .i64 f.seq,.int .i64 f.stamp,.int .i64 f.dst,.int .i64 f.t1,.int .i64 f.t2,.int .i64 f.who,.int .i64 f.when,.int .i64 f.x,.int .i64 f.y,.int .i64 f.a,.int .i64 f.b,.int .i64 f.d,at_,ptr s]
theorem UZ(n l m:Int)(h1:l<=n)(h2:n<=m)(w:World):Calls prog 175 #[n,l,m] w fun e a=>e=.returned (.bool true)/\a=w:=by
 go_enter func175,ntmps175;go_wp2
 go_ret;exact⟨by simp[h2],rfl⟩
theorem Po(c:Cfg)(h:c.may=true)(w:World):zR 116 #[If c] w (.bool true):=by
 obtain⟨q,u,y,Q,a,s,b,D,N,d,m⟩:=c;simp only[Cfg.may,ks,Bool.and_eq_true,decide_eq_true_eq] at h;obtain⟨⟨⟨⟨⟨⟨⟨⟨⟨⟨⟨⟨P,r⟩,R,O⟩,t,T⟩,V,W⟩,x,F⟩,J,U⟩,B,I⟩,p,M⟩,v,C⟩,E,z⟩,i,o⟩,k⟩:=h;have j:0<=d*(b+2*a+2):=Int.mul_nonneg (by omega) (by omega);have f:IntKind.i64.wrap (2*a)=2*a:=IntWalk.i64_in _ (by omega);have K:IntKind.i64.wrap (b+2*a)=b+2*a:=IntWalk.i64_in _ (by omega);have G:IntKind.i64.wrap (b+2*a+2)=b+2*a+2:=IntWalk.i64_in _ (by omega);have A:IntKind.i64.wrap (d*(b+2*a+2))=d*(b+2*a+2):=IntWalk.i64_in _ (by omega);go_enter func116,ntmps116;go_wp2_with (go_at_call 175;refine(UZ _ _ _ ?h1 ?h2 _).mono ?_;(case h1=>assumption);(case h2=>assumption);rintro e f ⟨rfl,h⟩;have l:=h.symm;subst l)
 go_ret;exact⟨by first|rfl|simp[k],ad⟩
abbrev Kw(n:NodeD)(v:Value):Value:=.agg #[.bool n.fv,.int .i64 n.fe.x,.int .i64 n.fe.y,.int .i64 n.fe.a,.int .i64 n.fe.b,.int .i64 n.fe.d,v]
section
variable {S:Nat->Prop} {w:World} {g:Nat} {L:NLay} {n:NodeD} (H:NodeAt S w g L n)
include H
theorem TW(E:dA n.t):Calls prog 11 #[ptr g] w fun e l=>∃A c,e=.returned (Kw n (.slice A n.t.ents.length c))/\zB w l:=by
 have F:Hid (∀j,zB w j->Calls prog 27 #[ptr L.t] j fun e l=>∃A c,e=.returned (.slice A n.t.ents.length c)/\zB j l):=fun j q=>
  (EE (H.t.below q) E).mono (by
   rintro e l ⟨v,rfl,N,-,h⟩;obtain⟨-,⟨rfl,O⟩|⟨U,K,P,rfl,-⟩⟩:=N
   ·exact⟨none,0,by rw[O],h⟩
   ·exact⟨_,_,rfl,h⟩)
 have Q:zX w 25 #[ptr L.f] (.bool n.fv):=fun j q=>JG _ _ _ _ _ _ rfl (H.f.keep q);have G:zX w 26 #[ptr L.f] (elV n.fe):=fun j q=>Vb _ _ _ _ _ _ rfl (H.f.keep q);obtain⟨-,-,-,-,-,-,-,-,M,I,-,-,-,-,-,-,fz,yg⟩:=ca H.blk;clear H E;go_enter func11,ntmps11;go_wp2_with fail
 go_region_held3 (fun l=>l.cell? ⟨g,13,none⟩=some (ptr L.f)/\l.cell? ⟨g,14,none⟩=some (ptr L.t)) (go_simp)
  (first
  | (go_at_call 25;refine(Q.out _ ad).mono ?_;rintro e j ⟨rfl,m⟩;have r:=m.size;(try simp at r);have C:=bq m (w.heap.size);have z:=bq m (g))
  | (go_at_call 26;refine(G.out _ ad).mono ?_;rintro e T ⟨rfl,h⟩;have o:=h.size;(try simp at o);have B:=bq h (w.heap.size);have u:=bq h (g))
  | (go_at_call 27;refine(F.out _ ad).mono ?_;rintro e R ⟨A,c,rfl,k⟩;have p:=k.size;(try simp at p);have D:=bq k (w.heap.size);have s:=bq k (g)))
 all_goals go_wp2_with fail
 all_goals exact ak 7 #[.bool n.fv,.int .i64 n.fe.x,.int .i64 n.fe.y,.int .i64 n.fe.a,.int .i64 n.fe.b,.int .i64 n.fe.d,.slice A n.t.ents.length c] rfl rfl rfl underlying42 rfl (by kernel_rfl) (ek 6 _ rfl (by intro i J;rcases i with _|_|_|_|_|_|_|i;(go_simp);(go_simp);(go_simp);(go_simp);(go_simp);(go_simp);(go_simp);exact absurd J (by omega))) ⟨_,_,rfl,ad⟩
end
def II(c:Cfg)(id boot:Int)(f t b tm:Nat)(σ:List Nat):Array Value:=
 (Ha c++[Value.int .i64 id,Value.int .i64 boot,ptr f,ptr t]++(σ.map ptr++List.replicate (64 - σ.length) (Value.pointer none))++[ptr b,ptr tm,Value.int .i64 0,Value.int .i64 (-1),Value.int .i64 (-1),Value.int .i64 0]).toArray
structure As (B:Nat) (c:Cfg) (id boot:Int) (w:World) (g f t b tm:Nat) (T:Ah) (σ:List Nat):Prop where
 blk:Blk w g (II c id boot f t b tm σ) 81
 gB:B<=g
 hf:Blk w f (flt (max 2 c.cap) false 0 0 0 0 0) 119
 fB:B<=f
 ht:dR (fun k=>B<=k) w t T (.new c.table)
 hb:Blk w b (Ig (.new c.rate)) 239
 bB:B<=b
 htm:Blk w tm (JI (.new c.every)) 241
 tmB:B<=tm
 s:∀k∈σ,Blk w k (xX .new) 245/\B<=k
 nd : σ.Nodup
theorem Pk(c:Cfg)(id boot:Int)(f t b tm:Nat)(σ:List Nat)(h : σ.length<64):(II c id boot f t b tm σ)[15 + σ.length]?=some (.pointer none):=by
 unfold II;have a:(Ha c++[Value.int .i64 id,.int .i64 boot,ptr f,ptr t]).length=15:=rfl;rw[List.getElem?_toArray,List.append_assoc,List.getElem?_append_right (by rw[a];omega),a,List.getElem?_append_left (by simp;omega),List.getElem?_append_right (by simp)];simp[List.getElem?_replicate];omega
theorem Pj(c:Cfg)(id boot:Int)(f t b tm:Nat)(σ:List Nat)(h : σ.length<64)(k:Nat):(II c id boot f t b tm σ).setIfInBounds (15 + σ.length) (ptr k)=II c id boot f t b tm (σ++[k]):=by
 unfold II;rw[List.setIfInBounds_toArray];congr 1
 have a:(Ha c++[Value.int .i64 id,.int .i64 boot,ptr f,ptr t]).length=15:=rfl
 have d:List.replicate (64 - σ.length) (Value.pointer none)=Value.pointer none :: List.replicate (63 - σ.length) (Value.pointer none):=by
  rw[<-List.replicate_succ];congr 1;omega
 rw[List.append_assoc (Ha c++_),List.set_append_right _ _ (by rw[a];omega),a,List.append_assoc (Ha c++_)];congr 1
 rw[d,List.append_assoc,List.set_append_right _ _ (by simp)];simp[show 64-(σ.length+1)=63 - σ.length by omega]
section
variable {B:Nat} {c:Cfg} {id boot:Int} {w w':World} {g f t b tm:Nat} {T:Ah} {σ:List Nat}
theorem As.below(h:As B c id boot w g f t b tm T σ)(hb:zB w w'):As B c id boot w' g f t b tm T σ:=
 ⟨h.blk.keep hb,h.gB,h.hf.keep hb,h.fB,h.ht.below hb,h.hb.keep hb,h.bB,h.htm.keep hb,h.tmB,fun k a=>⟨(h.s k a).1.keep hb,(h.s k a).2⟩,h.nd⟩
theorem As.step(h:As B c id boot w g f t b tm T σ)(q : σ.length<64)(n:B<=w.heap.size):As B c id boot ((w.setCell ⟨g,15 + σ.length,none⟩ (ptr w.heap.size)).alloc (.cells (xX .new) 245)).drew g f t b tm T (σ++[w.heap.size]):=by
 obtain⟨i,e⟩:∃i,i=w.setCell ⟨g,15 + σ.length,none⟩ (ptr w.heap.size):=⟨_,rfl⟩;rw[<-e];have l:ah g w i:=by rw[e];exact ah.refl.setCell _ _
 have o:i.heap.size=w.heap.size:=by rw[e];simp
 have r:Blk i g (II c id boot f t b tm (σ++[w.heap.size])) 81:=by rw[e,<-Pj c id boot f t b tm σ q];exact h.blk.ab _ _
 have j:zB i (i.alloc (.cells (xX .new) 245)).drew:=((Below.refl _ _).alloc (Nat.le_refl _) _).drew;have K {k:Nat} {m:Array Value} {t:TypeId} (d:Blk w k m t) (u:t≠81):Blk (i.alloc (.cells (xX .new) 245)).drew k m t:=(l.blk d (Blk.ne d h.blk u)).keep j;refine⟨r.keep j,h.gB,K h.hf (by decide),h.fB,(h.ht.only l h.blk (by decide) (by decide)).below j,K h.hb (by decide),h.bB,K h.htm (by decide),h.tmB,?_,?_⟩
 ·intro k d;rcases List.mem_append.1 d with d|d
  ·exact⟨K (h.s k d).1 (by decide),(h.s k d).2⟩
  ·simp only[List.mem_singleton] at d;subst d;refine⟨?_,n⟩;rw[<-o];exact(Blk.new i _ _).drew
 ·rw[List.nodup_append];refine⟨h.nd,by simp,?_⟩;intro a p k d;simp only[List.mem_singleton] at d;subst d;have:=(h.s a p).1.lt;omega
theorem RH(c:Cfg)(id boot:Int)(f t b tm:Nat)(σ:List Nat):(II c id boot f t b tm σ)[13]?=some (ptr f):=by rfl
theorem As.done(h:As B c id boot w g f t b tm T σ)(q : σ.length=64)(n:ah f w w')(v:Bool)(e:El)(u:Blk w' f (flt (max 2 c.cap) v e.x e.y e.a e.b e.d) 119):NodeAt (fun k=>B<=k) w' g ⟨f,t,b,tm,fun i=>σ.getD i 0,T⟩ ⟨c,id,boot,max 2 c.cap,v,e,.new c.table,fun _=>.new,.new c.rate,.new c.every,0,-1,-1,0⟩:=by
 have K {k:Nat} {c':Array Value} {t:TypeId} (p:Blk w k c' t) (A:t≠119):Blk w' k c' t:=n.blk p (Blk.ne p h.hf A)
 have o:∀i,i<64->σ.getD i 0∈σ:=by
  intro i m;rw[List.getD_eq_getElem?_getD,List.getElem?_eq_getElem (by omega)];exact List.getElem_mem _
 have z:II c id boot f t b tm σ=uu ⟨f,t,b,tm,fun i=>σ.getD i 0,T⟩ ⟨c,id,boot,max 2 c.cap,v,e,.new c.table,fun _=>.new,.new c.rate,.new c.every,0,-1,-1,0⟩:=by
  unfold II uu
  have r : σ.map ptr++List.replicate (64 - σ.length) (Value.pointer none)=(List.range 64).map fun i=>ptr (σ.getD i 0):=by
   rw[q];apply List.ext_getElem
   ·simp[q]
   ·intro i h1 h2;have m:i < σ.length:=by simpa using h1
    simp[List.getD_eq_getElem?_getD,List.getElem?_eq_getElem m]
  rw[r]
 refine⟨by rw[<-z];exact K h.blk (by decide),h.gB,u,h.fB,h.ht.only n h.hf (by decide) (by decide),fun i m=>⟨K (h.s _ (o i m)).1 (by decide),(h.s _ (o i m)).2⟩,?_,K h.hb (by decide),h.bB,K h.htm (by decide),h.tmB⟩;intro i j m D C
 have h1 : σ[i]'(by omega)=σ[j]'(by omega):=by
  simpa [List.getD_eq_getElem?_getD,List.getElem?_eq_getElem (show i < σ.length by omega),List.getElem?_eq_getElem (show j < σ.length by omega)] using C
 rcases Nat.lt_trichotomy i j with l|rfl|l
 ·exact absurd h1 (List.pairwise_iff_getElem.1 h.nd i j _ _ l)
 ·rfl
 ·exact absurd h1.symm (List.pairwise_iff_getElem.1 h.nd j i _ _ l)
theorem As.mk0{e:Array Value}{S:Nat->Prop}(m:Blk w g e 81)(j:e=II c id boot f t b tm [])(gB:B<=g)(i:Blk w f (flt (max 2 c.cap) false 0 0 0 0 0) 119)(fB:B<=f)(o:dR S w t T (.new c.table))(l:∀k,S k->B<=k)(n:Blk w b (Ig (.new c.rate)) 239)(bB:B<=b)(a:Blk w tm (JI (.new c.every)) 241)(d:B<=tm):As B c id boot w g f t b tm T []:=
 ⟨by rw[<-j];exact m,gB,i,fB,o.mono (fun k _ h=>l k h),n,bB,a,d,by simp,List.nodup_nil⟩
end
theorem L3{B:Nat}{w w' d:World}{g:Nat}(h:Below B w w')(a:ah g w' d)(j:B<=g)(i:B<=w.heap.size):Below B w d:=
 ⟨a.os.trans h.os,a.tape.trans h.tape,a.output.trans h.output,Nat.le_trans h.size a.size,fun k e=>(a.block k (Nat.lt_of_lt_of_le e (by have:=h.size;omega)) (by omega)).trans (h.block k e)⟩
theorem Jq(c:Cfg)(hc:c.may=true)(id boot:Int)(hi:0<=id/\id<64)(hb:ij boot=true)(x y a b d:Int)(he:(x=0/\y=0/\a=0/\b=0/\d=0)∨a≠0/\El.may ⟨x,y,a,b,d⟩=true)(w:World):Calls prog 56 #[If c,id,boot,elC x y a b d] w fun e w'=>∃g L,e=.returned (ptr g)/\NodeAt (fun k=>w.heap.size<=k) w' g L (.new c id boot ⟨x,y,a,b,d⟩)/\zB w w':=by
 have HC:=Lh hc;have HB:=Lh hb;have e5:=hi.1;have e6:=hi.2;obtain⟨C,r,F,G,E,H,D,I,s,A,j⟩:=c;obtain⟨ND,N⟩:∃z,NodeD.new ⟨C,r,F,G,E,H,D,I,s,A,j⟩ id boot ⟨x,y,a,b,d⟩=z:=⟨_,rfl⟩;rw[N];have HN:=Lh N;clear hc hb hi N;rcases he with ⟨rfl,rfl,rfl,rfl,rfl⟩|⟨hE,hM⟩
 case' inl=>
  go_enter func56,ntmps56
  go_wp2_with (first
   | (go_at_call 115;refine(gi _ _ HB.out _).mono ?_;rintro e w1 ⟨rfl,h⟩;have V:=h.symm;subst V)
   | (go_at_call 116;refine(Po _ HC.out _).mono ?_;rintro e m ⟨rfl,l⟩;have n:=l.size;(try simp at n);have p:=bq2 l (w.heap.size)))
  have q:Blk m w.heap.size #[C,r,F,G,E,H,D,I,s,A,j] 26:=Blk.keep cC l;obtain⟨x,y,a,b,d,B7,EV⟩:∃x y a b d:Int,Hid (Blk m (w.heap.size+1) #[x,y,a,b,d] 35)/\Hid (NodeD.new ⟨C,r,F,G,E,H,D,I,s,A,j⟩ id boot ⟨x,y,a,b,d⟩=ND):=⟨_,_,_,_,_,Blk.keep (Blk.new1 _ _ _ _) l,HN⟩;have B3:Hid (zB w m):=(show Below _ _ _ from ad);clear n p;clear l
 case' inr=>
  have HE:=Lh hM;clear hM;go_enter func56,ntmps56
  go_wp2_with (first
   | (go_at_call 115;refine(gi _ _ HB.out _).mono ?_;rintro e w1 ⟨rfl,h⟩;have V:=h.symm;subst V)
   | (go_at_call 116;refine(Po _ HC.out _).mono ?_;rintro e w2 ⟨rfl,u⟩;have K:=u.size;(try simp at K);have J:=bq2 u (w.heap.size))
   | (go_at_call 34;refine(aN _ _ _ _ _ _ HE.out _).mono ?_;rintro e m ⟨rfl,l⟩;have n:=l.size;(try simp at n);have b4:=bq l (w.heap.size);have b0:=bq l (w.heap.size+1)))
  have q:Blk m w.heap.size #[C,r,F,G,E,H,D,I,s,A,j] 26:=Blk.keep (Blk.keep cC u) l;have B7:Hid (Blk m (w.heap.size+1) #[x,y,a,b,d] 35):=Blk.keep (Blk.keep (Blk.new1 _ _ _ _) u) l;have B3:Hid (zB w m):=(show Below _ _ _ from ad);have EV:=HN;clear K J;clear n b4 b0;clear u l hE HE
 all_goals
  obtain⟨d0,d1,d2,d3,d4,d5,d6,d7,d8,d9,b5,dz⟩:m.cell? ⟨w.heap.size,0,none⟩=some (.int .i64 C)/\m.cell? ⟨w.heap.size,1,none⟩=some (.int .i64 r)/\m.cell? ⟨w.heap.size,2,none⟩=some (.int .i64 F)/\m.cell? ⟨w.heap.size,3,none⟩=some (.int .i64 G)/\m.cell? ⟨w.heap.size,4,none⟩=some (.int .i64 E)/\m.cell? ⟨w.heap.size,5,none⟩=some (.int .i64 H)/\m.cell? ⟨w.heap.size,6,none⟩=some (.int .i64 D)/\m.cell? ⟨w.heap.size,7,none⟩=some (.int .i64 I)/\m.cell? ⟨w.heap.size,8,none⟩=some (.int .i64 s)/\m.cell? ⟨w.heap.size,9,none⟩=some (.int .i64 A)/\m.cell? ⟨w.heap.size,10,none⟩=some (.int .i64 j)/\True:=⟨q.cell rfl,q.cell rfl,q.cell rfl,q.cell rfl,q.cell rfl,q.cell rfl,q.cell rfl,q.cell rfl,q.cell rfl,q.cell rfl,q.cell rfl,trivial⟩;have r4:=q.row?_all 11 rfl;clear dz;have z3:=B7.out.lt;have b3:=B3.out.size;go_cut [9] from 37 (fun s9 wc=>∃g f t b tm T,s9=ptr g/\Hid (As w.heap.size ⟨C,r,F,G,E,H,D,I,s,A,j⟩ id boot wc g f t b tm T [])/\Hid (zB m wc))
  case first=>
   go_region_held3 (fun w' => w'.cell? ⟨w.heap.size, 0, none⟩ = some (.int .i64 C)/\w'.cell? ⟨w.heap.size, 1, none⟩ = some (.int .i64 r)/\w'.cell? ⟨w.heap.size, 2, none⟩ = some (.int .i64 F)/\w'.cell? ⟨w.heap.size, 3, none⟩ = some (.int .i64 G)/\w'.cell? ⟨w.heap.size, 4, none⟩ = some (.int .i64 E)/\w'.cell? ⟨w.heap.size, 5, none⟩ = some (.int .i64 H)/\
       w'.cell? ⟨w.heap.size,6,none⟩=some (.int .i64 D)/\w'.cell? ⟨w.heap.size,7,none⟩=some (.int .i64 I)/\w'.cell? ⟨w.heap.size,8,none⟩=some (.int .i64 s)/\w'.cell? ⟨w.heap.size,9,none⟩=some (.int .i64 A)/\w'.cell? ⟨w.heap.size,10,none⟩=some (.int .i64 j)) (go_simp)
    (first
    | (go_at_call 117;refine(U2 _ _).mono ?_;rintro e w4 ⟨f,rfl,b1,a7,O⟩;have e0:m.heap.size<=f:=b1;have S:=O.size;(try simp at S);have a5:=bq2 O (w.heap.size))
    | (go_at_call 118;refine(OH _ _).mono ?_;rintro e w5 ⟨t,T,rfl,ht,U⟩;have P:=U.size;(try simp at P);have a4:=bq2 U (w.heap.size))
    | (go_at_call 119;refine(Qr _ _).mono ?_;rintro e w6 ⟨b,rfl,a9,Q,a1⟩;have R:=a1.size;(try simp at R);have a6:=bq2 a1 (w.heap.size))
    | (go_at_call 120;refine(Ox _ _).mono ?_;rintro e w7 ⟨tm,rfl,b7,b6,Y⟩;have Z:=Y.size;(try simp at Z);have a3:=bq2 Y (w.heap.size)))
   all_goals go_wp2_with fail
   all_goals go_meet
   all_goals refine⟨_,f,t,b,tm,T,rfl,?_,?_⟩
   ·show As _ _ _ _ _ _ _ _ _ _ _ _;exact As.mk0 cC (by kernel_rfl) (by first|omega|(simp;done)|(simp;omega)|fail) (Blk.keep a7 ad) (by first|omega|(simp;done)|(simp;omega)|fail) (dR.below ht ad) (fun k hk=>(by first|omega|(simp;done)|(simp;omega)|fail)) (Blk.keep Q ad) (by first|omega|(simp;done)|(simp;omega)|fail) (Blk.keep b6 ad) (by first|omega|(simp;done)|(simp;omega)|fail)
   ·show Below _ _ _;exact ad
  case rest=>
   obtain⟨g,f,t,bb,tm,T,rfl,HN,a0⟩:=hcut;have B8:Hid (Blk wc (w.heap.size+1) #[x,y,a,b,d] 35):=B7.out.keep a0.out;have b2:Hid (zB w wc):=B3.out.trans (a0.out.mono B3.out.size);clear d0 d1 d2 d3 d4 d5 d6 d7 d8 d9 b5 r4 q B7 z3 b3;go_wp2_with fail;go_loopw [10,54] (fun e7 M wr=>∃σ:List Nat,σ.length<=64/\M=.int .i64 σ.length/\Hid (As w.heap.size ⟨C,r,F,G,E,H,D,I,s,A,j⟩ id boot wr g f t bb tm T σ)/\Hid (Blk wr (w.heap.size+1) #[x,y,a,b,d] 35)/\Hid (zB w wr)) (fun _ M _=>64-(intOf M).toNat)
   case atStart=>exact⟨[],by simp,rfl,HN,B8,b2⟩
   case round=>
    obtain⟨σ,e8,rfl,o,HX,W⟩:=hrel;by_cases X : σ.length<64
    ·have a9:(σ.length:Int)<64:=by omega
     have b9:(0:Int) <= σ.length:=by omega
     have wk:IntKind.i64.wrap ((σ.length:Int)+1)=(σ.length:Int)+1:=IntWalk.i64_in _ (by omega);obtain⟨y1,v,f1,-⟩:=cz o.out.blk;have a8:wr.cell? ⟨g,15 + σ.length,none⟩=some (.pointer none):=(v _).trans (Pk _ _ _ _ _ _ _ _ X);clear v;go_wp2_with fail;go_region_with (go_at_call 121;refine(OR _).mono ?_;rintro e w5 ⟨rfl,h⟩;have V:=h.symm;subst V)
     all_goals go_wp2_with fail
     all_goals (refine⟨⟨σ++[wr.heap.size],by simp;omega,by simp,o.out.step X W.out.size,?_,?_⟩,by simp[intOf];omega⟩)
     all_goals first
      | (show Below _ _ _;have e4:=o.out.gB;exact ad)
      | (show Blk _ _ _ _;exact((ah.refl.setCell (g:=g) (15 + σ.length) _).blk HX.out (Blk.ne HX.out o.out.blk (by decide))).alloc _ |>.drew)
    ·have Q:¬(σ.length:Int)<64:=by omega
     have hl : σ.length=64:=by omega
     obtain⟨y1,v,f1,-⟩:=cz o.out.blk;have e3:wr.cell? ⟨g,13,none⟩=some (ptr f):=(v 13).trans (RH _ _ _ _ _ _ _ _);obtain⟨y2,b8,f2,-⟩:=cz HX.out;have r2:=HX.out.row?_all 5 rfl;clear v;go_wp2_with fail;refine dv 5 (by kernel_rfl) (by kernel_rfl) ?_;simp only[List.take_succ_cons,List.take_zero,List.drop_succ_cons,List.drop_zero];(repeat still_step);(try refine wpStill_nil ?_);go_wp2_with fail;refine(Ta f (max 2 j) false 0 0 0 0 0 x y a b d _ o.out.hf.drew).mono ?_;rintro e w8 ⟨v1,e1,k,a2,rfl,hO,hF⟩;go_wp2_with fail;go_ret;have hD:=(o.out.below (w':=wr.drew) (Below.refl _ _).drew).done hl hO v1 e1 hF;refine⟨g,⟨f,t,bb,tm,fun i=>σ.getD i 0,T⟩,rfl,?_,?_⟩
     ·rw[<-EV.out]
      have e2:NodeD.new ⟨C,r,F,G,E,H,D,I,s,A,j⟩ id boot ⟨x,y,a,b,d⟩=⟨⟨C,r,F,G,E,H,D,I,s,A,j⟩,id,boot,max 2 j,v1,e1,.new r,fun _=>.new,.new A,.new s,0,-1,-1,0⟩:=by
       unfold NodeD.new nf;rw[show(El.zero:El)=⟨0,0,0,0,0⟩ from rfl,a2]
      rw[e2];exact hD
     ·exact L3 W.out.drew hO o.out.fB (Nat.le_refl _)
theorem Nm(c:Cfg)(h:c.may=true)(id boot:Int)(l:0<=id/\id<64)(j:ij boot=true)(x y a b d:Int)(i:a≠0/\El.may ⟨x,y,a,b,d⟩=true)(w:World):Calls prog 56 #[If c,id,boot,elC x y a b d] w fun e w'=>∃g L,e=.returned (ptr g)/\NodeAt (fun k=>w.heap.size<=k) w' g L (.new c id boot ⟨x,y,a,b,d⟩)/\zB w w':=Jq c h id boot l j x y a b d (.inr i) w
theorem Nl(c:Cfg)(a:c.may=true)(id boot:Int)(h:0<=id/\id<64)(d:ij boot=true)(w:World):Calls prog 56 #[If c,id,boot,elC 0 0 0 0 0] w fun e w'=>∃g L,e=.returned (ptr g)/\NodeAt (fun k=>w.heap.size<=k) w' g L (.new c id boot .zero)/\zB w w':=Jq c a id boot h d 0 0 0 0 0 (.inl ⟨rfl,rfl,rfl,rfl,rfl⟩) w
end Go.Proofs.YtechbdnhalmobaaGreatDoor
