/- Laws and walks that the claim names. -/
import Derived.Test.YtechbdnhalmobaaGreatDoorKc
namespace Go.Proofs.YtechbdnhalmobaaGreatDoor
set_option linter.unusedSimpArgs false
set_option linter.unusedVariables false
open Go.RowKit
/- a node -/
structure NodeD where
 c:Cfg
 id:Int
 boot:Int
 cap:Int
 fv:Bool
 fe:El
 t:TabD
 s:Nat→SesD
 b:BukD
 tm:TimD
 seq:Int
 told:Int
 asked:Int
 bad:Int
abbrev OutD:=FrD × Int
def fr0 (kind:Int):FrD:=⟨kind,0,0,0,0,0,0,0,0,0,0,0,0,0,0⟩
def markF (f:FrD):Int:=f.boot*65536+f.seq
def setFilt (n:NodeD) (r:(Bool × El) × Int):NodeD:={ n with fv:=r.1.1,fe:=r.1.2 }
def NodeD.new (c:Cfg) (id boot:Int) (e:El):NodeD :=
 setFilt ⟨c,id,boot,max 2 c.cap,false,.zero,.new c.table,fun _ => .new,.new c.rate,.new c.every,0,-1,-1,0⟩ (setS (max 2 c.cap) false .zero e)
def NodeD.send (n:NodeD) (now fine:Int) (f:FrD):NodeD × (Int × Bool) × List OutD :=
 if n.b.take.2 then ({ n with b:=n.b.take.1,seq:=serNext n.seq },(n.boot*65536+n.seq,true),[({ f with src:=n.id,boot:=n.boot,seq:=n.seq,stamp:=now },fine)]) else (n,(0,false),[])
def NodeD.tell (n:NodeD) (now fine:Int):NodeD × List OutD :=
 let r:=nextF ((n.t.all.filter (·.has)).map (·.node)) n.told
 if r.2=false then (n,[]) else
 let n1:={ n with told:=r.1 }
 let x:=(lk n.t.ents r.1).getD .zero
 if r.1≠n.id∧x.when≤now then
  let q:=n1.send now fine { fr0 6 with who:=r.1,x:=x.e.x,y:=x.e.y,a:=x.e.a,b:=x.e.b,d:=x.e.d,when:=x.when }
  (q.1,q.2.2)
 else (n1,[])
def NodeD.upd (n:NodeD) (k:Nat) (s:SesD):NodeD:={ n with s:=fun j=>if j=k then s else n.s j }
def NodeD.poll (n:NodeD) (now fine:Int):NodeD × List OutD :=
 let r:=nextF (n.t.all.map (·.node)) n.asked
 if r.2=false then (n,[]) else
 let n1:={ n with asked:=r.1 }
 let q:=n1.send now fine { fr0 2 with dst:=r.1 }
 if q.2.1.2 then (q.1.upd r.1.toNat ((q.1.s r.1.toNat).poll fine q.2.1.1),q.2.2) else (q.1,q.2.2)
def NodeD.tick (n:NodeD) (now fine:Int):NodeD × List OutD :=
 if timeB now=false then (n,[]) else
 let n1:={ n with b:=⟨n.b.n,n.b.n⟩,t:=n.t.evict now n.c.silent,tm:=(n.tm.due now).1 }
 if (n.tm.due now).2=false then (n1,[]) else
 let q1:=n1.send now fine (if n1.fv then { fr0 5 with x:=n1.fe.x,y:=n1.fe.y,a:=n1.fe.a,b:=n1.fe.b,d:=n1.fe.d } else fr0 1)
 let q2:=q1.1.tell now fine
 let q3:=q2.1.poll now fine
 (q3.1,q1.2.2++q2.2++q3.2)
def NodeD.leave (n:NodeD) (now fine:Int):NodeD × List OutD:=let q:=n.send now fine (fr0 7);(q.1,q.2.2)
def NodeD.at (n:NodeD) (e:El) (when now:Int):El × Int:=atE e when now n.c.speed n.c.skew
def NodeD.track (n:NodeD) (k now:Int):El × Bool :=
 match lk n.t.ents k with
 | none=>(.zero,false)
 | some x=>if x.has then ((n.at x.e x.when now).1,decide ((n.at x.e x.when now).2=0)) else (.zero,false)
def NodeD.put (n:NodeD) (k:Int) (e:El) (when now:Int):NodeD :=
 if (n.at e when now).2≠0 then n else
 let f:=(n.at e when now).1
 let e2:=if (n.track k now).2 then (mergeE (n.track k now).1 f).1 else f
 { n with t:=(n.t.put k e2 now).1 }
def NodeD.tracked (n:NodeD) (f:FrD) (now:Int):NodeD :=
 if f.who=n.id then (if (n.at f.el f.when now).2=0 then setFilt n (meetS n.cap n.fv n.fe (n.at f.el f.when now).1) else n)
 else if (lk n.t.ents f.who).isSome then n.put f.who f.el f.when now else n
def NodeD.measured (n:NodeD) (k:Int) (t:TmgD) (stamp now:Int):NodeD :=
 let slack:=2*n.c.speed*ticksE stamp now n.c.skew
 if (n.track k now).2=false∨4194304<slack then n else
 if (twrRange t n.c.drift slack).2=0 then setFilt n (rangeS n.cap n.fv n.fe (n.track k now).1 (twrRange t n.c.drift slack).1.1 (twrRange t n.c.drift slack).1.2) else n
def NodeD.ranging (n:NodeD) (f:FrD) (at_ now fine:Int):NodeD × List OutD :=
 let k:=f.src.toNat
 if f.kind=2 then
  let n1:=n.upd k ((n.s k).gotPoll at_ f.stamp)
  let q:=n1.send now fine { fr0 3 with dst:=f.src,t1:=markF f }
  if q.2.1.2 then (q.1.upd k ((q.1.s k).resp fine q.2.1.1).1,q.2.2) else (q.1,q.2.2)
 else if f.kind=3 then
  let n1:=n.upd k ((n.s k).gotResp at_ f.t1).1
  if ((n.s k).gotResp at_ f.t1).2=false then (n1,[]) else
  let r:=(n1.s k).final fine
  let n2:=n1.upd k r.1
  if r.2.2.2 then (let q:=n2.send now fine { fr0 4 with dst:=f.src,t1:=r.2.1,t2:=r.2.2.1,when:=markF f };(q.1,q.2.2)) else (n2,[])
 else if f.kind=4 then
  let r:=(n.s k).gotFinal at_ f.t1 f.t2 f.when
  let n1:=n.upd k r.1
  if r.2.2.2 then (n1.measured f.src r.2.1 r.2.2.1 now,[]) else (n1,[])
 else (n,[])
def NodeD.take (n:NodeD) (f:FrD) (at_ now fine:Int):NodeD × List OutD :=
 if f.kind=5 then (n.put f.src f.el f.stamp now,[])
 else if f.kind=6 then (n.tracked f now,[])
 else if f.kind=2∨f.kind=3∨f.kind=4 then (if f.dst=n.id then n.ranging f at_ now fine else (n,[]))
 else if f.kind=7 then ({ n with t:=(n.t.leave f.src).1 },[])
 else (n,[])
def NodeD.hear (n:NodeD) (l:List Nat) (at_ now fine:Int):NodeD × List OutD × Int :=
 if timeB now=false then (n,[],1)
 else if (decE l).2≠0 then ({ n with bad:=min (n.bad+1) 1000000 },[],(decE l).2)
 else
  let f:=(decE l).1
  if f.src=n.id then (n,[],9)
  else if freshF f.stamp now n.c.stale n.c.skew≠0 then (n,[],freshF f.stamp now n.c.stale n.c.skew)
  else
   let r:=n.t.hear f.src f.boot f.seq now
   let n1:={ n with t:=r.1 }
   if r.2≠0 then (n1,[],r.2)
   else ((n1.take f at_ now fine).1,(n1.take f at_ now fine).2,0)
/- the air -/
structure MailD where
 til:Nat
 data:List Nat
 at_:Int
 tru:Int
 bent:Bool
def airPut (l:List MailD) (m:MailD):List MailD × Bool:=if 512≤l.length∨1000<m.data.length then (l,false) else (l ++ [m],true)
/- the truth -/
structure TruD where
 c:Cfg
 p:List (Int × Int)
 moved:List Bool
 time:Int
 steps:Int
def TruD.new (c:Cfg):TruD:=⟨c,(List.range c.nodes.toNat).map (fun (i:Nat)=>(1000*((i:Int)%8),1000*((i:Int)/8))),List.replicate c.nodes.toNat false,0,0⟩
def TruD.step (w:TruD):TruD × Int:=({ w with steps:=min (w.steps+1) 16777215 },w.time*16777216+min (w.steps+1) 16777215)
def TruD.tick (w:TruD):TruD × Bool:=if 750000≤w.time then (w,false) else ({ w with time:=w.time+1,steps:=0,moved:=List.replicate w.p.length false },true)
def offF (i:Nat) (by_ most:Int):Int:=(by_*i).tmod (2*most+1)-most
def TruD.now (w:TruD) (i:Nat):Int:=if i<w.p.length then localF (offF i 7 w.c.skew) w.time else 0
def TruD.fine (w:TruD) (i:Nat) (g:Int):Int:=if i<w.p.length then (fineF (offF i 13 w.c.drift) (12345*i) g).1 else 0
def distF (p q:Int × Int):Int:=if inRg p.1 (-4194304) 4194304&&inRg p.2 (-4194304) 4194304&&inRg q.1 (-4194304) 4194304&&inRg q.2 (-4194304) 4194304 then rtIF ((p.1-q.1)*(p.1-q.1)+(p.2-q.2)*(p.2-q.2)) else 0
def TruD.flight (w:TruD) (i j:Nat):Int:=match w.p[i]?,w.p[j]? with|some p,some q=>distF p q|_,_=>0
/- the fleet -/
structure FleetD where
 w:TruD
 a:List MailD
 c:Cfg
 n:List NodeD
 on:List Bool
 lost:Int
def FleetD.new (c:Cfg):FleetD :=
 ⟨.new c,[],c,(List.range c.nodes.toNat).map (fun (i:Nat) => .new c i 0 (if i<3 then (ballE (1000*((i:Int)%8)) (1000*((i:Int)/8)) 10).1 else .zero)),List.replicate c.nodes.toNat true,0⟩
def FleetD.mail1 (f:FleetD) (i j:Nat) (b:List Nat) (g:Int):FleetD :=
 if j=i∨f.on.getD j false=false then f else
 let t:=g+f.w.flight i j
 let r:=airPut f.a ⟨j,b,f.w.fine j t,t,false⟩
 { f with a:=r.1,lost:=if r.2 then f.lost else min (f.lost+1) 1000000 }
def FleetD.send (f:FleetD) (i:Nat) (l:List OutD) (g:Int):FleetD :=
 l.foldl (fun f o=>(List.range f.n.length).foldl (fun f j=>f.mail1 i j (if mayF o.1 then encL o.1 else []) g) f) f
def FleetD.setN (f:FleetD) (i:Nat) (n:NodeD):FleetD:={ f with n:=f.n.set i n }
def FleetD.tick1 (f:FleetD) (i:Nat) (g:Int):FleetD :=
 match f.n[i]? with
 | none=>f
 | some n=>if f.on.getD i false then ((f.setN i (n.tick (f.w.now i) (f.w.fine i g)).1).send i (n.tick (f.w.now i) (f.w.fine i g)).2 g) else f
def FleetD.tick (f:FleetD):FleetD × Int :=
 if f.w.tick.2=false then (f,10) else
 let s:=f.w.tick.1.step
 ((List.range f.n.length).foldl (fun f i=>f.tick1 i s.2) { f with w:=s.1 },0)
def FleetD.hear (f:FleetD) (i:Nat) (b:List Nat) (at_ g:Int):FleetD :=
 match f.n[i]? with
 | none=>f
 | some n=>let r:=n.hear b at_ (f.w.now i) (f.w.fine i g);(f.setN i r.1).send i r.2.1 g
def FleetD.deliver (f:FleetD) (i:Int):FleetD × Int :=
 if i<0 then (f,7) else
 match f.a[i.toNat]? with
 | none=>(f,7)
 | some m =>
  let s:=f.w.step
  let f1:={ f with w:=s.1 }
  if s.2<m.tru then (f1,10) else
  let f2:={ f1 with a:=f.a.eraseIdx i.toNat }
  (if f.on.getD m.til false then f2.hear m.til m.data m.at_ s.2 else f2,0)
end Go.Proofs.YtechbdnhalmobaaGreatDoor
