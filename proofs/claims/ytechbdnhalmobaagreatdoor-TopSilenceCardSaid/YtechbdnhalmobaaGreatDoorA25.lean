/- Walks. -/
import Derived.Test.YtechbdnhalmobaaGreatDoorA19
import Derived.BigQuiet
import Derived.Lib.QuietBelow
import Derived.WalkKit
import Derived.BigRegion
import Derived.StillTail
import Derived.Deep.Quiet
import Derived.Below
import Derived.Tactics
import Derived.Lib.Hide
import Derived.Deep.AppendSrc
import Derived.Deep.CutBlock
import Derived.Deep.LoopGhost
namespace Go.Proofs.YtechbdnhalmobaaGreatDoor
set_option maxRecDepth 100000
set_option maxHeartbeats 16000000
set_option linter.unusedSimpArgs false
set_option linter.unusedVariables false
open Go.Proofs.Tryz
open Go.RowKit Go.Maps
open Go.RowKit
theorem K5{α:Type}(f : α->List Value)(s:Nat)(b:∀a,(f a).length=s)(l:List α):∀(k:Nat) (a : α),l[k]?=some a->((l.flatMap f).drop (k*s)).take s=f a:=by
 induction l with
 | nil=>intro k p h;simp at h
 | cons q r c=>
  intro k p h;cases k with
  | zero=>simp at h;subst h;rw[List.flatMap_cons,Nat.zero_mul,List.drop_zero,List.take_append_of_le_length (by rw[b];exact Nat.le_refl _),List.take_of_length_le (by rw[b];exact Nat.le_refl _)]
  | succ k=>
   have d:((q :: r).flatMap f).drop ((k+1)*s)=(r.flatMap f).drop (k*s):=by
    rw[List.flatMap_cons,show(k+1)*s=(f q).length+k*s by rw[b,Nat.succ_mul,Nat.add_comm],List.drop_append];simp
   rw[d];exact c k p (by simpa using h)
theorem Cs{α:Type}{f : α->List Value}{s:Nat}(q:∀a,(f a).length=s)(E:0<s){w:World}{B e n:Nat}{v:Value}{l:List α}(h:w.ownsRow B e s v n (l.flatMap f)){k:Nat}{p : α}(m:l[k]?=some p)(I:l.length=n):∃g b,v=.slice (some ⟨g,0,none⟩) n b/\g<w.heap.size/\w.row? g (k*s) s=some (f p).toArray/\∀o,o<s->w.cell? ⟨g,k*s+o,none⟩=(f p)[o]?:=by
 have u:=(List.getElem?_eq_some_iff.1 m).1;obtain⟨G,⟨-,rfl⟩|⟨g,b,c,rfl,F,t,C,D,A,r⟩⟩:=h
 ·omega
 ·have d:Blk w g c e:=t;have j:(k+1)*s<=n*s:=Nat.mul_le_mul_right _ (by omega);have y:n*s<=b*s:=Nat.mul_le_mul_right _ (by omega);rw[Nat.succ_mul] at j;refine⟨g,b,rfl,d.lt,?_,?_⟩
  case refine_2=>
   intro o x;have i:=K5 f s q l k p m;rw[<-r] at i;rw[d.at,<-Array.getElem?_toList,<-i,List.getElem?_take,if_pos x,List.getElem?_drop,List.getElem?_take,if_pos (by omega)]
  rw[d.row? (k*s) s (by omega)];congr 1
  apply Array.ext';have i:=K5 f s q l k p m;rw[<-r] at i;have z:(c.extract (k*s) (k*s+s)).toList=(c.toList.drop (k*s)).take s:=by simp
  rw[z,<-i,List.drop_take,List.take_take];congr 1
  omega
structure Ag (T:fU):Prop where
 c:T.c.may=true
 n:T.p.length=T.c.nodes.toNat
 p:∀p∈T.p,(-4194304<=p.1/\p.1<=4194304)/\-4194304<=p.2/\p.2<=4194304
 time:0<=T.time/\T.time<=750000
 steps:0<=T.steps/\T.steps<=16777215
theorem Ag.len{T:fU}(h:Ag T):T.p.length<=64:=by
 have:=h.n;have:=(Af T.c h.c)
 have a:T.c.nodes<=64:=by
  have:=h.c;simp only[Cfg.may,ks,Bool.and_eq_true,decide_eq_true_eq] at this;omega
 omega
theorem Ag.bd{T:fU}(h:Ag T)(i:Nat)(x y:Int)(a:T.p[i]?=some (x,y)):(-4194304<=x/\x<=4194304)/\-4194304<=y/\y<=4194304:=h.p (x,y) (List.mem_of_getElem? a)
theorem TV(i:Nat)(b m:Int)(c:0<=b/\b<=13)(f:0<=m/\m<=1000):-m<=offF i b m/\offF i b m<=m:=by
 have a:0<=b*(i:Int):=Int.mul_nonneg c.1 (by omega);have e:=Int.tmod_nonneg (2*m+1) a;have d:=Int.tmod_lt_of_pos (b*(i:Int)) (show 0<2*m+1 by omega);unfold offF;omega
theorem Td(i:Nat)(b m:Int)(n:i<=64)(h:0<=b/\b<=13)(o:0<=m/\m<=1000)(w:World):Calls prog 142 #[i,b,m] w fun e k=>e=.returned (.int .i64 (offF i b m))/\k=w:=by
 have d:0<=b*(i:Int):=Int.mul_nonneg h.1 (by omega);have r:b*(i:Int)<=13*64:=Int.mul_le_mul h.2 (by omega) (by omega) (by decide);have l:IntKind.i64.wrap (b*(i:Int))=b*i:=IntWalk.i64_in _ (by omega);have q:IntKind.i64.wrap (2*m)=2*m:=IntWalk.i64_in _ (by omega);have p:IntKind.i64.wrap (2*m+1)=2*m+1:=IntWalk.i64_in _ (by omega);have f:¬(2*m+1=0):=by omega
 have c:=Int.tmod_nonneg (2*m+1) d;have a:=Int.tmod_lt_of_pos (b*(i:Int)) (show 0<2*m+1 by omega)
 have j:Hid (wrap64 (b*(i:Int)%(2*m+1)-m)=offF i b m):=by
  show _=_;unfold offF;rw[Int.tmod_eq_emod_of_nonneg d] at c a ⊢;obtain⟨z,f⟩:∃z,b*(i:Int)%(2*m+1)=z:=⟨_,rfl⟩;rw[f] at c a ⊢;unfold wrap64;omega
 clear c a;go_enter func142,ntmps142;go_wp2
 go_ret;exact⟨by rw[<-j.out];rfl,rfl⟩
theorem Vf(n l m:Int)(h1:l<=n)(h2:n<=m)(w:World):Calls prog 191 #[n,l,m] w fun e a=>e=.returned (.bool true)/\a=w:=by
 go_enter func191,ntmps191;go_wp2
 go_ret;exact⟨by simp[h2],rfl⟩
theorem Sl(dr a g:Int)(h1 : -1000<=dr/\dr<=1000)(h2:0<=a/\a<=70368744177664)(d:0<=g/\g<=70368744177664):du g (1000000+dr) 1000000=((g*(1000000+dr)).fdiv 1000000,0)/\0<=(g*(1000000+dr)).fdiv 1000000/\(g*(1000000+dr)).fdiv 1000000<=70439112921842/\Ab dr a g=((g*(1000000+dr)).fdiv 1000000+a,0):=by
 have h:0<=g*(1000000+dr):=Int.mul_nonneg d.1 (by omega);have f:g*(1000000+dr)<=70368744177664*1001000:=Int.mul_le_mul d.2 (by omega) (by omega) (by decide);have e:(g*(1000000+dr)).fdiv 1000000=(g*(1000000+dr))/1000000:=Int.fdiv_eq_ediv_of_nonneg _ (by decide);obtain⟨P,b⟩:∃P,g*(1000000+dr)=P:=⟨_,rfl⟩;have c:0<=P.fdiv 1000000/\P.fdiv 1000000<=70439112921842:=by rw[b] at e h f;rw[e];omega
 refine⟨?_,by rw[b];exact c.1,by rw[b];exact c.2,?_⟩
 ·rw[nX _ _ _ (Sm.of64 (by omega) (by omega)) (Sm.of64 (by omega) (by omega)) (Sm.of64 (by decide) (by decide)),if_neg (by decide),b];unfold dS;rw[if_pos (by omega)]
 ·unfold Ab;rw[if_pos (by simp[ks];omega)]
theorem SM(dr a g:Int)(h1 : -1000<=dr/\dr<=1000)(h2:0<=a/\a<=70368744177664)(f:0<=g/\g<=70368744177664)(w:World):zR 143 #[dr,a,g] w (.tuple #[.int .i64 (Ab dr a g).1,.int .i64 0]):=by
 obtain⟨b,x,k,i⟩:=Sl dr a g h1 h2 f;have u:Hid ((Ab dr a g).1=(g*(1000000+dr)).fdiv 1000000+a):=by show _=_;rw[i]
 obtain⟨q,c⟩:∃q,(g*(1000000+dr)).fdiv 1000000=q:=⟨_,rfl⟩;rw[c] at b x k;have HQ:=Lh c;have o:Hid (∀w,zR 83 #[g,.int .i64 (1000000+dr),.int .i64 1000000] w (.tuple #[q,.int .i64 0])):=fun w=>(yd _ _ _ (by omega) (by omega) (by decide) w).mono (by rintro e z ⟨rfl,y⟩;rw[b];exact⟨rfl,y⟩);have n:IntKind.i64.wrap (1000000+dr)=1000000+dr:=IntWalk.i64_in _ (by omega);have r:IntKind.i64.wrap (q+a)=q+a:=IntWalk.i64_in _ (by omega);obtain⟨l,s⟩:=h1;obtain⟨j,v⟩:=h2;obtain⟨p,m⟩:=f;clear c b i;go_enter func143,ntmps143
 go_wp2_with (first
  | (go_at_call 191;refine(Vf _ _ _ ?h1 ?h2 _).mono ?_;(case h1=>first|assumption|decide);(case h2=>first|assumption|decide);rintro e n ⟨rfl,h⟩;have t:=h.symm;subst t)
  | (go_at_call 83;refine(o.out _).mono ?_;rintro e r ⟨rfl,d⟩))
 go_ret2
 exact⟨by rw[u.out,HQ.out]<;>rfl,d⟩
theorem Jm(u m:Int)(h1 : -m<=u)(h2:u<=m):0<=u*u/\u*u<=m*m:=by
 refine⟨ax u,?_⟩;have a:=Int.mul_nonneg (show 0<=m-u by omega) (show 0<=m+u by omega);have e:(m-u)*(m+u)=m*m-u*u:=by grind
 omega
theorem Rl(n:Int)(a:0<=n)(h:n<=9223372036854775807)(w:World):zR 246 #[n] w (.int .i64 (rtI n)):=by
 obtain⟨m,rfl⟩:=Int.eq_ofNat_of_zero_le a;have:=Rj m (rt m) (by omega) rfl w;simpa [rtI] using this
theorem Oo(n m:Int)(h1 : -m<=n)(h2:n<=m)(b:0<=m/\m<=4611686018427387904)(w:World):Calls prog 179 #[n,m] w fun e a=>e=.returned (.bool true)/\a=w:=by
 have c:IntKind.i64.wrap (-m)=-m:=IntWalk.i64_in _ (by omega);go_enter func179,ntmps179;go_wp2
 go_ret;exact⟨by simp[h2],rfl⟩
theorem Uq(x y u v:Int)(h1 : -4194304<=x/\x<=4194304)(h2 : -4194304<=y/\y<=4194304)(m : -4194304<=u/\u<=4194304)(f : -4194304<=v/\v<=4194304)(w:World):zR 184 #[.agg #[x,y],.agg #[u,v]] w (.int .i64 (Cq (x,y) (u,v))):=by
 have n:0<=(x-u)*(x-u)/\(x-u)*(x-u)<=8388608*8388608:=Jm (x-u) 8388608 (by omega) (by omega);have l:0<=(y-v)*(y-v)/\(y-v)*(y-v)<=8388608*8388608:=Jm (y-v) 8388608 (by omega) (by omega);have B:Hid (Cq (x,y) (u,v)=rtI ((x-u)*(x-u)+(y-v)*(y-v))):=by show _=_;unfold Cq;rw[if_pos (by simp[ks];omega),Fu _ (by omega)]
 have q:IntKind.i64.wrap (x-u)=x-u:=IntWalk.i64_in _ (by omega);have t:IntKind.i64.wrap (y-v)=y-v:=IntWalk.i64_in _ (by omega);have O:IntKind.i64.wrap ((x-u)*(x-u))=(x-u)*(x-u):=IntWalk.i64_in _ (by omega);have K:IntKind.i64.wrap ((y-v)*(y-v))=(y-v)*(y-v):=IntWalk.i64_in _ (by omega);have N:IntKind.i64.wrap ((x-u)*(x-u)+(y-v)*(y-v))=(x-u)*(x-u)+(y-v)*(y-v):=IntWalk.i64_in _ (by omega);have F:Hid (∀w,zR 246 #[.int .i64 ((x-u)*(x-u)+(y-v)*(y-v))] w (.int .i64 (rtI ((x-u)*(x-u)+(y-v)*(y-v))))):=fun w=>Rl _ (by omega) (by omega) w;obtain⟨o,z⟩:=h1;obtain⟨k,C⟩:=h2;obtain⟨s,p⟩:=m;obtain⟨A,E⟩:=f;have V:=fun w=>(KM x y u v w).1;have W:=fun w=>(KM x y u v w).2.1;have G:=fun w=>(KM x y u v w).2.2.1;have Q:=fun w=>(KM x y u v w).2.2.2;clear n l;go_enter func184,ntmps184;go_wp2_with fail;refine eN ?_;intro wd a;have BX:Blk wd w.heap.size #[x,y] 31:=by rw[a];exact(Blk.new _ _ _).alloc _
 have D:Blk wd (w.heap.size+1) #[u,v] 31:=by rw[a];exact Blk.new1 _ _ _ _
 have i:Hid (zB w wd):=by rw[a];show Below _ _ _;exact ad
 clear a;go_loopw [18] (fun b wr=>∃j:Nat,j<=4/\b=.int .i64 j/\wr=wd) (fun b _=>4-(intOf b).toNat)
 case atStart=>exact⟨0,by omega,rfl,rfl⟩
 case round=>
  obtain⟨j,I,rfl,h⟩:=hrel;have c:=h.symm;subst c;obtain⟨L,J,U,-⟩:=cz BX;obtain⟨P,M,R,-⟩:=cz D;by_cases r:j<4
  ·rcases j with _|_|_|_|j
   all_goals first|(exfalso;omega)|skip
   all_goals go_wp2_with (go_at_call 179;refine(Oo _ _ ?h1 ?h2 (by decide) _).mono ?_;(case h1=>assumption);(case h2=>assumption);rintro e q ⟨rfl,h⟩;have c:=h.symm;subst c)
   all_goals go_roundw
   all_goals first|exact⟨1,by omega,rfl,trivial⟩|exact⟨2,by omega,rfl,trivial⟩|exact⟨3,by omega,rfl,trivial⟩|exact⟨4,by omega,rfl,trivial⟩|(simp[intOf];done)
  ·have f:j=4:=by omega
   subst f;go_wp2_with fail;go_region
   all_goals go_wp2_with (go_at_call 246;refine(F.out _).mono ?_;rintro e t ⟨rfl,d⟩)
   all_goals go_ret
   all_goals exact⟨by rw[B.out]<;>rfl,i.out.drew.trans (Below.mono d (by have:=i.out.size;first|omega|(simp;omega)))⟩
theorem ph.Kt{S:Nat->Prop}{w a:World}{g:Nat}{T b:fU}{pv mv:Value}(h:ph S w g T pv mv)(d:ah g w a)(f:Blk a g (MJ b pv mv) 134)(e:b.p=T.p)(i:b.moved=T.moved):ph S a g b pv mv:=
 have c:aa (fun _=>True) [134] false w a:=aa.cU d h.blk (List.mem_singleton.2 rfl) trivial
 ⟨f,h.sg,by rw[e];exact fW h.rp c (by decide),h.sp,by rw[i];exact fW h.rm c (by decide),h.sm⟩
section
variable {S:Nat->Prop} {w:World} {g:Nat} {T:fU} {pv mv:Value} (H:ph S w g T pv mv)
include H
theorem Iu(i:Nat)(d:i<T.p.length):Calls prog 59 #[ptr g,i] w fun e b=>e=.returned (.bool true)/\b=w:=by
 obtain⟨f,a,rfl⟩:=kh H.rp;have q:w.cell? ⟨g,11,none⟩=some (.slice f T.p.length a):=H.blk.cell rfl;have c:(i:Int)<(T.p.length:Int):=by omega
 have h:¬(i:Int)<0:=by omega
 have j:(0:Int)<=(i:Int):=by omega
 clear H d;go_enter func59,ntmps59;go_wp2
 go_ret;exact⟨by first|rfl|(simp[c];done),rfl⟩
theorem Ko(i:Nat)(x y:Int)(d:T.p[i]?=some (x,y)):zR 55 #[ptr g,i] w (.tuple #[.agg #[x,y],true]):=by
 have k:=(List.getElem?_eq_some_iff.1 d).1;obtain⟨b,j,rfl,t,l,a⟩:=Cs (f:=ptL) (s:=2) (fun _=>rfl) (by decide) H.rp d rfl;have m:Hid (∀c,zB w c->Calls prog 59 #[ptr g,i] c fun e n=>e=.returned (.bool true)/\n=c):=fun c u=>Iu (H.below u) i k;have q:w.cell? ⟨g,11,none⟩=some (.slice (some ⟨b,0,none⟩) T.p.length j):=H.blk.cell rfl;have r:=H.blk.lt;have C:w.cell? ⟨b,i*2,none⟩=some (.int .i64 x):=a 0 (by omega);have v:w.cell? ⟨b,i*2+1,none⟩=some (.int .i64 y):=a 1 (by omega);have A:w.row? b (i*2) 2=some #[.int .i64 x,.int .i64 y]:=l;have B:(i:Int)<(T.p.length:Int):=by omega
 have z:(0:Int)<=(i:Int):=by omega
 clear H d a l;go_enter func55,ntmps55;go_wp2_with (go_at_call 59;refine(m.out _ ad).mono ?_;rintro e c ⟨rfl,h⟩;have o:=h.symm;subst o)
 exact az 2 #[.int .i64 x,.int .i64 y] (.bool true) rfl rfl rfl rfl underlying31 rfl (by kernel_rfl) rc2 ⟨rfl,ad⟩
theorem QZ(a:Ag T):Calls prog 65 #[ptr g] w fun e b=>e=.returned (.int .i64 T.step.2)/\ah g w b/\ph S b g T.step.1 pv mv:=by
 have f:=a.time.1;have i:=a.time.2;have j:=a.steps.1;have d:=a.steps.2;have k:w.cell? ⟨g,13,none⟩=some (.int .i64 T.time):=H.blk.cell rfl;have h:w.cell? ⟨g,14,none⟩=some (.int .i64 T.steps):=H.blk.cell rfl;have n:=H.blk.frozen;have l:=H.blk.lt;have o:IntKind.i64.wrap (T.steps+1)=T.steps+1:=IntWalk.i64_in _ (by omega);have m:IntKind.i64.wrap (T.time*16777216)=T.time*16777216:=IntWalk.i64_in _ (by omega);have p:IntKind.i64.wrap (T.time*16777216+min (T.steps+1) 16777215)=T.time*16777216+min (T.steps+1) 16777215:=IntWalk.i64_in _ (by omega);have c:=Lh H;clear H a;go_enter func65,ntmps65;go_wp2_with fail;go_region
 all_goals go_wp2_with fail
 all_goals go_ret
 all_goals (have O:ah g w (w.setCell ⟨g,14,none⟩ (.int .i64 (min (T.steps+1) 16777215))):=ah.refl.setCell 14 _)
 all_goals exact⟨rfl,O.drew,(c.out.Kt O.drew ((c.out.blk.ab 14 _).of_eq rfl).drew rfl rfl)⟩
theorem Tv(k:Ag T)(i:Nat)(l:i<T.p.length):zR 68 #[ptr g,i] w (.int .i64 (T.now i)):=by
 have q:=Af T.c k.c;have v:=k.len;have s:Hid (T.now i=localF (offF i 7 T.c.skew) T.time):=by show _=_;unfold fU.now;rw[if_pos l]
 have n:Hid (∀a,zB w a->Calls prog 59 #[ptr g,i] a fun e b=>e=.returned (.bool true)/\b=a):=fun a u=>Iu (H.below u) i l;have o:Hid (∀a,Calls prog 142 #[i,.int .i64 7,.int .i64 T.c.skew] a fun e b=>e=.returned (.int .i64 (offF i 7 T.c.skew))/\b=a):=fun a=>Td i 7 T.c.skew (by omega) (by decide) (by omega) a;have x:w.cell? ⟨g,4,none⟩=some (.int .i64 T.c.skew):=H.blk.cell rfl;have r:w.cell? ⟨g,13,none⟩=some (.int .i64 T.time):=H.blk.cell rfl;have t:=H.blk.lt;clear H k q v l;go_enter func68,ntmps68;go_wp2_with (go_at_call 59;refine(n.out _ ad).mono ?_;rintro e a ⟨rfl,h⟩;have m:=h.symm;subst m)
 go_region_held3 (fun b=>b.cell? ⟨g,4,none⟩=some (.int .i64 T.c.skew)/\b.cell? ⟨g,13,none⟩=some (.int .i64 T.time)) (go_simp)
  (first
  | (go_at_call 142;refine(o.out _).mono ?_;rintro e a ⟨rfl,h⟩;have m:=h.symm;subst m)
  | (go_at_call 141;refine(RM _ _ _).mono ?_;rintro e y ⟨rfl,f⟩;have d:=f.size;(try simp at d);have j:=bq f (g)))
 all_goals go_wp2_with fail
 all_goals go_ret
 all_goals exact⟨by rw[s.out]<;>rfl,ad⟩
theorem Mg(b:Ag T)(i:Nat)(d:i<T.p.length)(G:Int)(k:0<=G/\G<=70368744177664):zR 69 #[ptr g,i,G] w (.int .i64 (T.fine i G)):=by
 have o:=Af T.c b.c;have v:=b.len;have r:Hid (T.fine i G=(Ab (offF i 13 T.c.drift) (12345*i) G).1):=by show _=_;unfold fU.fine;rw[if_pos d]
 have l:Hid (∀a,zB w a->Calls prog 59 #[ptr g,i] a fun e f=>e=.returned (.bool true)/\f=a):=fun a u=>Iu (H.below u) i d;have m:Hid (∀a,Calls prog 142 #[i,.int .i64 13,.int .i64 T.c.drift] a fun e f=>e=.returned (.int .i64 (offF i 13 T.c.drift))/\f=a):=fun a=>Td i 13 T.c.drift (by omega) (by decide) (by omega) a;have n:=TV i 13 T.c.drift (by decide) (by omega);have q:Hid (∀a,zR 143 #[.int .i64 (offF i 13 T.c.drift),.int .i64 (12345*(i:Int)),G] a (.tuple #[.int .i64 (Ab (offF i 13 T.c.drift) (12345*i) G).1,.int .i64 0])):=fun a=>SM _ _ _ (by omega) (by omega) k a;have a:IntKind.i64.wrap (12345*(i:Int))=12345*(i:Int):=IntWalk.i64_in _ (by omega);have x:w.cell? ⟨g,5,none⟩=some (.int .i64 T.c.drift):=H.blk.cell rfl;have t:=H.blk.lt;clear H b o v d k n;go_enter func69,ntmps69
 go_wp2_with (first
  | (go_at_call 59;refine(l.out _ ad).mono ?_;rintro e a ⟨rfl,h⟩;have j:=h.symm;subst j)
  | (go_at_call 142;refine(m.out _).mono ?_;rintro e a ⟨rfl,h⟩;have j:=h.symm;subst j)
  | (go_at_call 143;refine(q.out _).mono ?_;rintro e y ⟨rfl,s⟩))
 go_ret;exact⟨by rw[r.out]<;>rfl,ad⟩
theorem MT(z:Ag T)(i j:Nat)(L:i<T.p.length)(K:j<T.p.length):zR 132 #[ptr g,i,j] w (.int .i64 (T.flight i j)):=by
 obtain⟨⟨x,y⟩,m⟩:∃p,T.p[i]?=some p:=⟨_,List.getElem?_eq_getElem L⟩;obtain⟨⟨u,v⟩,l⟩:∃p,T.p[j]?=some p:=⟨_,List.getElem?_eq_getElem K⟩;have D:=z.bd i x y m;have G:=z.bd j u v l;have R:Hid (T.flight i j=Cq (x,y) (u,v)):=by show _=_;unfold fU.flight;rw[m,l]
 have O:Hid (∀a,zB w a->Calls prog 59 #[ptr g,i] a fun e B=>e=.returned (.bool true)/\B=a):=fun a I=>Iu (H.below I) i L;have N:Hid (∀a,zB w a->Calls prog 59 #[ptr g,j] a fun e B=>e=.returned (.bool true)/\B=a):=fun a I=>Iu (H.below I) j K;have Q:Hid (∀a,zR 184 #[.agg #[x,y],.agg #[u,v]] a (.int .i64 (Cq (x,y) (u,v)))):=fun a=>Uq x y u v D.1 D.2 G.1 G.2 a;obtain⟨b,A,rfl,V,o,d⟩:=Cs (f:=ptL) (s:=2) (fun _=>rfl) (by decide) H.rp m rfl;obtain⟨Z,M,F,-,r,c⟩:=Cs (f:=ptL) (s:=2) (fun _=>rfl) (by decide) H.rp l rfl;injection F with hb3 _ hb4
 injection hb3 with hb3
 injection hb3 with hb3
 subst hb3;subst hb4;have q:w.cell? ⟨g,11,none⟩=some (.slice (some ⟨b,0,none⟩) T.p.length A):=H.blk.cell rfl;have U:=H.blk.lt;have t:w.cell? ⟨b,i*2,none⟩=some (.int .i64 x):=d 0 (by omega);have n:w.cell? ⟨b,i*2+1,none⟩=some (.int .i64 y):=d 1 (by omega);have J:w.cell? ⟨b,j*2,none⟩=some (.int .i64 u):=c 0 (by omega);have C:w.cell? ⟨b,j*2+1,none⟩=some (.int .i64 v):=c 1 (by omega);have k1:(i:Int)<(T.p.length:Int):=by omega
 have k2:(0:Int)<=(i:Int):=by omega
 have X:(j:Int)<(T.p.length:Int):=by omega
 have W:(0:Int)<=(j:Int):=by omega
 clear H z m l d c o r D G;go_enter func132,ntmps132;go_wp2_with fail;refine(O.out _ ad).mono ?_;rintro e a ⟨rfl,h⟩;have E:=h.symm;subst E;go_wp2_with fail;refine(N.out _ ad).mono ?_;rintro e a ⟨rfl,h⟩;have E:=h.symm;subst E;go_wp2_with fail;replace q:=cell_regrown q;replace t:=cell_regrown t;replace n:=cell_regrown n;replace J:=cell_regrown J;replace C:=cell_regrown C;refine wp_region_quiet_below (by kernel_rfl) (by kernel_rfl) ?_;repeat (go_big_quiet_step (first|(go_at_call 184;exact Calls.regrown_of (Q.out _))))
 refine wpQuiet_nil ?_;intro Y k;have P:=ay k;clear k q t n J C;go_wp2_with fail;go_ret;exact⟨by rw[R.out]<;>rfl,ad⟩
end
theorem TI(z:Int)(c:0<=z)(h:z<=281474976710656):0<=rtI z/\rtI z<=16777216:=by
 unfold rtI;have b:=(fJ z.toNat).1;refine⟨by omega,?_⟩;rcases Nat.lt_or_ge 16777216 (rt z.toNat) with a|a
 ·have:=Nat.mul_le_mul (show 16777217<=rt z.toNat from a) (show 16777217<=rt z.toNat from a);omega
 ·omega
theorem K7(p q:Int×Int):0<=Cq p q/\Cq p q<=16777216:=by
 unfold Cq;split
 ·rename_i h;simp only[ks,Bool.and_eq_true,decide_eq_true_eq] at h;have b:=Jm (p.1-q.1) 8388608 (by omega) (by omega);have a:=Jm (p.2-q.2) 8388608 (by omega) (by omega);rw[<-Fu _ (by omega)];exact TI _ (by omega) (by omega)
 ·decide
theorem NI(T:fU)(i j:Nat):0<=T.flight i j/\T.flight i j<=16777216:=by
 unfold fU.flight;split
 ·exact K7 _ _
 ·decide
def dataF(f:FrD):List Nat:=if pl f then nt f else []
theorem NS(f:FrD):(dataF f).length<=80:=by
 unfold dataF;split
 ·rw[J5];exact Nat.le_refl _
 ·exact Nat.zero_le _
theorem Vc(f:FrD)(w:World):Calls Tryz.prog 131 #[frV f] w fun e m=>∃l i k,e=.returned (.tuple #[.slice l (dataF f).length i,.int .i64 k])/\RdS (fun b=>w.heap.size<=b) m (.slice l (dataF f).length i) (dataF f)/\zB w m:=by
 cases hm:pl f with
 | false=>
  have n:dataF f=[]:=by unfold dataF;rw[hm];rfl
  rw[n];refine(PY f.kind f.src f.boot f.seq f.stamp f.dst f.t1 f.t2 f.who f.when f.x f.y f.a f.b f.d hm w).mono ?_;rintro e m ⟨rfl,o⟩;exact⟨none,0,1,rfl,⟨(by intro c s;cases s),none,0,rfl,Nat.le_refl _,fun j q=>absurd q (Nat.not_lt_zero j)⟩,o⟩
 | true=>
  have n:dataF f=nt f:=by unfold dataF;rw[hm];rfl
  rw[n];refine(PX f.kind f.src f.boot f.seq f.stamp f.dst f.t1 f.t2 f.who f.when f.x f.y f.a f.b f.d hm w).mono ?_;rintro e m ⟨⟨v,rfl,r⟩,o⟩;have p:=r.rdS;obtain⟨l,i,rfl⟩:=p.form;exact⟨l,i,0,rfl,p.kept (Nat.le_refl _) (fun _ _ _=>rfl) (fun k _ h=>Nat.le_trans (Nat.le_succ _) h),o⟩
structure cV (F:FleetD):Prop where
 t:Ag F.w
 p:F.w.p.length=F.n.length
 a:F.a.length<=512
 d:∀m∈F.a,m.data.length<=1000
 lost:0<=F.lost/\F.lost<=1000000
 lo:F.on.length=F.n.length
def R12(o:Nat):Prop:=o=1∨o=2
theorem O4:¬R12 0:=by unfold R12;omega
def sendJ(F:FleetD)(i:Nat)(b:List Nat)(G:Int)(m:Nat):FleetD:=(List.range m).foldl (fun f j=>f.lm i j b G) F
theorem C5(F:FleetD)(i:Nat)(b:List Nat)(G:Int)(m:Nat):sendJ F i b G (m+1)=(sendJ F i b G m).lm i m b G:=by unfold sendJ;rw [List.range_succ,List.foldl_append];rfl
theorem DA(F:FleetD)(i j:Nat)(b:List Nat)(G:Int):(F.lm i j b G).n=F.n/\(F.lm i j b G).on=F.on/\(F.lm i j b G).w=F.w/\(F.lm i j b G).c=F.c:=by unfold FleetD.lm;split<;>exact ⟨rfl,rfl,rfl,rfl⟩
theorem C6(F:FleetD)(i:Nat)(b:List Nat)(G:Int):∀m,(sendJ F i b G m).n=F.n/\(sendJ F i b G m).on=F.on/\(sendJ F i b G m).w=F.w/\(sendJ F i b G m).c=F.c
 | 0=>⟨rfl,rfl,rfl,rfl⟩
 | m+1=>by
  obtain⟨k,a,j,h⟩:=C6 F i b G m
  obtain⟨f,e,d,l⟩:=DA (sendJ F i b G m) i m b G
  rw[C5]
  exact⟨f.trans k,e.trans a,d.trans j,l.trans h⟩
theorem Pt{F:FleetD}(h:cV F)(i j:Nat)(b:List Nat)(G:Int):cV (F.lm i j b G):=by
 obtain⟨f,l,e,n⟩:=DA F i j b G;refine⟨by rw[e];exact h.t,by rw[f,e];exact h.p,?_,?_,?_,by rw[f,l];exact h.lo⟩
 ·unfold FleetD.lm;split
  ·exact h.a
  ·simp only[airPut];split
   ·exact h.a
   ·simp only[List.length_append,List.length_cons,List.length_nil];omega
 ·unfold FleetD.lm;split
  ·exact h.d
  ·simp only[airPut];split
   ·exact h.d
   ·rename_i k;intro m c;simp only[List.mem_append,List.mem_singleton] at c;rcases c with c|rfl
    ·exact h.d m c
    ·simp only at k ⊢;omega
 ·have:=h.lost;unfold FleetD.lm;split
  ·exact h.lost
  ·simp only;split
   ·exact h.lost
   ·first|omega|(simp only;omega)
theorem IC{F:FleetD}(h:cV F)(i:Nat)(b:List Nat)(G:Int):∀m,cV (sendJ F i b G m)
 | 0=>h
 | m+1=>by rw[C5];exact Pt (IC h i b G m) _ _ _ _
theorem M0(F:FleetD)(i:Nat)(l:List ky)(G:Int)(k:Nat)(o:ky)(h:l[k]?=some o):F.send i (l.take (k+1)) G=sendJ (F.send i (l.take k) G) i (dataF o.1) G (F.send i (l.take k) G).n.length:=by
 unfold FleetD.send;rw[List.take_add_one,h,List.foldl_append];rfl
theorem zM(F:FleetD)(i:Nat)(G:Int):∀l:List ky,(F.send i l G).n=F.n/\(F.send i l G).on=F.on/\(F.send i l G).w=F.w/\(F.send i l G).c=F.c:=by
 intro l;induction l generalizing F with
 | nil=>exact⟨rfl,rfl,rfl,rfl⟩
 | cons o r a=>
  have h:=a (sendJ F i (dataF o.1) G F.n.length);obtain⟨e,d,b,f⟩:=C6 F i (dataF o.1) G F.n.length;exact⟨h.1.trans e,h.2.1.trans d,h.2.2.1.trans b,h.2.2.2.trans f⟩
theorem IB{F:FleetD}(h:cV F)(i:Nat)(G:Int):∀l:List ky,cV (F.send i l G):=by
 intro l;induction l generalizing F with
 | nil=>exact h
 | cons o r a=>exact a (IC h i (dataF o.1) G F.n.length)
def mailM(F:FleetD)(i j:Nat)(b:List Nat)(G:Int):gE:=⟨j,b,F.w.fine j (G+F.w.flight i j),G+F.w.flight i j,false⟩
theorem Pu(F:FleetD)(i j:Nat)(b:List Nat)(G:Int)(d:j≠i)(c:F.on.getD j false=true):F.lm i j b G={F with a:=(airPut F.a (mailM F i j b G)).1,lost:=if (airPut F.a (mailM F i j b G)).2 then F.lost else min (F.lost+1) 1000000}:=by
 unfold FleetD.lm;rw[if_neg (by rw[c];simp[d])];rfl
theorem KH(F:FleetD)(i j:Nat)(b:List Nat)(G:Int)(h:j=i∨F.on.getD j false=false):F.lm i j b G=F:=by
 unfold FleetD.lm;rw[if_pos h]
def pt(ow:Nat->Nat)(w:World)(g tw ta:Nat)(gs:List Nat)(nv bv:Value)(F:FleetD)(v:Value)(dt:List Nat)(wr:World):Prop:=
 ∃owr,cY owr wr g tw ta gs nv bv F/\FT R12 ow owr w wr/\RdS (fun k=>owr k=0) wr v dt
def Lp(ow:Nat->Nat)(w:World)(g tw ta:Nat)(gs:List Nat)(nv bv:Value)(F:FleetD)(wr:World):Prop:=
 ∃owr,cY owr wr g tw ta gs nv bv F/\FT R12 ow owr w wr
section
variable {ow:Nat->Nat} {w wr:World} {g tw ta:Nat} {gs:List Nat} {nv bv:Value} {F:FleetD} {v:Value} {dt:List Nat}
theorem pt.below(h:pt ow w g tw ta gs nv bv F v dt wr){b:World}(hb:zB wr b):pt ow w g tw ta gs nv bv F v dt b:=by
 obtain⟨a,f,d,e⟩:=h;have c:FT R12 a (ext a wr.heap.size 0) wr b:=FT.of_below hb 0;exact⟨_,f.below hb 0,d.trans c,c.rdS O4 e⟩
theorem pt.cells(h:pt ow w g tw ta gs nv bv F v dt wr):wr.cell? ⟨g,0,none⟩=some (ptr tw)/\wr.cell? ⟨g,1,none⟩=some (ptr ta)/\wr.cell? ⟨g,13,none⟩=some nv/\wr.cell? ⟨g,14,none⟩=some bv/\wr.cell? ⟨g,15,none⟩=some (.int .i64 F.lost)/\(∀o,wr.frozen? ⟨g,o,none⟩=false)/\g<wr.heap.size:=by
 obtain⟨b,a,-⟩:=h;exact⟨a.blk.cell rfl,a.blk.cell rfl,a.blk.cell rfl,a.blk.cell rfl,a.blk.cell rfl,a.blk.frozen,a.blk.lt⟩
theorem pt.on(h:pt ow w g tw ta gs nv bv F v dt wr){j:Nat}{k:Bool}(c:F.on[j]?=some k):∃b a,bv=.slice (some ⟨b,0,none⟩) F.on.length a/\wr.cell? ⟨b,j,none⟩=some (.bool k):=by
 obtain⟨f,i,-⟩:=h;have:=i.rb;obtain⟨b,a,e,-,-,d⟩:=zV this (k:=j) (x:=.bool k) (by rw[List.getElem?_map,c];rfl);exact⟨b,a,e,d⟩
end
def bo(f g:Nat->Nat):Nat->Int
 | 0=>0
 | k+1=>(bo f g k+f k-g k)/4294967296
def bd(f g:Nat->Nat)(i:Nat):Nat:=((bo f g i+f i-g i)%4294967296).toNat
structure Out (f:Nat->Nat) (X g:Nat->Nat) (i lb n:Nat):Prop where
 dig:∀k,f k<4294967296
 val:nvf f n=nvf X i*nvf g lb
 zero:∀k,i+lb<=k->k<n->f k=0
theorem Rd.len{w:World}{s:Value}{a:List Nat}(h:Rd w s a):a.length<=1099511627776:=by
 obtain⟨-,⟨-,rfl⟩|⟨b,o,d,-,e,c,-⟩⟩:=h
 ·exact Nat.zero_le _
 ·exact c
structure aU where
 holds:World->Value->Prop
 stable:∀{w w':World} {v:Value},holds w v->zB w w'->holds w' v
 own:Value->Option Nat:=fun _=>none
 lt:∀{w:World} {v:Value} {b:Nat},holds w v->own v=some b->b<w.heap.size:=by intro _ _ _ _ h;cases h
structure Inh (w0:World) (fr:Nat->Option aU) (g:Nat->Value) (N:List Nat) where
 w:World
 low:zB w0 w
 has:∀j∈N,∀f,fr j=some f->f.holds w (g j)
theorem Inh.step{w0:World}{fr:Nat->Option aU}{g:Nat->Value}{N:List Nat}(p:Inh w0 fr g N){w':World}(h:Below p.w.heap.size p.w w'):∃c:Inh w0 fr g N,w'=c.w:=by
 refine⟨⟨w',⟨h.os.trans p.low.os,h.tape.trans p.low.tape,h.output.trans p.low.output,Nat.le_trans p.low.size h.size,fun k a=>?_⟩,fun j b f d=>?_⟩,rfl⟩
 ·rw[h.block k (Nat.lt_of_lt_of_le a p.low.size)];exact p.low.block k a
 ·exact f.stable (p.has j b f d) h
section
variable {P:Program} {ops:Array Oper} {w0:World} {fr:Nat->Option aU} {needs:Nat->List Nat} {vals:List Value} {g:Nat->Value} {Q:Act->Prop}
def iP(fr:Nat->Option aU)(vals:List Value)(g:Nat->Value)(k:Nat):Value:=match fr k with|some _=>g k|none=>vals.getD k undef
structure bQ (ops:Array Oper) (fr:Nat->Option aU) (vals:List Value) (g:Nat->Value) (n:Nat) (a0:Act) (L:Nat->Prop) (a:Act):Prop where
 defers:a.defers=a0.defers
 size:a.tmps.size=a0.tmps.size
 done:∀k o d,k<n->ops[k]?=some o->L k->o.dst=some d->d<a0.tmps.size->a.tmps[d]?=some (iP fr vals g k)
 rest:∀d,(∀k o,k<n->ops[k]?=some o->L k->o.dst≠some d)->a.tmps[d]? = a0.tmps[d]?
def uE(ops:Array Oper)(n:Nat):Bool:=
 (List.range n).all fun i=>(List.range i).all fun j=>match ops[i]?,ops[j]? with
  | some x,some y=>x.dst.isNone||x.dst != y.dst
  | _,_=>true
theorem tv{n:Nat}(h:uE ops n=true){i j:Nat}{x y:Oper}(m:i<n)(l:j<n)(k:i≠j)(b:ops[i]?=some x)(c:ops[j]?=some y){d:Tmp}(f:x.dst=some d)(e:y.dst=some d):False:=by
 rcases Nat.lt_or_ge j i with a|o
 ·have:=List.all_eq_true.1 (List.all_eq_true.1 h i (List.mem_range.2 m)) j (List.mem_range.2 a);simp[b,c,f,e] at this
 ·have a:i<j:=by omega
  have:=List.all_eq_true.1 (List.all_eq_true.1 h j (List.mem_range.2 l)) i (List.mem_range.2 a);simp[b,c,f,e] at this
theorem bQ.put{n:Nat}{a0 a:Act}{L L':Nat->Prop}(h:bQ ops fr vals g n a0 L a)(hB:uE ops n=true){i:Nat}{o:Oper}(u:i<n)(r:ops[i]?=some o)(t:∀k,L' k↔(L k∨k=i))(w:¬L i):bQ ops fr vals g n a0 L' (a.put o.dst (iP fr vals g i)):=by
 refine⟨?_,?_,?_,?_⟩
 ·cases o.dst<;>exact h.defers
 ·cases c:o.dst with
  | none=>exact h.size
  | some d=>simp only[Act.put,Array.size_setIfInBounds];exact h.size
 ·intro k x d q p f c m;by_cases j:k=i
  ·subst j;obtain rfl:o=x:=Option.some.inj (r.symm.trans p);rw[c];simp only[Act.put];rw[Array.getElem?_setIfInBounds_self_of_lt (by rw[h.size];exact m)]
  ·have l:L k:=by rcases(t k).1 f with h'|h';exact h';exact absurd h' j
   have:=h.done k x d q p l c m;cases hod:o.dst with
   | none=>exact this
   | some s=>
    have b:s≠d:=fun e=>tv hB q u j p r c (by rw[hod,e]);simp only[Act.put];rw[Array.getElem?_setIfInBounds_ne b];exact this
 ·intro d c;have v:=h.rest d fun k x q p f=>c k x q p ((t k).2 (.inl f));cases hod:o.dst with
  | none=>exact v
  | some s=>
   have b:s≠d:=fun e=>c i o u r ((t i).2 (.inr rfl)) (by rw[hod,e]);simp only[Act.put];rw[Array.getElem?_setIfInBounds_ne b];exact v
theorem bQ.nil{n:Nat}{a0:Act}{L:Nat->Prop}(c:∀k,k<n->¬L k):bQ ops fr vals g n a0 L a0:=
 ⟨rfl,rfl,fun k _ _ b _ a _ _=>absurd a (c k b),fun _ _=>rfl⟩
theorem bQ.congr{n:Nat}{a0 a:Act}{L L':Nat->Prop}(h:bQ ops fr vals g n a0 L a)(j:∀k,k<n->(L' k↔L k)):bQ ops fr vals g n a0 L' a:=
 ⟨h.defers,h.size,fun k o d c e b f i=>h.done k o d c e ((j k c).1 b) f i,fun d f=>h.rest d fun k o c e b=>f k o c e ((j k c).2 b)⟩
theorem bQ.turn{n:Nat}{a0 a:Act}{L:Nat->Prop}{g':Nat->Value}(h:bQ ops fr vals g n a0 L a)(i:∀k,k<n->L k->g' k=g k):bQ ops fr vals g' n a0 L a:=
 ⟨h.defers,h.size,fun k o d e f b j c=>by
  rw[h.done k o d e f b j c];unfold iP;rw[i k e b],h.rest⟩
theorem bQ.same{n:Nat}{a0 a i:Act}{L:Nat->Prop}(h:bQ ops fr vals g n a0 L a)(m:bQ ops fr vals g n a0 L i):a=i:=by
 have q:=h.defers.trans m.defers.symm
 have r:a.tmps=i.tmps:=by
  apply Array.ext_getElem?;intro d;by_cases e:∃k o,k<n/\ops[k]?=some o/\L k/\o.dst=some d
  ·obtain⟨k,o,p,j,l,c⟩:=e;by_cases b:d<a0.tmps.size
   ·rw[h.done k o d p j l c b,m.done k o d p j l c b]
   ·have v:a.tmps.size<=d:=by rw[h.size];exact Nat.le_of_not_lt b
    have s:i.tmps.size<=d:=by rw[m.size];exact Nat.le_of_not_lt b
    rw[Array.getElem?_eq_none v,Array.getElem?_eq_none s]
  ·have f:∀k o,k<n->ops[k]?=some o->L k->o.dst≠some d:=fun k o p j l c=>e ⟨k,o,p,j,l,c⟩;rw[h.rest d f,m.rest d f]
 obtain⟨t,w⟩:=a;obtain⟨x,u⟩:=i;simp only at r q;rw[r,q]
theorem bQ.alike{n:Nat}{a0 a l:Act}{L L':Nat->Prop}(h:bQ ops fr vals g n a0 L a)(j:bQ ops fr vals g n a0 L' l){o:Oper}(s:∀d,d∈o.looksAt ops->∀k x,k<n->ops[k]?=some x->x.dst=some d->(L k/\L' k)):∀d,d∈o.looksAt ops->a.tmps[d]? = l.tmps[d]?:=by
 intro d r;by_cases e:∃k x,k<n/\ops[k]?=some x/\x.dst=some d
 ·obtain⟨k,x,i,f,b⟩:=e;obtain⟨q,p⟩:=s d r k x i f b;by_cases c:d<a0.tmps.size
  ·rw[h.done k x d i f q b c,j.done k x d i f p b c]
  ·have t:a.tmps.size<=d:=by rw[h.size];exact Nat.le_of_not_lt c
   have m:l.tmps.size<=d:=by rw[j.size];exact Nat.le_of_not_lt c
   rw[Array.getElem?_eq_none t,Array.getElem?_eq_none m]
 ·rw[h.rest d fun k x i f _ b=>e ⟨k,x,i,f,b⟩,j.rest d fun k x i f _ b=>e ⟨k,x,i,f,b⟩]
end
section
variable {P:Program} {ops:Array Oper} {w0:World} {fr:Nat->Option aU} {needs:Nat->List Nat} {vals:List Value} {g:Nat->Value} {Q:Act->Prop}
end
theorem ap.mk{w:World}{x:WI}{s:Value}(h:Rd w s (dg x.sz)):ap w (.agg #[.bool x.ng,.bool x.ov,s]) x:=⟨s,rfl,h⟩
theorem Rd.set{w:World}{s:Value}{f:List Nat}(h:Rd w s f){g k:Nat}{u:Value}(p:w.cell? ⟨g,k,none⟩=some u)(r:∀n,u≠.int .u32 n)(v:Value):Rd (w.setCell ⟨g,k,none⟩ v) s f:=by
 obtain⟨d,h|⟨b,o,a,q,t,l,m,j⟩⟩:=h
 ·exact⟨d,.inl h⟩
 ·refine⟨d,.inr ⟨b,o,a,q,t,l,by simpa using m,fun i c=>?_⟩⟩;rw[World.cell?_setCell_other]
  ·exact j i c
  ·intro e;have:=j i c;rw[<-e,p] at this;exact r _ (Option.some.inj this)
theorem Rd.two{w:World}{g:Nat}{a b:Nat}(l:a<4294967296)(k:b<4294967296)(f:g<w.heap.size)(h:w.cell? ⟨g,0,none⟩=some (.int .u32 (a:Int)))(j:w.cell? ⟨g,1,none⟩=some (.int .u32 (b:Int))):Rd w (.slice (some ⟨g,0,none⟩) 2 2) [a,b]:=by
 refine⟨fun d c=>?_,.inr ⟨g,0,2,rfl,by simp,by simp,f,fun i e=>?_⟩⟩
 ·simp at c;rcases c with rfl|rfl<;>assumption
 ·rcases i with _|_|i
  ·exact h
  ·exact j
  ·exact absurd e (by simp)
def WI.shl(x:WI)(k:Int):WI:=match x.v with
 | none=>WI.over
 | some z=>if z=0 then x else if 0<=k then (if 1023<k then WI.over else WI.of (z*((2^k.toNat:Nat):Int))) else WI.of (z.fdiv ((2^(-k).toNat:Nat):Int))
theorem Rd.one{w:World}{g:Nat}{a:Nat}(h:a<4294967296)(f:g<w.heap.size)(e:w.cell? ⟨g,0,none⟩=some (.int .u32 (a:Int))):Rd w (.slice (some ⟨g,0,none⟩) 1 1) [a]:=by
 refine⟨fun d b=>?_,.inr ⟨g,0,1,rfl,by simp,by simp,f,fun i c=>?_⟩⟩
 ·simp at b;rw[b];exact h
 ·rcases i with _|i
  ·exact e
  ·exact absurd c (by simp)
def Uh(w:World)(base:Nat)(v:Value)(len:Nat)(F:Nat->Nat):Prop:=
 ∃g cap,v=.slice (some ⟨g,0,none⟩) len cap/\len<=cap/\base<=g/\w.rowIs g 256 cap (fun j=>.int .u32 ((F j:Nat):Int))/\∀j,len<=j->F j=0
theorem Uh.alloc{w:World}{a:Nat}{v:Value}{b:Nat}{F:Nat->Nat}(h:Uh w a v b F)(o:Obj):Uh (w.alloc o) a v b F:=by
 obtain⟨g,c,h1,h2,e,d,f⟩:=h;exact⟨g,c,h1,h2,e,d.alloc o,f⟩
def ZIs(w:World)(v:Value)(z:Int):Prop:=∃s,v=.agg #[.bool (decide (z<0)),false,s]/\Rd w s (dg z.natAbs)
theorem ZIs.below{w w':World}{v:Value}{z:Int}(h:ZIs w v z)(hb:zB w w'):ZIs w' v z:=by
 obtain⟨s,b,a⟩:=h;exact⟨s,b,a.below hb⟩
theorem QO(e n:El)(p q c d h f D k i:Int)(o:e.has p q=true)(l:n.has c d=true)(v:0<=h)(s:0<=f)(m:rtI ((p-c)*(p-c)+(q-d)*(q-d))=D)(g:max 0 (D-h)=k)(j:D+1+f=i)(u:i<=4194304):Ge e n p q c d k i:=by
 have w:=ax (p-c);have t:=ax (q-d);have r:=ID ((p-c)*(p-c)+(q-d)*(q-d)) (by omega);rw[m] at r;subst g;subst j;refine⟨o,l,?_,?_,(dj _ _).2 (by omega)⟩
 ·have:=Cr (a:=max 0 (D-h)) (b:=D) (by omega) (by omega);omega
 ·have:=Cr (a:=D+1) (b:=D+1+f) (by omega) (by omega);omega
def FH(v:Bool)(e:El)(P Q:Int):Prop:=v=true->e.has P Q=true
theorem Ik(e:El)(P Q:Int):FH false e P Q:=fun h=>by cases h
theorem LV{m:Int}{v c:Bool}{e f b:El}{k P Q:Int}(h:FH v e P Q)(d:f.has P Q=true)(a:setS m v e f=((c,b),k)):FH c b P Q:=by
 unfold setS at a;split at a
 ·split at a
  ·injection a with h1 h2;injection h1 with h3 h4;subst h3;subst h4;exact h
  ·injection a with h1 h2;injection h1 with h3 h4;subst h3;subst h4;exact fun _=>d
 ·injection a with h1 h2;injection h1 with h3 h4;subst h3;subst h4;exact h
theorem Sq{m:Int}{v l:Bool}{e n f:El}{k p q:Int}(h:FH v e p q)(b:n.has p q=true)(a:uv m v e n=((l,f),k)):FH l f p q:=by
 unfold uv at a;cases v with
 | false=>rw[if_neg (by decide)] at a;exact LV h b a
 | true=>
  rw[if_pos rfl] at a;have d:=h rfl;obtain⟨g,r,i⟩:∃o k,gfuseE e n=(o,k):=⟨_,_,rfl⟩;rw[i] at a;rcases gholds e n ((El.has_iff _ _ _).1 d).1 ((El.has_iff _ _ _).1 b).1 p q i with ⟨j,c⟩|⟨j,c,-,-,-⟩
  ·exact absurd ⟨d,b⟩ c
  ·subst j;unfold takeS at a;rw[if_pos rfl] at a;injection a with h3 _;injection h3 with h4 h5;subst h5;exact fun _=>c d b
theorem acq_has{n:El}{p q d e c:Int}(i:n.has d e=true)(f:(p-d)*(p-d)+(q-e)*(q-e)<=c*c)(s:0<=c)(o:c<=4194304){a:El}{k:Int}(h:acqE n c=(a,k)):¬k=0∨(k=0/\a.has p q=true):=by
 have j:=((El.has_iff _ _ _).1 i).1;unfold acqE at h;rw[if_pos ⟨j,by omega,by omega⟩] at h;split at h
 ·injection h with h1 h2;left;omega
 ·rename_i g;have l:=eR n;have pm:=(ic _ _).2 ((El.aQ _).1 j).1
  have t:ballE n.x n.y (max 1 (c+n.rad))=(⟨n.x,n.y,max 1 (c+n.rad)*max 1 (c+n.rad),0,max 1 (c+n.rad)*max 1 (c+n.rad)⟩,0):=by
   unfold ballE;rw[if_pos ⟨pm,by omega,by omega⟩]
  rw[t] at h;injection h with h1 h2
  refine .inr ⟨h2.symm,?_⟩;rw[<-h1];have m:=On (u:=p-d) (v:=q-e) (x:=d-n.x) (y:=e-n.y) (R:=c) (r:=n.rad) s l f (J1 n d e i);rw[show p-d+(d-n.x)=p-n.x by omega,show q-e+(e-n.y)=q-n.y by omega] at m;have w:=Cr (a:=c+n.rad) (b:=max 1 (c+n.rad)) (by omega) (by omega);have:=I8 n.x n.y (max 1 (c+n.rad)) (p-n.x) (q-n.y) pm (by omega) (by omega) (by omega);rwa [show n.x+(p-n.x)=p by omega,show n.y+(q-n.y)=q by omega] at this
theorem PS{m:Int}{v B:Bool}{e n x:El}{k p q f g t l D i d:Int}(h:FH v e p q)(y:n.has f g=true)(J:0<=t)(E:0<=l)(z:rtI ((p-f)*(p-f)+(q-g)*(q-g))=D)(s:max 0 (D-t)=i)(w:D+1+l=d)(c:nh m v e n i d=((B,x),k)):FH B x p q:=by
 unfold nh at c;by_cases A:d<=4194304
 ·cases v with
  | true=>
   have T:=QO e n p q f g t l D i d (h rfl) y J E z s w A;obtain⟨o,I,G⟩:=MF T;rw[if_pos rfl,I] at c;unfold takeS at c;rw[if_pos rfl] at c;injection c with h3 _;injection h3 with h4 h5;subst h5;exact fun _=>G
  | false=>
   rw[if_neg (by decide)] at c;obtain⟨a,L,j⟩:∃o k,acqE n d=(o,k):=⟨_,_,rfl⟩;rw[j] at c;have M:=ax (p-f);have K:=ax (q-g);have r:=ID ((p-f)*(p-f)+(q-g)*(q-g)) (by omega);rw[z] at r;have F:=Cr (a:=D+1) (b:=d) (by omega) (by omega);rcases acq_has (p:=p) (q:=q) y (by omega) (by omega) A j with u|⟨u,C⟩
   ·rw[if_neg u] at c;injection c with h3 _;injection h3 with h4 h5;subst h4;exact Ik _ _ _
   ·rw[if_pos u] at c;exact LV h C c
 · have H : aJ i d = false := by
     cases hq:aJ i d with
     | false=>rfl
     | true=>have:=(dj _ _).1 hq;omega
   cases v with
   | true=>
    rw[if_pos rfl,jx e n i d (.inr (.inr H))] at c;unfold takeS at c;rw[if_neg (by decide),if_neg (by decide)] at c;injection c with h3 _;injection h3 with h4 h5;subst h5;exact fun _=>h rfl
   | false=>
    rw[if_neg (by decide)] at c;have j:acqE n d=(El.zero,1):=by unfold acqE;rw[if_neg];rintro⟨-,-,h⟩;omega
    rw[j,if_neg (by decide)] at c;injection c with h3 _;injection h3 with h4 h5;subst h4;exact Ik _ _ _
structure Gc where
 N:Nat
 p:Nat->Int×Int
 dr:Int
 G:Int->Int->Int
 P:Int->Int->Int
 sq:Int->Int
section
variable (X:Gc)
def Gc.fn(k g:Int):Int:=(Ab (offF k.toNat 13 X.dr) (12345*(k.toNat:Int)) g).1
def Gc.fl(a b:Int):Int:=Cq (X.p a.toNat) (X.p b.toNat)
def Gc.at_(e:El)(k:Int):Prop:=e.has (X.p k.toNat).1 (X.p k.toNat).2=true
def Gc.us(k m:Int):Prop:=0<=k/\k<X.N/\0<=m/\m<X.sq k/\0<=X.G k m/\X.G k m<=35184372088832
structure Gc.fr (f:FrD) (g:Int):Prop where
 est:f.kind=5->X.at_ f.el f.src
 trk:f.kind=6->0<=f.who->f.who<X.N->X.at_ f.el f.who
 rsp:f.kind=3->X.us f.dst f.t1/\X.G f.dst f.t1+X.fl f.dst f.src<=g
 fin:f.kind=4->X.us f.dst f.when/\X.us f.src (X.P f.dst f.when)/\X.G f.src (X.P f.dst f.when)+X.fl f.src f.dst<=X.G f.dst f.when/\X.G f.dst f.when+X.fl f.dst f.src<=g/\
  f.t1=X.fn f.src (X.G f.dst f.when+X.fl f.dst f.src)-X.fn f.src (X.G f.src (X.P f.dst f.when))/\f.t2=X.fn f.src g-X.fn f.src (X.G f.dst f.when+X.fl f.dst f.src)
structure Gc.sent (f:FrD) (g:Int):Prop where
 us:X.us f.src f.seq
 boot:f.boot=0
 gs:X.G f.src f.seq=g
 ps:f.kind=3->X.P f.src f.seq=f.t1
 fr:X.fr f g
def Gc.mail(m:gE):Prop:=∃f g,m.data=dataF f/\X.sent f g/\m.tru=g+X.fl f.src m.til/\m.at_=X.fn m.til m.tru/\m.til<X.N
structure Gc.nd (M:Int) (i:Int) (n:NodeD):Prop where
 id:n.id=i
 boot:n.boot=0
 sq:X.sq i=n.seq
 s0:0<=n.seq
 dr:n.c.drift=X.dr
 bn:0<=n.b.n/\n.b.n<=8
 left:0<=n.b.left
 lim:n.seq+n.b.left<=M
 f:FH n.fv n.fe (X.p i.toNat).1 (X.p i.toNat).2
 e:∀q∈n.t.ents,q.2.has=true->0<=q.1->q.1<X.N->X.at_ q.2.e q.1
 ask:∀k:Nat,(n.s k).ask.st=1->X.us i (n.s k).ask.mrk/\(n.s k).ask.fr=X.fn i (X.G i (n.s k).ask.mrk)
 tell:∀k:Nat,(n.s k).tell.st=2->X.us i (n.s k).tell.mrk/\X.us k (X.P i (n.s k).tell.mrk)/\X.G k (X.P i (n.s k).tell.mrk)+X.fl k i<=X.G i (n.s k).tell.mrk/\
  (n.s k).tell.til=X.fn i (X.G i (n.s k).tell.mrk)/\(n.s k).tell.fr=X.fn i (X.G k (X.P i (n.s k).tell.mrk)+X.fl k i)
end
structure Gc.Ext (X X':Gc):Prop where
 N:X'.N=X.N
 p:X'.p=X.p
 dr:X'.dr=X.dr
 us:∀k m,X.us k m->X'.us k m/\X'.G k m=X.G k m/\X'.P k m=X.P k m
section
variable {X X' X2:Gc} {M i g:Int} {n:NodeD} {f:FrD}
theorem Gc.Ext.refl:X.Ext X:=⟨rfl,rfl,rfl,fun _ _ h=>⟨h,rfl,rfl⟩⟩
theorem Gc.Ext.trans(h:X.Ext X')(h2:X'.Ext X2):X.Ext X2:=
 ⟨h2.N.trans h.N,h2.p.trans h.p,h2.dr.trans h.dr,fun k m d=>by
  obtain⟨a,b,c⟩:=h.us k m d
  obtain⟨a2,b2,c2⟩:=h2.us k m a
  exact⟨a2,b2.trans b,c2.trans c⟩⟩
theorem Gc.Ext.fn(h:X.Ext X')(k g:Int):X'.fn k g=X.fn k g:=by unfold Gc.fn;rw [h.dr]
theorem Gc.Ext.fl(h:X.Ext X')(a b:Int):X'.fl a b=X.fl a b:=by unfold Gc.fl;rw [h.p]
theorem Gc.Ext.at_(h:X.Ext X')(e:El)(k:Int):X'.at_ e k↔X.at_ e k:=by unfold Gc.at_;rw [h.p]
theorem Gc.fr.ext(H:X.fr f g)(h:X.Ext X'):X'.fr f g:=by
 refine⟨fun e=>(h.at_ _ _).2 (H.est e),fun e a b=>(h.at_ _ _).2 (H.trk e a (by rw[<-h.N];exact b)),fun e=>?_,fun e=>?_⟩
 ·obtain⟨a,b⟩:=H.rsp e;obtain⟨k,j,-⟩:=h.us _ _ a;exact⟨k,by rw[j,h.fl];exact b⟩
 ·obtain⟨a,b,c,d,m,p⟩:=H.fin e;obtain⟨k,j,l⟩:=h.us _ _ a;obtain⟨o,b2,-⟩:=h.us _ _ b;exact⟨k,by rw[l];exact o,by rw[j,l,b2,h.fl];exact c,by rw[j,h.fl];exact d,by rw[j,l,b2,h.fl,h.fn,h.fn];exact m,by rw[j,h.fl,h.fn,h.fn];exact p⟩
theorem Gc.sent.ext(H:X.sent f g)(h:X.Ext X'):X'.sent f g:=by
 obtain⟨a,b,c⟩:=h.us _ _ H.us;exact⟨a,H.boot,b.trans H.gs,fun e=>c.trans (H.ps e),H.fr.ext h⟩
theorem Gc.mail.ext{m:gE}(H:X.mail m)(h:X.Ext X'):X'.mail m:=by
 obtain⟨f,g,a,b,c,d,e⟩:=H;exact⟨f,g,a,b.ext h,by rw[h.fl];exact c,by rw[h.fn];exact d,by rw[h.N];exact e⟩
theorem Gc.nd.ext(H:X.nd M i n)(h:X.Ext X')(t:X'.sq i=X.sq i):X'.nd M i n:=by
 refine⟨H.id,H.boot,t.trans H.sq,H.s0,H.dr.trans h.dr.symm,H.bn,H.left,H.lim,by rw[h.p];exact H.f,fun q r a b c=>(h.at_ _ _).2 (H.e q r a b (by rw[<-h.N];exact c)),fun k e=>?_,fun k e=>?_⟩
 ·obtain⟨a,b⟩:=H.ask k e;obtain⟨l,j,-⟩:=h.us _ _ a;exact⟨l,by rw[j,h.fn];exact b⟩
 ·obtain⟨a,b,c,d,o⟩:=H.tell k e;obtain⟨l,j,m⟩:=h.us _ _ a;obtain⟨s,b2,-⟩:=h.us _ _ b;exact⟨l,by rw[m];exact s,by rw[j,m,b2,h.fl];exact c,by rw[j,h.fn];exact d,by rw[m,b2,h.fl,h.fn];exact o⟩
theorem Gc.nd.mono{M':Int}(H:X.nd M i n)(h:M<=M'):X.nd M' i n:={H with lim:=by have:=H.lim;omega}
structure Gc.Snt (X X':Gc) (M i g:Int) (n':NodeD) (l:List ky):Prop where
 ext:X.Ext X'
 nd:X'.nd M i n'
 oth:∀j,j≠i->X'.sq j=X.sq j
 out:∀o∈l,X'.sent o.1 g/\o.1.src=i
theorem Gc.Snt.trans{l c:NodeD}{d b:List ky}{e:Int}(h:X.Snt X' M i g l d)(h2:X'.Snt X2 e i g c b):X.Snt X2 e i g c (d++b):=
 ⟨h.ext.trans h2.ext,h2.nd,fun j k=>(h2.oth j k).trans (h.oth j k),fun o a=>by
  rcases List.mem_append.1 a with a|a
  ·exact⟨(h.out o a).1.ext h2.ext,(h.out o a).2⟩
  ·exact h2.out o a⟩
theorem Gc.Snt.none(H:X.nd M i n):X.Snt X M i g n []:=⟨.refl,H,fun _ _=>rfl,fun o a=>by cases a⟩
theorem Gc.nd.send(H:X.nd M i n)(F:0<=i/\i<X.N)(hM:M<=60000)(D:0<=g/\g<=35184372088832)(l fine:Int)(U:X.fr {f with src:=i} g):∃X',X.Snt X' M i g (n.send l fine f).1 (n.send l fine f).2.2/\(n.send l fine f).1.s=n.s/\(n.send l fine f).1.t=n.t/\(n.send l fine f).1.fv=n.fv/\(n.send l fine f).1.fe=n.fe/\(n.send l fine f).1.c=n.c/\
   ((n.send l fine f).2.1.2=true->X'.us i (n.send l fine f).2.1.1/\X'.G i (n.send l fine f).2.1.1=g/\(f.kind=3->X'.P i (n.send l fine f).2.1.1=f.t1)):=by
 unfold NodeD.send;by_cases K:n.b.left=0
 ·have e:n.b.take=(n.b,false):=by unfold Am.take;rw[if_pos K]
  rw[e];simp only[Bool.false_eq_true,if_false];exact⟨X,.none H,trivial,trivial,trivial,trivial,trivial,fun h=>by cases h⟩
 ·have e:n.b.take=(⟨n.b.n,n.b.left-1⟩,true):=by unfold Am.take;rw[if_neg K]
  rw[e];simp only[if_true];have hl:=H.left;have B:=H.lim;have h0:=H.s0;have Q:=H.sq
  have V:sc n.seq=n.seq+1:=by
   unfold sc ij;rw[if_pos (by simp;omega)];omega
  have x:n.boot*65536+n.seq=n.seq:=by rw[H.boot];omega
  rw[V,x];let X':Gc:={X with G:=fun k m=>if k=i/\m=n.seq then g else X.G k m,P:=fun k m=>if k=i/\m=n.seq then f.t1 else X.P k m,sq:=fun k=>if k=i then n.seq+1 else X.sq k}
  have q:X.Ext X':=by
   refine⟨rfl,rfl,rfl,?_⟩;intro k m hu;obtain⟨Y,L,Z,W,T,R⟩:=hu;have r:¬(k=i/\m=n.seq):=by rintro⟨rfl,rfl⟩;omega
   have eG:X'.G k m=X.G k m:=if_neg r;have w:X'.P k m=X.P k m:=if_neg r;refine⟨⟨Y,L,Z,?_,by rw[eG];exact T,by rw[eG];exact R⟩,eG,w⟩;show m<if k=i then n.seq+1 else X.sq k
   split
   ·rename_i hk;subst hk;omega
   ·exact W
  have eG:X'.G i n.seq=g:=if_pos ⟨rfl,rfl⟩;have w:X'.P i n.seq=f.t1:=if_pos ⟨rfl,rfl⟩;have eS:X'.sq i=n.seq+1:=if_pos rfl;have u:X'.us i n.seq:=⟨F.1,F.2,h0,by rw[eS];omega,by rw[eG];exact D.1,by rw[eG];exact D.2⟩;refine⟨X',⟨q,?_,fun j S=>if_neg S,?_⟩,trivial,trivial,trivial,trivial,trivial,fun _=>⟨u,eG,fun _=>w⟩⟩
  ·refine⟨H.id,H.boot,eS,by show 0<=n.seq+1;omega,H.dr,H.bn,by show 0<=n.b.left-1;omega,by show n.seq+1+(n.b.left-1)<=M;omega,H.f,H.e,fun k e=>?_,fun k e=>?_⟩
   ·obtain⟨a,b⟩:=H.ask k e;obtain⟨z,v,-⟩:=q.us _ _ a;exact⟨z,by rw[v,q.fn];exact b⟩
   ·obtain⟨a,b,c,d,O⟩:=H.tell k e;obtain⟨z,v,A⟩:=q.us _ _ a;obtain⟨b1,b2,-⟩:=q.us _ _ b;exact⟨z,by rw[A];exact b1,by rw[v,A,b2,q.fl];exact c,by rw[v,q.fn];exact d,by rw[A,b2,q.fl,q.fn];exact O⟩
  ·intro o E;rw[List.mem_singleton] at E;subst E;have p:=H.id;refine⟨⟨by show X'.us n.id n.seq;rw[p];exact u,H.boot,by show X'.G n.id n.seq=g;rw[p];exact eG,fun _=>by show X'.P n.id n.seq=f.t1;rw[p];exact w,?_⟩,p⟩;have y:=U.ext q;obtain⟨J,k2,I,C⟩:=y;rw[<-p] at J I C;exact⟨J,k2,I,C⟩
end
def idsK(l:List EntD)(k:Nat):List Int:=((l.take k).filter (·.has)).map (·.node)
theorem NC(l:List EntD)(k:Nat)(v:EntD)(h:l[k]?=some v):idsK l (k+1)=if v.has then idsK l k++[v.node] else idsK l k:=by
 unfold idsK;have a:=(List.getElem?_eq_some_iff.1 h).1;have e:l.take (k+1)=l.take k++[v]:=by rw[List.take_add_one,h];rfl
 rw[e,List.filter_append,List.map_append];cases hv:v.has<;>simp[hv]
theorem KR(l:List EntD)(k:Nat):(idsK l k).length<=k:=by
 unfold idsK;rw[List.length_map];exact Nat.le_trans (List.length_filter_le _ _) (by rw[List.length_take];omega)
theorem KO{w:World}{B n:Nat}{v:Value}{l:List Int}(h:w.ownsRow B 3 1 v n (l.map (Value.int .i64)))(j:l.length=n):∃A c,v=.slice A n c/\Tn w A l:=by
 obtain⟨A,c,rfl⟩:=kh h;refine⟨A,c,rfl,fun i a=>?_⟩;obtain⟨g,f,e,d,-,b⟩:=zV h (k:=i) (x:=.int .i64 (l.getD i 0)) (by rw[List.getElem?_map,List.getElem?_eq_getElem a];simp[List.getD,a]);injection e with e _ _
 exact⟨g,0,e,d,by simpa using b⟩
theorem Sc(l:List EntD)(d:List Int)(g:(l.filter (·.has)).map (·.node)=d)(B:Nat)(O:Option Addr)(o:Nat)(b:Int)(w:World)(hl:l.length<=64)(Q:w.ownsRow B 99 10 (.slice O l.length o) l.length (l.flatMap nW)):zR 187 #[.slice O l.length o,b] w (.tuple #[.int .i64 (nextF d b).1,.bool (nextF d b).2]):=by
 obtain⟨i0,hi,J,H,D⟩:=info_parts J0;have HR:=Lh Q;have a0:(l.length:Int)<=9223372036854775807:=by omega
 have M:Hid (idsK l l.length=d):=by show _=_;unfold idsK;rw[List.take_length];exact g
 clear Q g;go_enter Tryz.func187,Tryz.ntmps187;go_wp2_with fail;go_loopw [6,11] (fun a i wr=>∃k:Nat,k<=l.length/\i=.int .i64 k/\Hid (wr.ownsRow w.heap.size 3 1 a (idsK l k).length ((idsK l k).map (Value.int .i64)))/\Hid (zB w wr)) (fun _ i _=>l.length-(intOf i).toNat)
 case atStart=>exact⟨0,by omega,rfl,⟨by simp[idsK],.inl ⟨rfl,rfl⟩⟩,Below.refl _ _⟩
 case round=>
  obtain⟨k,hk,rfl,r,y⟩:=hrel;by_cases F:k<l.length
  ·obtain⟨v,I⟩:∃v,l[k]?=some v:=⟨_,List.getElem?_eq_getElem F⟩;have z:=Lh (cv HR.out y.out);obtain⟨gr,P,C,a2,R,hc⟩:=EO z.out (k:=k) (x:=v) I rfl;injection C with hv1 _ hv3
   subst hv1;subst hv3;have a1:(k:Int)<(l.length:Int):=by omega
   have U:(0:Int)<=k:=by omega
   have Y:=y.out.size;have E:=Lh (NC l k v I);have j:=KR l k;obtain⟨K,n⟩:∃K,idsK l k=K:=⟨_,rfl⟩;rw[n] at r E j;obtain⟨t,X,x2,x3,⟨S,W,e2,e3,e4⟩,T⟩:=v;clear I n;cases x3 with
   | false=>
    go_wp2_with fail;exact⟨⟨k+1,by omega,by go_num,by show World.ownsRow _ _ _ _ _ _ _;rw[E.out];exact cv r.out ((Below.refl _ _).alloc (Nat.le_refl _) _),(show Below _ _ _ from ad)⟩,by simp[intOf];omega⟩
   | true=>
    obtain⟨s,f⟩:∃u,u=wr.alloc (Obj.cells (entC ⟨t,X,x2,true,⟨S,W,e2,e3,e4⟩,T⟩) 99):=⟨_,rfl⟩;have G:zB wr (s.alloc (Obj.cells #[t] 3)):=by rw[f];exact((Below.refl _ _).alloc (Nat.le_refl _) _).alloc (by simp) _
    have q:=Lh (cv r.out G);have L:Hid (zB w (s.alloc (Obj.cells #[t] 3))):=y.out.trans (G.mono Y);subst f;clear G
    go_wp2_with (first
     | (at_builtin;refine wpList_append_own _ rfl _ _ 120 rfl w.heap.size 3 i0 (.int .i64 0) 1 8 Tryz.underlying120 hi J H D rfl (by decide) _ K.length _ rfl q.out ⟨wr.heap.size+1,0,none⟩ 1 1 [.int .i64 t] rfl rfl (te (Blk.new' _ _ _ (by simp))) (JY _) (by unfold maxLen;omega) (by omega) (by simp;omega) ?_;intro v' w5 p m _))
    exact⟨⟨k+1,by omega,by go_num,by show World.ownsRow _ _ _ _ _ _ _;rw[E.out];simpa using p,xE (Nat.le_refl _) L.out m (xA q.out)⟩,by simp[intOf];omega⟩
  ·have Z:¬(k:Int)<(l.length:Int):=by omega
   obtain rfl:k=l.length:=by omega
   rw[M.out] at r;obtain⟨A,c,rfl,N⟩:=KO r.out rfl;have V:=Lh N;have j:=KR l l.length;rw[M.out] at j;clear N;go_wp2_with (go_at_call 188;refine(Pi A d c b _ (by omega) V.out).mono ?_;rintro e w1 ⟨rfl,h⟩;have h9:=h.symm;subst h9)
   go_ret2
   exact⟨rfl,y.out⟩
theorem Sd(l:List EntD)(B:Nat)(c:Option Addr)(b:Nat)(a:Int)(w:World)(e:l.length<=64)(d:w.ownsRow B 99 10 (.slice c l.length b) l.length (l.flatMap nW)):zR 187 #[.slice c l.length b,a] w (.tuple #[.int .i64 (nextF ((l.filter (·.has)).map (·.node)) a).1,.bool (nextF ((l.filter (·.has)).map (·.node)) a).2]):=Sc l _ rfl B c b a w e d
end Go.Proofs.YtechbdnhalmobaaGreatDoor
