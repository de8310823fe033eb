/- The document's inequalities by letters; Of. -/
import Derived.Test.YtilginoibhfeiaaGreatYl
import Derived.Test.YtilginoibhfeiaaGreatY1
import Derived.Test.YtilginoibhfeiaaGreatX0
import Derived.Test.YtilginoibhfeiaaGreatRE
import Derived.Test.YtilginoibhfeiaaGreatIA
set_option maxRecDepth 100000
set_option maxHeartbeats 16000000
namespace Go.Proofs.YtilginoibhfeiaaGreat
set_option linter.unusedSimpArgs false
open Go.RowKit
theorem info_no (n0 o0:Bool) (A0:Option Addr) (l0 k0:Nat) (n1 o1:Bool) (A1:Option Addr) (l1 k1:Nat) (n2 o2:Bool) (A2:Option Addr) (l2 k2:Nat) (n3 o3:Bool) (A3:Option Addr) (l3 k3:Nat) (n4 o4:Bool) (A4:Option Addr) (l4 k4:Nat) (n5 o5:Bool) (A5:Option Addr) (l5 k5:Nat) (n6 o6:Bool) (A6:Option Addr) (l6 k6:Nat):∀ (i:Nat) (m:Int),(#[.bool n0,.bool o0,.slice A0 l0 k0,.bool n1,.bool o1,.slice A1 l1 k1,.bool n2,.bool o2,.slice A2 l2 k2,.bool n3,.bool o3,.slice A3 l3 k3,.bool n4,.bool o4,.slice A4 l4 k4,.bool n5,.bool o5,.slice A5 l5 k5,.bool n6,.bool o6,.slice A6 l6 k6]:Array Value)[i]? ≠ some (.int .u32 m):=by
 intro i m e
 rcases i with _|_|_|_|_|_|_|_|_|_|_|_|_|_|_|_|_|_|_|_|_|i
 ·cases e
 ·cases e
 ·cases e
 ·cases e
 ·cases e
 ·cases e
 ·cases e
 ·cases e
 ·cases e
 ·cases e
 ·cases e
 ·cases e
 ·cases e
 ·cases e
 ·cases e
 ·cases e
 ·cases e
 ·cases e
 ·cases e
 ·cases e
 ·cases e
 ·simp at e
def InfoIs (w:World) (v:Value) (x0 x1 x2 x3 x4 x5 x6:WI):Prop:=∃ n0 o0 A0 l0 k0 n1 o1 A1 l1 k1 n2 o2 A2 l2 k2 n3 o3 A3 l3 k3 n4 o4 A4 l4 k4 n5 o5 A5 l5 k5 n6 o6 A6 l6 k6,v = .agg #[.bool n0,.bool o0,.slice A0 l0 k0,.bool n1,.bool o1,.slice A1 l1 k1,.bool n2,.bool o2,.slice A2 l2 k2,.bool n3,.bool o3,.slice A3 l3 k3,.bool n4,.bool o4,.slice A4 l4 k4,.bool n5,.bool o5,.slice A5 l5 k5,.bool n6,.bool o6,.slice A6 l6 k6]∧BigIs w (.agg #[.bool n0,.bool o0,.slice A0 l0 k0]) x0∧BigIs w (.agg #[.bool n1,.bool o1,.slice A1 l1 k1]) x1∧BigIs w (.agg #[.bool n2,.bool o2,.slice A2 l2 k2]) x2∧BigIs w (.agg #[.bool n3,.bool o3,.slice A3 l3 k3]) x3∧BigIs w (.agg #[.bool n4,.bool o4,.slice A4 l4 k4]) x4∧BigIs w (.agg #[.bool n5,.bool o5,.slice A5 l5 k5]) x5∧BigIs w (.agg #[.bool n6,.bool o6,.slice A6 l6 k6]) x6
theorem InfoIs.below {w w':World} {v:Value} {x0 x1 x2 x3 x4 x5 x6:WI} (h:InfoIs w v x0 x1 x2 x3 x4 x5 x6) (hb:Below w.heap.size w w'):InfoIs w' v x0 x1 x2 x3 x4 x5 x6:=by
 obtain ⟨n0,o0,A0,l0,k0,n1,o1,A1,l1,k1,n2,o2,A2,l2,k2,n3,o3,A3,l3,k3,n4,o4,A4,l4,k4,n5,o5,A5,l5,k5,n6,o6,A6,l6,k6,rfl,h0,h1,h2,h3,h4,h5,h6⟩:=h
 exact ⟨_,_,_,_,_,_,_,_,_,_,_,_,_,_,_,_,_,_,_,_,_,_,_,_,_,_,_,_,_,_,_,_,_,_,_,rfl,h0.below hb,h1.below hb,h2.below hb,h3.below hb,h4.below hb,h5.below hb,h6.below hb⟩
def InfoQ (w:World) (v:Value) (i:Iq):Prop:=InfoIs w v (WI.of i.A) (WI.of i.B) (WI.of i.D) (WI.of i.U) (WI.of i.V) (WI.of i.Z) (WI.of i.N)
theorem InfoQ.below {w w':World} {v:Value} {i:Iq} (h:InfoQ w v i) (hb:Below w.heap.size w w'):InfoQ w' v i:=InfoIs.below h hb
theorem zeroBig (w:World):BigIs w (.agg #[.bool false,.bool false,.slice none 0 0]) (WI.of 0):=by
 have h:(WI.of 0).v=some 0:=WI.of_v (by rw [show (0:Int).natAbs=0 from rfl];exact lim_pos)
 have h1:(WI.of 0).ng=false:=by unfold WI.ng;rw [h];rfl
 have h2:(WI.of 0).ov=false:=by unfold WI.ov;rw [h];rfl
 have h3:(WI.of 0).sz=0:=by unfold WI.sz;rw [h];rfl
 refine ⟨.slice none 0 0,by rw [h1,h2],?_⟩
 rw [h3,dg_zero];exact Rd.nil _
theorem zeroInfo (w:World):InfoQ w (.agg #[.bool false,.bool false,.slice none 0 0,.bool false,.bool false,.slice none 0 0,.bool false,.bool false,.slice none 0 0,.bool false,.bool false,.slice none 0 0,.bool false,.bool false,.slice none 0 0,.bool false,.bool false,.slice none 0 0,.bool false,.bool false,.slice none 0 0]) Iq.zero:=⟨_,_,_,_,_,_,_,_,_,_,_,_,_,_,_,_,_,_,_,_,_,_,_,_,_,_,_,_,_,_,_,_,_,_,_,rfl,zeroBig w,zeroBig w,zeroBig w,zeroBig w,zeroBig w,zeroBig w,zeroBig w⟩
def bldI (P:Program) (t:TypeId) (parts:Array (Nat × Value)) (w:World):Result Value:=(Instr.build t parts).run P w
@[go_sem ↓] theorem exec_bldI0 {P : Program} (ρ : Operand → Value) (dst : Option Tmp) (ty : TypeId) (pos : String) (af : Array Edge) (gd : Option (Nat × Bool)) (w : World) :
    (execOp ρ ⟨dst,.build 67 #[],ty,pos,af,gd⟩).run P w=(bldI P 67 #[] w).andThen fun v w' => .ok (.value v) w':=by
 simp only [execOp,bldI,Sem.run_bind,Sem.run_pure,List.map_toArray,List.map_cons,List.map_nil]
@[go_sem ↓] theorem exec_bldI7 {P : Program} (ρ : Operand → Value) (dst : Option Tmp) (ty : TypeId) (pos : String) (af : Array Edge) (gd : Option (Nat × Bool)) (a b c d e f g : Operand) (w : World) :
    (execOp ρ ⟨dst,.build 67 #[(0,a),(1,b),(2,c),(3,d),(4,e),(5,f),(6,g)],ty,pos,af,gd⟩).run P w=(bldI P 67 #[(0,ρ a),(1,ρ b),(2,ρ c),(3,ρ d),(4,ρ e),(5,ρ f),(6,ρ g)] w).andThen fun v w' => .ok (.value v) w':=by
 simp only [execOp,bldI,Sem.run_bind,Sem.run_pure,List.map_toArray,List.map_cons,List.map_nil]
theorem bldI0_run (w:World):bldI Tryz.prog 67 #[] w = .ok (.agg #[.bool false,.bool false,.slice none 0 0,.bool false,.bool false,.slice none 0 0,.bool false,.bool false,.slice none 0 0,.bool false,.bool false,.slice none 0 0,.bool false,.bool false,.slice none 0 0,.bool false,.bool false,.slice none 0 0,.bool false,.bool false,.slice none 0 0]) w:=by kernel_rfl
theorem bldI7_run (n0 o0:Bool) (A0:Option Addr) (l0 k0:Nat) (n1 o1:Bool) (A1:Option Addr) (l1 k1:Nat) (n2 o2:Bool) (A2:Option Addr) (l2 k2:Nat) (n3 o3:Bool) (A3:Option Addr) (l3 k3:Nat) (n4 o4:Bool) (A4:Option Addr) (l4 k4:Nat) (n5 o5:Bool) (A5:Option Addr) (l5 k5:Nat) (n6 o6:Bool) (A6:Option Addr) (l6 k6:Nat) (w:World):bldI Tryz.prog 67 #[(0,(.agg #[.bool n0,.bool o0,.slice A0 l0 k0])),(1,(.agg #[.bool n1,.bool o1,.slice A1 l1 k1])),(2,(.agg #[.bool n2,.bool o2,.slice A2 l2 k2])),(3,(.agg #[.bool n3,.bool o3,.slice A3 l3 k3])),(4,(.agg #[.bool n4,.bool o4,.slice A4 l4 k4])),(5,(.agg #[.bool n5,.bool o5,.slice A5 l5 k5])),(6,(.agg #[.bool n6,.bool o6,.slice A6 l6 k6]))] w = .ok (.agg #[.bool n0,.bool o0,.slice A0 l0 k0,.bool n1,.bool o1,.slice A1 l1 k1,.bool n2,.bool o2,.slice A2 l2 k2,.bool n3,.bool o3,.slice A3 l3 k3,.bool n4,.bool o4,.slice A4 l4 k4,.bool n5,.bool o5,.slice A5 l5 k5,.bool n6,.bool o6,.slice A6 l6 k6]) w:=by kernel_rfl
theorem Blk.over {w:World} {g:Nat} {c d:Array Value} {t:TypeId} (h:Blk w g c t) (hs:c.size=d.size):Blk (w.putRow g 0 d) g d t:=by
 have:=h.putRow_same 0 d;rw [splice_all _ _ hs.symm] at this;exact this
theorem OnlyAt.putRow {w w':World} {g:Nat} (h:OnlyAt g w w') (o:Nat) (cs:Array Value):OnlyAt g w (w'.putRow g o cs) :=
 ⟨h.os,h.tape,h.output,by rw [size_putRow];exact h.size,fun k hk hne=>by rw [heap_putRow_other _ _ _ _ hne];exact h.block k hk hne⟩
theorem rinfo_info:(Tryz.prog.info? 67).map (·.size)=some 21:=by kernel_rfl
theorem radj_v (a b d a' b' d':Int) (h:adjV a b d=symV a' b' d') (w:World) :
  Calls Tryz.prog 87 #[symV a b d] w fun e w'=>e = .returned (symV a' b' d')∧Below w.heap.size w w':=by
 rw [← h];exact adjmat_r a b d w
theorem quad_x (a b d x y:Int) (z:WI) (w:World) (hz:Hid (WI.of (a*(x*x)+d*(y*y)+(b*(x*y)+b*(x*y)))=z)) (ha:I64 a) (hb:I64 b) (hd:I64 d) (hx:I64 x) (hy:I64 y) :
  Calls Tryz.prog 90 #[symV a b d,ptV x y] w fun e w'=>(∃ v,e = .returned v∧BigIs w' v z)∧Below w.heap.size w w':=by
 rw [← hz.out];exact quad_r a b d x y ha hb hd hx hy w
theorem matdet_x (a b d:Int) (z:WI) (w:World) (hz:Hid (WI.of (a*d-b*b)=z)) (ha:I64 a) (hb:I64 b) (hd:I64 d) :
  Calls Tryz.prog 73 #[symV a b d] w fun e w'=>(∃ v,e = .returned v∧BigIs w' v z)∧Below w.heap.size w w':=by
 rw [← hz.out];exact matdet_r a b d ha hb hd w
theorem rof_main (x y a b d:Int) (he:El.may ⟨x,y,a,b,d⟩=true) (w:World) :
  Calls Tryz.prog 32 #[elC x y a b d] w fun e w'=>(∃ v,e = .returned (.tuple #[v,.int .i64 0])∧InfoQ w' v (ofEl ⟨x,y,a,b,d⟩))∧Below w.heap.size w w':=by
 have HE:=Lh he
 have hm:=(El.may_iff _).1 he
 simp only at hm
 obtain ⟨nb,hnb⟩:∃ z,-b=z:=⟨_,rfl⟩
 have HAJ:Hid (adjV a b d=symV d nb a):=by show _=_;unfold adjV;rw [if_pos (El.may_mat _ he),hnb]
 have K:Hid (I64 x∧I64 y∧I64 a∧I64 b∧I64 d∧I64 nb):=by unfold Hid I64;omega
 have KX:=K.out.1.sm
 have SX:=Sm.of64 K.out.1.1 K.out.1.2
 have SY:=Sm.of64 K.out.2.1.1 K.out.2.1.2
 have SA:=Sm.of64 K.out.2.2.1.1 K.out.2.2.1.2
 have SD:=Sm.of64 K.out.2.2.2.2.1.1 K.out.2.2.2.2.1.2
 have SN:=Sm.of64 K.out.2.2.2.2.2.1 K.out.2.2.2.2.2.2
 have HU:Hid (((WI.of d).mul (WI.of x)).add ((WI.of nb).mul (WI.of y))=WI.of (d*x+nb*y)):=by
  show _=_
  rw [WI.of_mul (SD.lim (by decide)) (SX.lim (by decide)),WI.of_mul (SN.lim (by decide)) (SY.lim (by decide)),WI.of_add ((SD.mul SX).lim (by decide)) ((SN.mul SY).lim (by decide))]
 have HV:Hid (((WI.of nb).mul (WI.of x)).add ((WI.of a).mul (WI.of y))=WI.of (nb*x+a*y)):=by
  show _=_
  rw [WI.of_mul (SN.lim (by decide)) (SX.lim (by decide)),WI.of_mul (SA.lim (by decide)) (SY.lim (by decide)),WI.of_add ((SN.mul SX).lim (by decide)) ((SA.mul SY).lim (by decide))]
 have EV:Hid (ofEl ⟨x,y,a,b,d⟩=⟨d,nb,a,d*x+nb*y,nb*x+a*y,d*(x*x)+a*(y*y)+(nb*(x*y)+nb*(x*y)),a*d-b*b⟩):=by show _=_;unfold ofEl;rw [hnb]
 rw [EV.out]
 obtain ⟨zU,hzU⟩:∃ z,WI.of (d*x+nb*y)=z:=⟨_,rfl⟩
 obtain ⟨zV,hzV⟩:∃ z,WI.of (nb*x+a*y)=z:=⟨_,rfl⟩
 obtain ⟨zZ,hzZ⟩:∃ z,WI.of (d*(x*x)+a*(y*y)+(nb*(x*y)+nb*(x*y)))=z:=⟨_,rfl⟩
 obtain ⟨zN,hzN⟩:∃ z,WI.of (a*d-b*b)=z:=⟨_,rfl⟩
 show Calls _ _ _ _ fun e w'=>(∃ v,e = .returned (.tuple #[v,.int .i64 0])∧InfoIs w' v (WI.of d) (WI.of nb) (WI.of a) (WI.of (d*x+nb*y)) (WI.of (nb*x+a*y)) (WI.of (d*(x*x)+a*(y*y)+(nb*(x*y)+nb*(x*y)))) (WI.of (a*d-b*b)))∧_
 rw [hzU] at HU
 rw [hzV] at HV
 rw [hzU,hzV,hzZ,hzN]
 have HZ:=Lh hzZ
 have HN:=Lh hzN
 clear he hm hnb KX SX SY SA SD SN EV hzU hzV hzZ hzN
 go_enter Tryz.func32,Tryz.ntmps32
 go_wp2_with fail
 obtain ⟨u0,hu0⟩:∃ u,u=((w).alloc (Obj.cells #[.int .i64 x,.int .i64 y,.int .i64 a,.int .i64 b,.int .i64 d] 27)).alloc (Obj.cells #[.bool false,.bool false,.slice none 0 0,.bool false,.bool false,.slice none 0 0,.bool false,.bool false,.slice none 0 0,.bool false,.bool false,.slice none 0 0,.bool false,.bool false,.slice none 0 0,.bool false,.bool false,.slice none 0 0,.bool false,.bool false,.slice none 0 0] 67):=⟨_,rfl⟩
 rw [← hu0]
 have HB:Hid (Below w.heap.size w u0):=by rw [hu0];show Below w.heap.size w _;exact below_byR
 have X0:Hid (Blk u0 (w.heap.size) #[.int .i64 x,.int .i64 y,.int .i64 a,.int .i64 b,.int .i64 d] 27):=by rw [hu0];exact (Blk.new' _ _ _ (by simp)).alloc _
 have X1:Hid (Blk u0 (w.heap.size+1) #[.bool false,.bool false,.slice none 0 0,.bool false,.bool false,.slice none 0 0,.bool false,.bool false,.slice none 0 0,.bool false,.bool false,.slice none 0 0,.bool false,.bool false,.slice none 0 0,.bool false,.bool false,.slice none 0 0,.bool false,.bool false,.slice none 0 0] 67):=by rw [hu0];exact Blk.new' _ _ _ (by simp)
 clear hu0
 refine Calls.mono (rmaye_v _ _ _ _ _ _ HE.out _) ?_
 rintro e x1 ⟨rfl,hb⟩
 replace X0:=Kp X0 hb
 replace X1:=Kp X1 hb
 replace HB:=Tp HB hb
 clear hb
 obtain ⟨qX0a,qX0b,qX0c,qX0d,qX0e⟩:=cl5 X0
 have rl_X0:=X0.out.lt
 go_wp2_with fail
 clear qX0a qX0b qX0c qX0d qX0e rl_X0
 refine Calls.mono (radj_v _ _ _ _ _ _ HAJ.out _) ?_
 rintro e x2 ⟨rfl,hb⟩
 replace X0:=Kp X0 hb
 replace X1:=Kp X1 hb
 replace HB:=Tp HB hb
 clear hb
 obtain ⟨qX0a,qX0b,qX0c,qX0d,qX0e⟩:=cl5 X0
 have rl_X0:=X0.out.lt
 go_wp2_with fail
 clear qX0a qX0b qX0c qX0d qX0e rl_X0
 obtain ⟨u3,hu⟩:∃ u,u=x2.alloc (Obj.cells #[.int .i64 d,.int .i64 nb,.int .i64 a] 25):=⟨_,rfl⟩
 rw [← hu]
 obtain ⟨gX2,hg⟩:∃ g,x2.heap.size=g:=⟨_,rfl⟩
 have lt_X0_X2:w.heap.size<gX2:=by rw [← hg];exact X0.out.lt
 have lt_X1_X2:w.heap.size+1<gX2:=by rw [← hg];exact X1.out.lt
 have gw_X2:w.heap.size≤gX2:=by rw [← hg];exact HB.out.size
 have hb:Below x2.heap.size x2 u3:=by rw [hu];exact (Below.refl _ _).alloc (Nat.le_refl _) _
 replace X0:=Kp X0 hb
 replace X1:=Kp X1 hb
 replace HB:=Tp HB hb
 clear hb
 have X2:Hid (Blk u3 gX2 #[.int .i64 d,.int .i64 nb,.int .i64 a] 25):=by rw [hu,← hg];exact Blk.new _ _ _
 rw [hg]
 clear hu hg
 have pl:=X0.out.lt
 have pl1:=X1.out.lt
 have pl2:=X2.out.lt
 obtain ⟨qX0a,qX0b,qX0c,qX0d,qX0e⟩:=ic5 X0
 have HL:Hid (Below u3.heap.size u3 u3.drew):=(Below.refl _ _).drew
 refine wp_region_ghostD' 10 (fun k=>match k with|3=>some (gBig (WI.of x))|7=>some (gBig (WI.of y))|8=>some (gCell u3.heap.size #[.bool false,.bool false,.slice none 0 0] 65)|9=>some (gCell u3.heap.size #[.bool false,.bool false,.slice none 0 0] 65)|_=>none) (fun _=>[]) (by kernel_rfl) (by kernel_rfl) ?_;apply Ea;apply Ea;apply Ea;apply Eu;apply Ea;apply Ea;apply Ea;apply Eu;apply Eu;apply Eu;refine ⟨[],fun gg NN hN=>?_⟩;simp only [List.append_eq,List.cons_append,List.nil_append,List.take_succ_cons,List.take_zero,List.drop_succ_cons,List.drop_zero];(repeat (refine lexH_quiet rfl ?_;go_big_quiet_step (exact rfl);refine wpQuiet_nil ⟨?hd,?_⟩;(case hd=>exact rfl)));(refine lexH_ghost _ (by rfl) (by rfl) ?hex ?_;(case hex=>(intro px;refine ghost_call (fn:=88) (by go_simp;rfl) ?_;exact rbig_r _ K.out.1.1 K.out.1.2 _));simp only [Act.put,sb,sc,sz]);(repeat (refine lexH_quiet rfl ?_;go_big_quiet_step (exact rfl);refine wpQuiet_nil ⟨?hd,?_⟩;(case hd=>exact rfl)));(refine lexH_ghost _ (by rfl) (by rfl) ?hex ?_;(case hex=>(intro px;refine ghost_call (fn:=88) (by go_simp;rfl) ?_;exact rbig_r _ K.out.2.1.1 K.out.2.1.2 _));simp only [Act.put,sb,sc,sz]);(refine lexH_ghost _ (by rfl) (by rfl) ?hex ?_;(case hex=>(intro px;exact ghost_alloc (by have:=px.low.size;simp at this;omega) (by first|(go_simp;done)|(go_simp;rfl))));simp only [Act.put,sb,sc,sz]);(refine lexH_ghost _ (by rfl) (by rfl) ?hex ?_;(case hex=>(intro px;exact ghost_alloc (by have:=px.low.size;simp at this;omega) (by first|(go_simp;done)|(go_simp;rfl))));simp only [Act.put,sb,sc,sz])
 refine lexH_nil ?_
 intro x4 hb' hh hd
 have hb:Below u3.heap.size u3 x4:=hb'
 clear hb' HL
 clear qX0a qX0b qX0c qX0d qX0e
 replace X0:=Kp X0 hb
 replace X1:=Kp X1 hb
 replace X2:=Kp X2 hb
 replace HB:=Tp HB hb
 clear hb
 obtain ⟨nx,ox,Ax,lx,kx,e3,hx⟩:=(show BigIs x4 (gg 3) (WI.of x) from hh 3 _ (by decide) rfl).lettered
 have Cx:=Lh hx
 rw [e3]
 clear hx e3
 obtain ⟨ny,oy,Ay,ly,ky,e7,hy⟩:=(show BigIs x4 (gg 7) (WI.of y) from hh 7 _ (by decide) rfl).lettered
 have Cy:=Lh hy
 rw [e7]
 clear hy e7
 obtain ⟨gX3,e8,l8,b8⟩:=hh 8 _ (by decide) rfl
 rw [e8]
 obtain ⟨gX4,e9,l9,b9⟩:=hh 9 _ (by decide) rfl
 rw [e9]
 have ne_X3_X4:gX3≠gX4:=hd 8 9 _ _ gX3 gX4 (by decide) (by decide) rfl rfl (by decide) (by rw [e8];rfl) (by rw [e9];rfl)
 have lt_X0_X3:w.heap.size<gX3:=by omega
 have lt_X1_X3:w.heap.size+1<gX3:=by omega
 have lt_X2_X3:gX2<gX3:=by omega
 have gw_X3:w.heap.size≤gX3:=by omega
 have X3:Hid (Blk x4 gX3 #[.bool false,.bool false,.slice none 0 0] 65):=b8
 clear b8 e8
 have lt_X0_X4:w.heap.size<gX4:=by omega
 have lt_X1_X4:w.heap.size+1<gX4:=by omega
 have lt_X2_X4:gX2<gX4:=by omega
 have gw_X4:w.heap.size≤gX4:=by omega
 have X4:Hid (Blk x4 gX4 #[.bool false,.bool false,.slice none 0 0] 65):=b9
 clear b9 e9
 clear hh hd pl pl1 pl2
 obtain ⟨qX3a,qX3b,qX3c⟩:=cl3 X3
 have rl_X3:=X3.out.lt
 obtain ⟨qX4a,qX4b,qX4c⟩:=cl3 X4
 have rl_X4:=X4.out.lt
 have fz_X3:=X3.out.frozen
 have ft_X3:=X3.out.fits 3 (by simp)
 have fz_X4:=X4.out.frozen
 have ft_X4:=X4.out.fits 3 (by simp)
 have ne_s:=ne_X3_X4.symm
 go_wp2_with fail
 clear qX3a qX3b qX3c rl_X3 qX4a qX4b qX4c rl_X4 fz_X3 ft_X3 fz_X4 ft_X4
 obtain ⟨v5,hv⟩:∃ v,v=((x4.setCell ⟨gX3,0,none⟩ (.bool nx)).setCell ⟨gX3,1,none⟩ (.bool ox)).setCell ⟨gX3,2,none⟩ (.slice Ax lx kx):=⟨_,rfl⟩
 rw [← hv]
 have ho:OnlyAt (gX3) x4 v5:=by rw [hv];exact OnlyAt.refl.set3 _ _ _
 have hn:=hv
 replace Cx:=Lh (Cx.out.only ho X3.out (big_no _ _ _ _ _))
 replace Cy:=Lh (Cy.out.only ho X3.out (big_no _ _ _ _ _))
 replace X0:=Lh (ho.blk X0.out (by omega))
 replace X1:=Lh (ho.blk X1.out (by omega))
 replace X2:=Lh (ho.blk X2.out (by omega))
 replace X4:=Lh (ho.blk X4.out (by omega))
 replace HB:=Lh (OnlyAt.below ho HB.out (Nat.le_refl _) (by omega))
 replace X3:Hid (Blk v5 (gX3) #[.bool nx,.bool ox,.slice Ax lx kx] 65):=by rw [hv];exact X3.out.set3 _ _ _
 clear ho hn hv
 obtain ⟨v6,hv⟩:∃ v,v=((v5.setCell ⟨gX4,0,none⟩ (.bool ny)).setCell ⟨gX4,1,none⟩ (.bool oy)).setCell ⟨gX4,2,none⟩ (.slice Ay ly ky):=⟨_,rfl⟩
 rw [← hv]
 have ho:OnlyAt (gX4) v5 v6:=by rw [hv];exact OnlyAt.refl.set3 _ _ _
 have hn:=hv
 replace Cx:=Lh (Cx.out.only ho X4.out (big_no _ _ _ _ _))
 replace Cy:=Lh (Cy.out.only ho X4.out (big_no _ _ _ _ _))
 replace X0:=Lh (ho.blk X0.out (by omega))
 replace X1:=Lh (ho.blk X1.out (by omega))
 replace X2:=Lh (ho.blk X2.out (by omega))
 replace X3:=Lh (ho.blk X3.out (by omega))
 replace HB:=Lh (OnlyAt.below ho HB.out (Nat.le_refl _) (by omega))
 replace X4:Hid (Blk v6 (gX4) #[.bool ny,.bool oy,.slice Ay ly ky] 65):=by rw [hv];exact X4.out.set3 _ _ _
 clear ho hn hv
 obtain ⟨qX0a,qX0b,qX0c,qX0d,qX0e⟩:=ic5 X0
 obtain ⟨qX2a,qX2b,qX2c⟩:=ic3 X2
 obtain ⟨qX3a,qX3b,qX3c⟩:=ic3 X3
 obtain ⟨qX4a,qX4b,qX4c⟩:=ic3 X4
 have HL:Hid (Below v6.heap.size v6 v6.drew):=(Below.refl _ _).drew
 refine wp_region_ghost' 34 (fun k=>match k with|2=>some (gBig (WI.of d))|5=>some (gBig (WI.of nb))|8=>some (gBig (WI.of a))|11=>some (gBig (WI.of d))|15=>some (gBig (WI.of nb))|17=>some (gBig zU)|20=>some (gBig (WI.of nb))|24=>some (gBig (WI.of a))|26=>some (gBig zV)|30=>some (gBig zZ)|33=>some (gBig zN)|_=>none) (fun k=>match k with|17=>[11,15]|26=>[20,24]|_=>[]) (by kernel_rfl) (by kernel_rfl) ?_;apply Ea;apply Ea;apply Eu;apply Ea;apply Ea;apply Eu;apply Ea;apply Ea;apply Eu;apply Ea;apply Ea;apply Eu;apply Ea;apply Ea;apply Ea;apply Eu;apply Ea;apply Eu;apply Ea;apply Ea;apply Eu;apply Ea;apply Ea;apply Ea;apply Eu;apply Ea;apply Eu;apply Ea;apply Ea;apply Ea;apply Eu;apply Ea;apply Ea;apply Eu;refine ⟨[],fun gg NN hN=>?_⟩;simp only [List.append_eq,List.cons_append,List.nil_append,List.take_succ_cons,List.take_zero,List.drop_succ_cons,List.drop_zero];(repeat (refine lexH_quiet rfl ?_;go_big_quiet_step (exact rfl);refine wpQuiet_nil ⟨?hd,?_⟩;(case hd=>exact rfl)));(refine lexH_ghost _ (by rfl) (by rfl) ?hex ?_;(case hex=>(intro px;refine ghost_call (fn:=88) (by go_simp;rfl) ?_;exact rbig_r _ K.out.2.2.2.2.1.1 K.out.2.2.2.2.1.2 _));simp only [Act.put,sb,sc,sz]);(repeat (refine lexH_quiet rfl ?_;go_big_quiet_step (exact rfl);refine wpQuiet_nil ⟨?hd,?_⟩;(case hd=>exact rfl)));(refine lexH_ghost _ (by rfl) (by rfl) ?hex ?_;(case hex=>(intro px;refine ghost_call (fn:=88) (by go_simp;rfl) ?_;exact rbig_r _ K.out.2.2.2.2.2.1 K.out.2.2.2.2.2.2 _));simp only [Act.put,sb,sc,sz]);(repeat (refine lexH_quiet rfl ?_;go_big_quiet_step (exact rfl);refine wpQuiet_nil ⟨?hd,?_⟩;(case hd=>exact rfl)));(refine lexH_ghost _ (by rfl) (by rfl) ?hex ?_;(case hex=>(intro px;refine ghost_call (fn:=88) (by go_simp;rfl) ?_;exact rbig_r _ K.out.2.2.1.1 K.out.2.2.1.2 _));simp only [Act.put,sb,sc,sz]);(repeat (refine lexH_quiet rfl ?_;go_big_quiet_step (exact rfl);refine wpQuiet_nil ⟨?hd,?_⟩;(case hd=>exact rfl)));(refine lexH_ghost _ (by rfl) (by rfl) ?hex ?_;(case hex=>(intro px;refine ghost_call (fn:=88) (by go_simp;rfl) ?_;exact rbig_r _ K.out.2.2.2.2.1.1 K.out.2.2.2.2.1.2 _));simp only [Act.put,sb,sc,sz]);(repeat (refine lexH_quiet rfl ?_;go_big_quiet_step (exact rfl);refine wpQuiet_nil ⟨?hd,?_⟩;(case hd=>exact rfl)));(refine lexH_ghost _ (by rfl) (by rfl) ?hex ?_;(case hex=>(intro px;refine ghost_call (fn:=88) (by go_simp;rfl) ?_;exact rbig_r _ K.out.2.2.2.2.2.1 K.out.2.2.2.2.2.2 _));simp only [Act.put,sb,sc,sz]);(refine lexH_quiet rfl ?_;go_big_quiet_step (exact rfl);refine wpQuiet_nil ⟨?hd,?_⟩;(case hd=>exact rfl));(refine lexH_ghost _ (by rfl) (by rfl) ?hex ?_;(case hex=>(intro px;refine ghost_call (fn:=89) (by go_simp;rfl) ?_;exact rdot_x _ _ _ _ _ _ _ _ _ _ HU (px.has 11 (hN 17 11 (by simp)) _ rfl) (Cx.out.below (inh_low HL.out px)) (px.has 15 (hN 17 15 (by simp)) _ rfl) (Cy.out.below (inh_low HL.out px))));simp only [Act.put,sb,sc,sz]);(repeat (refine lexH_quiet rfl ?_;go_big_quiet_step (exact rfl);refine wpQuiet_nil ⟨?hd,?_⟩;(case hd=>exact rfl)));(refine lexH_ghost _ (by rfl) (by rfl) ?hex ?_;(case hex=>(intro px;refine ghost_call (fn:=88) (by go_simp;rfl) ?_;exact rbig_r _ K.out.2.2.2.2.2.1 K.out.2.2.2.2.2.2 _));simp only [Act.put,sb,sc,sz]);(repeat (refine lexH_quiet rfl ?_;go_big_quiet_step (exact rfl);refine wpQuiet_nil ⟨?hd,?_⟩;(case hd=>exact rfl)));(refine lexH_ghost _ (by rfl) (by rfl) ?hex ?_;(case hex=>(intro px;refine ghost_call (fn:=88) (by go_simp;rfl) ?_;exact rbig_r _ K.out.2.2.1.1 K.out.2.2.1.2 _));simp only [Act.put,sb,sc,sz]);(refine lexH_quiet rfl ?_;go_big_quiet_step (exact rfl);refine wpQuiet_nil ⟨?hd,?_⟩;(case hd=>exact rfl));(refine lexH_ghost _ (by rfl) (by rfl) ?hex ?_;(case hex=>(intro px;refine ghost_call (fn:=89) (by go_simp;rfl) ?_;exact rdot_x _ _ _ _ _ _ _ _ _ _ HV (px.has 20 (hN 26 20 (by simp)) _ rfl) (Cx.out.below (inh_low HL.out px)) (px.has 24 (hN 26 24 (by simp)) _ rfl) (Cy.out.below (inh_low HL.out px))));simp only [Act.put,sb,sc,sz]);(repeat (refine lexH_quiet rfl ?_;go_big_quiet_step (exact rfl);refine wpQuiet_nil ⟨?hd,?_⟩;(case hd=>exact rfl)));(refine lexH_ghost _ (by rfl) (by rfl) ?hex ?_;(case hex=>(intro px;refine ghost_call (fn:=90) (by go_simp;rfl) ?_;exact quad_x d nb a x y zZ _ HZ K.out.2.2.2.2.1 K.out.2.2.2.2.2 K.out.2.2.1 K.out.1 K.out.2.1));simp only [Act.put,sb,sc,sz]);(repeat (refine lexH_quiet rfl ?_;go_big_quiet_step (exact rfl);refine wpQuiet_nil ⟨?hd,?_⟩;(case hd=>exact rfl)));(refine lexH_ghost _ (by rfl) (by rfl) ?hex ?_;(case hex=>(intro px;refine ghost_call (fn:=73) (by go_simp;rfl) ?_;exact matdet_x a b d zN _ HN K.out.2.2.1 K.out.2.2.2.1 K.out.2.2.2.2.1));simp only [Act.put,sb,sc,sz])
 refine lexH_nil ?_
 intro x7 hb' hh
 have hb:Below v6.heap.size v6 x7:=hb'
 clear hb' HL
 clear qX0a qX0b qX0c qX0d qX0e qX2a qX2b qX2c qX3a qX3b qX3c qX4a qX4b qX4c
 replace X0:=Kp X0 hb
 replace X1:=Kp X1 hb
 replace X2:=Kp X2 hb
 replace X3:=Kp X3 hb
 replace X4:=Kp X4 hb
 replace Cx:=Bp Cx hb
 replace Cy:=Bp Cy hb
 replace HB:=Tp HB hb
 clear hb
 obtain ⟨n0,o0,A0,l0,k0,e2,h0⟩:=(show BigIs x7 (gg 2) (WI.of d) from hh 2 _ (by decide) rfl).lettered
 have C0:=Lh h0
 rw [e2]
 clear h0 e2
 obtain ⟨n1,o1,A1,l1,k1,e5,h1⟩:=(show BigIs x7 (gg 5) (WI.of nb) from hh 5 _ (by decide) rfl).lettered
 have C1:=Lh h1
 rw [e5]
 clear h1 e5
 obtain ⟨n2,o2,A2,l2,k2,e8,h2⟩:=(show BigIs x7 (gg 8) (WI.of a) from hh 8 _ (by decide) rfl).lettered
 have C2:=Lh h2
 rw [e8]
 clear h2 e8
 obtain ⟨n3,o3,A3,l3,k3,e17,h3⟩:=(show BigIs x7 (gg 17) zU from hh 17 _ (by decide) rfl).lettered
 have C3:=Lh h3
 rw [e17]
 clear h3 e17
 obtain ⟨n4,o4,A4,l4,k4,e26,h4⟩:=(show BigIs x7 (gg 26) zV from hh 26 _ (by decide) rfl).lettered
 have C4:=Lh h4
 rw [e26]
 clear h4 e26
 obtain ⟨n5,o5,A5,l5,k5,e30,h5⟩:=(show BigIs x7 (gg 30) zZ from hh 30 _ (by decide) rfl).lettered
 have C5:=Lh h5
 rw [e30]
 clear h5 e30
 obtain ⟨n6,o6,A6,l6,k6,e33,h6⟩:=(show BigIs x7 (gg 33) zN from hh 33 _ (by decide) rfl).lettered
 have C6:=Lh h6
 rw [e33]
 clear h6 e33
 clear hh
 obtain ⟨qX1a,qX1b,qX1c,qX1d,qX1e,qX1f,qX1g,qX1h,qX1i,qX1j,qX1k,qX1l,qX1m,qX1n,qX1o,qX1p,qX1q,qX1r,qX1s,qX1t,qX1u⟩:=cl21 X1
 have rl_X1:=X1.out.lt
 have fz_X1:=X1.out.frozen
 have ft_X1:=X1.out.fits 21 (by simp)
 obtain ⟨IC,hIC⟩:∃ c:Array Value,#[.bool n0,.bool o0,.slice A0 l0 k0,.bool n1,.bool o1,.slice A1 l1 k1,.bool n2,.bool o2,.slice A2 l2 k2,.bool n3,.bool o3,.slice A3 l3 k3,.bool n4,.bool o4,.slice A4 l4 k4,.bool n5,.bool o5,.slice A5 l5 k5,.bool n6,.bool o6,.slice A6 l6 k6]=c:=⟨_,rfl⟩
 have hbl:∀ w,bldI Tryz.prog 67 #[(0,(.agg #[.bool n0,.bool o0,.slice A0 l0 k0])),(1,(.agg #[.bool n1,.bool o1,.slice A1 l1 k1])),(2,(.agg #[.bool n2,.bool o2,.slice A2 l2 k2])),(3,(.agg #[.bool n3,.bool o3,.slice A3 l3 k3])),(4,(.agg #[.bool n4,.bool o4,.slice A4 l4 k4])),(5,(.agg #[.bool n5,.bool o5,.slice A5 l5 k5])),(6,(.agg #[.bool n6,.bool o6,.slice A6 l6 k6]))] w = .ok (.agg IC) w:=fun w=>by rw [← hIC];exact bldI7_run _ _ _ _ _ _ _ _ _ _ _ _ _ _ _ _ _ _ _ _ _ _ _ _ _ _ _ _ _ _ _ _ _ _ _ w
 have s21:IC.size=21:=by rw [← hIC];rfl
 have o21:ones IC=true:=by rw [← hIC];simp [ones,Value.oneCell']
 have pt:=X1.out.put? 0 IC (by rw [s21];exact Nat.le_refl _) o21
 have HIC:Hid (#[.bool n0,.bool o0,.slice A0 l0 k0,.bool n1,.bool o1,.slice A1 l1 k1,.bool n2,.bool o2,.slice A2 l2 k2,.bool n3,.bool o3,.slice A3 l3 k3,.bool n4,.bool o4,.slice A4 l4 k4,.bool n5,.bool o5,.slice A5 l5 k5,.bool n6,.bool o6,.slice A6 l6 k6]=IC):=hIC
 clear hIC
 go_wp2_with fail
 clear qX1a qX1b qX1c qX1d qX1e qX1f qX1g qX1h qX1i qX1j qX1k qX1l qX1m qX1n qX1o qX1p qX1q qX1r qX1s qX1t qX1u rl_X1 fz_X1 ft_X1 pt hbl o21
 obtain ⟨v8,hv⟩:∃ v,v=x7.putRow (w.heap.size+1) 0 IC:=⟨_,rfl⟩
 rw [← hv]
 have ho:OnlyAt (w.heap.size+1) x7 v8:=by rw [hv];exact OnlyAt.refl.putRow 0 IC
 have hn:=hv
 replace Cx:=Lh (Cx.out.only ho X1.out (info_no _ _ _ _ _ _ _ _ _ _ _ _ _ _ _ _ _ _ _ _ _ _ _ _ _ _ _ _ _ _ _ _ _ _ _))
 replace Cy:=Lh (Cy.out.only ho X1.out (info_no _ _ _ _ _ _ _ _ _ _ _ _ _ _ _ _ _ _ _ _ _ _ _ _ _ _ _ _ _ _ _ _ _ _ _))
 replace C0:=Lh (C0.out.only ho X1.out (info_no _ _ _ _ _ _ _ _ _ _ _ _ _ _ _ _ _ _ _ _ _ _ _ _ _ _ _ _ _ _ _ _ _ _ _))
 replace C1:=Lh (C1.out.only ho X1.out (info_no _ _ _ _ _ _ _ _ _ _ _ _ _ _ _ _ _ _ _ _ _ _ _ _ _ _ _ _ _ _ _ _ _ _ _))
 replace C2:=Lh (C2.out.only ho X1.out (info_no _ _ _ _ _ _ _ _ _ _ _ _ _ _ _ _ _ _ _ _ _ _ _ _ _ _ _ _ _ _ _ _ _ _ _))
 replace C3:=Lh (C3.out.only ho X1.out (info_no _ _ _ _ _ _ _ _ _ _ _ _ _ _ _ _ _ _ _ _ _ _ _ _ _ _ _ _ _ _ _ _ _ _ _))
 replace C4:=Lh (C4.out.only ho X1.out (info_no _ _ _ _ _ _ _ _ _ _ _ _ _ _ _ _ _ _ _ _ _ _ _ _ _ _ _ _ _ _ _ _ _ _ _))
 replace C5:=Lh (C5.out.only ho X1.out (info_no _ _ _ _ _ _ _ _ _ _ _ _ _ _ _ _ _ _ _ _ _ _ _ _ _ _ _ _ _ _ _ _ _ _ _))
 replace C6:=Lh (C6.out.only ho X1.out (info_no _ _ _ _ _ _ _ _ _ _ _ _ _ _ _ _ _ _ _ _ _ _ _ _ _ _ _ _ _ _ _ _ _ _ _))
 replace X0:=Lh (ho.blk X0.out (by omega))
 replace X2:=Lh (ho.blk X2.out (by omega))
 replace X3:=Lh (ho.blk X3.out (by omega))
 replace X4:=Lh (ho.blk X4.out (by omega))
 replace HB:=Lh (OnlyAt.below ho HB.out (Nat.le_refl _) (by omega))
 replace X1:Hid (Blk v8 (w.heap.size+1) #[.bool n0,.bool o0,.slice A0 l0 k0,.bool n1,.bool o1,.slice A1 l1 k1,.bool n2,.bool o2,.slice A2 l2 k2,.bool n3,.bool o3,.slice A3 l3 k3,.bool n4,.bool o4,.slice A4 l4 k4,.bool n5,.bool o5,.slice A5 l5 k5,.bool n6,.bool o6,.slice A6 l6 k6] 67):=by rw [hv,← HIC.out];exact (X1.out.over (d:=#[.bool n0,.bool o0,.slice A0 l0 k0,.bool n1,.bool o1,.slice A1 l1 k1,.bool n2,.bool o2,.slice A2 l2 k2,.bool n3,.bool o3,.slice A3 l3 k3,.bool n4,.bool o4,.slice A4 l4 k4,.bool n5,.bool o5,.slice A5 l5 k5,.bool n6,.bool o6,.slice A6 l6 k6]) rfl)
 clear ho hn hv
 exact bodyPost_row_t 21 #[.bool n0,.bool o0,.slice A0 l0 k0,.bool n1,.bool o1,.slice A1 l1 k1,.bool n2,.bool o2,.slice A2 l2 k2,.bool n3,.bool o3,.slice A3 l3 k3,.bool n4,.bool o4,.slice A4 l4 k4,.bool n5,.bool o5,.slice A5 l5 k5,.bool n6,.bool o6,.slice A6 l6 k6] (.int .i64 0) rfl rfl rfl rfl Tryz.underlying67 rfl rinfo_info (X1.out.row?_all 21 rfl) ⟨⟨_,rfl,_,_,_,_,_,_,_,_,_,_,_,_,_,_,_,_,_,_,_,_,_,_,_,_,_,_,_,_,_,_,_,_,_,_,_,rfl,C0.out,C1.out,C2.out,C3.out,C4.out,C5.out,C6.out⟩,HB.out⟩
theorem rof_c (x y a b d:Int) (w:World) :
  Calls Tryz.prog 32 #[elC x y a b d] w fun e w'=>(∃ v,e = .returned (.tuple #[v,.int .i64 (ofE ⟨x,y,a,b,d⟩).2])∧InfoQ w' v (ofE ⟨x,y,a,b,d⟩).1)∧Below w.heap.size w w':=by
 cases he:El.may ⟨x,y,a,b,d⟩ with
 | true =>
  have h:ofE ⟨x,y,a,b,d⟩=(ofEl ⟨x,y,a,b,d⟩,0):=by unfold ofE;rw [if_pos he]
  rw [h];show Calls _ _ _ _ fun e w'=>(∃ v,e = .returned (.tuple #[v,.int .i64 0])∧InfoQ w' v (ofEl ⟨x,y,a,b,d⟩))∧_
  exact rof_main x y a b d he w
 | false =>
  have h:ofE ⟨x,y,a,b,d⟩=(Iq.zero,1):=by unfold ofE;rw [he,if_neg (by decide)]
  rw [h];show Calls _ _ _ _ fun e w'=>(∃ v,e = .returned (.tuple #[v,.int .i64 1])∧InfoQ w' v Iq.zero)∧_
  have HE:=Lh he
  clear he h
  go_enter Tryz.func32,Tryz.ntmps32
  go_wp2_with fail
  obtain ⟨u0,hu0⟩:∃ u,u=((w).alloc (Obj.cells #[.int .i64 x,.int .i64 y,.int .i64 a,.int .i64 b,.int .i64 d] 27)).alloc (Obj.cells #[.bool false,.bool false,.slice none 0 0,.bool false,.bool false,.slice none 0 0,.bool false,.bool false,.slice none 0 0,.bool false,.bool false,.slice none 0 0,.bool false,.bool false,.slice none 0 0,.bool false,.bool false,.slice none 0 0,.bool false,.bool false,.slice none 0 0] 67):=⟨_,rfl⟩
  rw [← hu0]
  have HB:Hid (Below w.heap.size w u0):=by rw [hu0];show Below w.heap.size w _;exact below_byR
  have X0:Hid (Blk u0 (w.heap.size) #[.int .i64 x,.int .i64 y,.int .i64 a,.int .i64 b,.int .i64 d] 27):=by rw [hu0];exact (Blk.new' _ _ _ (by simp)).alloc _
  have X1:Hid (Blk u0 (w.heap.size+1) #[.bool false,.bool false,.slice none 0 0,.bool false,.bool false,.slice none 0 0,.bool false,.bool false,.slice none 0 0,.bool false,.bool false,.slice none 0 0,.bool false,.bool false,.slice none 0 0,.bool false,.bool false,.slice none 0 0,.bool false,.bool false,.slice none 0 0] 67):=by rw [hu0];exact Blk.new' _ _ _ (by simp)
  clear hu0
  refine Calls.mono (rmaye_v _ _ _ _ _ _ HE.out _) ?_
  rintro e x1 ⟨rfl,hb⟩
  replace X0:=Kp X0 hb
  replace X1:=Kp X1 hb
  replace HB:=Tp HB hb
  clear hb
  obtain ⟨qX1a,qX1b,qX1c,qX1d,qX1e,qX1f,qX1g,qX1h,qX1i,qX1j,qX1k,qX1l,qX1m,qX1n,qX1o,qX1p,qX1q,qX1r,qX1s,qX1t,qX1u⟩:=cl21 X1
  have rl_X1:=X1.out.lt
  have fz_X1:=X1.out.frozen
  have ft_X1:=X1.out.fits 21 (by simp)
  obtain ⟨IC,hIC⟩:∃ c:Array Value,#[.bool false,.bool false,.slice none 0 0,.bool false,.bool false,.slice none 0 0,.bool false,.bool false,.slice none 0 0,.bool false,.bool false,.slice none 0 0,.bool false,.bool false,.slice none 0 0,.bool false,.bool false,.slice none 0 0,.bool false,.bool false,.slice none 0 0]=c:=⟨_,rfl⟩
  have hbl:∀ w,bldI Tryz.prog 67 #[] w = .ok (.agg IC) w:=fun w=>by rw [← hIC];exact bldI0_run w
  have s21:IC.size=21:=by rw [← hIC];rfl
  have o21:ones IC=true:=by rw [← hIC];simp [ones,Value.oneCell']
  have pt:=X1.out.put? 0 IC (by rw [s21];exact Nat.le_refl _) o21
  have HIC:Hid (#[.bool false,.bool false,.slice none 0 0,.bool false,.bool false,.slice none 0 0,.bool false,.bool false,.slice none 0 0,.bool false,.bool false,.slice none 0 0,.bool false,.bool false,.slice none 0 0,.bool false,.bool false,.slice none 0 0,.bool false,.bool false,.slice none 0 0]=IC):=hIC
  clear hIC
  go_wp2_with fail
  clear qX1a qX1b qX1c qX1d qX1e qX1f qX1g qX1h qX1i qX1j qX1k qX1l qX1m qX1n qX1o qX1p qX1q qX1r qX1s qX1t qX1u rl_X1 fz_X1 ft_X1 pt hbl o21
  obtain ⟨v2,hv⟩:∃ v,v=x1.putRow (w.heap.size+1) 0 IC:=⟨_,rfl⟩
  rw [← hv]
  have ho:OnlyAt (w.heap.size+1) x1 v2:=by rw [hv];exact OnlyAt.refl.putRow 0 IC
  have hn:=hv
  replace X0:=Lh (ho.blk X0.out (by omega))
  replace HB:=Lh (OnlyAt.below ho HB.out (Nat.le_refl _) (by omega))
  replace X1:Hid (Blk v2 (w.heap.size+1) #[.bool false,.bool false,.slice none 0 0,.bool false,.bool false,.slice none 0 0,.bool false,.bool false,.slice none 0 0,.bool false,.bool false,.slice none 0 0,.bool false,.bool false,.slice none 0 0,.bool false,.bool false,.slice none 0 0,.bool false,.bool false,.slice none 0 0] 67):=by rw [hv,← HIC.out];exact (X1.out.over (d:=#[.bool false,.bool false,.slice none 0 0,.bool false,.bool false,.slice none 0 0,.bool false,.bool false,.slice none 0 0,.bool false,.bool false,.slice none 0 0,.bool false,.bool false,.slice none 0 0,.bool false,.bool false,.slice none 0 0,.bool false,.bool false,.slice none 0 0]) rfl)
  clear ho hn hv
  exact bodyPost_row_t 21 #[.bool false,.bool false,.slice none 0 0,.bool false,.bool false,.slice none 0 0,.bool false,.bool false,.slice none 0 0,.bool false,.bool false,.slice none 0 0,.bool false,.bool false,.slice none 0 0,.bool false,.bool false,.slice none 0 0,.bool false,.bool false,.slice none 0 0] (.int .i64 1) rfl rfl rfl rfl Tryz.underlying67 rfl rinfo_info (X1.out.row?_all 21 rfl) ⟨⟨_,rfl,zeroInfo _⟩,HB.out⟩
end Go.Proofs.YtilginoibhfeiaaGreat
