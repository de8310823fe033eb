/- Laws and walks that the claim names. -/
import Derived.Test.YtilginoibhfeiaaGreatRJ
import Derived.Test.YtilginoibhfeiaaGreatYl
import Derived.Test.YtilginoibhfeiaaGreatY2
import Derived.Test.YtilginoibhfeiaaGreatHX
import Derived.Test.YtilginoibhfeiaaGreatR18
set_option maxRecDepth 100000
set_option maxHeartbeats 16000000
namespace Go.Proofs.YtilginoibhfeiaaGreat
set_option linter.unusedSimpArgs false
open Go.RowKit
@[go_sem] theorem eqg_strY {P : Program} (op : BinOp) (t : TypeId) (x y : Operand) (l m : List UInt8) (w : World) : (eqGuard op t x y (str l) (str m)).run P w = .ok () w := by
  unfold eqGuard str;cases op <;> simp
@[go_sem] theorem eql_strY {P : Program} (t : TypeId) (l m : List UInt8) (w : World) : (binOp .eql t (str l) (str m)).run P w = .ok (.bool (l == m)) w := by
  simp only [binOp,str,Op.stringOp,bytes_toList,Sem.run_pure]
theorem same_c (z0 z1 z2 z3 z4 z5 z6:WI) (J:Value) (w:World) (hj:InfoIs w J z0 z1 z2 z3 z4 z5 z6) :
  Calls Tryz.prog 35 #[.agg (blk [z0,z1,z2,z3,z4,z5,z6]),J] w fun e w'=>e = .returned (.bool true)∧Below w.heap.size w w':=by
 obtain ⟨n0,o0,A0,l0,k0,n1,o1,A1,l1,k1,n2,o2,A2,l2,k2,n3,o3,A3,l3,k3,n4,o4,A4,l4,k4,n5,o5,A5,l5,k5,n6,o6,A6,l6,k6,rfl,h0,h1,h2,h3,h4,h5,h6⟩:=hj
 have C0:=Lh h0
 have C1:=Lh h1
 have C2:=Lh h2
 have C3:=Lh h3
 have C4:=Lh h4
 have C5:=Lh h5
 have C6:=Lh h6
 clear h0 h1 h2 h3 h4 h5 h6
 go_enter Tryz.func35,Tryz.ntmps35
 go_wp2_with fail
 obtain ⟨u0,hu0⟩:∃ u,u=(w.alloc (Obj.cells (blk [z0,z1,z2,z3,z4,z5,z6]) 60)).alloc (Obj.cells #[.bool n0,.bool o0,.slice A0 l0 k0,.bool n1,.bool o1,.slice A1 l1 k1,.bool n2,.bool o2,.slice A2 l2 k2,.bool n3,.bool o3,.slice A3 l3 k3,.bool n4,.bool o4,.slice A4 l4 k4,.bool n5,.bool o5,.slice A5 l5 k5,.bool n6,.bool o6,.slice A6 l6 k6] 67):=⟨_,rfl⟩
 rw [← hu0]
 have HB:Hid (Below w.heap.size w u0):=by rw [hu0];show Below w.heap.size w _;exact below_byR
 have HI:Hid (Blk u0 w.heap.size (blk [z0,z1,z2,z3,z4,z5,z6]) 60):=by rw [hu0];exact (Blk.new _ _ _).alloc _
 have X1:Hid (Blk u0 (w.heap.size+1) #[.bool n0,.bool o0,.slice A0 l0 k0,.bool n1,.bool o1,.slice A1 l1 k1,.bool n2,.bool o2,.slice A2 l2 k2,.bool n3,.bool o3,.slice A3 l3 k3,.bool n4,.bool o4,.slice A4 l4 k4,.bool n5,.bool o5,.slice A5 l5 k5,.bool n6,.bool o6,.slice A6 l6 k6] 67):=by rw [hu0];exact Blk.new' _ _ _ (by simp)
 replace C0:=Lh (C0.out.below (show Below w.heap.size w u0 from HB.out))
 replace C1:=Lh (C1.out.below (show Below w.heap.size w u0 from HB.out))
 replace C2:=Lh (C2.out.below (show Below w.heap.size w u0 from HB.out))
 replace C3:=Lh (C3.out.below (show Below w.heap.size w u0 from HB.out))
 replace C4:=Lh (C4.out.below (show Below w.heap.size w u0 from HB.out))
 replace C5:=Lh (C5.out.below (show Below w.heap.size w u0 from HB.out))
 replace C6:=Lh (C6.out.below (show Below w.heap.size w u0 from HB.out))
 clear hu0
 have i0:=@inh_row _ _ _ _ _ ((HI.out.row? 0 18 (by simp)).trans (congrArg some (blk_x0 _ _)))
 have b0:(txt z0.v==txt z0.v)=true:=by simp
 have i1:=@inh_row _ _ _ _ _ ((HI.out.row? 18 18 (by simp)).trans (congrArg some (blk_x1 _ _ _)))
 have b1:(txt z1.v==txt z1.v)=true:=by simp
 have i2:=@inh_row _ _ _ _ _ ((HI.out.row? 36 18 (by simp)).trans (congrArg some (blk_x2 _ _ _ _)))
 have b2:(txt z2.v==txt z2.v)=true:=by simp
 have i3:=@inh_row _ _ _ _ _ ((HI.out.row? 54 18 (by simp)).trans (congrArg some (blk_x3 _ _ _ _ _)))
 have b3:(txt z3.v==txt z3.v)=true:=by simp
 have i4:=@inh_row _ _ _ _ _ ((HI.out.row? 72 18 (by simp)).trans (congrArg some (blk_x4 _ _ _ _ _ _)))
 have b4:(txt z4.v==txt z4.v)=true:=by simp
 have i5:=@inh_row _ _ _ _ _ ((HI.out.row? 90 18 (by simp)).trans (congrArg some (blk_x5 _ _ _ _ _ _ _)))
 have b5:(txt z5.v==txt z5.v)=true:=by simp
 have i6:=@inh_row _ _ _ _ _ ((HI.out.row? 108 18 (by simp)).trans (congrArg some (blk_x6 _ _ _ _ _ _ _ _)))
 have b6:(txt z6.v==txt z6.v)=true:=by simp
 obtain ⟨qX1a,qX1b,qX1c,qX1d,qX1e,qX1f,qX1g,qX1h,qX1i,qX1j,qX1k,qX1l,qX1m,qX1n,qX1o,qX1p,qX1q,qX1r,qX1s,qX1t,qX1u⟩:=ic21 X1
 have HL:Hid (Below u0.heap.size u0 u0.drew):=(Below.refl _ _).drew
 refine wp_region_ghost' 62 (fun _=>none) (fun _=>[]) (by kernel_rfl) (by kernel_rfl) ?_;apply Ea;apply Ea;apply Ea;apply Ea;apply Ea;apply Ea;apply Ea;apply Ea;apply Ea;apply Ea;apply Ea;apply Ea;apply Ea;apply Ea;apply Ea;apply Ea;apply Ea;apply Ea;apply Ea;apply Ea;apply Ea;apply Ea;apply Ea;apply Ea;apply Ea;apply Ea;apply Ea;apply Ea;apply Ea;apply Ea;apply Ea;apply Ea;apply Ea;apply Ea;apply Ea;apply Ea;apply Ea;apply Ea;apply Ea;apply Ea;apply Ea;apply Ea;apply Ea;apply Ea;apply Ea;apply Ea;apply Ea;apply Ea;apply Ea;apply Ea;apply Ea;apply Ea;apply Ea;apply Ea;apply Ea;apply Ea;apply Ea;apply Ea;apply Ea;apply Ea;apply Ea;apply Ea;refine ⟨[],fun gg NN hN=>?_⟩;simp only [List.append_eq,List.cons_append,List.nil_append,List.take_succ_cons,List.take_zero,List.drop_succ_cons,List.drop_zero];(repeat (refine lexH_quiet rfl ?_;go_big_quiet_step (first|exact rfl|((first|(go_at_call 94;exact calls_inh (text_I _ _))|(rename_i px;go_at_call 95;exact calls_inh (text_r _ _ _ (by first|with_reducible exact (C0.out.below (inh_low HL.out px))|with_reducible exact (C1.out.below (inh_low HL.out px))|with_reducible exact (C2.out.below (inh_low HL.out px))|with_reducible exact (C3.out.below (inh_low HL.out px))|with_reducible exact (C4.out.below (inh_low HL.out px))|with_reducible exact (C5.out.below (inh_low HL.out px))|with_reducible exact (C6.out.below (inh_low HL.out px))))))));refine wpQuiet_nil ⟨?hd,?_⟩;(case hd=>exact rfl)))
 refine lexH_nil ?_
 intro x1 hb' hh
 have hb:Below u0.heap.size u0 x1:=hb'
 clear hb' HL
 clear qX1a qX1b qX1c qX1d qX1e qX1f qX1g qX1h qX1i qX1j qX1k qX1l qX1m qX1n qX1o qX1p qX1q qX1r qX1s qX1t qX1u
 replace X1:=Kp X1 hb
 replace C0:=Bp C0 hb
 replace C1:=Bp C1 hb
 replace C2:=Bp C2 hb
 replace C3:=Bp C3 hb
 replace C4:=Bp C4 hb
 replace C5:=Bp C5 hb
 replace C6:=Bp C6 hb
 replace HB:=Tp HB hb
 clear hb
 refine wpList_nil ?_
 clear hh i0 i1 i2 i3 i4 i5 i6
 go_wp2_with fail
 go_ret
 exact ⟨rfl,HB.out⟩
end Go.Proofs.YtilginoibhfeiaaGreat
