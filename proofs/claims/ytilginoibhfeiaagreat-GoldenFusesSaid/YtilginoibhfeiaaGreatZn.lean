/- Laws. -/
import Derived.Test.YtilginoibhfeiaaGreatZ3
import Derived.Test.YtilginoibhfeiaaGreatZk
import Derived.Test.YtilginoibhfeiaaGreatY3
set_option maxRecDepth 100000
set_option maxHeartbeats 16000000
namespace Go.Proofs.YtilginoibhfeiaaGreat
open Go.RowKit
theorem rgcut_c (x y a b d sa sb sc sd sl sh:Int) (w:World) :
  Calls Tryz.prog 54 #[elC x y a b d,stC sa sb sc sd sl sh] w fun e w'=>e = .returned (.tuple #[elV (gcutE ⟨x,y,a,b,d⟩ ⟨sa,sb,sc,sd,sl,sh⟩).1,.int .i64 (gcutE ⟨x,y,a,b,d⟩ ⟨sa,sb,sc,sd,sl,sh⟩).2])∧Below w.heap.size w w':=by
 obtain ⟨ma,hma⟩:∃ m,El.may ⟨x,y,a,b,d⟩=m:=⟨_,rfl⟩
 obtain ⟨mb,hmb⟩:∃ m,St.may ⟨sa,sb,sc,sd,sl,sh⟩=m:=⟨_,rfl⟩
 have MA:=Lh hma
 have MB:=Lh hmb
 cases ma with
 | false =>
  have EV:Hid (gcutE ⟨x,y,a,b,d⟩ ⟨sa,sb,sc,sd,sl,sh⟩=(El.zero,1)):=by show _=_;unfold gcutE;rw [if_neg];rintro ⟨h1,h2⟩;rw [hma] at h1;cases h1
  clear hma hmb
  go_enter Tryz.func54,Tryz.ntmps54
  go_wp2_with fail
  obtain ⟨u0,hu0⟩:∃ u,u=(((w).alloc (Obj.cells #[.int .i64 x,.int .i64 y,.int .i64 a,.int .i64 b,.int .i64 d] 27)).alloc (Obj.cells #[.int .i64 sa,.int .i64 sb,.int .i64 sc,.int .i64 sd,.int .i64 sl,.int .i64 sh] 39)).alloc (Obj.cells #[.int .i64 0,.int .i64 0,.int .i64 0,.int .i64 0,.int .i64 0] 27):=⟨_,rfl⟩
  rw [← hu0]
  have HB:Hid (Below w.heap.size w u0):=by rw [hu0];show Below w.heap.size w _;exact below_byR
  have X0:Hid (Blk u0 (w.heap.size) #[.int .i64 x,.int .i64 y,.int .i64 a,.int .i64 b,.int .i64 d] 27):=by rw [hu0];exact ((Blk.new' _ _ _ (by simp)).alloc _).alloc _
  have X1:Hid (Blk u0 (w.heap.size+1) #[.int .i64 sa,.int .i64 sb,.int .i64 sc,.int .i64 sd,.int .i64 sl,.int .i64 sh] 39):=by rw [hu0];exact (Blk.new' _ _ _ (by simp)).alloc _
  have X2:Hid (Blk u0 (w.heap.size+1+1) #[.int .i64 0,.int .i64 0,.int .i64 0,.int .i64 0,.int .i64 0] 27):=by rw [hu0];exact Blk.new' _ _ _ (by simp)
  clear hu0
  refine Calls.mono (rmaye_v _ _ _ _ _ _ MA.out _) ?_
  rintro e x1 ⟨rfl,hb⟩
  replace X0:=Kp X0 hb
  replace X1:=Kp X1 hb
  replace X2:=Kp X2 hb
  replace HB:=Tp HB hb
  clear hb
  obtain ⟨qX2a,qX2b,qX2c,qX2d,qX2e⟩:=cl5 X2
  have rl_X2:=X2.out.lt
  have fz_X2:=X2.out.frozen
  have ft_X2:=X2.out.fits 5 (by simp)
  go_wp2_with fail
  exact bodyPost_row_t 5 #[.int .i64 0,.int .i64 0,.int .i64 0,.int .i64 0,.int .i64 0] (.int .i64 1) rfl rfl rfl rfl Tryz.underlying27 rfl (by kernel_rfl) (rc5 (by go_simp) (by go_simp) (by go_simp) (by go_simp) (by go_simp)) ⟨by rw [EV.out] <;> rfl,below_byR⟩
 | true =>
  cases mb with
  | false =>
   have EV:Hid (gcutE ⟨x,y,a,b,d⟩ ⟨sa,sb,sc,sd,sl,sh⟩=(El.zero,1)):=by show _=_;unfold gcutE;rw [if_neg];rintro ⟨h1,h2⟩;rw [hmb] at h2;cases h2
   clear hma hmb
   go_enter Tryz.func54,Tryz.ntmps54
   go_wp2_with fail
   obtain ⟨u0,hu0⟩:∃ u,u=(((w).alloc (Obj.cells #[.int .i64 x,.int .i64 y,.int .i64 a,.int .i64 b,.int .i64 d] 27)).alloc (Obj.cells #[.int .i64 sa,.int .i64 sb,.int .i64 sc,.int .i64 sd,.int .i64 sl,.int .i64 sh] 39)).alloc (Obj.cells #[.int .i64 0,.int .i64 0,.int .i64 0,.int .i64 0,.int .i64 0] 27):=⟨_,rfl⟩
   rw [← hu0]
   have HB:Hid (Below w.heap.size w u0):=by rw [hu0];show Below w.heap.size w _;exact below_byR
   have X0:Hid (Blk u0 (w.heap.size) #[.int .i64 x,.int .i64 y,.int .i64 a,.int .i64 b,.int .i64 d] 27):=by rw [hu0];exact ((Blk.new' _ _ _ (by simp)).alloc _).alloc _
   have X1:Hid (Blk u0 (w.heap.size+1) #[.int .i64 sa,.int .i64 sb,.int .i64 sc,.int .i64 sd,.int .i64 sl,.int .i64 sh] 39):=by rw [hu0];exact (Blk.new' _ _ _ (by simp)).alloc _
   have X2:Hid (Blk u0 (w.heap.size+1+1) #[.int .i64 0,.int .i64 0,.int .i64 0,.int .i64 0,.int .i64 0] 27):=by rw [hu0];exact Blk.new' _ _ _ (by simp)
   clear hu0
   refine Calls.mono (rmaye_v _ _ _ _ _ _ MA.out _) ?_
   rintro e x1 ⟨rfl,hb⟩
   replace X0:=Kp X0 hb
   replace X1:=Kp X1 hb
   replace X2:=Kp X2 hb
   replace HB:=Tp HB hb
   clear hb
   obtain ⟨qX1a,qX1b,qX1c,qX1d,qX1e,qX1f⟩:=cl6 X1
   have rl_X1:=X1.out.lt
   go_wp2_with fail
   clear qX1a qX1b qX1c qX1d qX1e qX1f rl_X1
   refine Calls.mono (rmaystrip_v _ _ _ _ _ _ _ MB.out _) ?_
   rintro e x2 ⟨rfl,hb⟩
   replace X0:=Kp X0 hb
   replace X1:=Kp X1 hb
   replace X2:=Kp X2 hb
   replace HB:=Tp HB hb
   clear hb
   obtain ⟨qX2a,qX2b,qX2c,qX2d,qX2e⟩:=cl5 X2
   have rl_X2:=X2.out.lt
   have fz_X2:=X2.out.frozen
   have ft_X2:=X2.out.fits 5 (by simp)
   go_wp2_with fail
   exact bodyPost_row_t 5 #[.int .i64 0,.int .i64 0,.int .i64 0,.int .i64 0,.int .i64 0] (.int .i64 1) rfl rfl rfl rfl Tryz.underlying27 rfl (by kernel_rfl) (rc5 (by go_simp) (by go_simp) (by go_simp) (by go_simp) (by go_simp)) ⟨by rw [EV.out] <;> rfl,below_byR⟩
  | true =>
   have E0:gcutE ⟨x,y,a,b,d⟩ ⟨sa,sb,sc,sd,sl,sh⟩=if emptyB (cutE ⟨x,y,a,b,d⟩ ⟨sa,sb,sc,sd,sl,sh⟩) (gfin (ovV (cutE ⟨x,y,a,b,d⟩ ⟨sa,sb,sc,sd,sl,sh⟩))).asked=true then (El.zero,3) else (([]:List El).foldl pick (outE (cutE ⟨x,y,a,b,d⟩ ⟨sa,sb,sc,sd,sl,sh⟩) (gfin (ovV (cutE ⟨x,y,a,b,d⟩ ⟨sa,sb,sc,sd,sl,sh⟩))) ⟨x,y,a,b,d⟩),0):=by unfold gcutE;rw [if_pos ⟨hma,hmb⟩,found_out]
   obtain ⟨em,hem⟩:∃ m,emptyB (cutE ⟨x,y,a,b,d⟩ ⟨sa,sb,sc,sd,sl,sh⟩) (gfin (ovV (cutE ⟨x,y,a,b,d⟩ ⟨sa,sb,sc,sd,sl,sh⟩))).asked=m:=⟨_,rfl⟩
   obtain ⟨⟨px,py,pa,pb,pd⟩,hp⟩:∃ p,atZ (cutE ⟨x,y,a,b,d⟩ ⟨sa,sb,sc,sd,sl,sh⟩) (gfin (ovV (cutE ⟨x,y,a,b,d⟩ ⟨sa,sb,sc,sd,sl,sh⟩)))=p:=⟨_,rfl⟩
   obtain ⟨sw,hsw⟩:∃ k,(gfin (ovV (cutE ⟨x,y,a,b,d⟩ ⟨sa,sb,sc,sd,sl,sh⟩))).w=k:=⟨_,rfl⟩
   obtain ⟨sn,hsn⟩:∃ k,(gfin (ovV (cutE ⟨x,y,a,b,d⟩ ⟨sa,sb,sc,sd,sl,sh⟩))).n=k:=⟨_,rfl⟩
   obtain ⟨so,hso⟩:∃ k,(gfin (ovV (cutE ⟨x,y,a,b,d⟩ ⟨sa,sb,sc,sd,sl,sh⟩))).ok=k:=⟨_,rfl⟩
   obtain ⟨te,hte⟩:∃ t,El.tr ⟨x,y,a,b,d⟩=t:=⟨_,rfl⟩
   have HTE:=Lh hte
   have E1:outE (cutE ⟨x,y,a,b,d⟩ ⟨sa,sb,sc,sd,sl,sh⟩) (gfin (ovV (cutE ⟨x,y,a,b,d⟩ ⟨sa,sb,sc,sd,sl,sh⟩))) ⟨x,y,a,b,d⟩=if so=true∧sn<te then ⟨px,py,pa,pb,pd⟩ else ⟨x,y,a,b,d⟩:=by unfold outE;rw [hp,hsn,hso,hte]
   rw [E1,hem] at E0
   clear E1
   have EE:=Lh E0
   clear E0 hma hmb
   have M:∀ w0 u:World,Blk w0 w.heap.size #[.int .i64 x,.int .i64 y,.int .i64 a,.int .i64 b,.int .i64 d] 27→Blk w0 (w.heap.size+1) #[.int .i64 sa,.int .i64 sb,.int .i64 sc,.int .i64 sd,.int .i64 sl,.int .i64 sh] 39→RZ w0 w0.heap.size (.pointer (some ⟨w.heap.size,0,none⟩)) (.pointer none) (.pointer (some ⟨w.heap.size+1,0,none⟩)) (cutE ⟨x,y,a,b,d⟩ ⟨sa,sb,sc,sd,sl,sh⟩) ⟨[],0,0,false⟩ u→Calls Tryz.prog 124 #[.pointer (some ⟨w0.heap.size,0,none⟩)] u fun e w'=>e = .returned (.tuple #[.int .i64 sw,.int .i64 sn,.bool so])∧Below w0.heap.size w0 w'∧∃ v,Blk w' w0.heap.size #[.slice none 0 0,.pointer (some ⟨w.heap.size,0,none⟩),.pointer none,.pointer (some ⟨w.heap.size+1,0,none⟩),.bool em,v,.int .i64 sw,.int .i64 sn,.bool so,.int .i64 px,.int .i64 py,.int .i64 pa,.int .i64 pb,.int .i64 pd] 150:=by
    intro w0 u BE BF h
    refine (zbest_c w0 _ _ _ _ _ u (fun s k w hl h0 h1 h=>zaskS_c w0 _ _ _ _ _ _ _ _ _ _ _ _ _ _ s k w BE BF hl h) h).mono ?_
    rintro e w' ⟨he,h1,-,v,h2,-⟩
    unfold zcells at h2
    rw [hem,hp,hsw,hsn,hso] at h2
    rw [hsw,hsn,hso] at he
    exact ⟨he,h1,v,h2⟩
   have HM:=Lh M
   clear M hem hp hsw hsn hso hte
   go_enter Tryz.func54,Tryz.ntmps54
   go_wp2_with fail
   obtain ⟨u0,hu0⟩:∃ u,u=(((w).alloc (Obj.cells #[.int .i64 x,.int .i64 y,.int .i64 a,.int .i64 b,.int .i64 d] 27)).alloc (Obj.cells #[.int .i64 sa,.int .i64 sb,.int .i64 sc,.int .i64 sd,.int .i64 sl,.int .i64 sh] 39)).alloc (Obj.cells #[.int .i64 0,.int .i64 0,.int .i64 0,.int .i64 0,.int .i64 0] 27):=⟨_,rfl⟩
   rw [← hu0]
   have HB:Hid (Below w.heap.size w u0):=by rw [hu0];show Below w.heap.size w _;exact below_byR
   have X0:Hid (Blk u0 (w.heap.size) #[.int .i64 x,.int .i64 y,.int .i64 a,.int .i64 b,.int .i64 d] 27):=by rw [hu0];exact ((Blk.new' _ _ _ (by simp)).alloc _).alloc _
   have X1:Hid (Blk u0 (w.heap.size+1) #[.int .i64 sa,.int .i64 sb,.int .i64 sc,.int .i64 sd,.int .i64 sl,.int .i64 sh] 39):=by rw [hu0];exact (Blk.new' _ _ _ (by simp)).alloc _
   have X2:Hid (Blk u0 (w.heap.size+1+1) #[.int .i64 0,.int .i64 0,.int .i64 0,.int .i64 0,.int .i64 0] 27):=by rw [hu0];exact Blk.new' _ _ _ (by simp)
   clear hu0
   refine Calls.mono (rmaye_v _ _ _ _ _ _ MA.out _) ?_
   rintro e x1 ⟨rfl,hb⟩
   replace X0:=Kp X0 hb
   replace X1:=Kp X1 hb
   replace X2:=Kp X2 hb
   replace HB:=Tp HB hb
   clear hb
   obtain ⟨qX1a,qX1b,qX1c,qX1d,qX1e,qX1f⟩:=cl6 X1
   have rl_X1:=X1.out.lt
   go_wp2_with fail
   clear qX1a qX1b qX1c qX1d qX1e qX1f rl_X1
   refine Calls.mono (rmaystrip_v _ _ _ _ _ _ _ MB.out _) ?_
   rintro e x2 ⟨rfl,hb⟩
   replace X0:=Kp X0 hb
   replace X1:=Kp X1 hb
   replace X2:=Kp X2 hb
   replace HB:=Tp HB hb
   clear hb
   go_wp2_with fail
   obtain ⟨us,hu⟩:∃ u,u=x2.alloc (Obj.cells #[.slice none 0 0,.pointer (some ⟨w.heap.size,0,none⟩),.pointer none,.pointer (some ⟨w.heap.size+1,0,none⟩),.bool false,.slice none 0 0,.int .i64 0,.int .i64 0,.bool false,.int .i64 0,.int .i64 0,.int .i64 0,.int .i64 0,.int .i64 0] 150):=⟨_,rfl⟩
   rw [← hu]
   have R0:RZ x2 x2.heap.size (.pointer (some ⟨w.heap.size,0,none⟩)) (.pointer none) (.pointer (some ⟨w.heap.size+1,0,none⟩)) (cutE ⟨x,y,a,b,d⟩ ⟨sa,sb,sc,sd,sl,sh⟩) ⟨[],0,0,false⟩ us:=by rw [hu];exact ⟨(Below.refl _ _).alloc (Nat.le_refl _) _,Nat.le_refl _,.slice none 0 0,Blk.new _ _ _,⟨rfl,.inl ⟨rfl,rfl⟩⟩⟩
   clear hu
   refine (HM.out _ _ X0.out X1.out R0).mono ?_
   rintro e xs ⟨rfl,hb,v,SB⟩
   clear R0
   obtain ⟨gS,hgS⟩:∃ g,x2.heap.size=g:=⟨_,rfl⟩
   have gl0:w.heap.size<gS:=by rw [← hgS];exact X0.out.lt
   have gl1:w.heap.size+1<gS:=by rw [← hgS];exact X1.out.lt
   have gl2:w.heap.size+1+1<gS:=by rw [← hgS];exact X2.out.lt
   replace X0:=Kp X0 hb
   replace X1:=Kp X1 hb
   replace X2:=Kp X2 hb
   replace HB:=Tp HB hb
   clear hb
   rw [hgS] at SB ⊢
   replace SB:=Lh SB
   clear hgS
   cases em with
   | true =>
    have EV:Hid (gcutE ⟨x,y,a,b,d⟩ ⟨sa,sb,sc,sd,sl,sh⟩=(El.zero,3)):=by show _=_;rw [EE.out,if_pos rfl]
    have qSBe:=SB.out.cell (i:=4) (v := .bool true) rfl
    have rl_SB:=SB.out.lt
    obtain ⟨qX2a,qX2b,qX2c,qX2d,qX2e⟩:=cl5 X2
    have rl_X2:=X2.out.lt
    have fz_X2:=X2.out.frozen
    have ft_X2:=X2.out.fits 5 (by simp)
    go_wp2_with fail
    exact bodyPost_row_t 5 #[.int .i64 0,.int .i64 0,.int .i64 0,.int .i64 0,.int .i64 0] (.int .i64 3) rfl rfl rfl rfl Tryz.underlying27 rfl (by kernel_rfl) (rc5 (by go_simp) (by go_simp) (by go_simp) (by go_simp) (by go_simp)) ⟨by rw [EV.out] <;> rfl,below_byR⟩
   | false =>
    have VA:Hid (gcutE ⟨x,y,a,b,d⟩ ⟨sa,sb,sc,sd,sl,sh⟩=((if so=true∧sn<te then ⟨px,py,pa,pb,pd⟩ else ⟨x,y,a,b,d⟩),0)):=by show _=_;rw [EE.out,if_neg (by decide)];rfl
    cases so with
    | false =>
     have EV:Hid (gcutE ⟨x,y,a,b,d⟩ ⟨sa,sb,sc,sd,sl,sh⟩=(⟨x,y,a,b,d⟩,0)):=by show _=_;rw [VA.out];(repeat' split) <;> first|rfl|(exfalso;omega)|(exfalso;simp at *;done)|(exfalso;simp at *;omega)
     have qSBe:=SB.out.cell (i:=4) (v := .bool false) rfl
     have rl_SB:=SB.out.lt
     obtain ⟨qX0a,qX0b,qX0c,qX0d,qX0e⟩:=cl5 X0
     have rl_X0:=X0.out.lt
     obtain ⟨qX2a,qX2b,qX2c,qX2d,qX2e⟩:=cl5 X2
     have rl_X2:=X2.out.lt
     have fz_X2:=X2.out.frozen
     have ft_X2:=X2.out.fits 5 (by simp)
     go_wp2_with fail
     exact bodyPost_row_t 5 #[.int .i64 x,.int .i64 y,.int .i64 a,.int .i64 b,.int .i64 d] (.int .i64 0) rfl rfl rfl rfl Tryz.underlying27 rfl (by kernel_rfl) (rc5 (by go_simp) (by go_simp) (by go_simp) (by go_simp) (by go_simp)) ⟨by rw [EV.out] <;> rfl,below_byR⟩
    | true =>
     have qSBe:=SB.out.cell (i:=4) (v := .bool false) rfl
     have rl_SB:=SB.out.lt
     obtain ⟨qX0a,qX0b,qX0c,qX0d,qX0e⟩:=cl5 X0
     have rl_X0:=X0.out.lt
     go_wp2_with fail
     clear qSBe rl_SB qX0a qX0b qX0c qX0d qX0e rl_X0
     refine Calls.mono (rtrace_v _ _ _ _ _ _ HTE.out _) ?_
     rintro e x3 ⟨rfl,hb⟩
     replace X0:=Kp X0 hb
     replace X1:=Kp X1 hb
     replace X2:=Kp X2 hb
     replace SB:=Kp SB hb
     replace HB:=Tp HB hb
     clear hb
     by_cases hs:sn<te
     ·have hd0:decide (sn<te)=true:=by simp [hs]
      have EV:Hid (gcutE ⟨x,y,a,b,d⟩ ⟨sa,sb,sc,sd,sl,sh⟩=(⟨px,py,pa,pb,pd⟩,0)):=by show _=_;rw [VA.out];(repeat' split) <;> first|rfl|(exfalso;omega)|(exfalso;simp at *;done)|(exfalso;simp at *;omega)
      have qSBj:=SB.out.cell (i:=9) (v := .int .i64 px) rfl
      have qSBk:=SB.out.cell (i:=10) (v := .int .i64 py) rfl
      have qSBl:=SB.out.cell (i:=11) (v := .int .i64 pa) rfl
      have qSBm:=SB.out.cell (i:=12) (v := .int .i64 pb) rfl
      have qSBn:=SB.out.cell (i:=13) (v := .int .i64 pd) rfl
      have rl_SB:=SB.out.lt
      obtain ⟨qX2a,qX2b,qX2c,qX2d,qX2e⟩:=cl5 X2
      have rl_X2:=X2.out.lt
      have fz_X2:=X2.out.frozen
      have ft_X2:=X2.out.fits 5 (by simp)
      go_wp2_with fail
      exact bodyPost_row_t 5 #[.int .i64 px,.int .i64 py,.int .i64 pa,.int .i64 pb,.int .i64 pd] (.int .i64 0) rfl rfl rfl rfl Tryz.underlying27 rfl (by kernel_rfl) (rc5 (by go_simp) (by go_simp) (by go_simp) (by go_simp) (by go_simp)) ⟨by rw [EV.out] <;> rfl,below_byR⟩
     ·have hd0:decide (sn<te)=false:=by simp [hs]
      have EV:Hid (gcutE ⟨x,y,a,b,d⟩ ⟨sa,sb,sc,sd,sl,sh⟩=(⟨x,y,a,b,d⟩,0)):=by show _=_;rw [VA.out];(repeat' split) <;> first|rfl|(exfalso;omega)|(exfalso;simp at *;done)|(exfalso;simp at *;omega)
      obtain ⟨qX0a,qX0b,qX0c,qX0d,qX0e⟩:=cl5 X0
      have rl_X0:=X0.out.lt
      obtain ⟨qX2a,qX2b,qX2c,qX2d,qX2e⟩:=cl5 X2
      have rl_X2:=X2.out.lt
      have fz_X2:=X2.out.frozen
      have ft_X2:=X2.out.fits 5 (by simp)
      go_wp2_with fail
      exact bodyPost_row_t 5 #[.int .i64 x,.int .i64 y,.int .i64 a,.int .i64 b,.int .i64 d] (.int .i64 0) rfl rfl rfl rfl Tryz.underlying27 rfl (by kernel_rfl) (rc5 (by go_simp) (by go_simp) (by go_simp) (by go_simp) (by go_simp)) ⟨by rw [EV.out] <;> rfl,below_byR⟩
theorem rgcut_v (x y a b d sa sb sc sd sl sh ox oy oa ob od k:Int) (hv0:gcutE ⟨x,y,a,b,d⟩ ⟨sa,sb,sc,sd,sl,sh⟩=(⟨ox,oy,oa,ob,od⟩,k)) (w:World) :
  Calls Tryz.prog 54 #[elC x y a b d,stC sa sb sc sd sl sh] w fun e w'=>e = .returned (.tuple #[elC ox oy oa ob od,.int .i64 k])∧Below w.heap.size w w':=by
 have:=rgcut_c x y a b d sa sb sc sd sl sh w
 rw [hv0] at this;exact this
end Go.Proofs.YtilginoibhfeiaaGreat
