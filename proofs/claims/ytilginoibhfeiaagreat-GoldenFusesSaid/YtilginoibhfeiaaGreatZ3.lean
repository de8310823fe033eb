/- Laws. -/
import Derived.Test.YtilginoibhfeiaaGreatZ2
import Derived.Lib.QuietBelow
set_option maxRecDepth 100000
set_option maxHeartbeats 16000000
namespace Go.Proofs.YtilginoibhfeiaaGreat
open Go.RowKit
def outE (O:Int→El × Int) (s:GS) (e:El):El:=if s.ok=true∧s.n<e.tr then atZ O s else e
theorem found_out (e:El) (O:Int→El × Int) (more:List El):foundE e O more=if emptyB O (gfin (ovV O)).asked=true then (El.zero,3) else (more.foldl pick (outE O (gfin (ovV O)) e),0):=by
 obtain ⟨hI,-,-⟩:=gfin_inv (ovV O)
 unfold foundE cands outE atZ
 have pe:pick e e=e:=by unfold pick;rw [if_neg (by omega)]
 cases ho:(gfin (ovV O)).ok with
 | false=>simp [pe]
 | true =>
  have hb:=(hI.best ho).2
  have hn:(O (gfin (ovV O)).w).1.tr=(gfin (ovV O)).n:=congrArg Prod.fst hb
  simp [pe]
  rw [← hn]
  rfl
theorem rgfuse_c (x y a b d x' y' a' b' d':Int) (w:World) :
  Calls Tryz.prog 52 #[elC x y a b d,elC x' y' a' b' d'] w fun e w'=>e = .returned (.tuple #[elV (gfuseE ⟨x,y,a,b,d⟩ ⟨x',y',a',b',d'⟩).1,.int .i64 (gfuseE ⟨x,y,a,b,d⟩ ⟨x',y',a',b',d'⟩).2])∧Below w.heap.size w w':=by
 obtain ⟨ma,hma⟩:∃ m,El.may ⟨x,y,a,b,d⟩=m:=⟨_,rfl⟩
 obtain ⟨mb,hmb⟩:∃ m,El.may ⟨x',y',a',b',d'⟩=m:=⟨_,rfl⟩
 have MA:=Lh hma
 have MB:=Lh hmb
 cases ma with
 | false =>
  have EV:Hid (gfuseE ⟨x,y,a,b,d⟩ ⟨x',y',a',b',d'⟩=(El.zero,1)):=by show _=_;unfold gfuseE;rw [if_neg];rintro ⟨h1,h2⟩;rw [hma] at h1;cases h1
  clear hma hmb
  go_enter Tryz.func52,Tryz.ntmps52
  go_wp2_with fail
  obtain ⟨u0,hu0⟩:∃ u,u=(((w).alloc (Obj.cells #[.int .i64 x,.int .i64 y,.int .i64 a,.int .i64 b,.int .i64 d] 27)).alloc (Obj.cells #[.int .i64 x',.int .i64 y',.int .i64 a',.int .i64 b',.int .i64 d'] 27)).alloc (Obj.cells #[.int .i64 0,.int .i64 0,.int .i64 0,.int .i64 0,.int .i64 0] 27):=⟨_,rfl⟩
  rw [← hu0]
  have HB:Hid (Below w.heap.size w u0):=by rw [hu0];show Below w.heap.size w _;exact below_byR
  have X0:Hid (Blk u0 (w.heap.size) #[.int .i64 x,.int .i64 y,.int .i64 a,.int .i64 b,.int .i64 d] 27):=by rw [hu0];exact ((Blk.new' _ _ _ (by simp)).alloc _).alloc _
  have X1:Hid (Blk u0 (w.heap.size+1) #[.int .i64 x',.int .i64 y',.int .i64 a',.int .i64 b',.int .i64 d'] 27):=by rw [hu0];exact (Blk.new' _ _ _ (by simp)).alloc _
  have X2:Hid (Blk u0 (w.heap.size+1+1) #[.int .i64 0,.int .i64 0,.int .i64 0,.int .i64 0,.int .i64 0] 27):=by rw [hu0];exact Blk.new' _ _ _ (by simp)
  clear hu0
  refine Calls.mono (rmaye_v _ _ _ _ _ _ MA.out _) ?_
  rintro e x1 ⟨rfl,hb⟩
  replace X0:=Kp X0 hb
  replace X1:=Kp X1 hb
  replace X2:=Kp X2 hb
  replace HB:=Tp HB hb
  clear hb
  obtain ⟨qX2a,qX2b,qX2c,qX2d,qX2e⟩:=cl5 X2
  have rl_X2:=X2.out.lt
  have fz_X2:=X2.out.frozen
  have ft_X2:=X2.out.fits 5 (by simp)
  go_wp2_with fail
  exact bodyPost_row_t 5 #[.int .i64 0,.int .i64 0,.int .i64 0,.int .i64 0,.int .i64 0] (.int .i64 1) rfl rfl rfl rfl Tryz.underlying27 rfl (by kernel_rfl) (rc5 (by go_simp) (by go_simp) (by go_simp) (by go_simp) (by go_simp)) ⟨by rw [EV.out] <;> rfl,below_byR⟩
 | true =>
  cases mb with
  | false =>
   have EV:Hid (gfuseE ⟨x,y,a,b,d⟩ ⟨x',y',a',b',d'⟩=(El.zero,1)):=by show _=_;unfold gfuseE;rw [if_neg];rintro ⟨h1,h2⟩;rw [hmb] at h2;cases h2
   clear hma hmb
   go_enter Tryz.func52,Tryz.ntmps52
   go_wp2_with fail
   obtain ⟨u0,hu0⟩:∃ u,u=(((w).alloc (Obj.cells #[.int .i64 x,.int .i64 y,.int .i64 a,.int .i64 b,.int .i64 d] 27)).alloc (Obj.cells #[.int .i64 x',.int .i64 y',.int .i64 a',.int .i64 b',.int .i64 d'] 27)).alloc (Obj.cells #[.int .i64 0,.int .i64 0,.int .i64 0,.int .i64 0,.int .i64 0] 27):=⟨_,rfl⟩
   rw [← hu0]
   have HB:Hid (Below w.heap.size w u0):=by rw [hu0];show Below w.heap.size w _;exact below_byR
   have X0:Hid (Blk u0 (w.heap.size) #[.int .i64 x,.int .i64 y,.int .i64 a,.int .i64 b,.int .i64 d] 27):=by rw [hu0];exact ((Blk.new' _ _ _ (by simp)).alloc _).alloc _
   have X1:Hid (Blk u0 (w.heap.size+1) #[.int .i64 x',.int .i64 y',.int .i64 a',.int .i64 b',.int .i64 d'] 27):=by rw [hu0];exact (Blk.new' _ _ _ (by simp)).alloc _
   have X2:Hid (Blk u0 (w.heap.size+1+1) #[.int .i64 0,.int .i64 0,.int .i64 0,.int .i64 0,.int .i64 0] 27):=by rw [hu0];exact Blk.new' _ _ _ (by simp)
   clear hu0
   refine Calls.mono (rmaye_v _ _ _ _ _ _ MA.out _) ?_
   rintro e x1 ⟨rfl,hb⟩
   replace X0:=Kp X0 hb
   replace X1:=Kp X1 hb
   replace X2:=Kp X2 hb
   replace HB:=Tp HB hb
   clear hb
   obtain ⟨qX1a,qX1b,qX1c,qX1d,qX1e⟩:=cl5 X1
   have rl_X1:=X1.out.lt
   go_wp2_with fail
   clear qX1a qX1b qX1c qX1d qX1e rl_X1
   refine Calls.mono (rmaye_v _ _ _ _ _ _ MB.out _) ?_
   rintro e x2 ⟨rfl,hb⟩
   replace X0:=Kp X0 hb
   replace X1:=Kp X1 hb
   replace X2:=Kp X2 hb
   replace HB:=Tp HB hb
   clear hb
   obtain ⟨qX2a,qX2b,qX2c,qX2d,qX2e⟩:=cl5 X2
   have rl_X2:=X2.out.lt
   have fz_X2:=X2.out.frozen
   have ft_X2:=X2.out.fits 5 (by simp)
   go_wp2_with fail
   exact bodyPost_row_t 5 #[.int .i64 0,.int .i64 0,.int .i64 0,.int .i64 0,.int .i64 0] (.int .i64 1) rfl rfl rfl rfl Tryz.underlying27 rfl (by kernel_rfl) (rc5 (by go_simp) (by go_simp) (by go_simp) (by go_simp) (by go_simp)) ⟨by rw [EV.out] <;> rfl,below_byR⟩
  | true =>
   have E0:gfuseE ⟨x,y,a,b,d⟩ ⟨x',y',a',b',d'⟩=if emptyB (fuseE ⟨x,y,a,b,d⟩ ⟨x',y',a',b',d'⟩) (gfin (ovV (fuseE ⟨x,y,a,b,d⟩ ⟨x',y',a',b',d'⟩))).asked=true then (El.zero,3) else (([⟨x',y',a',b',d'⟩]:List El).foldl pick (outE (fuseE ⟨x,y,a,b,d⟩ ⟨x',y',a',b',d'⟩) (gfin (ovV (fuseE ⟨x,y,a,b,d⟩ ⟨x',y',a',b',d'⟩))) ⟨x,y,a,b,d⟩),0):=by unfold gfuseE;rw [if_pos ⟨hma,hmb⟩,found_out]
   obtain ⟨em,hem⟩:∃ m,emptyB (fuseE ⟨x,y,a,b,d⟩ ⟨x',y',a',b',d'⟩) (gfin (ovV (fuseE ⟨x,y,a,b,d⟩ ⟨x',y',a',b',d'⟩))).asked=m:=⟨_,rfl⟩
   obtain ⟨⟨px,py,pa,pb,pd⟩,hp⟩:∃ p,atZ (fuseE ⟨x,y,a,b,d⟩ ⟨x',y',a',b',d'⟩) (gfin (ovV (fuseE ⟨x,y,a,b,d⟩ ⟨x',y',a',b',d'⟩)))=p:=⟨_,rfl⟩
   obtain ⟨sw,hsw⟩:∃ k,(gfin (ovV (fuseE ⟨x,y,a,b,d⟩ ⟨x',y',a',b',d'⟩))).w=k:=⟨_,rfl⟩
   obtain ⟨sn,hsn⟩:∃ k,(gfin (ovV (fuseE ⟨x,y,a,b,d⟩ ⟨x',y',a',b',d'⟩))).n=k:=⟨_,rfl⟩
   obtain ⟨so,hso⟩:∃ k,(gfin (ovV (fuseE ⟨x,y,a,b,d⟩ ⟨x',y',a',b',d'⟩))).ok=k:=⟨_,rfl⟩
   obtain ⟨te,hte⟩:∃ t,El.tr ⟨x,y,a,b,d⟩=t:=⟨_,rfl⟩
   have HTE:=Lh hte
   have E1:outE (fuseE ⟨x,y,a,b,d⟩ ⟨x',y',a',b',d'⟩) (gfin (ovV (fuseE ⟨x,y,a,b,d⟩ ⟨x',y',a',b',d'⟩))) ⟨x,y,a,b,d⟩=if so=true∧sn<te then ⟨px,py,pa,pb,pd⟩ else ⟨x,y,a,b,d⟩:=by unfold outE;rw [hp,hsn,hso,hte]
   rw [E1,hem] at E0
   clear E1
   have EE:=Lh E0
   clear E0 hma hmb
   have M:∀ w0 u:World,Blk w0 w.heap.size #[.int .i64 x,.int .i64 y,.int .i64 a,.int .i64 b,.int .i64 d] 27→Blk w0 (w.heap.size+1) #[.int .i64 x',.int .i64 y',.int .i64 a',.int .i64 b',.int .i64 d'] 27→RZ w0 w0.heap.size (.pointer (some ⟨w.heap.size,0,none⟩)) (.pointer (some ⟨w.heap.size+1,0,none⟩)) (.pointer none) (fuseE ⟨x,y,a,b,d⟩ ⟨x',y',a',b',d'⟩) ⟨[],0,0,false⟩ u→Calls Tryz.prog 124 #[.pointer (some ⟨w0.heap.size,0,none⟩)] u fun e w'=>e = .returned (.tuple #[.int .i64 sw,.int .i64 sn,.bool so])∧Below w0.heap.size w0 w'∧∃ v,Blk w' w0.heap.size #[.slice none 0 0,.pointer (some ⟨w.heap.size,0,none⟩),.pointer (some ⟨w.heap.size+1,0,none⟩),.pointer none,.bool em,v,.int .i64 sw,.int .i64 sn,.bool so,.int .i64 px,.int .i64 py,.int .i64 pa,.int .i64 pb,.int .i64 pd] 150:=by
    intro w0 u BE BF h
    refine (zbest_c w0 _ _ _ _ _ u (fun s k w hl h0 h1 h=>zaskF_c w0 _ _ _ _ _ _ _ _ _ _ _ _ _ s k w BE BF hl h) h).mono ?_
    rintro e w' ⟨he,h1,-,v,h2,-⟩
    unfold zcells at h2
    rw [hem,hp,hsw,hsn,hso] at h2
    rw [hsw,hsn,hso] at he
    exact ⟨he,h1,v,h2⟩
   have HM:=Lh M
   clear M hem hp hsw hsn hso hte
   go_enter Tryz.func52,Tryz.ntmps52
   go_wp2_with fail
   obtain ⟨u0,hu0⟩:∃ u,u=(((w).alloc (Obj.cells #[.int .i64 x,.int .i64 y,.int .i64 a,.int .i64 b,.int .i64 d] 27)).alloc (Obj.cells #[.int .i64 x',.int .i64 y',.int .i64 a',.int .i64 b',.int .i64 d'] 27)).alloc (Obj.cells #[.int .i64 0,.int .i64 0,.int .i64 0,.int .i64 0,.int .i64 0] 27):=⟨_,rfl⟩
   rw [← hu0]
   have HB:Hid (Below w.heap.size w u0):=by rw [hu0];show Below w.heap.size w _;exact below_byR
   have X0:Hid (Blk u0 (w.heap.size) #[.int .i64 x,.int .i64 y,.int .i64 a,.int .i64 b,.int .i64 d] 27):=by rw [hu0];exact ((Blk.new' _ _ _ (by simp)).alloc _).alloc _
   have X1:Hid (Blk u0 (w.heap.size+1) #[.int .i64 x',.int .i64 y',.int .i64 a',.int .i64 b',.int .i64 d'] 27):=by rw [hu0];exact (Blk.new' _ _ _ (by simp)).alloc _
   have X2:Hid (Blk u0 (w.heap.size+1+1) #[.int .i64 0,.int .i64 0,.int .i64 0,.int .i64 0,.int .i64 0] 27):=by rw [hu0];exact Blk.new' _ _ _ (by simp)
   clear hu0
   refine Calls.mono (rmaye_v _ _ _ _ _ _ MA.out _) ?_
   rintro e x1 ⟨rfl,hb⟩
   replace X0:=Kp X0 hb
   replace X1:=Kp X1 hb
   replace X2:=Kp X2 hb
   replace HB:=Tp HB hb
   clear hb
   obtain ⟨qX1a,qX1b,qX1c,qX1d,qX1e⟩:=cl5 X1
   have rl_X1:=X1.out.lt
   go_wp2_with fail
   clear qX1a qX1b qX1c qX1d qX1e rl_X1
   refine Calls.mono (rmaye_v _ _ _ _ _ _ MB.out _) ?_
   rintro e x2 ⟨rfl,hb⟩
   replace X0:=Kp X0 hb
   replace X1:=Kp X1 hb
   replace X2:=Kp X2 hb
   replace HB:=Tp HB hb
   clear hb
   go_wp2_with fail
   obtain ⟨us,hu⟩:∃ u,u=x2.alloc (Obj.cells #[.slice none 0 0,.pointer (some ⟨w.heap.size,0,none⟩),.pointer (some ⟨w.heap.size+1,0,none⟩),.pointer none,.bool false,.slice none 0 0,.int .i64 0,.int .i64 0,.bool false,.int .i64 0,.int .i64 0,.int .i64 0,.int .i64 0,.int .i64 0] 150):=⟨_,rfl⟩
   rw [← hu]
   have R0:RZ x2 x2.heap.size (.pointer (some ⟨w.heap.size,0,none⟩)) (.pointer (some ⟨w.heap.size+1,0,none⟩)) (.pointer none) (fuseE ⟨x,y,a,b,d⟩ ⟨x',y',a',b',d'⟩) ⟨[],0,0,false⟩ us:=by rw [hu];exact ⟨(Below.refl _ _).alloc (Nat.le_refl _) _,Nat.le_refl _,.slice none 0 0,Blk.new _ _ _,⟨rfl,.inl ⟨rfl,rfl⟩⟩⟩
   clear hu
   refine (HM.out _ _ X0.out X1.out R0).mono ?_
   rintro e xs ⟨rfl,hb,v,SB⟩
   clear R0
   obtain ⟨gS,hgS⟩:∃ g,x2.heap.size=g:=⟨_,rfl⟩
   have gl0:w.heap.size<gS:=by rw [← hgS];exact X0.out.lt
   have gl1:w.heap.size+1<gS:=by rw [← hgS];exact X1.out.lt
   have gl2:w.heap.size+1+1<gS:=by rw [← hgS];exact X2.out.lt
   replace X0:=Kp X0 hb
   replace X1:=Kp X1 hb
   replace X2:=Kp X2 hb
   replace HB:=Tp HB hb
   clear hb
   rw [hgS] at SB ⊢
   replace SB:=Lh SB
   clear hgS
   cases em with
   | true =>
    have EV:Hid (gfuseE ⟨x,y,a,b,d⟩ ⟨x',y',a',b',d'⟩=(El.zero,3)):=by show _=_;rw [EE.out,if_pos rfl]
    have qSBe:=SB.out.cell (i:=4) (v := .bool true) rfl
    have rl_SB:=SB.out.lt
    obtain ⟨qX2a,qX2b,qX2c,qX2d,qX2e⟩:=cl5 X2
    have rl_X2:=X2.out.lt
    have fz_X2:=X2.out.frozen
    have ft_X2:=X2.out.fits 5 (by simp)
    go_wp2_with fail
    exact bodyPost_row_t 5 #[.int .i64 0,.int .i64 0,.int .i64 0,.int .i64 0,.int .i64 0] (.int .i64 3) rfl rfl rfl rfl Tryz.underlying27 rfl (by kernel_rfl) (rc5 (by go_simp) (by go_simp) (by go_simp) (by go_simp) (by go_simp)) ⟨by rw [EV.out] <;> rfl,below_byR⟩
   | false =>
    obtain ⟨tf,htf⟩:∃ t,El.tr ⟨x',y',a',b',d'⟩=t:=⟨_,rfl⟩
    have HTF:=Lh htf
    obtain ⟨ta,hta⟩:∃ t,El.tr ⟨px,py,pa,pb,pd⟩=t:=⟨_,rfl⟩
    have HTA:=Lh hta
    have VA:Hid (gfuseE ⟨x,y,a,b,d⟩ ⟨x',y',a',b',d'⟩=((if so=true∧sn<te then (if tf<ta then ⟨x',y',a',b',d'⟩ else ⟨px,py,pa,pb,pd⟩) else (if tf<te then ⟨x',y',a',b',d'⟩ else ⟨x,y,a,b,d⟩)),0)):=by show _=_;rw [EE.out,if_neg (by decide)];simp only [List.foldl_cons,List.foldl_nil];unfold pick;split;(rw [htf,hta]);(rw [htf,HTE.out])
    clear htf hta
    have qSBe:=SB.out.cell (i:=4) (v := .bool false) rfl
    have rl_SB:=SB.out.lt
    obtain ⟨qX0a,qX0b,qX0c,qX0d,qX0e⟩:=cl5 X0
    have rl_X0:=X0.out.lt
    go_upto_region 8 with fail
    clear qSBe rl_SB qX0a qX0b qX0c qX0d qX0e rl_X0
    obtain ⟨u3,hu⟩:∃ u,u=xs.alloc (Obj.cells #[.int .i64 x,.int .i64 y,.int .i64 a,.int .i64 b,.int .i64 d] 27):=⟨_,rfl⟩
    rw [← hu]
    obtain ⟨gXO,hg⟩:∃ g,xs.heap.size=g:=⟨_,rfl⟩
    have gls:gS<gXO:=by rw [← hg];exact SB.out.lt
    have hb:Below xs.heap.size xs u3:=by rw [hu];exact (Below.refl _ _).alloc (Nat.le_refl _) _
    replace X0:=Kp X0 hb
    replace X1:=Kp X1 hb
    replace X2:=Kp X2 hb
    replace SB:=Kp SB hb
    replace HB:=Tp HB hb
    clear hb
    have XO:Hid (Blk u3 gXO #[.int .i64 x,.int .i64 y,.int .i64 a,.int .i64 b,.int .i64 d] 27):=by rw [hu,← hg];exact Blk.new _ _ _
    rw [hg]
    clear hu hg
    cases so with
    | false =>
     go_wp2_with fail
     by_cases hl:tf<te
     ·have hd:decide (tf<te)=true:=by simp [hl]
      have EV:Hid (gfuseE ⟨x,y,a,b,d⟩ ⟨x',y',a',b',d'⟩=(⟨x',y',a',b',d'⟩,0)):=by show _=_;rw [VA.out];(repeat' split) <;> first|rfl|(exfalso;omega)|(exfalso;simp at *;done)|(exfalso;simp at *;omega)
      obtain ⟨qX1a,qX1b,qX1c,qX1d,qX1e⟩:=rg5 X1
      obtain ⟨qXOa,qXOb,qXOc,qXOd,qXOe⟩:=rg5 XO
      refine wp_region_quiet_below (by kernel_rfl) (by kernel_rfl) ?_
      repeat (go_big_quiet_step (first
       | (go_at_call 125;exact Calls.regrown_of (by first|with_reducible exact rtrace_v _ _ _ _ _ _ HTF.out _|with_reducible exact rtrace_v _ _ _ _ _ _ HTE.out _))))
      refine wpQuiet_nil ?_
      intro x4 hw
      have hb:=below_of_regrown hw
      clear hw qX1a qX1b qX1c qX1d qX1e qXOa qXOb qXOc qXOd qXOe
      replace X0:=Kp X0 hb
      replace X1:=Kp X1 hb
      replace X2:=Kp X2 hb
      replace SB:=Kp SB hb
      replace XO:=Kp XO hb
      replace HB:=Tp HB hb
      clear hb
      obtain ⟨qX1a,qX1b,qX1c,qX1d,qX1e⟩:=cl5 X1
      have rl_X1:=X1.out.lt
      obtain ⟨qXOa,qXOb,qXOc,qXOd,qXOe⟩:=cl5 XO
      have rl_XO:=XO.out.lt
      have fz_XO:=XO.out.frozen
      have ft_XO:=XO.out.fits 5 (by simp)
      go_upto_region 12 with fail
      clear qX1a qX1b qX1c qX1d qX1e rl_X1 qXOa qXOb qXOc qXOd qXOe rl_XO fz_XO ft_XO
      obtain ⟨v5,hv⟩:∃ v,v=(((((x4).setCell ⟨gXO,0,none⟩ (.int .i64 x')).setCell ⟨gXO,1,none⟩ (.int .i64 y')).setCell ⟨gXO,2,none⟩ (.int .i64 a')).setCell ⟨gXO,3,none⟩ (.int .i64 b')).setCell ⟨gXO,4,none⟩ (.int .i64 d'):=⟨_,rfl⟩
      rw [← hv]
      have ho:OnlyAt (gXO) x4 v5:=by rw [hv];exact (((((OnlyAt.refl).setCell 0 _).setCell 1 _).setCell 2 _).setCell 3 _).setCell 4 _
      replace X0:=Lh (ho.blk X0.out (by omega))
      replace X1:=Lh (ho.blk X1.out (by omega))
      replace X2:=Lh (ho.blk X2.out (by omega))
      replace SB:=Lh (ho.blk SB.out (by omega))
      replace HB:=Lh (OnlyAt.below ho HB.out (Nat.le_refl _) (by omega))
      replace XO:Hid (Blk v5 (gXO) #[.int .i64 x',.int .i64 y',.int .i64 a',.int .i64 b',.int .i64 d'] 27):=by rw [hv];exact Blk.of_eq ((((((XO.out).setCell_same 0 _).setCell_same 1 _).setCell_same 2 _).setCell_same 3 _).setCell_same 4 _) (by simp)
      clear ho hv
      obtain ⟨qXOa,qXOb,qXOc,qXOd,qXOe⟩:=cl5 XO
      have rl_XO:=XO.out.lt
      obtain ⟨qX2a,qX2b,qX2c,qX2d,qX2e⟩:=cl5 X2
      have rl_X2:=X2.out.lt
      have fz_X2:=X2.out.frozen
      have ft_X2:=X2.out.fits 5 (by simp)
      go_wp2_with fail
      exact bodyPost_row_t 5 #[.int .i64 x',.int .i64 y',.int .i64 a',.int .i64 b',.int .i64 d'] (.int .i64 0) rfl rfl rfl rfl Tryz.underlying27 rfl (by kernel_rfl) (rc5 (by go_simp) (by go_simp) (by go_simp) (by go_simp) (by go_simp)) ⟨by rw [EV.out] <;> rfl,below_byR⟩
     ·have hd:decide (tf<te)=false:=by simp [hl]
      have EV:Hid (gfuseE ⟨x,y,a,b,d⟩ ⟨x',y',a',b',d'⟩=(⟨x,y,a,b,d⟩,0)):=by show _=_;rw [VA.out];(repeat' split) <;> first|rfl|(exfalso;omega)|(exfalso;simp at *;done)|(exfalso;simp at *;omega)
      obtain ⟨qX1a,qX1b,qX1c,qX1d,qX1e⟩:=rg5 X1
      obtain ⟨qXOa,qXOb,qXOc,qXOd,qXOe⟩:=rg5 XO
      refine wp_region_quiet_below (by kernel_rfl) (by kernel_rfl) ?_
      repeat (go_big_quiet_step (first
       | (go_at_call 125;exact Calls.regrown_of (by first|with_reducible exact rtrace_v _ _ _ _ _ _ HTF.out _|with_reducible exact rtrace_v _ _ _ _ _ _ HTE.out _))))
      refine wpQuiet_nil ?_
      intro x4 hw
      have hb:=below_of_regrown hw
      clear hw qX1a qX1b qX1c qX1d qX1e qXOa qXOb qXOc qXOd qXOe
      replace X0:=Kp X0 hb
      replace X1:=Kp X1 hb
      replace X2:=Kp X2 hb
      replace SB:=Kp SB hb
      replace XO:=Kp XO hb
      replace HB:=Tp HB hb
      clear hb
      obtain ⟨qXOa,qXOb,qXOc,qXOd,qXOe⟩:=cl5 XO
      have rl_XO:=XO.out.lt
      obtain ⟨qX2a,qX2b,qX2c,qX2d,qX2e⟩:=cl5 X2
      have rl_X2:=X2.out.lt
      have fz_X2:=X2.out.frozen
      have ft_X2:=X2.out.fits 5 (by simp)
      go_wp2_with fail
      exact bodyPost_row_t 5 #[.int .i64 x,.int .i64 y,.int .i64 a,.int .i64 b,.int .i64 d] (.int .i64 0) rfl rfl rfl rfl Tryz.underlying27 rfl (by kernel_rfl) (rc5 (by go_simp) (by go_simp) (by go_simp) (by go_simp) (by go_simp)) ⟨by rw [EV.out] <;> rfl,below_byR⟩
    | true =>
     obtain ⟨qXOa,qXOb,qXOc,qXOd,qXOe⟩:=cl5 XO
     have rl_XO:=XO.out.lt
     go_wp2_with fail
     clear qXOa qXOb qXOc qXOd qXOe rl_XO
     refine Calls.mono (rtrace_v _ _ _ _ _ _ HTE.out _) ?_
     rintro e x4 ⟨rfl,hb⟩
     replace X0:=Kp X0 hb
     replace X1:=Kp X1 hb
     replace X2:=Kp X2 hb
     replace SB:=Kp SB hb
     replace XO:=Kp XO hb
     replace HB:=Tp HB hb
     clear hb
     by_cases hs:sn<te
     ·have hd0:decide (sn<te)=true:=by simp [hs]
      have qSBj:=SB.out.cell (i:=9) (v := .int .i64 px) rfl
      have qSBk:=SB.out.cell (i:=10) (v := .int .i64 py) rfl
      have qSBl:=SB.out.cell (i:=11) (v := .int .i64 pa) rfl
      have qSBm:=SB.out.cell (i:=12) (v := .int .i64 pb) rfl
      have qSBn:=SB.out.cell (i:=13) (v := .int .i64 pd) rfl
      have rl_SB:=SB.out.lt
      obtain ⟨qXOa,qXOb,qXOc,qXOd,qXOe⟩:=cl5 XO
      have rl_XO:=XO.out.lt
      have fz_XO:=XO.out.frozen
      have ft_XO:=XO.out.fits 5 (by simp)
      go_upto_region 10 with fail
      clear qSBj qSBk qSBl qSBm qSBn rl_SB qXOa qXOb qXOc qXOd qXOe rl_XO fz_XO ft_XO
      obtain ⟨v5,hv⟩:∃ v,v=(((((x4).setCell ⟨gXO,0,none⟩ (.int .i64 px)).setCell ⟨gXO,1,none⟩ (.int .i64 py)).setCell ⟨gXO,2,none⟩ (.int .i64 pa)).setCell ⟨gXO,3,none⟩ (.int .i64 pb)).setCell ⟨gXO,4,none⟩ (.int .i64 pd):=⟨_,rfl⟩
      rw [← hv]
      have ho:OnlyAt (gXO) x4 v5:=by rw [hv];exact (((((OnlyAt.refl).setCell 0 _).setCell 1 _).setCell 2 _).setCell 3 _).setCell 4 _
      replace X0:=Lh (ho.blk X0.out (by omega))
      replace X1:=Lh (ho.blk X1.out (by omega))
      replace X2:=Lh (ho.blk X2.out (by omega))
      replace SB:=Lh (ho.blk SB.out (by omega))
      replace HB:=Lh (OnlyAt.below ho HB.out (Nat.le_refl _) (by omega))
      replace XO:Hid (Blk v5 (gXO) #[.int .i64 px,.int .i64 py,.int .i64 pa,.int .i64 pb,.int .i64 pd] 27):=by rw [hv];exact Blk.of_eq ((((((XO.out).setCell_same 0 _).setCell_same 1 _).setCell_same 2 _).setCell_same 3 _).setCell_same 4 _) (by simp)
      clear ho hv
      by_cases hl:tf<ta
      ·have hd:decide (tf<ta)=true:=by simp [hl]
       have EV:Hid (gfuseE ⟨x,y,a,b,d⟩ ⟨x',y',a',b',d'⟩=(⟨x',y',a',b',d'⟩,0)):=by show _=_;rw [VA.out];(repeat' split) <;> first|rfl|(exfalso;omega)|(exfalso;simp at *;done)|(exfalso;simp at *;omega)
       obtain ⟨qX1a,qX1b,qX1c,qX1d,qX1e⟩:=rg5 X1
       obtain ⟨qXOa,qXOb,qXOc,qXOd,qXOe⟩:=rg5 XO
       refine wp_region_quiet_below (by kernel_rfl) (by kernel_rfl) ?_
       repeat (go_big_quiet_step (first
        | (go_at_call 125;exact Calls.regrown_of (by first|with_reducible exact rtrace_v _ _ _ _ _ _ HTF.out _|with_reducible exact rtrace_v _ _ _ _ _ _ HTA.out _))))
       refine wpQuiet_nil ?_
       intro x6 hw
       have hb:=below_of_regrown hw
       clear hw qX1a qX1b qX1c qX1d qX1e qXOa qXOb qXOc qXOd qXOe
       replace X0:=Kp X0 hb
       replace X1:=Kp X1 hb
       replace X2:=Kp X2 hb
       replace SB:=Kp SB hb
       replace XO:=Kp XO hb
       replace HB:=Tp HB hb
       clear hb
       obtain ⟨qX1a,qX1b,qX1c,qX1d,qX1e⟩:=cl5 X1
       have rl_X1:=X1.out.lt
       obtain ⟨qXOa,qXOb,qXOc,qXOd,qXOe⟩:=cl5 XO
       have rl_XO:=XO.out.lt
       have fz_XO:=XO.out.frozen
       have ft_XO:=XO.out.fits 5 (by simp)
       go_upto_region 12 with fail
       clear qX1a qX1b qX1c qX1d qX1e rl_X1 qXOa qXOb qXOc qXOd qXOe rl_XO fz_XO ft_XO
       obtain ⟨v7,hv⟩:∃ v,v=(((((x6).setCell ⟨gXO,0,none⟩ (.int .i64 x')).setCell ⟨gXO,1,none⟩ (.int .i64 y')).setCell ⟨gXO,2,none⟩ (.int .i64 a')).setCell ⟨gXO,3,none⟩ (.int .i64 b')).setCell ⟨gXO,4,none⟩ (.int .i64 d'):=⟨_,rfl⟩
       rw [← hv]
       have ho:OnlyAt (gXO) x6 v7:=by rw [hv];exact (((((OnlyAt.refl).setCell 0 _).setCell 1 _).setCell 2 _).setCell 3 _).setCell 4 _
       replace X0:=Lh (ho.blk X0.out (by omega))
       replace X1:=Lh (ho.blk X1.out (by omega))
       replace X2:=Lh (ho.blk X2.out (by omega))
       replace SB:=Lh (ho.blk SB.out (by omega))
       replace HB:=Lh (OnlyAt.below ho HB.out (Nat.le_refl _) (by omega))
       replace XO:Hid (Blk v7 (gXO) #[.int .i64 x',.int .i64 y',.int .i64 a',.int .i64 b',.int .i64 d'] 27):=by rw [hv];exact Blk.of_eq ((((((XO.out).setCell_same 0 _).setCell_same 1 _).setCell_same 2 _).setCell_same 3 _).setCell_same 4 _) (by simp)
       clear ho hv
       obtain ⟨qXOa,qXOb,qXOc,qXOd,qXOe⟩:=cl5 XO
       have rl_XO:=XO.out.lt
       obtain ⟨qX2a,qX2b,qX2c,qX2d,qX2e⟩:=cl5 X2
       have rl_X2:=X2.out.lt
       have fz_X2:=X2.out.frozen
       have ft_X2:=X2.out.fits 5 (by simp)
       go_wp2_with fail
       exact bodyPost_row_t 5 #[.int .i64 x',.int .i64 y',.int .i64 a',.int .i64 b',.int .i64 d'] (.int .i64 0) rfl rfl rfl rfl Tryz.underlying27 rfl (by kernel_rfl) (rc5 (by go_simp) (by go_simp) (by go_simp) (by go_simp) (by go_simp)) ⟨by rw [EV.out] <;> rfl,below_byR⟩
      ·have hd:decide (tf<ta)=false:=by simp [hl]
       have EV:Hid (gfuseE ⟨x,y,a,b,d⟩ ⟨x',y',a',b',d'⟩=(⟨px,py,pa,pb,pd⟩,0)):=by show _=_;rw [VA.out];(repeat' split) <;> first|rfl|(exfalso;omega)|(exfalso;simp at *;done)|(exfalso;simp at *;omega)
       obtain ⟨qX1a,qX1b,qX1c,qX1d,qX1e⟩:=rg5 X1
       obtain ⟨qXOa,qXOb,qXOc,qXOd,qXOe⟩:=rg5 XO
       refine wp_region_quiet_below (by kernel_rfl) (by kernel_rfl) ?_
       repeat (go_big_quiet_step (first
        | (go_at_call 125;exact Calls.regrown_of (by first|with_reducible exact rtrace_v _ _ _ _ _ _ HTF.out _|with_reducible exact rtrace_v _ _ _ _ _ _ HTA.out _))))
       refine wpQuiet_nil ?_
       intro x6 hw
       have hb:=below_of_regrown hw
       clear hw qX1a qX1b qX1c qX1d qX1e qXOa qXOb qXOc qXOd qXOe
       replace X0:=Kp X0 hb
       replace X1:=Kp X1 hb
       replace X2:=Kp X2 hb
       replace SB:=Kp SB hb
       replace XO:=Kp XO hb
       replace HB:=Tp HB hb
       clear hb
       obtain ⟨qXOa,qXOb,qXOc,qXOd,qXOe⟩:=cl5 XO
       have rl_XO:=XO.out.lt
       obtain ⟨qX2a,qX2b,qX2c,qX2d,qX2e⟩:=cl5 X2
       have rl_X2:=X2.out.lt
       have fz_X2:=X2.out.frozen
       have ft_X2:=X2.out.fits 5 (by simp)
       go_wp2_with fail
       exact bodyPost_row_t 5 #[.int .i64 px,.int .i64 py,.int .i64 pa,.int .i64 pb,.int .i64 pd] (.int .i64 0) rfl rfl rfl rfl Tryz.underlying27 rfl (by kernel_rfl) (rc5 (by go_simp) (by go_simp) (by go_simp) (by go_simp) (by go_simp)) ⟨by rw [EV.out] <;> rfl,below_byR⟩
     ·have hd0:decide (sn<te)=false:=by simp [hs]
      go_wp2_with fail
      by_cases hl:tf<te
      ·have hd:decide (tf<te)=true:=by simp [hl]
       have EV:Hid (gfuseE ⟨x,y,a,b,d⟩ ⟨x',y',a',b',d'⟩=(⟨x',y',a',b',d'⟩,0)):=by show _=_;rw [VA.out];(repeat' split) <;> first|rfl|(exfalso;omega)|(exfalso;simp at *;done)|(exfalso;simp at *;omega)
       obtain ⟨qX1a,qX1b,qX1c,qX1d,qX1e⟩:=rg5 X1
       obtain ⟨qXOa,qXOb,qXOc,qXOd,qXOe⟩:=rg5 XO
       refine wp_region_quiet_below (by kernel_rfl) (by kernel_rfl) ?_
       repeat (go_big_quiet_step (first
        | (go_at_call 125;exact Calls.regrown_of (by first|with_reducible exact rtrace_v _ _ _ _ _ _ HTF.out _|with_reducible exact rtrace_v _ _ _ _ _ _ HTE.out _))))
       refine wpQuiet_nil ?_
       intro x5 hw
       have hb:=below_of_regrown hw
       clear hw qX1a qX1b qX1c qX1d qX1e qXOa qXOb qXOc qXOd qXOe
       replace X0:=Kp X0 hb
       replace X1:=Kp X1 hb
       replace X2:=Kp X2 hb
       replace SB:=Kp SB hb
       replace XO:=Kp XO hb
       replace HB:=Tp HB hb
       clear hb
       obtain ⟨qX1a,qX1b,qX1c,qX1d,qX1e⟩:=cl5 X1
       have rl_X1:=X1.out.lt
       obtain ⟨qXOa,qXOb,qXOc,qXOd,qXOe⟩:=cl5 XO
       have rl_XO:=XO.out.lt
       have fz_XO:=XO.out.frozen
       have ft_XO:=XO.out.fits 5 (by simp)
       go_upto_region 12 with fail
       clear qX1a qX1b qX1c qX1d qX1e rl_X1 qXOa qXOb qXOc qXOd qXOe rl_XO fz_XO ft_XO
       obtain ⟨v6,hv⟩:∃ v,v=(((((x5).setCell ⟨gXO,0,none⟩ (.int .i64 x')).setCell ⟨gXO,1,none⟩ (.int .i64 y')).setCell ⟨gXO,2,none⟩ (.int .i64 a')).setCell ⟨gXO,3,none⟩ (.int .i64 b')).setCell ⟨gXO,4,none⟩ (.int .i64 d'):=⟨_,rfl⟩
       rw [← hv]
       have ho:OnlyAt (gXO) x5 v6:=by rw [hv];exact (((((OnlyAt.refl).setCell 0 _).setCell 1 _).setCell 2 _).setCell 3 _).setCell 4 _
       replace X0:=Lh (ho.blk X0.out (by omega))
       replace X1:=Lh (ho.blk X1.out (by omega))
       replace X2:=Lh (ho.blk X2.out (by omega))
       replace SB:=Lh (ho.blk SB.out (by omega))
       replace HB:=Lh (OnlyAt.below ho HB.out (Nat.le_refl _) (by omega))
       replace XO:Hid (Blk v6 (gXO) #[.int .i64 x',.int .i64 y',.int .i64 a',.int .i64 b',.int .i64 d'] 27):=by rw [hv];exact Blk.of_eq ((((((XO.out).setCell_same 0 _).setCell_same 1 _).setCell_same 2 _).setCell_same 3 _).setCell_same 4 _) (by simp)
       clear ho hv
       obtain ⟨qXOa,qXOb,qXOc,qXOd,qXOe⟩:=cl5 XO
       have rl_XO:=XO.out.lt
       obtain ⟨qX2a,qX2b,qX2c,qX2d,qX2e⟩:=cl5 X2
       have rl_X2:=X2.out.lt
       have fz_X2:=X2.out.frozen
       have ft_X2:=X2.out.fits 5 (by simp)
       go_wp2_with fail
       exact bodyPost_row_t 5 #[.int .i64 x',.int .i64 y',.int .i64 a',.int .i64 b',.int .i64 d'] (.int .i64 0) rfl rfl rfl rfl Tryz.underlying27 rfl (by kernel_rfl) (rc5 (by go_simp) (by go_simp) (by go_simp) (by go_simp) (by go_simp)) ⟨by rw [EV.out] <;> rfl,below_byR⟩
      ·have hd:decide (tf<te)=false:=by simp [hl]
       have EV:Hid (gfuseE ⟨x,y,a,b,d⟩ ⟨x',y',a',b',d'⟩=(⟨x,y,a,b,d⟩,0)):=by show _=_;rw [VA.out];(repeat' split) <;> first|rfl|(exfalso;omega)|(exfalso;simp at *;done)|(exfalso;simp at *;omega)
       obtain ⟨qX1a,qX1b,qX1c,qX1d,qX1e⟩:=rg5 X1
       obtain ⟨qXOa,qXOb,qXOc,qXOd,qXOe⟩:=rg5 XO
       refine wp_region_quiet_below (by kernel_rfl) (by kernel_rfl) ?_
       repeat (go_big_quiet_step (first
        | (go_at_call 125;exact Calls.regrown_of (by first|with_reducible exact rtrace_v _ _ _ _ _ _ HTF.out _|with_reducible exact rtrace_v _ _ _ _ _ _ HTE.out _))))
       refine wpQuiet_nil ?_
       intro x5 hw
       have hb:=below_of_regrown hw
       clear hw qX1a qX1b qX1c qX1d qX1e qXOa qXOb qXOc qXOd qXOe
       replace X0:=Kp X0 hb
       replace X1:=Kp X1 hb
       replace X2:=Kp X2 hb
       replace SB:=Kp SB hb
       replace XO:=Kp XO hb
       replace HB:=Tp HB hb
       clear hb
       obtain ⟨qXOa,qXOb,qXOc,qXOd,qXOe⟩:=cl5 XO
       have rl_XO:=XO.out.lt
       obtain ⟨qX2a,qX2b,qX2c,qX2d,qX2e⟩:=cl5 X2
       have rl_X2:=X2.out.lt
       have fz_X2:=X2.out.frozen
       have ft_X2:=X2.out.fits 5 (by simp)
       go_wp2_with fail
       exact bodyPost_row_t 5 #[.int .i64 x,.int .i64 y,.int .i64 a,.int .i64 b,.int .i64 d] (.int .i64 0) rfl rfl rfl rfl Tryz.underlying27 rfl (by kernel_rfl) (rc5 (by go_simp) (by go_simp) (by go_simp) (by go_simp) (by go_simp)) ⟨by rw [EV.out] <;> rfl,below_byR⟩
theorem rgfuse_v (x y a b d x' y' a' b' d' ox oy oa ob od k:Int) (hv0:gfuseE ⟨x,y,a,b,d⟩ ⟨x',y',a',b',d'⟩=(⟨ox,oy,oa,ob,od⟩,k)) (w:World) :
  Calls Tryz.prog 52 #[elC x y a b d,elC x' y' a' b' d'] w fun e w'=>e = .returned (.tuple #[elC ox oy oa ob od,.int .i64 k])∧Below w.heap.size w w':=by
 have:=rgfuse_c x y a b d x' y' a' b' d' w
 rw [hv0] at this;exact this
end Go.Proofs.YtilginoibhfeiaaGreat
