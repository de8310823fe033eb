/- Walks. -/
import Derived.Test.YtechbdnhalmobaaGreatDoorAG
import Derived.Test.YtechbdnhalmobaaGreatDoorPTg
import Derived.Test.YtechbdnhalmobaaGreatDoorCards
import Derived.Deep.DeepHandedRow
import Derived.Deep.DeepWitnessRowRef
import Derived.Lay
import Derived.SevenTiedAt
import Derived.ProofKit
set_option maxRecDepth 100000
set_option maxHeartbeats 16000000
namespace Go.Proofs.YtechbdnhalmobaaGreatDoor.topSilence
set_option linter.unusedSimpArgs false
set_option linter.unusedVariables false
open Go.ChangeShapes Go.WideShapes Go.ChangeAt Go.RowKit Go.Deep
set_option linter.unusedVariables false
theorem readable:∀ t ∈ Tryz.f5.params.toList,Tryz.prog.readableRec t=true∧t<Tryz.prog.types.size:=by
 rw[Tryz.params5];intro t ht;simp at ht
 repeat' (rcases ht with rfl|ht)
 all_goals first|exact⟨by kernel_rfl,of_decide_eq_true (by kernel_rfl)⟩|(subst ht;exact⟨by kernel_rfl,of_decide_eq_true (by kernel_rfl)⟩)
set_option maxRecDepth 100000
theorem Uv:(((begin Tryz.prog (fun _ _=>0) default).world.heap[0]?).bind Obj.row?)=some (#[.int .i64 0],3):=by kernel_rfl
theorem Sz:Tryz.prog.cellTypes Tryz.prog.depth 3=some [3]:=by kernel_rfl
theorem Us:Tryz.prog.buildable 3=true:=by kernel_rfl
theorem OJ {w:World} (h:w.ShapedOpen Tryz.prog):∃ m,w.cell? ⟨0,0,none⟩=some (.int .i64 m):=by
 obtain⟨cs,hh,hs,hr⟩:=h.1 0 _ _ (of_decide_eq_true (by kernel_rfl)) Uv;obtain⟨ts,hts,_,hall⟩:=hr Us;rw[Sz] at hts;cases hts;have h1:0<cs.size:=by rw[hs];decide
 obtain⟨u,hu',hok⟩:=hall 0 cs[0] (by simp[h1]);have:u=3:=by simpa using hu'.symm
 subst this;have hcell:w.cell? ⟨0,0,none⟩=some cs[0]:=by simp[World.cell?,hh,h1]
 rw[hcell];unfold Cell.ok at hok;rw[Tryz.underlying3] at hok;cases hv:cs[0] <;> rw[hv] at hok <;> simp at hok;rename_i k n;obtain⟨rfl,-⟩:=hok;exact⟨n,rfl⟩
noncomputable abbrev lw (os:Os):World:=World.laidAll Tryz.prog os Rows.topSilenceRow.laid
theorem PC (os:Os) (args:Array Value):laidMetH Tryz.prog Rows.topSilenceRow.laid ((lw os).forCall (fun _ _=>0) ⟨#[],args,[]⟩).memory:=by
 rw[MakeChecks.laidMetH_plain _ _ _ (by kernel_rfl)];exact laidMet_laidAll _ (by kernel_rfl) (by kernel_rfl)
abbrev Cg:Array Value:=#[.int .i64 0,.int .i64 0,.int .i64 0]
theorem Tq (os:Os) {H:Type} (enc:TypeId × Value→H):(DataW.whole enc Tryz.prog ((lw os).forCall (fun _ _=>0) ⟨#[],Cg,[]⟩).memory Tryz.f5.params.toList (OpenSpec.ofChange Rows.topSilenceSpec).vars false Cg.toList 8).isSome=true:=by kernel_rfl
theorem TH (os:Os) {H:Type} (enc:TypeId × Value→H):(OpenSpec.ofChange Rows.topSilenceSpec).bare.sizedB enc Tryz.prog Tryz.f5 false ((lw os).forCall (fun _ _=>0) ⟨#[],Cg,[]⟩).memory Cg 8=true:=by kernel_rfl
theorem Kf (os:Os) {H:Type} (enc:TypeId × Value→H) :
  (OpenSpec.ofChange Rows.topSilenceSpec).preRow enc Tryz.prog Tryz.f5 Rows.topSilenceRow.domain false Rows.topSilenceRow.laid ((lw os).forCall (fun _ _=>0) ⟨#[],Cg,[]⟩).memory Cg:=by
 have hw:=Tq os enc;obtain⟨x,hx⟩:=Option.isSome_iff_exists.1 hw;exact OpenSpec.preRow_of_cond 8 hx rfl (fun k hk=>by cases hk) (TH os enc) (PC os _)
theorem Vn (os:Os):((lw os).forCall (fun _ _=>0) ⟨#[],Cg,[]⟩).variablesRefB Tryz.prog=true:=by kernel_rfl
theorem Vd (os:Os):(((lw os).forCall (fun _ _=>0) ⟨#[],Cg,[]⟩).heap.toList.drop Tryz.prog.globals.size).take ((begin Tryz.prog (fun _ _=>0) default).world.heap.size-Tryz.prog.globals.size) =
   (begin Tryz.prog (fun _ _=>0) default).world.heap.toList.drop Tryz.prog.globals.size:=by kernel_rfl
theorem inBt (os:Os):Input.okWideB Tryz.prog ((lw os).forCall (fun _ _=>0) ⟨#[],Cg,[]⟩) 5 ⟨#[],Cg,[]⟩=true:=by kernel_rfl
theorem TX:Tryz.prog.inits.idxOf? 5=none:=by kernel_rfl
theorem lifted (os:Os) (started:os.Started) (H:Type) (enc:TypeId × Value→H) (F0:Stop.Interp) :
  ReturnsInHanded {} Tryz.checked os 5 .any ((OpenSpec.ofChange Rows.topSilenceSpec).preRow enc Tryz.prog Tryz.f5 Rows.topSilenceRow.domain false Rows.topSilenceRow.laid) (((OpenSpec.ofChange Rows.topSilenceSpec).at F0).post enc Tryz.prog Tryz.f5 false true false false):=by
 refine returnsInHanded_of_row (C:=Tryz.checked) (s:=OpenSpec.ofChange Rows.topSilenceSpec) own started TX Tryz.func5
  (witness_row_atRef (enc:=enc) (C:=Tryz.checked) false (lw os) Cg (World.laidAll_os _ _ _) (Vn os) (Vd os) (inBt os) (Kf os enc)) ?_
 intro W base args ds gs before hval0 hW hcnd _ _ _ hsh _;have hval:∀ (j:Nat) t v,Tryz.f5.params[j]? = some t→args[j]? = some v→Value.okWide Tryz.prog W .any base t v:=hval0;have hW':=hW;obtain⟨p,q,hA0,hV,rfl,hfz,hnd⟩:=hW;have hA:DataW.TrodAll enc Tryz.prog W 0 (fun _=>true) true Tryz.f5.params.toList args.toList ds p:=hA0;have again:=fun W' (hb:Below W.heap.size W W')=>mY laidOut hb _ _ _ _ readable hA;rw[Tryz.params5] at hA hval;obtain⟨v0,vs0,d0,ds0,p0,q0,hargs,rfl,rfl,g0,r0⟩:=trodAll_cons hA;obtain⟨v1,vs1,d1,ds1,p1,q1,rfl,rfl,rfl,g1,r1⟩:=trodAll_cons r0;obtain⟨v2,vs2,d2,ds2,p2,q2,rfl,rfl,rfl,g2,r2⟩:=trodAll_cons r1;obtain⟨rfl,rfl,rfl⟩:=trodAll_nil r2;obtain rfl:args=#[v0,v1,v2]:=by cases args;simp_all
 obtain⟨rfl,rfl⟩:=trodVars_none hV;obtain⟨n0,rfl,-⟩:=IG (hval 0 _ v0 rfl rfl);obtain⟨n1,rfl,-⟩:=IG (hval 1 _ v1 rfl rfl);obtain⟨n2,rfl,-⟩:=IG (hval 2 _ v2 rfl rfl);obtain⟨m,hm⟩:=OJ hsh;clear hA0 hval0;refine(JH n0 n1 n2 W (fun w1 hb=>OD w1 m ((hb.cell (p:=⟨0,0,none⟩) (World.block_lt_of_cell? _ _ hm)).trans hm))).mono fun e W' ⟨he,bel⟩=>?_;subst he;exact⟨_,rfl,_,_,_,[],_,[],hW',trodAll_mk1 (shut_bool Tryz.underlying4 _),again W' bel,rfl,bel.frame _,fun h=>by cases h⟩
theorem over:Rows.topSilenceRow.holds Tryz.pinned (OpenSpec.ofChange Rows.topSilenceSpec) :=
 OpenClaim.holds_of_cond 5 Tryz.f5 rfl rfl rfl rfl rfl rfl rfl ⟨rfl,rfl,rfl,rfl,rfl⟩ rfl rfl rfl rfl rfl fn0 Tryz.func5 L0 Vw wrap
  (fun os started H enc _ F0=>by rw[OpenClaim.pre_eq_preRow];exact lifted os started H enc F0)
theorem proved:Rows.TopSilenceCardSaid :=
 Claim7.holds_tied_plain_at .later [] [.data, .data, .data, .data, .sentinel, .sentinel, .pinned] true (true, "8ffef3cac116936802f9a850093a5d858ddf877d981aa33913dec557d2fd713d") true
  over (fun _ h=>by cases h) Uz (fun _ h=>by cases h) topSilence_row_tie rfl ⟨rfl,rfl⟩ U5 rfl
  (fun f fn hf hfn=>by
   obtain rfl:f=5:=Option.some.inj (fn0.symm.trans hf) |>.symm
   obtain rfl:fn=Tryz.f5:=(Option.some.inj (Tryz.func5.symm.trans hfn)).symm
   exact⟨Ub,fun j t ht=>by
    rw[Tryz.params5] at ht
    have hm:t ∈ [3,3,3]:=by simpa using Array.mem_of_getElem? ht
    have hall:=Ty
    exact(show Tryz.prog.wantsStandIn t=false by simpa using List.all_eq_true.1 hall t hm)⟩)
  U9
#print axioms proved
end Go.Proofs.YtechbdnhalmobaaGreatDoor.topSilence
