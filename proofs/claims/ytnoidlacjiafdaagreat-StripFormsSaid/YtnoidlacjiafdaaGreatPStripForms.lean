/- StripForms: for every input the law returns true; each argument reads behind the call as it read before. No condition. -/
import Derived.Test.YtnoidlacjiafdaaGreatFr
import Derived.Test.YtnoidlacjiafdaaGreatZs
set_option maxRecDepth 100000
set_option maxHeartbeats 16000000
namespace Go.Proofs.YtnoidlacjiafdaaGreat.stripForms
set_option linter.unusedSimpArgs false
set_option linter.unusedVariables false
open Go.ChangeShapes Go.WideShapes Go.ChangeAt Go.RowKit
set_option linter.unusedVariables false

theorem readable:∀ t ∈ Tryz.f3.params.toList,Tryz.prog.readableRec t=true∧t<Tryz.prog.types.size:=by
 rw[Tryz.params3];intro t ht;simp at ht
 repeat' (rcases ht with rfl|ht)
 all_goals first|exact⟨by kernel_rfl,of_decide_eq_true (by kernel_rfl)⟩|(subst ht;exact⟨by kernel_rfl,of_decide_eq_true (by kernel_rfl)⟩)
theorem lifted (os:Os) (started:os.Started) (H:Type) (enc:TypeId × Value→H) :
  ReturnsInHanded {} Tryz.checked os 3 .any (Rows.stripFormsSpec.pre6 enc Tryz.prog Tryz.f3 Rows.stripFormsRow.domain false) (Rows.stripFormsSpec.post enc Tryz.prog Tryz.f3 false true false false):=by
 refine returnsInHanded_of_change (C:=Tryz.checked) own started (by kernel_rfl) Tryz.func3
  (ChangeSpec.witness6 (enc:=enc) (C:=Tryz.checked) false ⟨#[],#[elC 0 0 0 0 0,elC 0 0 0 0 0,.int .i64 0,.int .i64 0],[]⟩ 8 (by kernel_rfl) (by kernel_rfl) (by kernel_rfl) (by kernel_rfl)) ?_
 intro W base args ds gs before hval0 hW hcnd _;have hval:∀ (j:Nat) t v,Tryz.f3.params[j]? = some t→args[j]? = some v→Value.okWide Tryz.prog W .any base t v:=hval0;have hW':=hW;obtain⟨p,q,hA0,hV,rfl,hfz,hnd⟩:=hW;have hA:DataW.TrodAll enc Tryz.prog W 0 (fun _=>true) true Tryz.f3.params.toList args.toList ds p:=hA0;have again:=fun W' (hb:Below W.heap.size W W')=>mY laidOut hb _ _ _ _ readable hA;rw[Tryz.params3] at hA hval;obtain⟨v0,vs0,d0,ds0,p0,q0,hargs,rfl,rfl,g0,r0⟩:=trodAll_cons hA;obtain⟨v1,vs1,d1,ds1,p1,q1,rfl,rfl,rfl,g1,r1⟩:=trodAll_cons r0;obtain⟨v2,vs2,d2,ds2,p2,q2,rfl,rfl,rfl,g2,r2⟩:=trodAll_cons r1;obtain⟨v3,vs3,d3,ds3,p3,q3,rfl,rfl,rfl,g3,r3⟩:=trodAll_cons r2;obtain⟨rfl,rfl,rfl⟩:=trodAll_nil r3;obtain rfl:args=#[v0,v1,v2,v3]:=by cases args;simp_all
 obtain⟨rfl,rfl⟩:=trodVars_none hV;obtain⟨x0_0,x0_1,x0_2,x0_3,x0_4,rfl,h0_0,h0_1,h0_2,h0_3,h0_4⟩:=ua (hval 0 _ v0 rfl rfl);obtain⟨x1_0,x1_1,x1_2,x1_3,x1_4,rfl,h1_0,h1_1,h1_2,h1_3,h1_4⟩:=ua (hval 1 _ v1 rfl rfl);obtain⟨x2_0,rfl,h2_0⟩:=qC (hval 2 _ v2 rfl rfl);obtain⟨x3_0,rfl,h3_0⟩:=qC (hval 3 _ v3 rfl rfl);clear hA0 hval0;refine(oQ x0_0 x0_1 x0_2 x0_3 x0_4 x1_0 x1_1 x1_2 x1_3 x1_4 x2_0 x3_0 W).mono fun e W' ⟨he,bel⟩=>?_;subst he;exact⟨_,rfl,_,_,_,[],_,[],hW',trodAll_mk1 (shut_bool Tryz.underlying4 _),again W' bel,rfl,bel.frame _,fun h=>by cases h⟩
theorem over:Rows.stripFormsRow.holds Tryz.pinned (OpenSpec.ofChange Rows.stripFormsSpec) :=
 OpenClaim.holds_of_wide 3 Tryz.f3 rfl rfl rfl rfl rfl rfl rfl ⟨rfl,rfl,rfl,rfl,rfl⟩ rfl rfl rfl rfl rfl (by kernel_rfl) Tryz.func3 (by kernel_rfl)
  (of_decide_eq_true (by kernel_rfl)) (by unfold Func.isWrapper;first|(rw[if_pos (by decide +kernel)];kernel_rfl)|(rw[if_neg (by decide +kernel)];exact⟨rfl,rfl⟩))
  (fun os started H enc _=>lifted os started H enc)
theorem proved:Rows.StripFormsSaid:=over
#print axioms proved
end Go.Proofs.YtnoidlacjiafdaaGreat.stripForms
