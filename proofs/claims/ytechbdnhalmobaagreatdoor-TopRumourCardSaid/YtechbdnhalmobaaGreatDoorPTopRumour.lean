/- TopRumour: for every input the law returns true; each argument reads behind the call as it read before. The card: what the row lists is tied to the program's text. -/
import Derived.Test.YtechbdnhalmobaaGreatDoorA40
import Derived.Test.YtechbdnhalmobaaGreatDoorA35
import Derived.Test.YtechbdnhalmobaaGreatDoorPTf
import Derived.Test.YtechbdnhalmobaaGreatDoorCards
import Derived.Deep.Slices
import Derived.Deep.DeepHandedRow
import Derived.Deep.DeepWitnessRowRef
import Derived.Lay
import Derived.SevenTiedAt
import Derived.ProofKit
set_option maxRecDepth 100000
set_option maxHeartbeats 16000000
namespace Go.Proofs.YtechbdnhalmobaaGreatDoor.topRumour
set_option linter.unusedSimpArgs false
set_option linter.unusedVariables false
open Go.ChangeShapes Go.WideShapes Go.ChangeAt Go.RowKit Go.Deep
set_option linter.unusedVariables false

theorem addr_add (b o k:Nat):(⟨b,o,none⟩:Addr).add k=⟨b,o+k,none⟩:=by
 unfold Addr.add
 by_cases h:k=0
 ·subst h;rfl
 ·rw [if_neg h]
/-- A slice of numbers that came in. -/
theorem open_i64s {H:Type} {enc:TypeId × Value→H} {W:World} {base:Nat} {spare:Nat→Bool} {held:Bool} {v:Value} {d:DataW H} {p:List MemPlace} (hv:Value.okWide Tryz.prog W .any base 52 v)
  (h:DataW.Trod enc Tryz.prog W 0 spare held 52 v d p):∃ A len cap T,v = .slice A len cap∧IntsIn W A len T∧len≤9223372036854775807:=by
 obtain ⟨a0,len,cap,rfl⟩:=okWide_slice Tryz.underlying52 hv
 obtain ⟨fuel,hf⟩:=h
 rcases open_slice Tryz.underlying52 hf with ⟨h0,-⟩|⟨a,len',cap',m,n,D,Pl,hcs,hb,hl,hm,hmm,hx,hi⟩
 ·simp [Value.cells] at h0
  obtain ⟨rfl,rfl,rfl⟩:=h0
  exact ⟨_,_,_,fun _=>0,rfl,fun i hi=>absurd hi (Nat.not_lt_zero i),Nat.zero_le _⟩
 ·simp [Value.cells] at hcs
  obtain ⟨rfl,rfl,rfl⟩:=hcs
  have hC:Tryz.prog.cellsOf 2=1:=by kernel_rfl
  have hlm:len≤m:=by rw [hmm];split <;> omega
  have key:∀ i,i<len→∃ x,W.cell? (a.add i)=some (.int .i64 x):=by
   intro i hil
   obtain ⟨cs',hc,ht'⟩:=hi i (by omega)
   rw [hC] at hc
   obtain ⟨_,hcl,hat⟩:=World.cells?_some hc
   obtain ⟨x,hx0,-,-⟩:=DataW.trod_int Tryz.underlying2 ht'
   have c0:=hat 0 (by omega)
   rw [hx0,Nat.mul_one] at c0
   exact ⟨x,c0⟩
  have hT:∀ i,∃ q:Int,i<len→W.cell? (a.add i)=some (.int .i64 q):=by
   intro i
   by_cases h:i<len
   ·obtain ⟨x,h1⟩:=key i h
    exact ⟨x,fun _=>h1⟩
   ·exact ⟨0,fun h'=>absurd h' h⟩
  obtain ⟨T,hT'⟩:∃ T:Nat→Int,∀ i,i<len→W.cell? (a.add i)=some (.int .i64 (T i)) :=
   ⟨fun i=>Classical.choose (hT i),fun i hi=>Classical.choose_spec (hT i) hi⟩
  refine ⟨_,_,_,T,rfl,?_,Nat.le_trans hl hm⟩
  intro i hi
  have h1:=hT' i hi
  obtain ⟨b,o,sp⟩:=a
  have hsp:sp=none:=by
   obtain ⟨x,k1⟩:=key 0 (by omega)
   cases sp with
   | none=>rfl
   | some k =>
    unfold World.cell? at k1
    simp [Addr.add] at k1
    split at k1 <;> simp at k1
  subst hsp
  rw [addr_add] at h1
  exact ⟨b,o,rfl,World.block_lt_of_cell? _ _ h1,h1⟩
theorem readable:∀ t ∈ Tryz.f4.params.toList,Tryz.prog.readableRec t=true∧t<Tryz.prog.types.size:=by
 rw [Tryz.params4]
 intro t ht
 simp at ht
 repeat' (rcases ht with rfl|ht)
 all_goals first|exact ⟨by kernel_rfl,of_decide_eq_true (by kernel_rfl)⟩|(subst ht;exact ⟨by kernel_rfl,of_decide_eq_true (by kernel_rfl)⟩)
set_option maxRecDepth 100000
theorem zeroG:(((begin Tryz.prog (fun _ _=>0) default).world.heap[0]?).bind Obj.row?)=some (#[.int .i64 0],3):=by kernel_rfl
theorem ctypes3:Tryz.prog.cellTypes Tryz.prog.depth 3=some [3]:=by kernel_rfl
theorem build3:Tryz.prog.buildable 3=true:=by kernel_rfl
/-- The library's variable holds some number. -/
theorem some_int {w:World} (h:w.ShapedOpen Tryz.prog):∃ m,w.cell? ⟨0,0,none⟩=some (.int .i64 m):=by
 obtain ⟨cs,hh,hs,hr⟩:=h.1 0 _ _ (of_decide_eq_true (by kernel_rfl)) zeroG
 obtain ⟨ts,hts,_,hall⟩:=hr build3
 rw [ctypes3] at hts
 cases hts
 have h1:0<cs.size:=by rw [hs];decide
 obtain ⟨u,hu',hok⟩:=hall 0 cs[0] (by simp [h1])
 have:u=3:=by simpa using hu'.symm
 subst this
 have hcell:w.cell? ⟨0,0,none⟩=some cs[0]:=by simp [World.cell?,hh,h1]
 rw [hcell]
 unfold Cell.ok at hok
 rw [Tryz.underlying3] at hok
 cases hv:cs[0] <;> rw [hv] at hok <;> simp at hok
 rename_i k n
 obtain ⟨rfl,-⟩:=hok
 exact ⟨n,rfl⟩
noncomputable abbrev lw (os:Os):World:=World.laidAll Tryz.prog os Rows.topRumourRow.laid
theorem laid_met (os:Os) (args:Array Value):laidMetH Tryz.prog Rows.topRumourRow.laid ((lw os).forCall (fun _ _=>0) ⟨#[],args,[]⟩).memory:=by
 rw [MakeChecks.laidMetH_plain _ _ _ (by kernel_rfl)];exact laidMet_laidAll _ (by kernel_rfl) (by kernel_rfl)
abbrev wargs:Array Value:=#[elC 0 0 0 0 0,ptV 0 0,.slice none 0 0,.int .i64 0]
theorem whole0 (os:Os) {H:Type} (enc:TypeId × Value→H):(DataW.whole enc Tryz.prog ((lw os).forCall (fun _ _=>0) ⟨#[],wargs,[]⟩).memory Tryz.f4.params.toList (OpenSpec.ofChange Rows.topRumourSpec).vars false wargs.toList 8).isSome=true:=by kernel_rfl
theorem sized0 (os:Os) {H:Type} (enc:TypeId × Value→H):(OpenSpec.ofChange Rows.topRumourSpec).bare.sizedB enc Tryz.prog Tryz.f4 false ((lw os).forCall (fun _ _=>0) ⟨#[],wargs,[]⟩).memory wargs 8=true:=by kernel_rfl
theorem witness_row (os:Os) {H:Type} (enc:TypeId × Value→H) :
  (OpenSpec.ofChange Rows.topRumourSpec).preRow enc Tryz.prog Tryz.f4 Rows.topRumourRow.domain false Rows.topRumourRow.laid ((lw os).forCall (fun _ _=>0) ⟨#[],wargs,[]⟩).memory wargs:=by
 have hw:=whole0 os enc
 obtain ⟨x,hx⟩:=Option.isSome_iff_exists.1 hw
 exact OpenSpec.preRow_of_cond 8 hx rfl (fun k hk=>by cases hk) (sized0 os enc) (laid_met os _)
theorem refB (os:Os):((lw os).forCall (fun _ _=>0) ⟨#[],wargs,[]⟩).variablesRefB Tryz.prog=true:=by kernel_rfl
theorem dropB (os:Os):(((lw os).forCall (fun _ _=>0) ⟨#[],wargs,[]⟩).heap.toList.drop Tryz.prog.globals.size).take ((begin Tryz.prog (fun _ _=>0) default).world.heap.size-Tryz.prog.globals.size) =
   (begin Tryz.prog (fun _ _=>0) default).world.heap.toList.drop Tryz.prog.globals.size:=by kernel_rfl
theorem inB (os:Os):Input.okWideB Tryz.prog ((lw os).forCall (fun _ _=>0) ⟨#[],wargs,[]⟩) 4 ⟨#[],wargs,[]⟩=true:=by kernel_rfl
theorem noInit:Tryz.prog.inits.idxOf? 4=none:=by kernel_rfl
theorem lifted (os:Os) (started:os.Started) (H:Type) (enc:TypeId × Value→H) (F0:Stop.Interp) :
  ReturnsInHanded {} Tryz.checked os 4 .any ((OpenSpec.ofChange Rows.topRumourSpec).preRow enc Tryz.prog Tryz.f4 Rows.topRumourRow.domain false Rows.topRumourRow.laid) (((OpenSpec.ofChange Rows.topRumourSpec).at F0).post enc Tryz.prog Tryz.f4 false true false false):=by
 refine returnsInHanded_of_row (C:=Tryz.checked) (s:=OpenSpec.ofChange Rows.topRumourSpec) own started noInit Tryz.func4
  (witness_row_atRef (enc:=enc) (C:=Tryz.checked) false (lw os) wargs (World.laidAll_os _ _ _) (refB os) (dropB os) (inB os) (witness_row os enc)) ?_
 intro W base args ds gs before hval0 hW hcnd _ _ _ hsh _
 have hval:∀ (j:Nat) t v,Tryz.f4.params[j]? = some t→args[j]? = some v→Value.okWide Tryz.prog W .any base t v:=hval0
 have hW':=hW
 obtain ⟨p,q,hA0,hV,rfl,hfz,hnd⟩:=hW
 have hA:DataW.TrodAll enc Tryz.prog W 0 (fun _=>true) true Tryz.f4.params.toList args.toList ds p:=hA0
 have again:=fun W' (hb:Below W.heap.size W W')=>trodAll_again laidOut hb _ _ _ _ readable hA
 rw [Tryz.params4] at hA hval
 obtain ⟨v0,vs0,d0,ds0,p0,q0,hargs,rfl,rfl,g0,r0⟩:=trodAll_cons hA
 obtain ⟨v1,vs1,d1,ds1,p1,q1,rfl,rfl,rfl,g1,r1⟩:=trodAll_cons r0
 obtain ⟨v2,vs2,d2,ds2,p2,q2,rfl,rfl,rfl,g2,r2⟩:=trodAll_cons r1
 obtain ⟨v3,vs3,d3,ds3,p3,q3,rfl,rfl,rfl,g3,r3⟩:=trodAll_cons r2
 obtain ⟨rfl,rfl,rfl⟩:=trodAll_nil r3
 obtain rfl:args=#[v0,v1,v2,v3]:=by cases args;simp_all
 obtain ⟨rfl,rfl⟩:=trodVars_none hV
 obtain ⟨x0,x1,x2,x3,x4,rfl,-⟩:=open_el (hval 0 _ v0 rfl rfl)
 obtain ⟨y0,y1,rfl,-⟩:=open_pt (hval 1 _ v1 rfl rfl)
 obtain ⟨A,len,cap,T,rfl,hT,hlen⟩:=open_i64s (hval 2 _ v2 rfl rfl) g2
 obtain ⟨n3,rfl,-⟩:=open_i64 (hval 3 _ v3 rfl rfl)
 obtain ⟨m,hm⟩:=some_int hsh
 clear hA0 hval0
 refine (topRumour_c x0 x1 x2 x3 x4 y0 y1 A len cap T n3 W hT hlen (fun w1 hb=>tawake_c w1 m ((hb.cell (p:=⟨0,0,none⟩) (World.block_lt_of_cell? _ _ hm)).trans hm))).mono fun e W' ⟨he,bel⟩=>?_
 subst he
 exact ⟨_,rfl,_,_,_,[],_,[],hW',trodAll_mk1 (shut_bool Tryz.underlying4 _),again W' bel,rfl,bel.frame _,fun h=>by cases h⟩
theorem over:Rows.topRumourRow.holds Tryz.pinned (OpenSpec.ofChange Rows.topRumourSpec) :=
 OpenClaim.holds_of_cond 4 Tryz.f4 rfl rfl rfl rfl rfl rfl rfl ⟨rfl,rfl,rfl,rfl,rfl⟩ rfl rfl rfl rfl rfl fn0 Tryz.func4 closed inst wrap
  (fun os started H enc _ F0=>by rw [OpenClaim.pre_eq_preRow];exact lifted os started H enc F0)
theorem proved:Rows.TopRumourCardSaid :=
 Claim7.holds_tied_plain_at .later [] [.data, .data, .data, .data, .sentinel, .sentinel, .pinned] true (true, "8ffef3cac116936802f9a850093a5d858ddf877d981aa33913dec557d2fd713d") true
  over (fun _ h=>by cases h) text (fun _ h=>by cases h) topRumour_row_tie rfl ⟨rfl,rfl⟩ main0 rfl
  (fun f fn hf hfn=>by
   obtain rfl:f=4:=Option.some.inj (fn0.symm.trans hf) |>.symm
   obtain rfl:fn=Tryz.f4:=(Option.some.inj (Tryz.func4.symm.trans hfn)).symm
   exact ⟨looks0,fun j t ht=>by
    rw [Tryz.params4] at ht
    have hm:t ∈ [35,31,52,2]:=by simpa using Array.mem_of_getElem? ht
    have hall:=stand0
    exact (show Tryz.prog.wantsStandIn t=false by simpa using List.all_eq_true.1 hall t hm)⟩)
  goes0
#print axioms proved
end Go.Proofs.YtechbdnhalmobaaGreatDoor.topRumour
