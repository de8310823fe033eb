/- Walks. -/
import Derived.Test.YtechbdnhalmobaaGreatDoorFe
import Derived.Test.YtechbdnhalmobaaGreatDoorTie
import Derived.JoinedCond
import Derived.SevenTiedAt
namespace Go.Proofs.YtechbdnhalmobaaGreatDoor.topSilence
set_option linter.unusedSimpArgs false
set_option linter.unusedVariables false
open Go Go.RowKit
set_option maxRecDepth 100000
theorem j0:Rows.topSilenceRow.wf (OpenSpec.ofChange (OpenSpec.ofChange Rows.topSilenceSpec).bare)=true:=by kernel_rfl
theorem j1:laidOutB Tryz.prog=true:=by kernel_rfl
theorem j2:mapsRowed Tryz.prog=true:=by kernel_rfl
theorem j3:Tryz.f5.params.all (Tryz.prog.readableRec ·)=true:=by kernel_rfl
theorem j4:namedTie Tryz.prog Rows.topSilenceRow.named (OpenSpec.ofChange Rows.topSilenceSpec).bare.vars=true:=by kernel_rfl
theorem j5:(Rows.topSilenceRow.stops == [])=true:=by kernel_rfl
theorem j6:(Tryz.prog.stops == [])=true:=by kernel_rfl
theorem j7:(Rows.topSilenceRow.knobs == [])=true:=by kernel_rfl
theorem j8:(Tryz.prog.stopKnobs == [])=true:=by kernel_rfl
theorem j9:(Rows.topSilenceRow.inPlace==Tryz.prog.inPlace 5)=true:=by kernel_rfl
theorem j10:(Rows.topSilenceRow.unfollowed==Tryz.prog.unfollowed 5)=true:=by kernel_rfl
theorem j11:(Rows.topSilenceRow.recurses==Tryz.prog.recurses 5)=true:=by kernel_rfl
theorem j12:(Rows.topSilenceRow.named==Tryz.prog.varsNamed 5)=true:=by kernel_rfl
theorem j13:(Rows.topSilenceRow.maps==(Tryz.f5.params.toList++(OpenSpec.ofChange Rows.topSilenceSpec).bare.plain.varTypes Tryz.prog).any (Tryz.prog.mapsRec ·))=true:=by kernel_rfl
theorem j14:(Rows.topSilenceRow.ifaces==(Tryz.f5.params.toList++(OpenSpec.ofChange Rows.topSilenceSpec).bare.plain.varTypes Tryz.prog).any (Tryz.prog.ifacesRec ·))=true:=by kernel_rfl
theorem j15:(Rows.topSilenceRow.mapsOut==Tryz.prog.mapsAmong Tryz.f5.resultTypes.toList)=true:=by kernel_rfl
theorem j16:(Rows.topSilenceRow.loops==(Tryz.f5.params.toList++(OpenSpec.ofChange Rows.topSilenceSpec).bare.plain.varTypes Tryz.prog).any (Tryz.prog.loopsFrom ·))=true:=by kernel_rfl
theorem j17:(Rows.topSilenceRow.wideKeys==(Tryz.f5.params.toList++(OpenSpec.ofChange Rows.topSilenceSpec).bare.plain.varTypes Tryz.prog++Tryz.f5.resultTypes.toList).any (Tryz.prog.wideKeysFrom ·))=true:=by kernel_rfl
theorem j18:(OpenSpec.ofChange Rows.topSilenceSpec).bare.vars.all (Tryz.prog.varReadable ·)=true:=by kernel_rfl
theorem j19:Tryz.f5.resultTypes.all (fun t=>Tryz.prog.readableRec t&&decide (t<Tryz.prog.types.size))=true:=by kernel_rfl
theorem j20:(Rows.topSilenceRow.ifacesOut==Tryz.f5.resultTypes.toList.any (Tryz.prog.ifacesRec ·))=true:=by kernel_rfl
theorem j21:(Rows.topSilenceRow.loopsOut==Tryz.f5.resultTypes.toList.any (Tryz.prog.loopsFrom ·))=true:=by kernel_rfl
theorem j22:(Rows.topSilenceRow.plainKeys==Tryz.prog.plainKeys)=true:=by kernel_rfl
theorem j23:Rows.topSilenceRow.shortTexts.isNone=true:=by kernel_rfl
theorem j24:Tryz.prog.stopsHeard=true:=by kernel_rfl
theorem j25:Tryz.prog.mayEnter=true:=by kernel_rfl
theorem j26:(Rows.topSilenceRow.lifted==Tryz.prog.liftsFinal)=true:=by kernel_rfl
theorem j27:(Tryz.prog.make==some Rows.topSilenceRow.make)=true:=by kernel_rfl
theorem j28:(Rows.topSilenceRow.kinds==(if Rows.topSilenceRow.domain.isEmpty then [] else Tryz.f5.params.toList.map fun t=>match Tryz.prog.underlying t with|some (.int k)=>some k|_=>none))=true:=by kernel_rfl
theorem j29:(Rows.topSilenceRow.pinned==Rows.topSilenceRow.pinnedBy)=true:=by kernel_rfl
theorem j30:(Rows.topSilenceRow.veiled==(Tryz.f5.params.toList++(OpenSpec.ofChange Rows.topSilenceSpec).bare.plain.varTypes Tryz.prog++Tryz.f5.resultTypes.toList).any (Tryz.prog.veiledRec ·))=true:=by kernel_rfl
theorem j31:Rows.topSilenceRow.veiledFits Tryz.prog Tryz.f5.params.toList (Tryz.f5.params.toList++(OpenSpec.ofChange Rows.topSilenceSpec).bare.plain.varTypes Tryz.prog++Tryz.f5.resultTypes.toList)=true:=by kernel_rfl
theorem pd {a b:Bool} (h:a=true) (k:b=true):(a&&b)=true:=by rw [h,k];rfl
theorem L0:joinedFacts Tryz.prog 5 Tryz.f5 (OpenSpec.ofChange Rows.topSilenceSpec).bare Rows.topSilenceRow=true:=pd (pd (pd (pd (pd (pd (pd (pd (pd (pd (pd (pd (pd (pd (pd (pd (pd (pd (pd (pd (pd (pd (pd (pd (pd (pd (pd (pd (pd (pd (pd j0 j1) j2) j3) j4) j5) j6) j7) j8) j9) j10) j11) j12) j13) j14) j15) j16) j17) j18) j19) j20) j21) j22) j23) j24) j25) j26) j27) j28) j29) j30) j31
theorem fn0:Tryz.prog.funcNamed Rows.topSilenceRow.func=some 5:=by kernel_rfl
theorem Vw:Tryz.f5.isInstance Tryz.prog Rows.topSilenceRow.origin Rows.topSilenceRow.targs:=of_decide_eq_true (by kernel_rfl)
theorem wrap:Tryz.f5.isWrapper Tryz.prog Rows.topSilenceRow.wrapper Rows.topSilenceRow.mainSum:=by unfold Func.isWrapper;first|(rw [if_pos (by decide +kernel)];kernel_rfl)|(rw [if_neg (by decide +kernel)];exact ⟨rfl,rfl⟩)
theorem Uz:Rows.topSilenceRow.wfByText (OpenSpec.ofChange Rows.topSilenceSpec)=true:=by kernel_rfl
theorem U5 : Tryz.prog.mainIs = some (true, "8ffef3cac116936802f9a850093a5d858ddf877d981aa33913dec557d2fd713d".toList) := by kernel_rfl
theorem Ub:true=Tryz.prog.looks []:=by kernel_rfl
theorem U9:false=Rows.topSilenceRow.goesBy Tryz.prog:=by kernel_rfl
theorem Ty:([3,3,3].all fun u=>!Tryz.prog.wantsStandIn u)=true:=by kernel_rfl
end Go.Proofs.YtechbdnhalmobaaGreatDoor.topSilence
