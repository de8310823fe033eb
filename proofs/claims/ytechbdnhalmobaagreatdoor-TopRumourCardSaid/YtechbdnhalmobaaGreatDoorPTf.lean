/- TopRumour: the row's closed facts, one by one. -/
import Derived.Test.YtechbdnhalmobaaGreatDoorFr
import Derived.Test.YtechbdnhalmobaaGreatDoorTie
import Derived.JoinedCond
import Derived.SevenTiedAt
namespace Go.Proofs.YtechbdnhalmobaaGreatDoor.topRumour
set_option linter.unusedSimpArgs false
set_option linter.unusedVariables false
open Go Go.RowKit
set_option maxRecDepth 100000

theorem andT {a b:Bool} (h:a=true) (k:b=true):(a&&b)=true:=by rw [h,k];rfl
theorem j0:Rows.topRumourRow.wf (OpenSpec.ofChange (OpenSpec.ofChange Rows.topRumourSpec).bare)=true:=by kernel_rfl
theorem j1:laidOutB Tryz.prog=true:=by kernel_rfl
theorem j2:mapsRowed Tryz.prog=true:=by kernel_rfl
theorem j3:Tryz.f4.params.all (Tryz.prog.readableRec ·)=true:=by kernel_rfl
theorem j4:namedTie Tryz.prog Rows.topRumourRow.named (OpenSpec.ofChange Rows.topRumourSpec).bare.vars=true:=by kernel_rfl
theorem j5:(Rows.topRumourRow.stops == [])=true:=by kernel_rfl
theorem j6:(Tryz.prog.stops == [])=true:=by kernel_rfl
theorem j7:(Rows.topRumourRow.knobs == [])=true:=by kernel_rfl
theorem j8:(Tryz.prog.stopKnobs == [])=true:=by kernel_rfl
theorem j9:(Rows.topRumourRow.inPlace==Tryz.prog.inPlace 4)=true:=by kernel_rfl
theorem j10:(Rows.topRumourRow.unfollowed==Tryz.prog.unfollowed 4)=true:=by kernel_rfl
theorem j11:(Rows.topRumourRow.recurses==Tryz.prog.recurses 4)=true:=by kernel_rfl
theorem j12:(Rows.topRumourRow.named==Tryz.prog.varsNamed 4)=true:=by kernel_rfl
theorem j13:(Rows.topRumourRow.maps==(Tryz.f4.params.toList++(OpenSpec.ofChange Rows.topRumourSpec).bare.plain.varTypes Tryz.prog).any (Tryz.prog.mapsRec ·))=true:=by kernel_rfl
theorem j14:(Rows.topRumourRow.ifaces==(Tryz.f4.params.toList++(OpenSpec.ofChange Rows.topRumourSpec).bare.plain.varTypes Tryz.prog).any (Tryz.prog.ifacesRec ·))=true:=by kernel_rfl
theorem j15:(Rows.topRumourRow.mapsOut==Tryz.prog.mapsAmong Tryz.f4.resultTypes.toList)=true:=by kernel_rfl
theorem j16:(Rows.topRumourRow.loops==(Tryz.f4.params.toList++(OpenSpec.ofChange Rows.topRumourSpec).bare.plain.varTypes Tryz.prog).any (Tryz.prog.loopsFrom ·))=true:=by kernel_rfl
theorem j17:(Rows.topRumourRow.wideKeys==(Tryz.f4.params.toList++(OpenSpec.ofChange Rows.topRumourSpec).bare.plain.varTypes Tryz.prog++Tryz.f4.resultTypes.toList).any (Tryz.prog.wideKeysFrom ·))=true:=by kernel_rfl
theorem j18:(OpenSpec.ofChange Rows.topRumourSpec).bare.vars.all (Tryz.prog.varReadable ·)=true:=by kernel_rfl
theorem j19:Tryz.f4.resultTypes.all (fun t=>Tryz.prog.readableRec t&&decide (t<Tryz.prog.types.size))=true:=by kernel_rfl
theorem j20:(Rows.topRumourRow.ifacesOut==Tryz.f4.resultTypes.toList.any (Tryz.prog.ifacesRec ·))=true:=by kernel_rfl
theorem j21:(Rows.topRumourRow.loopsOut==Tryz.f4.resultTypes.toList.any (Tryz.prog.loopsFrom ·))=true:=by kernel_rfl
theorem j22:(Rows.topRumourRow.plainKeys==Tryz.prog.plainKeys)=true:=by kernel_rfl
theorem j23:Rows.topRumourRow.shortTexts.isNone=true:=by kernel_rfl
theorem j24:Tryz.prog.stopsHeard=true:=by kernel_rfl
theorem j25:Tryz.prog.mayEnter=true:=by kernel_rfl
theorem j26:(Rows.topRumourRow.lifted==Tryz.prog.liftsFinal)=true:=by kernel_rfl
theorem j27:(Tryz.prog.make==some Rows.topRumourRow.make)=true:=by kernel_rfl
theorem j28:(Rows.topRumourRow.kinds==(if Rows.topRumourRow.domain.isEmpty then [] else Tryz.f4.params.toList.map fun t=>match Tryz.prog.underlying t with|some (.int k)=>some k|_=>none))=true:=by kernel_rfl
theorem j29:(Rows.topRumourRow.pinned==Rows.topRumourRow.pinnedBy)=true:=by kernel_rfl
theorem j30:(Rows.topRumourRow.veiled==(Tryz.f4.params.toList++(OpenSpec.ofChange Rows.topRumourSpec).bare.plain.varTypes Tryz.prog++Tryz.f4.resultTypes.toList).any (Tryz.prog.veiledRec ·))=true:=by kernel_rfl
theorem j31:Rows.topRumourRow.veiledFits Tryz.prog Tryz.f4.params.toList (Tryz.f4.params.toList++(OpenSpec.ofChange Rows.topRumourSpec).bare.plain.varTypes Tryz.prog++Tryz.f4.resultTypes.toList)=true:=by kernel_rfl
theorem closed:joinedFacts Tryz.prog 4 Tryz.f4 (OpenSpec.ofChange Rows.topRumourSpec).bare Rows.topRumourRow=true:=andT (andT (andT (andT (andT (andT (andT (andT (andT (andT (andT (andT (andT (andT (andT (andT (andT (andT (andT (andT (andT (andT (andT (andT (andT (andT (andT (andT (andT (andT (andT j0 j1) j2) j3) j4) j5) j6) j7) j8) j9) j10) j11) j12) j13) j14) j15) j16) j17) j18) j19) j20) j21) j22) j23) j24) j25) j26) j27) j28) j29) j30) j31
theorem fn0:Tryz.prog.funcNamed Rows.topRumourRow.func=some 4:=by kernel_rfl
theorem inst:Tryz.f4.isInstance Tryz.prog Rows.topRumourRow.origin Rows.topRumourRow.targs:=of_decide_eq_true (by kernel_rfl)
theorem wrap:Tryz.f4.isWrapper Tryz.prog Rows.topRumourRow.wrapper Rows.topRumourRow.mainSum:=by unfold Func.isWrapper;first|(rw [if_pos (by decide +kernel)];kernel_rfl)|(rw [if_neg (by decide +kernel)];exact ⟨rfl,rfl⟩)
theorem text:Rows.topRumourRow.wfByText (OpenSpec.ofChange Rows.topRumourSpec)=true:=by kernel_rfl
theorem main0 : Tryz.prog.mainIs = some (true, "8ffef3cac116936802f9a850093a5d858ddf877d981aa33913dec557d2fd713d".toList) := by kernel_rfl
theorem looks0:true=Tryz.prog.looks []:=by kernel_rfl
theorem goes0:false=Rows.topRumourRow.goesBy Tryz.prog:=by kernel_rfl
theorem stand0:([35,31,52,2].all fun u=>!Tryz.prog.wantsStandIn u)=true:=by kernel_rfl
end Go.Proofs.YtechbdnhalmobaaGreatDoor.topRumour
