/- A part of the proof of the statement in the last file of this claim: texts on the language of the program and on its functions. No condition. -/
import Derived.Test.YtdilaemengjipaaGreatDoorRows
import Derived.Test.YtdilaemengjipaaGreatDoorCJ3
import Derived.Test.YtdilaemengjipaaGreatDoorChecked
import Derived.Lib.SmallJoins
import Derived.OpenShut
set_option linter.unusedVariables false
set_option linter.unusedSimpArgs false
set_option linter.unusedSectionVars false
namespace Go.Proofs.YtdilaemengjipaaGreatDoor
set_option maxRecDepth 10000
open Go.ChangeShapes Go.WideShapes Go.ChangeAt Go.RowKit Go.Deep
namespace fnReplayed
theorem Y4{a b:Bool}(h:a=true)(k:b=true):(a&&b)=true:=by rw[h,k];rfl
theorem j01:(Rows.fnReplayedRow.wf (OpenSpec.ofChange Rows.fnReplayedSpec))=true:=by kernel_rfl
theorem j02:(laidOutB Tryz.prog)=true:=by kernel_rfl
theorem j03:(mapsRowed Tryz.prog)=true:=by kernel_rfl
theorem j04:(Tryz.f5.params.all (Tryz.prog.readableRec ·))=true:=by kernel_rfl
theorem j05:(namedTie Tryz.prog Rows.fnReplayedRow.named Rows.fnReplayedSpec.vars)=true:=by kernel_rfl
theorem j06:((Rows.fnReplayedRow.stops==[]))=true:=by kernel_rfl
theorem j07:((Tryz.prog.stops==[]))=true:=by kernel_rfl
theorem j08:((Rows.fnReplayedRow.knobs==[]))=true:=by kernel_rfl
theorem j09:((Tryz.prog.stopKnobs==[]))=true:=by kernel_rfl
theorem j10:((Rows.fnReplayedRow.inPlace==Tryz.prog.inPlace 5))=true:=by kernel_rfl
theorem j11:((Rows.fnReplayedRow.unfollowed==Tryz.prog.unfollowed 5))=true:=by kernel_rfl
theorem j12:((Rows.fnReplayedRow.recurses==Tryz.prog.recurses 5))=true:=by kernel_rfl
theorem j13:((Rows.fnReplayedRow.named==Tryz.prog.varsNamed 5))=true:=by kernel_rfl
theorem j14:((Rows.fnReplayedRow.maps==(Tryz.f5.params.toList++Rows.fnReplayedSpec.plain.varTypes Tryz.prog).any (Tryz.prog.mapsRec ·)))=true:=by kernel_rfl
theorem j15:((Rows.fnReplayedRow.ifaces==(Tryz.f5.params.toList++Rows.fnReplayedSpec.plain.varTypes Tryz.prog).any (Tryz.prog.ifacesRec ·)))=true:=by kernel_rfl
theorem j16:((Rows.fnReplayedRow.mapsOut==Tryz.prog.mapsAmong Tryz.f5.resultTypes.toList))=true:=by kernel_rfl
theorem j17:((Rows.fnReplayedRow.loops==(Tryz.f5.params.toList++Rows.fnReplayedSpec.plain.varTypes Tryz.prog).any (Tryz.prog.loopsFrom ·)))=true:=by kernel_rfl
theorem j18:((Rows.fnReplayedRow.wideKeys==(Tryz.f5.params.toList++Rows.fnReplayedSpec.plain.varTypes Tryz.prog++Tryz.f5.resultTypes.toList).any (Tryz.prog.wideKeysFrom ·)))=true:=by kernel_rfl
theorem j19:(Rows.fnReplayedSpec.vars.all (Tryz.prog.varReadable ·))=true:=by kernel_rfl
theorem j20:(Tryz.f5.resultTypes.all (fun t=>Tryz.prog.readableRec t&&decide (t<Tryz.prog.types.size)))=true:=by kernel_rfl
theorem j21:((Rows.fnReplayedRow.ifacesOut==Tryz.f5.resultTypes.toList.any (Tryz.prog.ifacesRec ·)))=true:=by kernel_rfl
theorem j22:((Rows.fnReplayedRow.loopsOut==Tryz.f5.resultTypes.toList.any (Tryz.prog.loopsFrom ·)))=true:=by kernel_rfl
theorem j23:((Rows.fnReplayedRow.plainKeys==Tryz.prog.plainKeys))=true:=by kernel_rfl
theorem j24:(Rows.fnReplayedRow.shortTexts.isNone)=true:=by kernel_rfl
theorem j25:(Tryz.prog.stopsHeard)=true:=by kernel_rfl
theorem j26:(Tryz.prog.mayEnter)=true:=by kernel_rfl
theorem j27:((Rows.fnReplayedRow.lifted==Tryz.prog.liftsFinal))=true:=by kernel_rfl
theorem j28:((Tryz.prog.make==some Rows.fnReplayedRow.make))=true:=by kernel_rfl
theorem j29:((Rows.fnReplayedRow.kinds==(if Rows.fnReplayedRow.domain.isEmpty then []else Tryz.f5.params.toList.map fun t=>match Tryz.prog.underlying t with|some (.int k)=>some k|_=>none)))=true:=by kernel_rfl
theorem j30:((Rows.fnReplayedRow.pinned==Rows.fnReplayedRow.pinnedBy))=true:=by kernel_rfl
theorem j31:((Rows.fnReplayedRow.veiled==(Tryz.f5.params.toList++Rows.fnReplayedSpec.plain.varTypes Tryz.prog++Tryz.f5.resultTypes.toList).any (Tryz.prog.veiledRec ·)))=true:=by kernel_rfl
theorem j32:(Rows.fnReplayedRow.veiledFits Tryz.prog Tryz.f5.params.toList (Tryz.f5.params.toList++Rows.fnReplayedSpec.plain.varTypes Tryz.prog++Tryz.f5.resultTypes.toList))=true:=by kernel_rfl
theorem joined:joinedFacts Tryz.prog 5 Tryz.f5 Rows.fnReplayedSpec Rows.fnReplayedRow=true:=by
 unfold joinedFacts
 exact(Y4 (Y4 (Y4 (Y4 (Y4 (Y4 (Y4 (Y4 (Y4 (Y4 (Y4 (Y4 (Y4 (Y4 (Y4 (Y4 (Y4 (Y4 (Y4 (Y4 (Y4 (Y4 (Y4 (Y4 (Y4 (Y4 (Y4 (Y4 (Y4 (Y4 (Y4 j01 j02) j03) j04) j05) j06) j07) j08) j09) j10) j11) j12) j13) j14) j15) j16) j17) j18) j19) j20) j21) j22) j23) j24) j25) j26) j27) j28) j29) j30) j31) j32)
end fnReplayed
end Go.Proofs.YtdilaemengjipaaGreatDoor
