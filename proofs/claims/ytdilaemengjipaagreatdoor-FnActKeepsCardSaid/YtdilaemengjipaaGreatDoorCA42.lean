/- A part of the proof of the statement in the last file of this claim: texts on the language of the program and on its functions. No condition. -/
import Derived.Test.YtdilaemengjipaaGreatDoorRows
import Derived.Test.YtdilaemengjipaaGreatDoorCA3
import Derived.Test.YtdilaemengjipaaGreatDoorChecked
import Derived.Lib.SmallJoins
import Derived.OpenShut
set_option linter.unusedVariables false
set_option linter.unusedSimpArgs false
set_option linter.unusedSectionVars false
namespace Go.Proofs.YtdilaemengjipaaGreatDoor
set_option maxRecDepth 10000
open Go.ChangeShapes Go.WideShapes Go.ChangeAt Go.RowKit Go.Deep
namespace fnActKeeps
theorem YP{a b:Bool}(h:a=true)(k:b=true):(a&&b)=true:=by rw[h,k];rfl
theorem j01:(Rows.fnActKeepsRow.wf (OpenSpec.ofChange Rows.fnActKeepsSpec))=true:=by kernel_rfl
theorem j02:(laidOutB Tryz.prog)=true:=by kernel_rfl
theorem j03:(mapsRowed Tryz.prog)=true:=by kernel_rfl
theorem j04:(Tryz.f3.params.all (Tryz.prog.readableRec ·))=true:=by kernel_rfl
theorem j05:(namedTie Tryz.prog Rows.fnActKeepsRow.named Rows.fnActKeepsSpec.vars)=true:=by kernel_rfl
theorem j06:((Rows.fnActKeepsRow.stops==[]))=true:=by kernel_rfl
theorem j07:((Tryz.prog.stops==[]))=true:=by kernel_rfl
theorem j08:((Rows.fnActKeepsRow.knobs==[]))=true:=by kernel_rfl
theorem j09:((Tryz.prog.stopKnobs==[]))=true:=by kernel_rfl
theorem j10:((Rows.fnActKeepsRow.inPlace==Tryz.prog.inPlace 3))=true:=by kernel_rfl
theorem j11:((Rows.fnActKeepsRow.unfollowed==Tryz.prog.unfollowed 3))=true:=by kernel_rfl
theorem j12:((Rows.fnActKeepsRow.recurses==Tryz.prog.recurses 3))=true:=by kernel_rfl
theorem j13:((Rows.fnActKeepsRow.named==Tryz.prog.varsNamed 3))=true:=by kernel_rfl
theorem j14:((Rows.fnActKeepsRow.maps==(Tryz.f3.params.toList++Rows.fnActKeepsSpec.plain.varTypes Tryz.prog).any (Tryz.prog.mapsRec ·)))=true:=by kernel_rfl
theorem j15:((Rows.fnActKeepsRow.ifaces==(Tryz.f3.params.toList++Rows.fnActKeepsSpec.plain.varTypes Tryz.prog).any (Tryz.prog.ifacesRec ·)))=true:=by kernel_rfl
theorem j16:((Rows.fnActKeepsRow.mapsOut==Tryz.prog.mapsAmong Tryz.f3.resultTypes.toList))=true:=by kernel_rfl
theorem j17:((Rows.fnActKeepsRow.loops==(Tryz.f3.params.toList++Rows.fnActKeepsSpec.plain.varTypes Tryz.prog).any (Tryz.prog.loopsFrom ·)))=true:=by kernel_rfl
theorem j18:((Rows.fnActKeepsRow.wideKeys==(Tryz.f3.params.toList++Rows.fnActKeepsSpec.plain.varTypes Tryz.prog++Tryz.f3.resultTypes.toList).any (Tryz.prog.wideKeysFrom ·)))=true:=by kernel_rfl
theorem j19:(Rows.fnActKeepsSpec.vars.all (Tryz.prog.varReadable ·))=true:=by kernel_rfl
theorem j20:(Tryz.f3.resultTypes.all (fun t=>Tryz.prog.readableRec t&&decide (t<Tryz.prog.types.size)))=true:=by kernel_rfl
theorem j21:((Rows.fnActKeepsRow.ifacesOut==Tryz.f3.resultTypes.toList.any (Tryz.prog.ifacesRec ·)))=true:=by kernel_rfl
theorem j22:((Rows.fnActKeepsRow.loopsOut==Tryz.f3.resultTypes.toList.any (Tryz.prog.loopsFrom ·)))=true:=by kernel_rfl
theorem j23:((Rows.fnActKeepsRow.plainKeys==Tryz.prog.plainKeys))=true:=by kernel_rfl
theorem j24:(Rows.fnActKeepsRow.shortTexts.isNone)=true:=by kernel_rfl
theorem j25:(Tryz.prog.stopsHeard)=true:=by kernel_rfl
theorem j26:(Tryz.prog.mayEnter)=true:=by kernel_rfl
theorem j27:((Rows.fnActKeepsRow.lifted==Tryz.prog.liftsFinal))=true:=by kernel_rfl
theorem j28:((Tryz.prog.make==some Rows.fnActKeepsRow.make))=true:=by kernel_rfl
theorem j29:((Rows.fnActKeepsRow.kinds==(if Rows.fnActKeepsRow.domain.isEmpty then []else Tryz.f3.params.toList.map fun t=>match Tryz.prog.underlying t with|some (.int k)=>some k|_=>none)))=true:=by kernel_rfl
theorem j30:((Rows.fnActKeepsRow.pinned==Rows.fnActKeepsRow.pinnedBy))=true:=by kernel_rfl
theorem j31:((Rows.fnActKeepsRow.veiled==(Tryz.f3.params.toList++Rows.fnActKeepsSpec.plain.varTypes Tryz.prog++Tryz.f3.resultTypes.toList).any (Tryz.prog.veiledRec ·)))=true:=by kernel_rfl
theorem j32:(Rows.fnActKeepsRow.veiledFits Tryz.prog Tryz.f3.params.toList (Tryz.f3.params.toList++Rows.fnActKeepsSpec.plain.varTypes Tryz.prog++Tryz.f3.resultTypes.toList))=true:=by kernel_rfl
theorem joined:joinedFacts Tryz.prog 3 Tryz.f3 Rows.fnActKeepsSpec Rows.fnActKeepsRow=true:=by
 unfold joinedFacts
 exact(YP (YP (YP (YP (YP (YP (YP (YP (YP (YP (YP (YP (YP (YP (YP (YP (YP (YP (YP (YP (YP (YP (YP (YP (YP (YP (YP (YP (YP (YP (YP j01 j02) j03) j04) j05) j06) j07) j08) j09) j10) j11) j12) j13) j14) j15) j16) j17) j18) j19) j20) j21) j22) j23) j24) j25) j26) j27) j28) j29) j30) j31) j32)
end fnActKeeps
end Go.Proofs.YtdilaemengjipaaGreatDoor
