/- A part of the proof of the statement in the last file of this claim: texts on the language of the program and on its functions. No condition. -/
import Derived.Test.YtdilaemengjipaaGreatDoorRows
import Derived.Test.YtdilaemengjipaaGreatDoorCJ3
import Derived.Test.YtdilaemengjipaaGreatDoorChecked
import Derived.Lib.SmallJoins
import Derived.OpenShut
set_option linter.unusedVariables false
set_option linter.unusedSimpArgs false
set_option linter.unusedSectionVars false
namespace Go.Proofs.YtdilaemengjipaaGreatDoor
set_option maxRecDepth 10000
open Go.ChangeShapes Go.WideShapes Go.ChangeAt Go.RowKit Go.Deep
namespace fnJournal
theorem Y4{a b:Bool}(h:a=true)(k:b=true):(a&&b)=true:=by rw[h,k];rfl
theorem j01:(Rows.fnJournalRow.wf (OpenSpec.ofChange Rows.fnJournalSpec))=true:=by kernel_rfl
theorem j02:(laidOutB Tryz.prog)=true:=by kernel_rfl
theorem j03:(mapsRowed Tryz.prog)=true:=by kernel_rfl
theorem j04:(Tryz.f4.params.all (Tryz.prog.readableRec ·))=true:=by kernel_rfl
theorem j05:(namedTie Tryz.prog Rows.fnJournalRow.named Rows.fnJournalSpec.vars)=true:=by kernel_rfl
theorem j06:((Rows.fnJournalRow.stops==[]))=true:=by kernel_rfl
theorem j07:((Tryz.prog.stops==[]))=true:=by kernel_rfl
theorem j08:((Rows.fnJournalRow.knobs==[]))=true:=by kernel_rfl
theorem j09:((Tryz.prog.stopKnobs==[]))=true:=by kernel_rfl
theorem j10:((Rows.fnJournalRow.inPlace==Tryz.prog.inPlace 4))=true:=by kernel_rfl
theorem j11:((Rows.fnJournalRow.unfollowed==Tryz.prog.unfollowed 4))=true:=by kernel_rfl
theorem j12:((Rows.fnJournalRow.recurses==Tryz.prog.recurses 4))=true:=by kernel_rfl
theorem j13:((Rows.fnJournalRow.named==Tryz.prog.varsNamed 4))=true:=by kernel_rfl
theorem j14:((Rows.fnJournalRow.maps==(Tryz.f4.params.toList++Rows.fnJournalSpec.plain.varTypes Tryz.prog).any (Tryz.prog.mapsRec ·)))=true:=by kernel_rfl
theorem j15:((Rows.fnJournalRow.ifaces==(Tryz.f4.params.toList++Rows.fnJournalSpec.plain.varTypes Tryz.prog).any (Tryz.prog.ifacesRec ·)))=true:=by kernel_rfl
theorem j16:((Rows.fnJournalRow.mapsOut==Tryz.prog.mapsAmong Tryz.f4.resultTypes.toList))=true:=by kernel_rfl
theorem j17:((Rows.fnJournalRow.loops==(Tryz.f4.params.toList++Rows.fnJournalSpec.plain.varTypes Tryz.prog).any (Tryz.prog.loopsFrom ·)))=true:=by kernel_rfl
theorem j18:((Rows.fnJournalRow.wideKeys==(Tryz.f4.params.toList++Rows.fnJournalSpec.plain.varTypes Tryz.prog++Tryz.f4.resultTypes.toList).any (Tryz.prog.wideKeysFrom ·)))=true:=by kernel_rfl
theorem j19:(Rows.fnJournalSpec.vars.all (Tryz.prog.varReadable ·))=true:=by kernel_rfl
theorem j20:(Tryz.f4.resultTypes.all (fun t=>Tryz.prog.readableRec t&&decide (t<Tryz.prog.types.size)))=true:=by kernel_rfl
theorem j21:((Rows.fnJournalRow.ifacesOut==Tryz.f4.resultTypes.toList.any (Tryz.prog.ifacesRec ·)))=true:=by kernel_rfl
theorem j22:((Rows.fnJournalRow.loopsOut==Tryz.f4.resultTypes.toList.any (Tryz.prog.loopsFrom ·)))=true:=by kernel_rfl
theorem j23:((Rows.fnJournalRow.plainKeys==Tryz.prog.plainKeys))=true:=by kernel_rfl
theorem j24:(Rows.fnJournalRow.shortTexts.isNone)=true:=by kernel_rfl
theorem j25:(Tryz.prog.stopsHeard)=true:=by kernel_rfl
theorem j26:(Tryz.prog.mayEnter)=true:=by kernel_rfl
theorem j27:((Rows.fnJournalRow.lifted==Tryz.prog.liftsFinal))=true:=by kernel_rfl
theorem j28:((Tryz.prog.make==some Rows.fnJournalRow.make))=true:=by kernel_rfl
theorem j29:((Rows.fnJournalRow.kinds==(if Rows.fnJournalRow.domain.isEmpty then []else Tryz.f4.params.toList.map fun t=>match Tryz.prog.underlying t with|some (.int k)=>some k|_=>none)))=true:=by kernel_rfl
theorem j30:((Rows.fnJournalRow.pinned==Rows.fnJournalRow.pinnedBy))=true:=by kernel_rfl
theorem j31:((Rows.fnJournalRow.veiled==(Tryz.f4.params.toList++Rows.fnJournalSpec.plain.varTypes Tryz.prog++Tryz.f4.resultTypes.toList).any (Tryz.prog.veiledRec ·)))=true:=by kernel_rfl
theorem j32:(Rows.fnJournalRow.veiledFits Tryz.prog Tryz.f4.params.toList (Tryz.f4.params.toList++Rows.fnJournalSpec.plain.varTypes Tryz.prog++Tryz.f4.resultTypes.toList))=true:=by kernel_rfl
theorem joined:joinedFacts Tryz.prog 4 Tryz.f4 Rows.fnJournalSpec Rows.fnJournalRow=true:=by
 unfold joinedFacts
 exact(Y4 (Y4 (Y4 (Y4 (Y4 (Y4 (Y4 (Y4 (Y4 (Y4 (Y4 (Y4 (Y4 (Y4 (Y4 (Y4 (Y4 (Y4 (Y4 (Y4 (Y4 (Y4 (Y4 (Y4 (Y4 (Y4 (Y4 (Y4 (Y4 (Y4 (Y4 j01 j02) j03) j04) j05) j06) j07) j08) j09) j10) j11) j12) j13) j14) j15) j16) j17) j18) j19) j20) j21) j22) j23) j24) j25) j26) j27) j28) j29) j30) j31) j32)
end fnJournal
end Go.Proofs.YtdilaemengjipaaGreatDoor
