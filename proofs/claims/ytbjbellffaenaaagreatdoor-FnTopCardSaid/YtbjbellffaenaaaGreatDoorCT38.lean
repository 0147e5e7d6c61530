/- A part of the proof of the statement in the last file of this claim: texts on the language of the program and on its functions. No condition. -/
import Derived.Test.YtbjbellffaenaaaGreatDoorRows
import Derived.Test.YtbjbellffaenaaaGreatDoorCT3
import Derived.Test.YtbjbellffaenaaaGreatDoorChecked
import Derived.Lib.SmallJoins
import Derived.OpenShut
set_option linter.all false
set_option maxRecDepth 10000
namespace Go.Proofs.YtbjbellffaenaaaGreatDoor
open Go.ChangeShapes Go.WideShapes Go.ChangeAt Go.RowKit Go.Deep
namespace fnTop
theorem Zk{a b:Bool}(h:a=true)(k:b=true):(a&&b)=true:=by rw[h,k];rfl
theorem j01:(Rows.fnTopRow.wf (OpenSpec.ofChange Rows.fnTopSpec))=true:=by kernel_rfl
theorem j02:(laidOutB Tryz.prog)=true:=by kernel_rfl
theorem j03:(mapsRowed Tryz.prog)=true:=by kernel_rfl
theorem j04:(Tryz.f3.params.all (Tryz.prog.readableRec ·))=true:=by kernel_rfl
theorem j05:(namedTie Tryz.prog Rows.fnTopRow.named Rows.fnTopSpec.vars)=true:=by kernel_rfl
theorem j06:((Rows.fnTopRow.stops==[]))=true:=by kernel_rfl
theorem j07:((Tryz.prog.stops==[]))=true:=by kernel_rfl
theorem j08:((Rows.fnTopRow.knobs==[]))=true:=by kernel_rfl
theorem j09:((Tryz.prog.stopKnobs==[]))=true:=by kernel_rfl
theorem j10:((Rows.fnTopRow.inPlace==Tryz.prog.inPlace 3))=true:=by kernel_rfl
theorem j11:((Rows.fnTopRow.unfollowed==Tryz.prog.unfollowed 3))=true:=by kernel_rfl
theorem j12:((Rows.fnTopRow.recurses==Tryz.prog.recurses 3))=true:=by kernel_rfl
theorem j13:((Rows.fnTopRow.named==Tryz.prog.varsNamed 3))=true:=by kernel_rfl
theorem j14:((Rows.fnTopRow.maps==(Tryz.f3.params.toList++Rows.fnTopSpec.plain.varTypes Tryz.prog).any (Tryz.prog.mapsRec ·)))=true:=by kernel_rfl
theorem j15:((Rows.fnTopRow.ifaces==(Tryz.f3.params.toList++Rows.fnTopSpec.plain.varTypes Tryz.prog).any (Tryz.prog.ifacesRec ·)))=true:=by kernel_rfl
theorem j16:((Rows.fnTopRow.mapsOut==Tryz.prog.mapsAmong Tryz.f3.resultTypes.toList))=true:=by kernel_rfl
theorem j17:((Rows.fnTopRow.loops==(Tryz.f3.params.toList++Rows.fnTopSpec.plain.varTypes Tryz.prog).any (Tryz.prog.loopsFrom ·)))=true:=by kernel_rfl
theorem j18:((Rows.fnTopRow.wideKeys==(Tryz.f3.params.toList++Rows.fnTopSpec.plain.varTypes Tryz.prog++Tryz.f3.resultTypes.toList).any (Tryz.prog.wideKeysFrom ·)))=true:=by kernel_rfl
theorem j19:(Rows.fnTopSpec.vars.all (Tryz.prog.varReadable ·))=true:=by kernel_rfl
theorem j20:(Tryz.f3.resultTypes.all (fun t=>Tryz.prog.readableRec t&&decide (t<Tryz.prog.types.size)))=true:=by kernel_rfl
theorem j21:((Rows.fnTopRow.ifacesOut==Tryz.f3.resultTypes.toList.any (Tryz.prog.ifacesRec ·)))=true:=by kernel_rfl
theorem j22:((Rows.fnTopRow.loopsOut==Tryz.f3.resultTypes.toList.any (Tryz.prog.loopsFrom ·)))=true:=by kernel_rfl
theorem j23:((Rows.fnTopRow.plainKeys==Tryz.prog.plainKeys))=true:=by kernel_rfl
theorem j24:(Rows.fnTopRow.shortTexts.isNone)=true:=by kernel_rfl
theorem j25:(Tryz.prog.stopsHeard)=true:=by kernel_rfl
theorem j26:(Tryz.prog.mayEnter)=true:=by kernel_rfl
theorem j27:((Rows.fnTopRow.lifted==Tryz.prog.liftsFinal))=true:=by kernel_rfl
theorem j28:((Tryz.prog.make==some Rows.fnTopRow.make))=true:=by kernel_rfl
theorem j29:((Rows.fnTopRow.kinds==(if Rows.fnTopRow.domain.isEmpty then []else Tryz.f3.params.toList.map fun t=>match Tryz.prog.underlying t with|some (.int k)=>some k|_=>none)))=true:=by kernel_rfl
theorem j30:((Rows.fnTopRow.pinned==Rows.fnTopRow.pinnedBy))=true:=by kernel_rfl
theorem j31:((Rows.fnTopRow.veiled==(Tryz.f3.params.toList++Rows.fnTopSpec.plain.varTypes Tryz.prog++Tryz.f3.resultTypes.toList).any (Tryz.prog.veiledRec ·)))=true:=by kernel_rfl
theorem j32:(Rows.fnTopRow.veiledFits Tryz.prog Tryz.f3.params.toList (Tryz.f3.params.toList++Rows.fnTopSpec.plain.varTypes Tryz.prog++Tryz.f3.resultTypes.toList))=true:=by kernel_rfl
theorem joined:joinedFacts Tryz.prog 3 Tryz.f3 Rows.fnTopSpec Rows.fnTopRow=true:=by
 unfold joinedFacts
 exact(Zk (Zk (Zk (Zk (Zk (Zk (Zk (Zk (Zk (Zk (Zk (Zk (Zk (Zk (Zk (Zk (Zk (Zk (Zk (Zk (Zk (Zk (Zk (Zk (Zk (Zk (Zk (Zk (Zk (Zk (Zk j01 j02) j03) j04) j05) j06) j07) j08) j09) j10) j11) j12) j13) j14) j15) j16) j17) j18) j19) j20) j21) j22) j23) j24) j25) j26) j27) j28) j29) j30) j31) j32)
end fnTop
end Go.Proofs.YtbjbellffaenaaaGreatDoor
