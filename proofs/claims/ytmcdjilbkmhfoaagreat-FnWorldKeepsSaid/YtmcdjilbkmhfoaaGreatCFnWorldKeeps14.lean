/- A part of the proof of the statement in the last file of this claim: texts on the language of the program and on its functions. No condition. -/
import Derived.Test.YtmcdjilbkmhfoaaGreatRows
import Derived.Test.YtmcdjilbkmhfoaaGreatCFnWorldKeeps4
import Derived.Test.YtmcdjilbkmhfoaaGreatCFnWorldKeeps3
import Derived.Test.YtmcdjilbkmhfoaaGreatChecked
import Derived.Lib.SmallJoins
import Derived.OpenShut
namespace Go.Proofs.YtmcdjilbkmhfoaaGreat
set_option maxRecDepth 10000
open Go.ChangeShapes Go.WideShapes Go.ChangeAt Go.RowKit Go.Deep
set_option linter.unusedVariables false
namespace fnWorldKeeps
theorem and_t {a b:Bool} (h:a=true) (k:b=true):(a && b)=true:=by rw [h,k]; rfl
theorem j01:(Rows.fnWorldKeepsRow.wf (OpenSpec.ofChange Rows.fnWorldKeepsSpec))=true:=by kernel_rfl
theorem j02:(laidOutB Tryz.prog)=true:=by kernel_rfl
theorem j03:(mapsRowed Tryz.prog)=true:=by kernel_rfl
theorem j04:(Tryz.f10.params.all (Tryz.prog.readableRec ·))=true:=by kernel_rfl
theorem j05:(namedTie Tryz.prog Rows.fnWorldKeepsRow.named Rows.fnWorldKeepsSpec.vars)=true:=by kernel_rfl
theorem j06:((Rows.fnWorldKeepsRow.stops == []))=true:=by kernel_rfl
theorem j07:((Tryz.prog.stops == []))=true:=by kernel_rfl
theorem j08:((Rows.fnWorldKeepsRow.knobs == []))=true:=by kernel_rfl
theorem j09:((Tryz.prog.stopKnobs == []))=true:=by kernel_rfl
theorem j10:((Rows.fnWorldKeepsRow.inPlace == Tryz.prog.inPlace 10))=true:=by kernel_rfl
theorem j11:((Rows.fnWorldKeepsRow.unfollowed == Tryz.prog.unfollowed 10))=true:=by kernel_rfl
theorem j12:((Rows.fnWorldKeepsRow.recurses == Tryz.prog.recurses 10))=true:=by kernel_rfl
theorem j13:((Rows.fnWorldKeepsRow.named == Tryz.prog.varsNamed 10))=true:=by kernel_rfl
theorem j14:((Rows.fnWorldKeepsRow.maps == (Tryz.f10.params.toList++Rows.fnWorldKeepsSpec.plain.varTypes Tryz.prog).any (Tryz.prog.mapsRec ·)))=true:=by kernel_rfl
theorem j15:((Rows.fnWorldKeepsRow.ifaces == (Tryz.f10.params.toList++Rows.fnWorldKeepsSpec.plain.varTypes Tryz.prog).any (Tryz.prog.ifacesRec ·)))=true:=by kernel_rfl
theorem j16:((Rows.fnWorldKeepsRow.mapsOut == Tryz.prog.mapsAmong Tryz.f10.resultTypes.toList))=true:=by kernel_rfl
theorem j17:((Rows.fnWorldKeepsRow.loops == (Tryz.f10.params.toList++Rows.fnWorldKeepsSpec.plain.varTypes Tryz.prog).any (Tryz.prog.loopsFrom ·)))=true:=by kernel_rfl
theorem j18:((Rows.fnWorldKeepsRow.wideKeys == (Tryz.f10.params.toList++Rows.fnWorldKeepsSpec.plain.varTypes Tryz.prog++Tryz.f10.resultTypes.toList).any (Tryz.prog.wideKeysFrom ·)))=true:=by kernel_rfl
theorem j19:(Rows.fnWorldKeepsSpec.vars.all (Tryz.prog.varReadable ·))=true:=by kernel_rfl
theorem j20:(Tryz.f10.resultTypes.all (fun t=>Tryz.prog.readableRec t && decide (t<Tryz.prog.types.size)))=true:=by kernel_rfl
theorem j21:((Rows.fnWorldKeepsRow.ifacesOut == Tryz.f10.resultTypes.toList.any (Tryz.prog.ifacesRec ·)))=true:=by kernel_rfl
theorem j22:((Rows.fnWorldKeepsRow.loopsOut == Tryz.f10.resultTypes.toList.any (Tryz.prog.loopsFrom ·)))=true:=by kernel_rfl
theorem j23:((Rows.fnWorldKeepsRow.plainKeys == Tryz.prog.plainKeys))=true:=by kernel_rfl
theorem j24:(Rows.fnWorldKeepsRow.shortTexts.isNone)=true:=by kernel_rfl
theorem j25:(Tryz.prog.stopsHeard)=true:=by kernel_rfl
theorem j26:(Tryz.prog.mayEnter)=true:=by kernel_rfl
theorem j27:((Rows.fnWorldKeepsRow.lifted == Tryz.prog.liftsFinal))=true:=by kernel_rfl
theorem j28:((Tryz.prog.make == some Rows.fnWorldKeepsRow.make))=true:=by kernel_rfl
theorem j29:((Rows.fnWorldKeepsRow.kinds == (if Rows.fnWorldKeepsRow.domain.isEmpty then [] else Tryz.f10.params.toList.map fun t=>match Tryz.prog.underlying t with | some (.int k)=>some k | _=>none)))=true:=by kernel_rfl
theorem j30:((Rows.fnWorldKeepsRow.pinned == Rows.fnWorldKeepsRow.pinnedBy))=true:=by kernel_rfl
theorem j31:((Rows.fnWorldKeepsRow.veiled == (Tryz.f10.params.toList++Rows.fnWorldKeepsSpec.plain.varTypes Tryz.prog++Tryz.f10.resultTypes.toList).any (Tryz.prog.veiledRec ·)))=true:=by kernel_rfl
theorem j32:(Rows.fnWorldKeepsRow.veiledFits Tryz.prog Tryz.f10.params.toList (Tryz.f10.params.toList++Rows.fnWorldKeepsSpec.plain.varTypes Tryz.prog++Tryz.f10.resultTypes.toList))=true:=by kernel_rfl
theorem joined:joinedFacts Tryz.prog 10 Tryz.f10 Rows.fnWorldKeepsSpec Rows.fnWorldKeepsRow=true:=by
 unfold joinedFacts
 exact (and_t (and_t (and_t (and_t (and_t (and_t (and_t (and_t (and_t (and_t (and_t (and_t (and_t (and_t (and_t (and_t (and_t (and_t (and_t (and_t (and_t (and_t (and_t (and_t (and_t (and_t (and_t (and_t (and_t (and_t (and_t j01 j02) j03) j04) j05) j06) j07) j08) j09) j10) j11) j12) j13) j14) j15) j16) j17) j18) j19) j20) j21) j22) j23) j24) j25) j26) j27) j28) j29) j30) j31) j32)
end fnWorldKeeps
end Go.Proofs.YtmcdjilbkmhfoaaGreat
