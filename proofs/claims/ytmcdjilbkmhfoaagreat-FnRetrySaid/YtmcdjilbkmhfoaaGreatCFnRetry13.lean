/- A part of the proof of the statement in the last file of this claim: texts on the language of the program and on its functions. No condition. -/
import Derived.Test.YtmcdjilbkmhfoaaGreatRows
import Derived.Test.YtmcdjilbkmhfoaaGreatCFnWorldKeeps4
import Derived.Test.YtmcdjilbkmhfoaaGreatCFnWorldKeeps3
import Derived.Test.YtmcdjilbkmhfoaaGreatChecked
import Derived.Lib.SmallJoins
import Derived.OpenShut
namespace Go.Proofs.YtmcdjilbkmhfoaaGreat
set_option maxRecDepth 10000
open Go.ChangeShapes Go.WideShapes Go.ChangeAt Go.RowKit Go.Deep
set_option linter.unusedVariables false
namespace fnRetry
theorem and_t {a b:Bool} (h:a=true) (k:b=true):(a && b)=true:=by rw [h,k]; rfl
theorem j01:(Rows.fnRetryRow.wf (OpenSpec.ofChange Rows.fnRetrySpec))=true:=by kernel_rfl
theorem j02:(laidOutB Tryz.prog)=true:=by kernel_rfl
theorem j03:(mapsRowed Tryz.prog)=true:=by kernel_rfl
theorem j04:(Tryz.f12.params.all (Tryz.prog.readableRec ·))=true:=by kernel_rfl
theorem j05:(namedTie Tryz.prog Rows.fnRetryRow.named Rows.fnRetrySpec.vars)=true:=by kernel_rfl
theorem j06:((Rows.fnRetryRow.stops == []))=true:=by kernel_rfl
theorem j07:((Tryz.prog.stops == []))=true:=by kernel_rfl
theorem j08:((Rows.fnRetryRow.knobs == []))=true:=by kernel_rfl
theorem j09:((Tryz.prog.stopKnobs == []))=true:=by kernel_rfl
theorem j10:((Rows.fnRetryRow.inPlace == Tryz.prog.inPlace 12))=true:=by kernel_rfl
theorem j11:((Rows.fnRetryRow.unfollowed == Tryz.prog.unfollowed 12))=true:=by kernel_rfl
theorem j12:((Rows.fnRetryRow.recurses == Tryz.prog.recurses 12))=true:=by kernel_rfl
theorem j13:((Rows.fnRetryRow.named == Tryz.prog.varsNamed 12))=true:=by kernel_rfl
theorem j14:((Rows.fnRetryRow.maps == (Tryz.f12.params.toList++Rows.fnRetrySpec.plain.varTypes Tryz.prog).any (Tryz.prog.mapsRec ·)))=true:=by kernel_rfl
theorem j15:((Rows.fnRetryRow.ifaces == (Tryz.f12.params.toList++Rows.fnRetrySpec.plain.varTypes Tryz.prog).any (Tryz.prog.ifacesRec ·)))=true:=by kernel_rfl
theorem j16:((Rows.fnRetryRow.mapsOut == Tryz.prog.mapsAmong Tryz.f12.resultTypes.toList))=true:=by kernel_rfl
theorem j17:((Rows.fnRetryRow.loops == (Tryz.f12.params.toList++Rows.fnRetrySpec.plain.varTypes Tryz.prog).any (Tryz.prog.loopsFrom ·)))=true:=by kernel_rfl
theorem j18:((Rows.fnRetryRow.wideKeys == (Tryz.f12.params.toList++Rows.fnRetrySpec.plain.varTypes Tryz.prog++Tryz.f12.resultTypes.toList).any (Tryz.prog.wideKeysFrom ·)))=true:=by kernel_rfl
theorem j19:(Rows.fnRetrySpec.vars.all (Tryz.prog.varReadable ·))=true:=by kernel_rfl
theorem j20:(Tryz.f12.resultTypes.all (fun t=>Tryz.prog.readableRec t && decide (t<Tryz.prog.types.size)))=true:=by kernel_rfl
theorem j21:((Rows.fnRetryRow.ifacesOut == Tryz.f12.resultTypes.toList.any (Tryz.prog.ifacesRec ·)))=true:=by kernel_rfl
theorem j22:((Rows.fnRetryRow.loopsOut == Tryz.f12.resultTypes.toList.any (Tryz.prog.loopsFrom ·)))=true:=by kernel_rfl
theorem j23:((Rows.fnRetryRow.plainKeys == Tryz.prog.plainKeys))=true:=by kernel_rfl
theorem j24:(Rows.fnRetryRow.shortTexts.isNone)=true:=by kernel_rfl
theorem j25:(Tryz.prog.stopsHeard)=true:=by kernel_rfl
theorem j26:(Tryz.prog.mayEnter)=true:=by kernel_rfl
theorem j27:((Rows.fnRetryRow.lifted == Tryz.prog.liftsFinal))=true:=by kernel_rfl
theorem j28:((Tryz.prog.make == some Rows.fnRetryRow.make))=true:=by kernel_rfl
theorem j29:((Rows.fnRetryRow.kinds == (if Rows.fnRetryRow.domain.isEmpty then [] else Tryz.f12.params.toList.map fun t=>match Tryz.prog.underlying t with | some (.int k)=>some k | _=>none)))=true:=by kernel_rfl
theorem j30:((Rows.fnRetryRow.pinned == Rows.fnRetryRow.pinnedBy))=true:=by kernel_rfl
theorem j31:((Rows.fnRetryRow.veiled == (Tryz.f12.params.toList++Rows.fnRetrySpec.plain.varTypes Tryz.prog++Tryz.f12.resultTypes.toList).any (Tryz.prog.veiledRec ·)))=true:=by kernel_rfl
theorem j32:(Rows.fnRetryRow.veiledFits Tryz.prog Tryz.f12.params.toList (Tryz.f12.params.toList++Rows.fnRetrySpec.plain.varTypes Tryz.prog++Tryz.f12.resultTypes.toList))=true:=by kernel_rfl
theorem joined:joinedFacts Tryz.prog 12 Tryz.f12 Rows.fnRetrySpec Rows.fnRetryRow=true:=by
 unfold joinedFacts
 exact (and_t (and_t (and_t (and_t (and_t (and_t (and_t (and_t (and_t (and_t (and_t (and_t (and_t (and_t (and_t (and_t (and_t (and_t (and_t (and_t (and_t (and_t (and_t (and_t (and_t (and_t (and_t (and_t (and_t (and_t (and_t j01 j02) j03) j04) j05) j06) j07) j08) j09) j10) j11) j12) j13) j14) j15) j16) j17) j18) j19) j20) j21) j22) j23) j24) j25) j26) j27) j28) j29) j30) j31) j32)
end fnRetry
end Go.Proofs.YtmcdjilbkmhfoaaGreat
