/- A part of the proof of the statement in the last file of this claim: texts on the language of the program and on its functions. No condition. -/
import Derived.Test.YtmcdjilbkmhfoaaGreatRows
import Derived.Test.YtmcdjilbkmhfoaaGreatCRetryOrders3
import Derived.OpenShut
import Derived.Lib.SmallJoins
namespace Go.Proofs.YtmcdjilbkmhfoaaGreat
set_option maxRecDepth 10000
open Go.ChangeShapes Go.WideShapes Go.ChangeAt Go.RowKit Go.Deep
set_option linter.unusedVariables false
namespace fnExactShutTrip
theorem and_t {a b:Bool} (h:a=true) (k:b=true):(a && b)=true:=by rw [h,k]; rfl
theorem j01:(Rows.fnExactShutTripRow.wf (OpenSpec.ofChange Rows.fnExactShutTripSpec))=true:=by kernel_rfl
theorem j02:(laidOutB Tryz.prog)=true:=by kernel_rfl
theorem j03:(mapsRowed Tryz.prog)=true:=by kernel_rfl
theorem j04:(Tryz.f7.params.all (Tryz.prog.readableRec ·))=true:=by kernel_rfl
theorem j05:(namedTie Tryz.prog Rows.fnExactShutTripRow.named Rows.fnExactShutTripSpec.vars)=true:=by kernel_rfl
theorem j06:((Rows.fnExactShutTripRow.stops == []))=true:=by kernel_rfl
theorem j07:((Tryz.prog.stops == []))=true:=by kernel_rfl
theorem j08:((Rows.fnExactShutTripRow.knobs == []))=true:=by kernel_rfl
theorem j09:((Tryz.prog.stopKnobs == []))=true:=by kernel_rfl
theorem j10:((Rows.fnExactShutTripRow.inPlace == Tryz.prog.inPlace 7))=true:=by kernel_rfl
theorem j11:((Rows.fnExactShutTripRow.unfollowed == Tryz.prog.unfollowed 7))=true:=by kernel_rfl
theorem j12:((Rows.fnExactShutTripRow.recurses == Tryz.prog.recurses 7))=true:=by kernel_rfl
theorem j13:((Rows.fnExactShutTripRow.named == Tryz.prog.varsNamed 7))=true:=by kernel_rfl
theorem j14:((Rows.fnExactShutTripRow.maps == (Tryz.f7.params.toList++Rows.fnExactShutTripSpec.plain.varTypes Tryz.prog).any (Tryz.prog.mapsRec ·)))=true:=by kernel_rfl
theorem j15:((Rows.fnExactShutTripRow.ifaces == (Tryz.f7.params.toList++Rows.fnExactShutTripSpec.plain.varTypes Tryz.prog).any (Tryz.prog.ifacesRec ·)))=true:=by kernel_rfl
theorem j16:((Rows.fnExactShutTripRow.mapsOut == Tryz.prog.mapsAmong Tryz.f7.resultTypes.toList))=true:=by kernel_rfl
theorem j17:((Rows.fnExactShutTripRow.loops == (Tryz.f7.params.toList++Rows.fnExactShutTripSpec.plain.varTypes Tryz.prog).any (Tryz.prog.loopsFrom ·)))=true:=by kernel_rfl
theorem j18:((Rows.fnExactShutTripRow.wideKeys == (Tryz.f7.params.toList++Rows.fnExactShutTripSpec.plain.varTypes Tryz.prog++Tryz.f7.resultTypes.toList).any (Tryz.prog.wideKeysFrom ·)))=true:=by kernel_rfl
theorem j19:(Rows.fnExactShutTripSpec.vars.all (Tryz.prog.varReadable ·))=true:=by kernel_rfl
theorem j20:(Tryz.f7.resultTypes.all (fun t=>Tryz.prog.readableRec t && decide (t<Tryz.prog.types.size)))=true:=by kernel_rfl
theorem j21:((Rows.fnExactShutTripRow.ifacesOut == Tryz.f7.resultTypes.toList.any (Tryz.prog.ifacesRec ·)))=true:=by kernel_rfl
theorem j22:((Rows.fnExactShutTripRow.loopsOut == Tryz.f7.resultTypes.toList.any (Tryz.prog.loopsFrom ·)))=true:=by kernel_rfl
theorem j23:((Rows.fnExactShutTripRow.plainKeys == Tryz.prog.plainKeys))=true:=by kernel_rfl
theorem j24:(Rows.fnExactShutTripRow.shortTexts.isNone)=true:=by kernel_rfl
theorem j25:(Tryz.prog.stopsHeard)=true:=by kernel_rfl
theorem j26:(Tryz.prog.mayEnter)=true:=by kernel_rfl
theorem j27:((Rows.fnExactShutTripRow.lifted == Tryz.prog.liftsFinal))=true:=by kernel_rfl
theorem j28:((Tryz.prog.make == some Rows.fnExactShutTripRow.make))=true:=by kernel_rfl
theorem j29:((Rows.fnExactShutTripRow.kinds == (if Rows.fnExactShutTripRow.domain.isEmpty then [] else Tryz.f7.params.toList.map fun t=>match Tryz.prog.underlying t with | some (.int k)=>some k | _=>none)))=true:=by kernel_rfl
theorem j30:((Rows.fnExactShutTripRow.pinned == Rows.fnExactShutTripRow.pinnedBy))=true:=by kernel_rfl
theorem j31:((Rows.fnExactShutTripRow.veiled == (Tryz.f7.params.toList++Rows.fnExactShutTripSpec.plain.varTypes Tryz.prog++Tryz.f7.resultTypes.toList).any (Tryz.prog.veiledRec ·)))=true:=by kernel_rfl
theorem j32:(Rows.fnExactShutTripRow.veiledFits Tryz.prog Tryz.f7.params.toList (Tryz.f7.params.toList++Rows.fnExactShutTripSpec.plain.varTypes Tryz.prog++Tryz.f7.resultTypes.toList))=true:=by kernel_rfl
theorem joined:joinedFacts Tryz.prog 7 Tryz.f7 Rows.fnExactShutTripSpec Rows.fnExactShutTripRow=true:=by
 unfold joinedFacts
 exact (and_t (and_t (and_t (and_t (and_t (and_t (and_t (and_t (and_t (and_t (and_t (and_t (and_t (and_t (and_t (and_t (and_t (and_t (and_t (and_t (and_t (and_t (and_t (and_t (and_t (and_t (and_t (and_t (and_t (and_t (and_t j01 j02) j03) j04) j05) j06) j07) j08) j09) j10) j11) j12) j13) j14) j15) j16) j17) j18) j19) j20) j21) j22) j23) j24) j25) j26) j27) j28) j29) j30) j31) j32)
end fnExactShutTrip
end Go.Proofs.YtmcdjilbkmhfoaaGreat
