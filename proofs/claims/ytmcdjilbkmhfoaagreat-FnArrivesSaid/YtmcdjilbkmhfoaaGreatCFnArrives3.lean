/- A part of the proof of the statement in the last file of this claim: texts on the language of the program and on its functions. No condition. -/
import Derived.Test.YtmcdjilbkmhfoaaGreatRows
import Derived.Test.YtmcdjilbkmhfoaaGreatCFnTimeHalves4
import Derived.OpenShut
import Derived.Lib.SmallJoins
/- The facts that join the law's row to the program, one by one. -/
namespace Go.Proofs.YtmcdjilbkmhfoaaGreat
set_option maxRecDepth 10000
open Go.ChangeShapes Go.WideShapes Go.ChangeAt Go.RowKit Go.Deep
set_option linter.unusedVariables false
namespace fnArrives
theorem and_t {a b : Bool} (h : a = true) (k : b = true) : (a && b) = true := by rw [h, k]; rfl
theorem j01 : (Rows.fnArrivesRow.wf (OpenSpec.ofChange Rows.fnArrivesSpec)) = true := by kernel_rfl
theorem j02 : (laidOutB Tryz.prog) = true := by kernel_rfl
theorem j03 : (mapsRowed Tryz.prog) = true := by kernel_rfl
theorem j04 : (Tryz.f6.params.all (Tryz.prog.readableRec ·)) = true := by kernel_rfl
theorem j05 : (namedTie Tryz.prog Rows.fnArrivesRow.named Rows.fnArrivesSpec.vars) = true := by kernel_rfl
theorem j06 : ((Rows.fnArrivesRow.stops == [])) = true := by kernel_rfl
theorem j07 : ((Tryz.prog.stops == [])) = true := by kernel_rfl
theorem j08 : ((Rows.fnArrivesRow.knobs == [])) = true := by kernel_rfl
theorem j09 : ((Tryz.prog.stopKnobs == [])) = true := by kernel_rfl
theorem j10 : ((Rows.fnArrivesRow.inPlace == Tryz.prog.inPlace 6)) = true := by kernel_rfl
theorem j11 : ((Rows.fnArrivesRow.unfollowed == Tryz.prog.unfollowed 6)) = true := by kernel_rfl
theorem j12 : ((Rows.fnArrivesRow.recurses == Tryz.prog.recurses 6)) = true := by kernel_rfl
theorem j13 : ((Rows.fnArrivesRow.named == Tryz.prog.varsNamed 6)) = true := by kernel_rfl
theorem j14 : ((Rows.fnArrivesRow.maps == (Tryz.f6.params.toList ++ Rows.fnArrivesSpec.plain.varTypes Tryz.prog).any (Tryz.prog.mapsRec ·))) = true := by kernel_rfl
theorem j15 : ((Rows.fnArrivesRow.ifaces == (Tryz.f6.params.toList ++ Rows.fnArrivesSpec.plain.varTypes Tryz.prog).any (Tryz.prog.ifacesRec ·))) = true := by kernel_rfl
theorem j16 : ((Rows.fnArrivesRow.mapsOut == Tryz.prog.mapsAmong Tryz.f6.resultTypes.toList)) = true := by kernel_rfl
theorem j17 : ((Rows.fnArrivesRow.loops == (Tryz.f6.params.toList ++ Rows.fnArrivesSpec.plain.varTypes Tryz.prog).any (Tryz.prog.loopsFrom ·))) = true := by kernel_rfl
theorem j18 : ((Rows.fnArrivesRow.wideKeys == (Tryz.f6.params.toList ++ Rows.fnArrivesSpec.plain.varTypes Tryz.prog ++ Tryz.f6.resultTypes.toList).any (Tryz.prog.wideKeysFrom ·))) = true := by kernel_rfl
theorem j19 : (Rows.fnArrivesSpec.vars.all (Tryz.prog.varReadable ·)) = true := by kernel_rfl
theorem j20 : (Tryz.f6.resultTypes.all (fun t => Tryz.prog.readableRec t && decide (t < Tryz.prog.types.size))) = true := by kernel_rfl
theorem j21 : ((Rows.fnArrivesRow.ifacesOut == Tryz.f6.resultTypes.toList.any (Tryz.prog.ifacesRec ·))) = true := by kernel_rfl
theorem j22 : ((Rows.fnArrivesRow.loopsOut == Tryz.f6.resultTypes.toList.any (Tryz.prog.loopsFrom ·))) = true := by kernel_rfl
theorem j23 : ((Rows.fnArrivesRow.plainKeys == Tryz.prog.plainKeys)) = true := by kernel_rfl
theorem j24 : (Rows.fnArrivesRow.shortTexts.isNone) = true := by kernel_rfl
theorem j25 : (Tryz.prog.stopsHeard) = true := by kernel_rfl
theorem j26 : (Tryz.prog.mayEnter) = true := by kernel_rfl
theorem j27 : ((Rows.fnArrivesRow.lifted == Tryz.prog.liftsFinal)) = true := by kernel_rfl
theorem j28 : ((Tryz.prog.make == some Rows.fnArrivesRow.make)) = true := by kernel_rfl
theorem j29 : ((Rows.fnArrivesRow.kinds == (if Rows.fnArrivesRow.domain.isEmpty then [] else Tryz.f6.params.toList.map fun t => match Tryz.prog.underlying t with | some (.int k) => some k | _ => none))) = true := by kernel_rfl
theorem j30 : ((Rows.fnArrivesRow.pinned == Rows.fnArrivesRow.pinnedBy)) = true := by kernel_rfl
theorem j31 : ((Rows.fnArrivesRow.veiled == (Tryz.f6.params.toList ++ Rows.fnArrivesSpec.plain.varTypes Tryz.prog ++ Tryz.f6.resultTypes.toList).any (Tryz.prog.veiledRec ·))) = true := by kernel_rfl
theorem j32 : (Rows.fnArrivesRow.veiledFits Tryz.prog Tryz.f6.params.toList (Tryz.f6.params.toList ++ Rows.fnArrivesSpec.plain.varTypes Tryz.prog ++ Tryz.f6.resultTypes.toList)) = true := by kernel_rfl
theorem joined : joinedFacts Tryz.prog 6 Tryz.f6 Rows.fnArrivesSpec Rows.fnArrivesRow = true := by
  unfold joinedFacts
  exact (and_t (and_t (and_t (and_t (and_t (and_t (and_t (and_t (and_t (and_t (and_t (and_t (and_t (and_t (and_t (and_t (and_t (and_t (and_t (and_t (and_t (and_t (and_t (and_t (and_t (and_t (and_t (and_t (and_t (and_t (and_t j01 j02) j03) j04) j05) j06) j07) j08) j09) j10) j11) j12) j13) j14) j15) j16) j17) j18) j19) j20) j21) j22) j23) j24) j25) j26) j27) j28) j29) j30) j31) j32)
end fnArrives
end Go.Proofs.YtmcdjilbkmhfoaaGreat
