/- A part of the proof of the statement in the last file of this claim: texts on the language of the program and on its functions. No condition. -/
import Derived.Test.YtkfbakhnpfmfmaaGreatDoorCFnActRead4
import Derived.Test.YtkfbakhnpfmfmaaGreatDoorCFnActRead5
import Derived.Test.YtkfbakhnpfmfmaaGreatDoorCFnActRead8
import Derived.Test.YtkfbakhnpfmfmaaGreatDoorCFnActRead18
import Derived.Test.YtkfbakhnpfmfmaaGreatDoorCFnActRead9
import Derived.Test.YtkfbakhnpfmfmaaGreatDoorCFnActRead7
set_option linter.unusedVariables false
set_option linter.unusedSimpArgs false
set_option linter.unusedSectionVars false
namespace Go.Proofs.YtkfbakhnpfmfmaaGreatDoor
set_option maxRecDepth 10000
open Go.RowKit
set_option linter.unusedVariables false
set_option maxHeartbeats 16000000
def Zdf (code:List YB8):Option Bool:=
 (ZgW code).bind fun y1=>
 cond y1
 (some true)
 ((ZbF code).bind fun y2=>
 (Zq y2).bind fun y3=>
 (Z4 y3).bind fun y4=>
 (Zap y2).bind fun y5=>
 (Zaj y2).bind fun y6=>
 cond (!(y5 == y6))
 (some false)
 ((Zap y2).bind fun y7=>
 cond (y4.2 == y7)
 (cond (!y4.2)
 (some true)
 ((Zq y4.1).bind fun y8=>
 cond (decide (y8=y3))
 (cond (decide (y4.1.kind=y2.kind))
 (cond (decide (y4.1.order=y2.order))
 (cond (decide (y4.1.amount=y2.amount))
 (cond (decide (y4.1.until_=y2.until_))
 (cond (decide (y4.1.trip=y2.trip))
 (some (decide (y4.1.parcel.label=y2.parcel.label)))
 (some false))
 (some false))
 (some false))
 (some false))
 (some false))
 (some false)))
 (some false)))
theorem ok_laws_FnActRead (code:List YB8) {r:Bool} (H:Zdf code=some r):Zd1 Tryz.prog 5 [.sl (code.map cB8)] [] (vb r) []:=by
 replace H:=H0 H
 unfold Zdf at H
 refine Zd Tryz.func5 rfl Tryz.ntmps5 Tryz.results5 fun Q hQ hQn=>?_
 exact wk3
instance (code:List YB8):CT Tryz.prog (Zdf code):=⟨5,[.sl (code.map cB8)],[],fun r=>vb r,fun r=>[],ok_laws_FnActRead code⟩
end Go.Proofs.YtkfbakhnpfmfmaaGreatDoor
