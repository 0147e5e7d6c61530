/- A part of the proof of the statement in the last file of this claim: texts on the language of the program and on its functions. No condition. -/
import Derived.Test.YtkfbakhnpfmfmaaGreatDoorCFnActRead4
import Derived.Test.YtkfbakhnpfmfmaaGreatDoorCFnActRead6
set_option linter.unusedVariables false
set_option linter.unusedSimpArgs false
set_option linter.unusedSectionVars false
namespace Go.Proofs.YtkfbakhnpfmfmaaGreatDoor
set_option maxRecDepth 10000
open Go.RowKit
set_option linter.unusedVariables false
set_option maxHeartbeats 16000000
def ZP (n:Za) (x:Zh) (now:Int):Option Bool:=
 cond (decide (0<x.gone))
 ((getI x.way (w64 (x.gone-1))).bind fun y1=>
 (getI n.legs y1.leg).bind fun y2=>
 (getI x.way (w64 (x.gone-1))).bind fun y3=>
 (Zv n y3).bind fun y4=>
 cond (decide (now<y4))
 (some false)
 (cond (decide (x.state=1))
 (cond (decide (x.place=y2.to_))
 (cond (!decide (y2.to_=x.to_))
 (cond (decide (x.ended=0))
 (cond (decide (x.gone=(x.way.length:Int)))
 (some true)
 ((getI x.way x.gone).bind fun y5=>
 (Zt n y5).bind fun y6=>
 some (decide (now<y6))))
 (some false))
 (some false))
 (some false))
 (cond (decide (x.state=2))
 (cond (decide (x.place=⟨#[]⟩))
 (cond (decide (x.ended=0))
 (cond (decide (x.gone<(x.way.length:Int)))
 ((getI x.way x.gone).bind fun y7=>
 (Zt n y7).bind fun y8=>
 cond (decide (y8≤now))
 ((getI x.way x.gone).bind fun y9=>
 (Zv n y9).bind fun y10=>
 some (decide (now<y10)))
 (some false))
 (some false))
 (some false))
 (some false))
 (cond (decide (x.state=3))
 (cond (decide (x.place=x.to_))
 (cond (decide (y2.to_=x.to_))
 (cond (decide (x.gone=(x.way.length:Int)))
 (cond (decide (0<x.gone))
 ((getI x.way (w64 (x.gone-1))).bind fun y11=>
 (Zv n y11).bind fun y12=>
 some (decide (x.ended=y12)))
 (some false))
 (some false))
 (some false))
 (some false))
 (some false)))))
 (cond (decide (x.state=1))
 (cond (decide (x.place=x.from_))
 (cond (!decide (x.from_=x.to_))
 (cond (decide (x.ended=0))
 (cond (decide (x.gone=(x.way.length:Int)))
 (some true)
 ((getI x.way x.gone).bind fun y13=>
 (Zt n y13).bind fun y14=>
 some (decide (now<y14))))
 (some false))
 (some false))
 (some false))
 (cond (decide (x.state=2))
 (cond (decide (x.place=⟨#[]⟩))
 (cond (decide (x.ended=0))
 (cond (decide (x.gone<(x.way.length:Int)))
 ((getI x.way x.gone).bind fun y15=>
 (Zt n y15).bind fun y16=>
 cond (decide (y16≤now))
 ((getI x.way x.gone).bind fun y17=>
 (Zv n y17).bind fun y18=>
 some (decide (now<y18)))
 (some false))
 (some false))
 (some false))
 (some false))
 (cond (decide (x.state=3))
 (cond (decide (x.place=x.to_))
 (cond (decide (x.from_=x.to_))
 (cond (decide (x.gone=(x.way.length:Int)))
 (cond (decide (0<x.gone))
 ((getI x.way (w64 (x.gone-1))).bind fun y19=>
 (Zv n y19).bind fun y20=>
 some (decide (x.ended=y20)))
 (some false))
 (some false))
 (some false))
 (some false))
 (some false))))
instance (n:Za) (x:Zh) (now:Int):CT Tryz.prog (ZP n x now):=⟨221,[.ag (Z2 n),.ag (ZV x),vi now],[],fun r=>vb r,fun r=>[],fun H=>by replace H:=H0 H; unfold ZP at H; exact Zd Tryz.func221 rfl Tryz.ntmps221 Tryz.results221 fun Q hQ hQn=>wk3⟩
end Go.Proofs.YtkfbakhnpfmfmaaGreatDoor
