/- A part of the proof of the statement in the last file of this claim: texts on the language of the program and on its functions. No condition. -/
import Derived.Test.YtdilaemengjipaaGreatDoorCA4
import Derived.Test.YtdilaemengjipaaGreatDoorCA8
import Derived.Test.YtdilaemengjipaaGreatDoorCA33
import Derived.Test.YtdilaemengjipaaGreatDoorCA7
import Derived.Test.YtdilaemengjipaaGreatDoorCA32
import Derived.Test.YtdilaemengjipaaGreatDoorCA27
import Derived.Test.YtdilaemengjipaaGreatDoorCA34
import Derived.Test.YtdilaemengjipaaGreatDoorCA11
import Derived.Test.YtdilaemengjipaaGreatDoorCA14
import Derived.Test.YtdilaemengjipaaGreatDoorCA20
import Derived.Test.YtdilaemengjipaaGreatDoorCA38
import Derived.Test.YtdilaemengjipaaGreatDoorCA37
import Derived.Test.YtdilaemengjipaaGreatDoorCA1
set_option linter.unusedVariables false
set_option linter.unusedSimpArgs false
set_option linter.unusedSectionVars false
open Option renaming some->YH,none->YI
open Bool renaming true->YJ,false->YK
open Decidable renaming decide->YL
open Go.Proofs.Tryz
set_option maxHeartbeats 40000000
namespace Go.Proofs.YtdilaemengjipaaGreatDoor
set_option maxRecDepth 10000
open Go.RowKit
def nY(code:List YR):Option Bool:=
 (uv code).bind λy1=>
 cond y1
 (YH YJ)
 ((mI code).bind λy2=>
 (nF y2.1 y2.2).bind λy3=>
 cond (!decide (y3.2=0))
 ((kt y3.1 y2.1).bind λy4=>
 YH y4)
 ((jv y3.1).bind λy5=>
 cond y5
 (cond (YL ((y3.1.aF.length:Int)=(aI ((y2.1.aF.length:Int)+1))))
 ((aB y3.1.aF (y2.1.aF.length:Int)).bind λy6=>
 (iG y6).bind λy7=>
 (iG y2.2).bind λy8=>
 cond (YL (y7=y8))
 (cond (YL (y2.1.world.now<=y3.1.world.now))
 ((pB y3.1).bind λy9=>
 cond y9
 (cond (YL (y2.2.kind=6))
 (YH YJ)
 ((l8 y3.1.lines).bind λdL=>
 (l8 y2.1.lines).bind λji=>
 YH (YL (ji<=dL))))
 (YH YK))
 (YH YK))
 (YH YK))
 (YH YK))
 (YH YK)))
theorem ok_laws_FnActKeeps(code:List YR){r:Bool}(H:nY code=YH r):fL prog 3 [.sl (code.map YQ)] [] (vb r) []:=
 cw (nY.eq_1 ..) func3 ntmps3 results3 (H:=H)
end Go.Proofs.YtdilaemengjipaaGreatDoor
