/- A part of the proof of the statement in the last file of this claim: texts on the language of the program and on its functions. No condition. -/
import Derived.Test.YtdilaemengjipaaGreatDoorCA4
import Derived.Test.YtdilaemengjipaaGreatDoorCA8
import Derived.Test.YtdilaemengjipaaGreatDoorCA33
import Derived.Test.YtdilaemengjipaaGreatDoorCA7
import Derived.Test.YtdilaemengjipaaGreatDoorCA32
import Derived.Test.YtdilaemengjipaaGreatDoorCA27
import Derived.Test.YtdilaemengjipaaGreatDoorCA1
set_option linter.unusedVariables false
set_option linter.unusedSimpArgs false
set_option linter.unusedSectionVars false
open Option renaming some->YH,none->YI
open Bool renaming true->YJ,false->YK
open Decidable renaming decide->YL
open Go.Proofs.Tryz
set_option maxHeartbeats 40000000
namespace Go.Proofs.YtdilaemengjipaaGreatDoor
set_option maxRecDepth 10000
open Go.RowKit
def uv(code:List YR):Option Bool:=
 YH (YL (4096<(code.length:Int)))
instance (code:List YR):CT prog (uv code):=⟨6,[.sl (code.map YQ)],[],λr=>vb r,λr=>[],cw (uv.eq_1 ..) func6 ntmps6 results6⟩
end Go.Proofs.YtdilaemengjipaaGreatDoor
