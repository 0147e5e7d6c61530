/- A part of the proof of the statement in the last file of this claim: texts on the language of the program and on its functions. No condition. -/
import Derived.Test.YtdilaemengjipaaGreatDoorProg
import Derived.SevenTiedAt
import Derived.WalkKit
import Derived.Test.YtdilaemengjipaaGreatDoorCA1
set_option linter.unusedVariables false
set_option linter.unusedSimpArgs false
set_option linter.unusedSectionVars false
open Option renaming some->YH,none->YI
open Bool renaming true->YJ,false->YK
open Decidable renaming decide->YL
open Go.Proofs.Tryz
namespace Go.Proofs.YtdilaemengjipaaGreatDoor
set_option maxRecDepth 10000
open Go
variable {P:Program}
theorem UC(H:P.funcs.toList.any Func.goes=YK)(f:FuncId):P.goes f=false:=by
 have H':P.funcs.any Func.goes=false:=by rw[<-Array.any_toList];exact H
 unfold Program.goes;rw[H',Bool.and_false,Bool.or_false,List.any_eq_false];intro g _
 cases h:P.funcs[g]? with
 |none=>simp
 |some fn=>
  rw[List.any_eq_false]at H
  have:=H fn (by rw[Array.mem_toList_iff];exact Array.mem_of_getElem? h)
  simpa using this
theorem goes_by(H:P.funcs.toList.any Func.goes=YK){c:OpenClaim}(hs:c.start=.entering):YK=c.goesBy P:=by
 unfold OpenClaim.goesBy Program.goesAt Program.goesFrom;rw[hs]
 cases P.funcNamed c.func with
 |none=>rfl
 |some f=>simp[UC H f]
theorem goes0:prog.funcs.toList.any Func.goes=false:=by kernel_rfl
end Go.Proofs.YtdilaemengjipaaGreatDoor
