/- A part of the proof of this claim's last theorem. No condition. -/
import Derived.SevenTiedAt
import Derived.Test.YtbjbellffaenaaaGreatDoorCT1
set_option linter.all false
set_option maxRecDepth 10000
open Option renaming some->Zc,none->Zd
open Bool renaming true->Ze,false->Zf
open Decidable renaming decide->Zg
open Go.Proofs.Tryz
namespace Go.Proofs.YtbjbellffaenaaaGreatDoor
open Go
variable {P:Program}
theorem ZeE(H:P.funcs.toList.any Func.goes=Zf)(f:FuncId):P.goes f=false:=by
 have H':P.funcs.any Func.goes=false:=by rw[<-Array.any_toList];exact H
 unfold Program.goes;rw[H',Bool.and_false,Bool.or_false,List.any_eq_false];intro g _
 cases h:P.funcs[g]? with
 |none=>simp
 |some fn=>
  rw[List.any_eq_false]at H
  have:=H fn (by rw[Array.mem_toList_iff];exact Array.mem_of_getElem? h)
  simpa using this
theorem goes_by(H:P.funcs.toList.any Func.goes=Zf){c:OpenClaim}(hs:c.start=.entering):Zf=c.goesBy P:=by
 unfold OpenClaim.goesBy Program.goesAt Program.goesFrom;rw[hs]
 cases P.funcNamed c.func with
 |none=>rfl
 |some f=>simp[ZeE H f]
theorem goes0:prog.funcs.toList.any Func.goes=false:=by kernel_rfl
