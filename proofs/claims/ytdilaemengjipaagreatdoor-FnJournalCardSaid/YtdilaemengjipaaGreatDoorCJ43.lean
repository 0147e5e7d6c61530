/- A part of the proof of the statement in the last file of this claim: texts on the language of the program and on its functions. No condition. -/
import Derived.Test.YtdilaemengjipaaGreatDoorCJ4
import Derived.Test.YtdilaemengjipaaGreatDoorCJ7
import Derived.Test.YtdilaemengjipaaGreatDoorCJ35
import Derived.Test.YtdilaemengjipaaGreatDoorCJ6
import Derived.Test.YtdilaemengjipaaGreatDoorCJ9
import Derived.Test.YtdilaemengjipaaGreatDoorCJ21
import Derived.Test.YtdilaemengjipaaGreatDoorCJ30
import Derived.Test.YtdilaemengjipaaGreatDoorCJ31
import Derived.Test.YtdilaemengjipaaGreatDoorCJ5
import Derived.Test.YtdilaemengjipaaGreatDoorCJ19
import Derived.Test.YtdilaemengjipaaGreatDoorCJ38
import Derived.Test.YtdilaemengjipaaGreatDoorCJ1
set_option linter.unusedVariables false
set_option linter.unusedSimpArgs false
set_option linter.unusedSectionVars false
open Option renaming some->YW,none->YX
open Bool renaming true->YY,false->YZ
open Decidable renaming decide->Y0
open Go.Proofs.Tryz
set_option maxHeartbeats 40000000
namespace Go.Proofs.YtdilaemengjipaaGreatDoor
set_option maxRecDepth 10000
open Go.RowKit
def ot(code:List Y6):Option Bool:=
 (ri code).bind λy1=>
 cond y1
 (YW YY)
 ((ir code).bind λy2=>
 (A8 (.sl (code.map Y5)::.un::.un::.be 0 0 0::.sl (y2.2.map cX)::(U 68 [])) [YW ⟨.of 40,16,[[.sl (y2.1.world.aa.aA.map bo),.sl (y2.1.world.aa.off.map aG),vi y2.1.world.aa.change,.sl (y2.1.world.aj.map aZ),.sl (y2.1.world.au.map aC),.sl (y2.1.world.ae.map aU),vi y2.1.world.now,.sl (y2.1.world.aN.map bw),.sl (y2.1.world.skip.map aG),vi y2.1.world.bg,.sl (y2.1.aS.map cG),.sl (y2.1.aT.map cy),.sl (y2.1.aI.map aG),.sl (y2.1.aH.map bA),.sl (y2.1.lines.map bK),.sl (y2.1.aD.map cX)]]⟩]).bind λ_=>
 (cL y2.1 y2.2).bind λy3=>
 (lA y2.1 y2.2).bind λy4=>
 cond (!decide (y3.2=y4.2))
 (YW YZ)
 ((eM y3.1.aD).bind λy5=>
 (dJ y5).bind λy6=>
 (jx y6 y3.1.aD).bind λy7=>
 cond (!y7)
 (YW YZ)
 (cond (Y0 ((y3.1.aD.length:Int)<y3.2))
 (YW YZ)
 ((rh code 1).bind λy8=>
 (cr (fJ 0 (IntKind.i64.wrap (Int.tdiv (aM ((y5.size:Int)*y8)) 256)) y5.size)).bind λ_=>
 (dJ (He y5 0 (IntKind.i64.wrap (Int.tdiv (aM ((y5.size:Int)*y8)) 256)))).bind λy9=>
 (A8 (U 5 (.be 0 0 0::(U 4 (.ms 13::(U 62 []))))) [YW ⟨.of 40,16,[[.ms 1,.ms 2,vi y3.1.world.aa.change,.ms 3,.ms 4,.ms 5,vi y3.1.world.now,.ms 6,.ms 7,vi y3.1.world.bg,.ms 8,.ms 9,.ms 10,.ms 11,.ms 12,.sl (y3.1.aD.map cX)]]⟩,YW ⟨.of 144,6,y3.1.world.aa.aA.map bo⟩,YW ⟨.of 3,1,y3.1.world.aa.off.map aG⟩,YW ⟨⟨94,YW 46⟩,11,y3.1.world.aj.map aZ⟩,YW ⟨.of 147,4,y3.1.world.au.map aC⟩,YW ⟨.of 46,2,y3.1.world.ae.map aU⟩,YW ⟨.of 151,6,y3.1.world.aN.map bw⟩,YW ⟨.of 3,1,y3.1.world.skip.map aG⟩,YW ⟨.of 78,2,y3.1.aS.map cG⟩,YW ⟨.of 81,4,y3.1.aT.map cy⟩,YW ⟨.of 3,1,y3.1.aI.map aG⟩,YW ⟨⟨44,YW 3⟩,7,y3.1.aH.map bA⟩,YW ⟨.of 85,4,y3.1.lines.map bK⟩,YW ⟨⟨48,YW 3⟩,13,y9.map cX⟩]).bind λ_=>
 cond (Y0 ((y9.length:Int)<=(y3.1.aD.length:Int)))
 ((fU y3.1.aD (y9.length:Int)).bind λeh=>
 (jx y9 eh).bind λlr=>
 YW lr)
 (YW YZ)))))
theorem ok_klaws_FnJournal(code:List Y6){r:Bool}(H:ot code=YW r):fa prog 4 [.sl (code.map Y5)] [] (vb r) []:=
 ck (ot.eq_1 ..) func4 ntmps4 results4 (H:=H)
end Go.Proofs.YtdilaemengjipaaGreatDoor
