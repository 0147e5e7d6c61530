/- A part of the proof of the statement in the last file of this claim: texts on the language of the program and on its functions. No condition. -/
import Derived.Test.YtdilaemengjipaaGreatDoorCJ4
import Derived.Test.YtdilaemengjipaaGreatDoorCJ7
import Derived.Test.YtdilaemengjipaaGreatDoorCJ35
import Derived.Test.YtdilaemengjipaaGreatDoorCJ6
import Derived.Test.YtdilaemengjipaaGreatDoorCJ9
import Derived.Test.YtdilaemengjipaaGreatDoorCJ21
import Derived.Test.YtdilaemengjipaaGreatDoorCJ30
import Derived.Test.YtdilaemengjipaaGreatDoorCJ31
import Derived.Test.YtdilaemengjipaaGreatDoorCJ5
import Derived.Test.YtdilaemengjipaaGreatDoorCJ19
import Derived.Test.YtdilaemengjipaaGreatDoorCJ40
import Derived.Test.YtdilaemengjipaaGreatDoorCJ38
import Derived.Test.YtdilaemengjipaaGreatDoorCJ1
set_option linter.unusedVariables false
set_option linter.unusedSimpArgs false
set_option linter.unusedSectionVars false
open Option renaming some->YW,none->YX
open Bool renaming true->YY,false->YZ
open Decidable renaming decide->Y0
open Go.Proofs.Tryz
set_option maxHeartbeats 40000000
namespace Go.Proofs.YtdilaemengjipaaGreatDoor
open _root_.Int renaming tmod->WV
set_option maxRecDepth 10000
open Go.RowKit
def nr(code:List Y6):Option Bool:=
 (ri code).bind λy1=>
 cond y1
 (YW YY)
 ((ir code).bind λy2=>
 (A8 (.sl (code.map Y5)::.un::.un::.be 0 0 0::.sl (y2.2.map cX)::(U 107 [])) [YW ⟨.of 40,16,[[.sl (y2.1.world.aa.aA.map bo),.sl (y2.1.world.aa.off.map aG),vi y2.1.world.aa.change,.sl (y2.1.world.aj.map aZ),.sl (y2.1.world.au.map aC),.sl (y2.1.world.ae.map aU),vi y2.1.world.now,.sl (y2.1.world.aN.map bw),.sl (y2.1.world.skip.map aG),vi y2.1.world.bg,.sl (y2.1.aS.map cG),.sl (y2.1.aT.map cy),.sl (y2.1.aI.map aG),.sl (y2.1.aH.map bA),.sl (y2.1.lines.map bK),.sl (y2.1.aD.map cX)]]⟩]).bind λ_=>
 (cL y2.1 y2.2).bind λy3=>
 cond (Y0 (y3.2<(y2.2.length:Int)))
 ((oe 16 []).bind λ_=>
 (aB y2.2 y3.2).bind λy4=>
 (fc y3.1 y4).bind λy5=>
 cond (Y0 (y5.2=0))
 (YW YZ)
 ((eM y3.1.aD).bind λy6=>
 (oe 16 []).bind λ_=>
 (dJ y6).bind λy7=>
 (cL y2.1 y7).bind λy8=>
 cond (!decide (y8.2=(y3.1.aD.length:Int)))
 (YW YZ)
 ((fM y3.1 y8.1).bind λy9=>
 cond (!y9)
 (YW YZ)
 ((fU y2.2 y3.2).bind λeh=>
 (jx y3.1.aD eh).bind λlr=>
 cond (!lr)
 (YW YZ)
 ((rh code 1).bind λoV=>
 (cr (Y0 ((aM (y3.2+1))≠0))).bind λ_=>
 (oe 16 []).bind λ_=>
 (fU y2.2 (WV oV (aM (y3.2+1)))).bind λoD=>
 (cL y2.1 oD).bind λnF=>
 (oe 16 []).bind λ_=>
 (cr (fJ (WV oV (aM (y3.2+1))) y3.2 y2.2.length)).bind λ_=>
 (cL nF.1 (cM y2.2 (WV oV (aM (y3.2+1))) y3.2)).bind λpZ=>
 cond (Y0 (nF.2=(WV oV (aM (y3.2+1)))))
 (cond (Y0 (pZ.2=(aM (y3.2-(WV oV (aM (y3.2+1)))))))
 ((fM pZ.1 y3.1).bind λod=>
 YW od)
 (YW YZ))
 (YW YZ))))))
 ((eM y3.1.aD).bind λrP=>
 (oe 16 []).bind λ_=>
 (dJ rP).bind λva=>
 (cL y2.1 va).bind λwJ=>
 cond (!decide (wJ.2=(y3.1.aD.length:Int)))
 (YW YZ)
 ((fM y3.1 wJ.1).bind λD5=>
 cond (!D5)
 (YW YZ)
 ((fU y2.2 y3.2).bind λHj=>
 (jx y3.1.aD Hj).bind λza=>
 cond (!za)
 (YW YZ)
 ((rh code 1).bind λBp=>
 (cr (Y0 ((aM (y3.2+1))≠0))).bind λ_=>
 (oe 16 []).bind λ_=>
 (fU y2.2 (WV Bp (aM (y3.2+1)))).bind λy24=>
 (cL y2.1 y24).bind λy25=>
 (oe 16 []).bind λ_=>
 (cr (fJ (WV Bp (aM (y3.2+1))) y3.2 y2.2.length)).bind λ_=>
 (cL y25.1 (cM y2.2 (WV Bp (aM (y3.2+1))) y3.2)).bind λy26=>
 cond (Y0 (y25.2=(WV Bp (aM (y3.2+1)))))
 (cond (Y0 (y26.2=(aM (y3.2-(WV Bp (aM (y3.2+1)))))))
 ((fM y26.1 y3.1).bind λy27=>
 YW y27)
 (YW YZ))
 (YW YZ))))))
theorem ok_klaws_FnReplayed(code:List Y6){r:Bool}(H:nr code=YW r):fa prog 5 [.sl (code.map Y5)] [] (vb r) []:=
 ck (nr.eq_1 ..) func5 ntmps5 results5 (H:=H)
end Go.Proofs.YtdilaemengjipaaGreatDoor
