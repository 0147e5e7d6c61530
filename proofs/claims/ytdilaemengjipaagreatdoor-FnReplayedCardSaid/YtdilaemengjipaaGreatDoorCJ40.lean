/- A part of the proof of the statement in the last file of this claim: texts on the language of the program and on its functions. No condition. -/
import Derived.Test.YtdilaemengjipaaGreatDoorCJ4
import Derived.Test.YtdilaemengjipaaGreatDoorCJ7
import Derived.Test.YtdilaemengjipaaGreatDoorCJ35
import Derived.Test.YtdilaemengjipaaGreatDoorCJ6
import Derived.Test.YtdilaemengjipaaGreatDoorCJ37
import Derived.Test.YtdilaemengjipaaGreatDoorCJ38
import Derived.Test.YtdilaemengjipaaGreatDoorCJ19
import Derived.Test.YtdilaemengjipaaGreatDoorCJ1
set_option linter.unusedVariables false
set_option linter.unusedSimpArgs false
set_option linter.unusedSectionVars false
open Option renaming some->YW,none->YX
open Bool renaming true->YY,false->YZ
open Decidable renaming decide->Y0
open Go.Proofs.Tryz
set_option maxHeartbeats 40000000
namespace Go.Proofs.YtdilaemengjipaaGreatDoor
set_option maxRecDepth 10000
open Go.RowKit
def iN(a:aF)(b:aF)(s0:Int):Option (Int⊕(Unit⊕Bool)):=
 cond (Y0 (s0<(a.aH.length:Int)))
 ((aB a.aH s0).bind λy6=>
 (aB b.aH s0).bind λy7=>
 (iX y6 y7).bind λy8=>
 cond (!y8)
 (YW (.inr (.inr YZ)))
 (YW (.inl (aM (s0+1)))))
 (YW (.inr (.inl ())))
instance (a:aF)(b:aF):bp (iN a b):=⟨λs0=>(.un::.un::.be 0 0 0::.be 1 0 0::(U 61 (vi (a.aH.length:Int)::vi s0::(U 34 [])))),λs0=>[YW ⟨.of 40,16,[[.sl (a.world.aa.aA.map bo),.sl (a.world.aa.off.map aG),vi a.world.aa.change,.sl (a.world.aj.map aZ),.sl (a.world.au.map aC),.sl (a.world.ae.map aU),vi a.world.now,.sl (a.world.aN.map bw),.sl (a.world.skip.map aG),vi a.world.bg,.sl (a.aS.map cG),.sl (a.aT.map cy),.sl (a.aI.map aG),.sl (a.aH.map bA),.sl (a.lines.map bK),.sl (a.aD.map cX)]]⟩,YW ⟨.of 40,16,[[.sl (b.world.aa.aA.map bo),.sl (b.world.aa.off.map aG),vi b.world.aa.change,.sl (b.world.aj.map aZ),.sl (b.world.au.map aC),.sl (b.world.ae.map aU),vi b.world.now,.sl (b.world.aN.map bw),.sl (b.world.skip.map aG),vi b.world.bg,.sl (b.aS.map cG),.sl (b.aT.map cy),.sl (b.aI.map aG),.sl (b.aH.map bA),.sl (b.lines.map bK),.sl (b.aD.map cX)]]⟩]⟩
def iO(a:aF)(b:aF)(s1:Int):Option (Int⊕(Unit⊕Bool)):=
 cond (Y0 (s1<(a.aD.length:Int)))
 ((aB a.aD s1).bind λy9=>
 (aB b.aD s1).bind λeh=>
 (ly y9 eh).bind λlr=>
 cond (!lr)
 (YW (.inr (.inr YZ)))
 (YW (.inl (aM (s1+1)))))
 (YW (.inr (.inl ())))
instance (a:aF)(b:aF):bp (iO a b):=⟨λs1=>(.un::.un::.be 0 0 0::.be 1 0 0::(U 80 (vi (a.aD.length:Int)::vi s1::(U 15 [])))),λs1=>[YW ⟨.of 40,16,[[.sl (a.world.aa.aA.map bo),.sl (a.world.aa.off.map aG),vi a.world.aa.change,.sl (a.world.aj.map aZ),.sl (a.world.au.map aC),.sl (a.world.ae.map aU),vi a.world.now,.sl (a.world.aN.map bw),.sl (a.world.skip.map aG),vi a.world.bg,.sl (a.aS.map cG),.sl (a.aT.map cy),.sl (a.aI.map aG),.sl (a.aH.map bA),.sl (a.lines.map bK),.sl (a.aD.map cX)]]⟩,YW ⟨.of 40,16,[[.sl (b.world.aa.aA.map bo),.sl (b.world.aa.off.map aG),vi b.world.aa.change,.sl (b.world.aj.map aZ),.sl (b.world.au.map aC),.sl (b.world.ae.map aU),vi b.world.now,.sl (b.world.aN.map bw),.sl (b.world.skip.map aG),vi b.world.bg,.sl (b.aS.map cG),.sl (b.aT.map cy),.sl (b.aI.map aG),.sl (b.aH.map bA),.sl (b.lines.map bK),.sl (b.aD.map cX)]]⟩]⟩
def fM(a:aF)(b:aF):Option Bool:=
 (lQ a.world b.world).bind λy1=>
 cond (!y1)
 (YW YZ)
 ((iq a.aS b.aS).bind λy2=>
 cond (!y2)
 (YW YZ)
 ((il a.aT b.aT).bind λy3=>
 cond (!y3)
 (YW YZ)
 ((fk a.aI b.aI).bind λy4=>
 cond (!y4)
 (YW YZ)
 ((ik a.lines b.lines).bind λy5=>
 cond (!y5)
 (YW YZ)
 (cond (!decide ((a.aH.length:Int)=(b.aH.length:Int)))
 (YW YZ)
 (cond (!decide ((a.aD.length:Int)=(b.aD.length:Int)))
 (YW YZ)
 ((aE (iN a b) NN 0).bind (bh (λo0=>
 (aE (iO a b) NN 0).bind (bh (λo1=>
 YW YY) (λr=>YW r))) (λr=>YW r)))))))))
instance (a:aF)(b:aF):CT prog (fM a b):=⟨9,[.ag (lM a),.ag (lM b)],[],λr=>vb r,λr=>[],cw (fM.eq_1 ..) func9 ntmps9 results9⟩
end Go.Proofs.YtdilaemengjipaaGreatDoor
