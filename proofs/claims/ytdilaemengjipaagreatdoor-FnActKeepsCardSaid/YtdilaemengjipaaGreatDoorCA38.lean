/- A part of the proof of the statement in the last file of this claim: texts on the language of the program and on its functions. No condition. -/
import Derived.Test.YtdilaemengjipaaGreatDoorCA4
import Derived.Test.YtdilaemengjipaaGreatDoorCA8
import Derived.Test.YtdilaemengjipaaGreatDoorCA33
import Derived.Test.YtdilaemengjipaaGreatDoorCA7
import Derived.Test.YtdilaemengjipaaGreatDoorCA35
import Derived.Test.YtdilaemengjipaaGreatDoorCA36
import Derived.Test.YtdilaemengjipaaGreatDoorCA20
import Derived.Test.YtdilaemengjipaaGreatDoorCA1
set_option linter.unusedVariables false
set_option linter.unusedSimpArgs false
set_option linter.unusedSectionVars false
open Option renaming some->YH,none->YI
open Bool renaming true->YJ,false->YK
open Decidable renaming decide->YL
open Go.Proofs.Tryz
set_option maxHeartbeats 40000000
namespace Go.Proofs.YtdilaemengjipaaGreatDoor
set_option maxRecDepth 10000
open Go.RowKit
def iw(a:aL)(b:aL)(s0:Int):Option (Int⊕(Unit⊕Bool)):=
 cond (YL (s0<(a.aK.length:Int)))
 ((aB a.aK s0).bind λy6=>
 (aB b.aK s0).bind λy7=>
 (iI y6 y7).bind λy8=>
 cond (!y8)
 (YH (.inr (.inr YK)))
 (YH (.inl (aI (s0+1)))))
 (YH (.inr (.inl ())))
instance (a:aL)(b:aL):bo (iw a b):=⟨λs0=>(.un::.un::.be 0 0 0::.be 1 0 0::(U 61 (vi (a.aK.length:Int)::vi s0::(U 34 [])))),λs0=>[YH ⟨.of 40,16,[[.sl (a.world.aa.aA.map bn),.sl (a.world.aa.off.map aE),vi a.world.aa.change,.sl (a.world.ae.map ba),.sl (a.world.ar.map aC),.sl (a.world.ah.map aW),vi a.world.now,.sl (a.world.aH.map bt),.sl (a.world.skip.map aE),vi a.world.bd,.sl (a.aY.map cG),.sl (a.aX.map cI),.sl (a.aM.map aE),.sl (a.aK.map bJ),.sl (a.lines.map bC),.sl (a.aF.map gF)]]⟩,YH ⟨.of 40,16,[[.sl (b.world.aa.aA.map bn),.sl (b.world.aa.off.map aE),vi b.world.aa.change,.sl (b.world.ae.map ba),.sl (b.world.ar.map aC),.sl (b.world.ah.map aW),vi b.world.now,.sl (b.world.aH.map bt),.sl (b.world.skip.map aE),vi b.world.bd,.sl (b.aY.map cG),.sl (b.aX.map cI),.sl (b.aM.map aE),.sl (b.aK.map bJ),.sl (b.lines.map bC),.sl (b.aF.map gF)]]⟩]⟩
def ix(a:aL)(b:aL)(s1:Int):Option (Int⊕(Unit⊕Bool)):=
 cond (YL (s1<(a.aF.length:Int)))
 ((aB a.aF s1).bind λy9=>
 (aB b.aF s1).bind λdL=>
 (ld y9 dL).bind λji=>
 cond (!ji)
 (YH (.inr (.inr YK)))
 (YH (.inl (aI (s1+1)))))
 (YH (.inr (.inl ())))
instance (a:aL)(b:aL):bo (ix a b):=⟨λs1=>(.un::.un::.be 0 0 0::.be 1 0 0::(U 80 (vi (a.aF.length:Int)::vi s1::(U 15 [])))),λs1=>[YH ⟨.of 40,16,[[.sl (a.world.aa.aA.map bn),.sl (a.world.aa.off.map aE),vi a.world.aa.change,.sl (a.world.ae.map ba),.sl (a.world.ar.map aC),.sl (a.world.ah.map aW),vi a.world.now,.sl (a.world.aH.map bt),.sl (a.world.skip.map aE),vi a.world.bd,.sl (a.aY.map cG),.sl (a.aX.map cI),.sl (a.aM.map aE),.sl (a.aK.map bJ),.sl (a.lines.map bC),.sl (a.aF.map gF)]]⟩,YH ⟨.of 40,16,[[.sl (b.world.aa.aA.map bn),.sl (b.world.aa.off.map aE),vi b.world.aa.change,.sl (b.world.ae.map ba),.sl (b.world.ar.map aC),.sl (b.world.ah.map aW),vi b.world.now,.sl (b.world.aH.map bt),.sl (b.world.skip.map aE),vi b.world.bd,.sl (b.aY.map cG),.sl (b.aX.map cI),.sl (b.aM.map aE),.sl (b.aK.map bJ),.sl (b.lines.map bC),.sl (b.aF.map gF)]]⟩]⟩
def kt(a:aL)(b:aL):Option Bool:=
 (lC a.world b.world).bind λy1=>
 cond (!y1)
 (YH YK)
 ((gP a.aY b.aY).bind λy2=>
 cond (!y2)
 (YH YK)
 ((gN a.aX b.aX).bind λy3=>
 cond (!y3)
 (YH YK)
 ((eY a.aM b.aM).bind λy4=>
 cond (!y4)
 (YH YK)
 ((gM a.lines b.lines).bind λy5=>
 cond (!y5)
 (YH YK)
 (cond (!decide ((a.aK.length:Int)=(b.aK.length:Int)))
 (YH YK)
 (cond (!decide ((a.aF.length:Int)=(b.aF.length:Int)))
 (YH YK)
 ((aD (iw a b) NN 0).bind (bk (λo0=>
 (aD (ix a b) NN 0).bind (bk (λo1=>
 YH YJ) (λr=>YH r))) (λr=>YH r)))))))))
instance (a:aL)(b:aL):CT prog (kt a b):=⟨9,[.ag (lx a),.ag (lx b)],[],λr=>vb r,λr=>[],cw (kt.eq_1 ..) func9 ntmps9 results9⟩
end Go.Proofs.YtdilaemengjipaaGreatDoor
