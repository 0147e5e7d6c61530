/- A part of the proof of the statement in the last file of this claim: texts on the language of the program and on its functions. No condition. -/
import Derived.Test.YtdilaemengjipaaGreatDoorCJ4
import Derived.Test.YtdilaemengjipaaGreatDoorCJ7
import Derived.Test.YtdilaemengjipaaGreatDoorCJ26
import Derived.Test.YtdilaemengjipaaGreatDoorCJ23
import Derived.Test.YtdilaemengjipaaGreatDoorCJ20
import Derived.Test.YtdilaemengjipaaGreatDoorCJ28
import Derived.Test.YtdilaemengjipaaGreatDoorCJ14
import Derived.Test.YtdilaemengjipaaGreatDoorCJ25
import Derived.Test.YtdilaemengjipaaGreatDoorCJ11
import Derived.Test.YtdilaemengjipaaGreatDoorCJ16
import Derived.Test.YtdilaemengjipaaGreatDoorCJ27
import Derived.Test.YtdilaemengjipaaGreatDoorCJ21
import Derived.Test.YtdilaemengjipaaGreatDoorCJ1
set_option linter.unusedVariables false
set_option linter.unusedSimpArgs false
set_option linter.unusedSectionVars false
open Option renaming some->YW,none->YX
open Bool renaming true->YY,false->YZ
open Decidable renaming decide->Y0
open Go.Proofs.Tryz
set_option maxHeartbeats 40000000
open UInt8 renaming ofNat->WC
open List renaming length_append->VZ,length_cons->V0,length_nil->V1,append_assoc->Xp,map_cons->XI
open Option renaming bind_some->VT
open Bool renaming not_true->V3
open _root_.Int renaming reduceEq->Wx
namespace Go.Proofs.YtdilaemengjipaaGreatDoor
set_option maxRecDepth 10000
open Go.RowKit
def lB(o:aF)(a:ba):Option (Int×aF):=
 cond (Y0 (a.kind=1))
 ((bq [0,1,2,3,4,5,6]).bind λ_=>
 (lX o a.aJ).bind λy1=>
 YW (y1.1,y1.2))
 (cond (Y0 (a.kind=2))
 (cond (Y0 (a.kind=2))
 ((bq [0,1,2,3,4,5,6]).bind λ_=>
 (jb o a).bind λy2=>
 YW (y2.1,y2.2))
 (cond (Y0 (a.kind=3))
 (cond (Y0 (a.bI<=o.world.now))
 (YW (6,o))
 ((oe 8 []).bind λ_=>
 (fO o.world a.bI).bind λy3=>
 YW (0,(⟨y3,o.aS,o.aT,o.aI,o.aH,o.lines,o.aD⟩:aF))))
 (cond (Y0 (a.kind=4))
 ((oe 8 []).bind λ_=>
 (dW o.world a.bk).bind λy4=>
 cond (!y4.2)
 (YW (6,o))
 (YW (0,(⟨y4.1,o.aS,o.aT,o.aI,o.aH,o.lines,o.aD⟩:aF))))
 ((dV o.world).bind λy5=>
 cond (Y0 (y5.2=0))
 (YW (6,o))
 (YW (0,(⟨y5.1,o.aS,o.aT,o.aI,o.aH,o.lines,o.aD⟩:aF)))))))
 (cond (Y0 (a.kind=6))
 ((bq [0,1,2,3,4,5,6]).bind λ_=>
 (jb o a).bind λy6=>
 YW (y6.1,y6.2))
 (cond (Y0 (a.kind=3))
 (cond (Y0 (a.bI<=o.world.now))
 (YW (6,o))
 ((oe 8 []).bind λ_=>
 (fO o.world a.bI).bind λy7=>
 YW (0,(⟨y7,o.aS,o.aT,o.aI,o.aH,o.lines,o.aD⟩:aF))))
 (cond (Y0 (a.kind=4))
 ((oe 8 []).bind λ_=>
 (dW o.world a.bk).bind λy8=>
 cond (!y8.2)
 (YW (6,o))
 (YW (0,(⟨y8.1,o.aS,o.aT,o.aI,o.aH,o.lines,o.aD⟩:aF))))
 ((dV o.world).bind λy9=>
 cond (Y0 (y9.2=0))
 (YW (6,o))
 (YW (0,(⟨y9.1,o.aS,o.aT,o.aI,o.aH,o.lines,o.aD⟩:aF))))))))
instance (o:aF)(a:ba):CT prog (lB o a):=⟨111,[.be 0 0 0,.ag (cX a)],[YW ⟨.of 40,16,[[.sl (o.world.aa.aA.map bo),.sl (o.world.aa.off.map aG),vi o.world.aa.change,.sl (o.world.aj.map aZ),.sl (o.world.au.map aC),.sl (o.world.ae.map aU),vi o.world.now,.sl (o.world.aN.map bw),.sl (o.world.skip.map aG),vi o.world.bg,.ms 1,.ms 2,.ms 3,.ms 4,.ms 5,.ms 6]]⟩,YW ⟨.of 78,2,o.aS.map cG⟩,YW ⟨.of 81,4,o.aT.map cy⟩,YW ⟨.of 3,1,o.aI.map aG⟩,YW ⟨.of 44,7,o.aH.map bA⟩,YW ⟨.of 85,4,o.lines.map bK⟩,YW ⟨.of 48,13,o.aD.map cX⟩],λr=>vi r.1,λr=>[YW ⟨.of 40,16,[[.sl (r.2.world.aa.aA.map bo),.sl (r.2.world.aa.off.map aG),vi r.2.world.aa.change,.sl (r.2.world.aj.map aZ),.sl (r.2.world.au.map aC),.sl (r.2.world.ae.map aU),vi r.2.world.now,.sl (r.2.world.aN.map bw),.sl (r.2.world.skip.map aG),vi r.2.world.bg,.ms 1,.ms 2,.ms 3,.ms 7,.ms 8,.ms 6]]⟩,YW ⟨.of 78,2,r.2.aS.map cG⟩,YW ⟨.of 81,4,r.2.aT.map cy⟩,YW ⟨.of 3,1,r.2.aI.map aG⟩,YX,YX,YW ⟨.of 48,13,r.2.aD.map cX⟩,YW ⟨.of 44,7,r.2.aH.map bA⟩,YW ⟨.of 85,4,r.2.lines.map bK⟩],cw (lB.eq_1 ..) func111 ntmps111 results111⟩
def jA(o:aF)(a:ba):Option (aF×Int):=
 (gf o).bind λy1=>
 (lF o).bind λy2=>
 cond (!y2)
 (YW (y1,1))
 ((eV a).bind λy3=>
 cond (!y3)
 (YW (y1,1))
 (cond (Y0 (150<=(o.aD.length:Int)))
 (YW (y1,5))
 ((bq [9,3,4,5,6,7,8]).bind λ_=>
 (lB y1 a).bind λy4=>
 cond (!decide (y4.1=0))
 ((gf o).bind λy5=>
 YW (y5,y4.1))
 ((gW a.aJ).bind λy6=>
 (cr (bn ((y4.2.aD:List ba).length+([(⟨a.kind,y6,a.order,a.bC,a.bI,a.bk⟩:ba)]:List ba).length) 136)).bind λ_=>
 YW ((⟨y4.2.world,y4.2.aS,y4.2.aT,y4.2.aI,y4.2.aH,y4.2.lines,((y4.2.aD:List ba)++[(⟨a.kind,y6,a.order,a.bC,a.bI,a.bk⟩:ba)])⟩:aF),y4.1)))))
instance (o:aF)(a:ba):CT prog (jA o a):=⟨54,[.ag (lM o),.ag (cX a)],[],λr=>.tu [.ag [.sl (r.1.world.aa.aA.map bo),.sl (r.1.world.aa.off.map aG),vi r.1.world.aa.change,.sl (r.1.world.aj.map aZ),.sl (r.1.world.au.map aC),.sl (r.1.world.ae.map aU),vi r.1.world.now,.sl (r.1.world.aN.map bw),.sl (r.1.world.skip.map aG),vi r.1.world.bg,.sl (r.1.aS.map cG),.sl (r.1.aT.map cy),.sl (r.1.aI.map aG),.ms 0,.sl (r.1.lines.map bK),.ms 1],vi r.2],λr=>[YW ⟨.of 44,7,r.1.aH.map bA⟩,YW ⟨.of 48,13,r.1.aD.map cX⟩],cw (jA.eq_1 ..) func54 ntmps54 results54⟩
def oP(y2:aF×bj)(s0:Int×(List Y6)×Int×Int×(List bP)×(List Int)×Int×(List az)×(List aq)×(List av)×Int×(List br)×(List Int)×Int×(List ct)×(List bF)×(List Int)×(List bc)×(List aL)×(List ba)):Option ((Int×(List Y6)×Int×Int×(List bP)×(List Int)×Int×(List az)×(List aq)×(List av)×Int×(List br)×(List Int)×Int×(List ct)×(List bF)×(List Int)×(List bc)×(List aL)×(List ba))⊕((List Y6)×Int×Int×(List bP)×(List Int)×Int×(List az)×(List aq)×(List av)×Int×(List br)×(List Int)×Int×(List ct)×(List bF)×(List Int)×(List bc)×(List aL)×(List ba))):=
 cond (Y0 (0<s0.1))
 ((A8 (.un::.un::.be 0 0 0::.un::.be 1 0 0::.be 2 0 0::.be 3 0 0::vi s0.1::(U 36 [])) [YW ⟨.of 40,16,[[.v (.slice YX 0 0),.v (.slice YX 0 0),vi 0,.v (.slice YX 0 0),.v (.slice YX 0 0),.v (.slice YX 0 0),vi 0,.v (.slice YX 0 0),.v (.slice YX 0 0),vi 0,.v (.slice YX 0 0),.v (.slice YX 0 0),.v (.slice YX 0 0),.v (.slice YX 0 0),.v (.slice YX 0 0),.v (.slice YX 0 0)]]⟩,YW ⟨.of 119,3,[[.sl (s0.2.1.map Y5),vi s0.2.2.1,vi s0.2.2.2.1]]⟩,YW ⟨.of 40,16,[[.sl (y2.1.world.aa.aA.map bo),.sl (y2.1.world.aa.off.map aG),vi y2.1.world.aa.change,.sl (y2.1.world.aj.map aZ),.sl (y2.1.world.au.map aC),.sl (y2.1.world.ae.map aU),vi y2.1.world.now,.sl (y2.1.world.aN.map bw),.sl (y2.1.world.skip.map aG),vi y2.1.world.bg,.sl (y2.1.aS.map cG),.sl (y2.1.aT.map cy),.sl (y2.1.aI.map aG),.sl (y2.1.aH.map bA),.sl (y2.1.lines.map bK),.sl (y2.1.aD.map cX)]]⟩,YW ⟨.of 40,16,[[.sl (s0.2.2.2.2.1.map bo),.sl (s0.2.2.2.2.2.1.map aG),vi s0.2.2.2.2.2.2.1,.sl (s0.2.2.2.2.2.2.2.1.map aZ),.sl (s0.2.2.2.2.2.2.2.2.1.map aC),.sl (s0.2.2.2.2.2.2.2.2.2.1.map aU),vi s0.2.2.2.2.2.2.2.2.2.2.1,.sl (s0.2.2.2.2.2.2.2.2.2.2.2.1.map bw),.sl (s0.2.2.2.2.2.2.2.2.2.2.2.2.1.map aG),vi s0.2.2.2.2.2.2.2.2.2.2.2.2.2.1,.sl (s0.2.2.2.2.2.2.2.2.2.2.2.2.2.2.1.map cG),.sl (s0.2.2.2.2.2.2.2.2.2.2.2.2.2.2.2.1.map cy),.sl (s0.2.2.2.2.2.2.2.2.2.2.2.2.2.2.2.2.1.map aG),.sl (s0.2.2.2.2.2.2.2.2.2.2.2.2.2.2.2.2.2.2.1.map bA),.sl (s0.2.2.2.2.2.2.2.2.2.2.2.2.2.2.2.2.2.1.map bK),.sl (s0.2.2.2.2.2.2.2.2.2.2.2.2.2.2.2.2.2.2.2.map cX)]]⟩]).bind λ_=>
 (oe 8 [3]).bind λ_=>
 (bq [1]).bind λ_=>
 (mP (⟨s0.2.1,s0.2.2.1,s0.2.2.2.1⟩:bj) (⟨(⟨(⟨s0.2.2.2.2.1,s0.2.2.2.2.2.1,s0.2.2.2.2.2.2.1⟩:ah),s0.2.2.2.2.2.2.2.1,s0.2.2.2.2.2.2.2.2.1,s0.2.2.2.2.2.2.2.2.2.1,s0.2.2.2.2.2.2.2.2.2.2.1,s0.2.2.2.2.2.2.2.2.2.2.2.1,s0.2.2.2.2.2.2.2.2.2.2.2.2.1,s0.2.2.2.2.2.2.2.2.2.2.2.2.2.1⟩:ax),s0.2.2.2.2.2.2.2.2.2.2.2.2.2.2.1,s0.2.2.2.2.2.2.2.2.2.2.2.2.2.2.2.1,s0.2.2.2.2.2.2.2.2.2.2.2.2.2.2.2.2.1,s0.2.2.2.2.2.2.2.2.2.2.2.2.2.2.2.2.2.2.1,s0.2.2.2.2.2.2.2.2.2.2.2.2.2.2.2.2.2.1,s0.2.2.2.2.2.2.2.2.2.2.2.2.2.2.2.2.2.2.2⟩:aF)).bind λy5=>
 (jA (⟨(⟨(⟨s0.2.2.2.2.1,s0.2.2.2.2.2.1,s0.2.2.2.2.2.2.1⟩:ah),s0.2.2.2.2.2.2.2.1,s0.2.2.2.2.2.2.2.2.1,s0.2.2.2.2.2.2.2.2.2.1,s0.2.2.2.2.2.2.2.2.2.2.1,s0.2.2.2.2.2.2.2.2.2.2.2.1,s0.2.2.2.2.2.2.2.2.2.2.2.2.1,s0.2.2.2.2.2.2.2.2.2.2.2.2.2.1⟩:ax),s0.2.2.2.2.2.2.2.2.2.2.2.2.2.2.1,s0.2.2.2.2.2.2.2.2.2.2.2.2.2.2.2.1,s0.2.2.2.2.2.2.2.2.2.2.2.2.2.2.2.2.1,s0.2.2.2.2.2.2.2.2.2.2.2.2.2.2.2.2.2.2.1,s0.2.2.2.2.2.2.2.2.2.2.2.2.2.2.2.2.2.1,s0.2.2.2.2.2.2.2.2.2.2.2.2.2.2.2.2.2.2.2⟩:aF) y5.1).bind λy6=>
 YW (.inl ((aM (s0.1-1)),y5.2.b,y5.2.i,y5.2.h,y6.1.world.aa.aA,y6.1.world.aa.off,y6.1.world.aa.change,y6.1.world.aj,y6.1.world.au,y6.1.world.ae,y6.1.world.now,y6.1.world.aN,y6.1.world.skip,y6.1.world.bg,y6.1.aS,y6.1.aT,y6.1.aI,y6.1.lines,y6.1.aH,y6.1.aD)))
 (YW (.inr (s0.2.1,s0.2.2.1,s0.2.2.2.1,s0.2.2.2.2.1,s0.2.2.2.2.2.1,s0.2.2.2.2.2.2.1,s0.2.2.2.2.2.2.2.1,s0.2.2.2.2.2.2.2.2.1,s0.2.2.2.2.2.2.2.2.2.1,s0.2.2.2.2.2.2.2.2.2.2.1,s0.2.2.2.2.2.2.2.2.2.2.2.1,s0.2.2.2.2.2.2.2.2.2.2.2.2.1,s0.2.2.2.2.2.2.2.2.2.2.2.2.2.1,s0.2.2.2.2.2.2.2.2.2.2.2.2.2.2.1,s0.2.2.2.2.2.2.2.2.2.2.2.2.2.2.2.1,s0.2.2.2.2.2.2.2.2.2.2.2.2.2.2.2.2.1,s0.2.2.2.2.2.2.2.2.2.2.2.2.2.2.2.2.2.1,s0.2.2.2.2.2.2.2.2.2.2.2.2.2.2.2.2.2.2.1,s0.2.2.2.2.2.2.2.2.2.2.2.2.2.2.2.2.2.2.2)))
instance (y2:aF×bj):bp (oP y2):=⟨λs0=>(.un::.un::.be 0 0 0::.un::.be 1 0 0::.be 2 0 0::.be 3 0 0::vi s0.1::(U 36 [])),λs0=>[YW ⟨.of 40,16,[[.v (.slice YX 0 0),.v (.slice YX 0 0),vi 0,.v (.slice YX 0 0),.v (.slice YX 0 0),.v (.slice YX 0 0),vi 0,.v (.slice YX 0 0),.v (.slice YX 0 0),vi 0,.v (.slice YX 0 0),.v (.slice YX 0 0),.v (.slice YX 0 0),.v (.slice YX 0 0),.v (.slice YX 0 0),.v (.slice YX 0 0)]]⟩,YW ⟨.of 119,3,[[.sl (s0.2.1.map Y5),vi s0.2.2.1,vi s0.2.2.2.1]]⟩,YW ⟨.of 40,16,[[.sl (y2.1.world.aa.aA.map bo),.sl (y2.1.world.aa.off.map aG),vi y2.1.world.aa.change,.sl (y2.1.world.aj.map aZ),.sl (y2.1.world.au.map aC),.sl (y2.1.world.ae.map aU),vi y2.1.world.now,.sl (y2.1.world.aN.map bw),.sl (y2.1.world.skip.map aG),vi y2.1.world.bg,.sl (y2.1.aS.map cG),.sl (y2.1.aT.map cy),.sl (y2.1.aI.map aG),.sl (y2.1.aH.map bA),.sl (y2.1.lines.map bK),.sl (y2.1.aD.map cX)]]⟩,YW ⟨.of 40,16,[[.sl (s0.2.2.2.2.1.map bo),.sl (s0.2.2.2.2.2.1.map aG),vi s0.2.2.2.2.2.2.1,.sl (s0.2.2.2.2.2.2.2.1.map aZ),.sl (s0.2.2.2.2.2.2.2.2.1.map aC),.sl (s0.2.2.2.2.2.2.2.2.2.1.map aU),vi s0.2.2.2.2.2.2.2.2.2.2.1,.sl (s0.2.2.2.2.2.2.2.2.2.2.2.1.map bw),.sl (s0.2.2.2.2.2.2.2.2.2.2.2.2.1.map aG),vi s0.2.2.2.2.2.2.2.2.2.2.2.2.2.1,.sl (s0.2.2.2.2.2.2.2.2.2.2.2.2.2.2.1.map cG),.sl (s0.2.2.2.2.2.2.2.2.2.2.2.2.2.2.2.1.map cy),.sl (s0.2.2.2.2.2.2.2.2.2.2.2.2.2.2.2.2.1.map aG),.ms 4,.sl (s0.2.2.2.2.2.2.2.2.2.2.2.2.2.2.2.2.2.1.map bK),.ms 5]]⟩,YW ⟨.of 44,7,s0.2.2.2.2.2.2.2.2.2.2.2.2.2.2.2.2.2.2.1.map bA⟩,YW ⟨.of 48,13,s0.2.2.2.2.2.2.2.2.2.2.2.2.2.2.2.2.2.2.2.map cX⟩]⟩
def ir(code:List Y6):Option (aF×(List ba)):=
 (oO code).bind λy1=>
 (bq [1]).bind λ_=>
 (mM y1).bind λy2=>
 (A8 (.un::.un::.be 0 0 0::.un::.be 1 0 0::.be 2 0 0::(U 38 [])) [YW ⟨.of 40,16,[[.v (.slice YX 0 0),.v (.slice YX 0 0),vi 0,.v (.slice YX 0 0),.v (.slice YX 0 0),.v (.slice YX 0 0),vi 0,.v (.slice YX 0 0),.v (.slice YX 0 0),vi 0,.v (.slice YX 0 0),.v (.slice YX 0 0),.v (.slice YX 0 0),.v (.slice YX 0 0),.v (.slice YX 0 0),.v (.slice YX 0 0)]]⟩,YW ⟨.of 119,3,[[.sl (y2.2.b.map Y5),vi y2.2.i,vi y2.2.h]]⟩,YW ⟨.of 40,16,[[.sl (y2.1.world.aa.aA.map bo),.sl (y2.1.world.aa.off.map aG),vi y2.1.world.aa.change,.sl (y2.1.world.aj.map aZ),.sl (y2.1.world.au.map aC),.sl (y2.1.world.ae.map aU),vi y2.1.world.now,.sl (y2.1.world.aN.map bw),.sl (y2.1.world.skip.map aG),vi y2.1.world.bg,.sl (y2.1.aS.map cG),.sl (y2.1.aT.map cy),.sl (y2.1.aI.map aG),.sl (y2.1.aH.map bA),.sl (y2.1.lines.map bK),.sl (y2.1.aD.map cX)]]⟩]).bind λ_=>
 (gf y2.1).bind λy3=>
 (bq [1]).bind λ_=>
 (ay y2.2 9).bind λy4=>
 (aE (oP y2) NN (y4.1,y4.2.b,y4.2.i,y4.2.h,y3.world.aa.aA,y3.world.aa.off,y3.world.aa.change,y3.world.aj,y3.world.au,y3.world.ae,y3.world.now,y3.world.aN,y3.world.skip,y3.world.bg,(y3.aS:List ct),(y3.aT:List bF),(y3.aI:List Int),(y3.lines:List bc),y3.aH,y3.aD)).bind (λo0=>
 (bq [1]).bind λ_=>
 (cA (⟨o0.1,o0.2.1,o0.2.2.1⟩:bj) 3).bind λy7=>
 cond y7.1
 ((bq [1,4,5]).bind λ_=>
 (jV y7.2 (⟨(⟨(⟨o0.2.2.2.1,o0.2.2.2.2.1,o0.2.2.2.2.2.1⟩:ah),o0.2.2.2.2.2.2.1,o0.2.2.2.2.2.2.2.1,o0.2.2.2.2.2.2.2.2.1,o0.2.2.2.2.2.2.2.2.2.1,o0.2.2.2.2.2.2.2.2.2.2.1,o0.2.2.2.2.2.2.2.2.2.2.2.1,o0.2.2.2.2.2.2.2.2.2.2.2.2.1⟩:ax),o0.2.2.2.2.2.2.2.2.2.2.2.2.2.1,o0.2.2.2.2.2.2.2.2.2.2.2.2.2.2.1,o0.2.2.2.2.2.2.2.2.2.2.2.2.2.2.2.1,o0.2.2.2.2.2.2.2.2.2.2.2.2.2.2.2.2.2.1,o0.2.2.2.2.2.2.2.2.2.2.2.2.2.2.2.2.1,o0.2.2.2.2.2.2.2.2.2.2.2.2.2.2.2.2.2.2⟩:aF)).bind λy8=>
 (cr (bn ((y8.2.2.aD:List ba).length+([y8.1]:List ba).length) 136)).bind λ_=>
 YW (y2.1,((y8.2.2.aD:List ba)++[y8.1])))
 (YW (y2.1,o0.2.2.2.2.2.2.2.2.2.2.2.2.2.2.2.2.2.2)))
instance (code:List Y6):CT prog (ir code):=⟨14,[.sl (code.map Y5)],[],λr=>.tu [.ag [.sl (r.1.world.aa.aA.map bo),.sl (r.1.world.aa.off.map aG),vi r.1.world.aa.change,.sl (r.1.world.aj.map aZ),.sl (r.1.world.au.map aC),.sl (r.1.world.ae.map aU),vi r.1.world.now,.sl (r.1.world.aN.map bw),.sl (r.1.world.skip.map aG),vi r.1.world.bg,.sl (r.1.aS.map cG),.sl (r.1.aT.map cy),.sl (r.1.aI.map aG),.sl (r.1.aH.map bA),.sl (r.1.lines.map bK),.sl (r.1.aD.map cX)],.ms 0],λr=>[YW ⟨.of 48,13,r.2.map cX⟩],cw (ir.eq_1 ..) func14 ntmps14 results14⟩
def iY(l:List ba)(s0:Int×(List bP)×(List Int)×Int×(List az)×(List aq)×(List av)×Int×(List br)×(List Int)×Int×(List ct)×(List bF)×(List Int)×(List bc)×(List aL)×(List ba)):Option ((Int×(List bP)×(List Int)×Int×(List az)×(List aq)×(List av)×Int×(List br)×(List Int)×Int×(List ct)×(List bF)×(List Int)×(List bc)×(List aL)×(List ba))⊕(((List bP)×(List Int)×Int×(List az)×(List aq)×(List av)×Int×(List br)×(List Int)×Int×(List ct)×(List bF)×(List Int)×(List bc)×(List aL)×(List ba))⊕(aF×Int))):=
 cond (Y0 (s0.1<(l.length:Int)))
 (cond (Y0 (s0.1<150))
 ((A8 (.un::.sl (l.map cX)::.un::.un::.be 0 0 0::.un::.be 1 0 0::vi s0.1::(U 35 [])) [YW ⟨.of 40,16,[[.v (.slice YX 0 0),.v (.slice YX 0 0),vi 0,.v (.slice YX 0 0),.v (.slice YX 0 0),.v (.slice YX 0 0),vi 0,.v (.slice YX 0 0),.v (.slice YX 0 0),vi 0,.v (.slice YX 0 0),.v (.slice YX 0 0),.v (.slice YX 0 0),.v (.slice YX 0 0),.v (.slice YX 0 0),.v (.slice YX 0 0)]]⟩,YW ⟨.of 40,16,[[.sl (s0.2.1.map bo),.sl (s0.2.2.1.map aG),vi s0.2.2.2.1,.sl (s0.2.2.2.2.1.map aZ),.sl (s0.2.2.2.2.2.1.map aC),.sl (s0.2.2.2.2.2.2.1.map aU),vi s0.2.2.2.2.2.2.2.1,.sl (s0.2.2.2.2.2.2.2.2.1.map bw),.sl (s0.2.2.2.2.2.2.2.2.2.1.map aG),vi s0.2.2.2.2.2.2.2.2.2.2.1,.sl (s0.2.2.2.2.2.2.2.2.2.2.2.1.map cG),.sl (s0.2.2.2.2.2.2.2.2.2.2.2.2.1.map cy),.sl (s0.2.2.2.2.2.2.2.2.2.2.2.2.2.1.map aG),.sl (s0.2.2.2.2.2.2.2.2.2.2.2.2.2.2.2.1.map bA),.sl (s0.2.2.2.2.2.2.2.2.2.2.2.2.2.2.1.map bK),.sl (s0.2.2.2.2.2.2.2.2.2.2.2.2.2.2.2.2.map cX)]]⟩]).bind λ_=>
 (aB l s0.1).bind λy2=>
 (jA (⟨(⟨(⟨s0.2.1,s0.2.2.1,s0.2.2.2.1⟩:ah),s0.2.2.2.2.1,s0.2.2.2.2.2.1,s0.2.2.2.2.2.2.1,s0.2.2.2.2.2.2.2.1,s0.2.2.2.2.2.2.2.2.1,s0.2.2.2.2.2.2.2.2.2.1,s0.2.2.2.2.2.2.2.2.2.2.1⟩:ax),s0.2.2.2.2.2.2.2.2.2.2.2.1,s0.2.2.2.2.2.2.2.2.2.2.2.2.1,s0.2.2.2.2.2.2.2.2.2.2.2.2.2.1,s0.2.2.2.2.2.2.2.2.2.2.2.2.2.2.2.1,s0.2.2.2.2.2.2.2.2.2.2.2.2.2.2.1,s0.2.2.2.2.2.2.2.2.2.2.2.2.2.2.2.2⟩:aF) y2).bind λy3=>
 cond (!decide (y3.2=0))
 (YW (.inr (.inr ((⟨(⟨(⟨s0.2.1,s0.2.2.1,s0.2.2.2.1⟩:ah),s0.2.2.2.2.1,s0.2.2.2.2.2.1,s0.2.2.2.2.2.2.1,s0.2.2.2.2.2.2.2.1,s0.2.2.2.2.2.2.2.2.1,s0.2.2.2.2.2.2.2.2.2.1,s0.2.2.2.2.2.2.2.2.2.2.1⟩:ax),s0.2.2.2.2.2.2.2.2.2.2.2.1,s0.2.2.2.2.2.2.2.2.2.2.2.2.1,s0.2.2.2.2.2.2.2.2.2.2.2.2.2.1,s0.2.2.2.2.2.2.2.2.2.2.2.2.2.2.2.1,s0.2.2.2.2.2.2.2.2.2.2.2.2.2.2.1,s0.2.2.2.2.2.2.2.2.2.2.2.2.2.2.2.2⟩:aF),s0.1))))
 (YW (.inl ((aM (s0.1+1)),y3.1.world.aa.aA,y3.1.world.aa.off,y3.1.world.aa.change,y3.1.world.aj,y3.1.world.au,y3.1.world.ae,y3.1.world.now,y3.1.world.aN,y3.1.world.skip,y3.1.world.bg,y3.1.aS,y3.1.aT,y3.1.aI,y3.1.lines,y3.1.aH,y3.1.aD))))
 (YW (.inr (.inl (s0.2.1,s0.2.2.1,s0.2.2.2.1,s0.2.2.2.2.1,s0.2.2.2.2.2.1,s0.2.2.2.2.2.2.1,s0.2.2.2.2.2.2.2.1,s0.2.2.2.2.2.2.2.2.1,s0.2.2.2.2.2.2.2.2.2.1,s0.2.2.2.2.2.2.2.2.2.2.1,s0.2.2.2.2.2.2.2.2.2.2.2.1,s0.2.2.2.2.2.2.2.2.2.2.2.2.1,s0.2.2.2.2.2.2.2.2.2.2.2.2.2.1,s0.2.2.2.2.2.2.2.2.2.2.2.2.2.2.1,s0.2.2.2.2.2.2.2.2.2.2.2.2.2.2.2.1,s0.2.2.2.2.2.2.2.2.2.2.2.2.2.2.2.2)))))
 (YW (.inr (.inl (s0.2.1,s0.2.2.1,s0.2.2.2.1,s0.2.2.2.2.1,s0.2.2.2.2.2.1,s0.2.2.2.2.2.2.1,s0.2.2.2.2.2.2.2.1,s0.2.2.2.2.2.2.2.2.1,s0.2.2.2.2.2.2.2.2.2.1,s0.2.2.2.2.2.2.2.2.2.2.1,s0.2.2.2.2.2.2.2.2.2.2.2.1,s0.2.2.2.2.2.2.2.2.2.2.2.2.1,s0.2.2.2.2.2.2.2.2.2.2.2.2.2.1,s0.2.2.2.2.2.2.2.2.2.2.2.2.2.2.1,s0.2.2.2.2.2.2.2.2.2.2.2.2.2.2.2.1,s0.2.2.2.2.2.2.2.2.2.2.2.2.2.2.2.2))))
instance (l:List ba):bp (iY l):=⟨λs0=>(.un::.sl (l.map cX)::.un::.un::.be 0 0 0::.un::.be 1 0 0::vi s0.1::(U 35 [])),λs0=>[YW ⟨.of 40,16,[[.v (.slice YX 0 0),.v (.slice YX 0 0),vi 0,.v (.slice YX 0 0),.v (.slice YX 0 0),.v (.slice YX 0 0),vi 0,.v (.slice YX 0 0),.v (.slice YX 0 0),vi 0,.v (.slice YX 0 0),.v (.slice YX 0 0),.v (.slice YX 0 0),.v (.slice YX 0 0),.v (.slice YX 0 0),.v (.slice YX 0 0)]]⟩,YW ⟨.of 40,16,[[.sl (s0.2.1.map bo),.sl (s0.2.2.1.map aG),vi s0.2.2.2.1,.sl (s0.2.2.2.2.1.map aZ),.sl (s0.2.2.2.2.2.1.map aC),.sl (s0.2.2.2.2.2.2.1.map aU),vi s0.2.2.2.2.2.2.2.1,.sl (s0.2.2.2.2.2.2.2.2.1.map bw),.sl (s0.2.2.2.2.2.2.2.2.2.1.map aG),vi s0.2.2.2.2.2.2.2.2.2.2.1,.sl (s0.2.2.2.2.2.2.2.2.2.2.2.1.map cG),.sl (s0.2.2.2.2.2.2.2.2.2.2.2.2.1.map cy),.sl (s0.2.2.2.2.2.2.2.2.2.2.2.2.2.1.map aG),.ms 2,.sl (s0.2.2.2.2.2.2.2.2.2.2.2.2.2.2.1.map bK),.ms 3]]⟩,YW ⟨.of 44,7,s0.2.2.2.2.2.2.2.2.2.2.2.2.2.2.2.1.map bA⟩,YW ⟨.of 48,13,s0.2.2.2.2.2.2.2.2.2.2.2.2.2.2.2.2.map cX⟩]⟩
def lA(o:aF)(l:List ba):Option (aF×Int):=
 (gf o).bind λy1=>
 (aE (iY l) NN (0,y1.world.aa.aA,y1.world.aa.off,y1.world.aa.change,y1.world.aj,y1.world.au,y1.world.ae,y1.world.now,y1.world.aN,y1.world.skip,y1.world.bg,(y1.aS:List ct),(y1.aT:List bF),(y1.aI:List Int),(y1.lines:List bc),y1.aH,y1.aD)).bind (bh (λo0=>
 cond (Y0 (150<(l.length:Int)))
 (YW ((⟨(⟨(⟨o0.1,o0.2.1,o0.2.2.1⟩:ah),o0.2.2.2.1,o0.2.2.2.2.1,o0.2.2.2.2.2.1,o0.2.2.2.2.2.2.1,o0.2.2.2.2.2.2.2.1,o0.2.2.2.2.2.2.2.2.1,o0.2.2.2.2.2.2.2.2.2.1⟩:ax),o0.2.2.2.2.2.2.2.2.2.2.1,o0.2.2.2.2.2.2.2.2.2.2.2.1,o0.2.2.2.2.2.2.2.2.2.2.2.2.1,o0.2.2.2.2.2.2.2.2.2.2.2.2.2.2.1,o0.2.2.2.2.2.2.2.2.2.2.2.2.2.1,o0.2.2.2.2.2.2.2.2.2.2.2.2.2.2.2⟩:aF),150))
 (YW ((⟨(⟨(⟨o0.1,o0.2.1,o0.2.2.1⟩:ah),o0.2.2.2.1,o0.2.2.2.2.1,o0.2.2.2.2.2.1,o0.2.2.2.2.2.2.1,o0.2.2.2.2.2.2.2.1,o0.2.2.2.2.2.2.2.2.1,o0.2.2.2.2.2.2.2.2.2.1⟩:ax),o0.2.2.2.2.2.2.2.2.2.2.1,o0.2.2.2.2.2.2.2.2.2.2.2.1,o0.2.2.2.2.2.2.2.2.2.2.2.2.1,o0.2.2.2.2.2.2.2.2.2.2.2.2.2.2.1,o0.2.2.2.2.2.2.2.2.2.2.2.2.2.1,o0.2.2.2.2.2.2.2.2.2.2.2.2.2.2.2⟩:aF),(l.length:Int)))) (λr=>YW r))
instance (o:aF)(l:List ba):CT prog (lA o l):=⟨16,[.ag (lM o),.sl (l.map cX)],[],λr=>.tu [.ag [.sl (r.1.world.aa.aA.map bo),.sl (r.1.world.aa.off.map aG),vi r.1.world.aa.change,.sl (r.1.world.aj.map aZ),.sl (r.1.world.au.map aC),.sl (r.1.world.ae.map aU),vi r.1.world.now,.sl (r.1.world.aN.map bw),.sl (r.1.world.skip.map aG),vi r.1.world.bg,.sl (r.1.aS.map cG),.sl (r.1.aT.map cy),.sl (r.1.aI.map aG),.sl (r.1.aH.map bA),.sl (r.1.lines.map bK),.sl (r.1.aD.map cX)],vi r.2],λr=>[],cw (lA.eq_1 ..) func16 ntmps16 results16⟩
end Go.Proofs.YtdilaemengjipaaGreatDoor
namespace Go.Proofs.YtdilaemengjipaaGreatDoor
set_option maxRecDepth 10000
open Go.RowKit Go.Sort
variable {a:ba}{n:Int}{p:aL}
theorem Py{l:bl}(h3:l.aY.size<=sy)(h:cC l=YW YY)(n0:0<=n)(n1:n<=99)(f1:dE l=YW (cE (vI l n))):
 jG (cE (vI l n))=YW (l,YY):=by
 obtain⟨r1,r2⟩:=zO h;obtain⟨hs,_⟩:=ra h;have hl3:l.aY.data.toList.length=3:=by rw[Array.length_toList];exact hs
 have e1:=Zfy (n:=l.aw) Yn Yn;have e9:(qd l.bO 9).length=9:=NR (n:=l.bO) (k:=8) Yn Yn;have e2:(qd n 2).length=2:=NR (n:=n) (k:=1) n0 Yn;have hT:vI l n=[WC (48+l.aw.toNat)]++qd l.bO 9++l.aY.data.toList++qd n 2:=by unfold vI sY;rw[e1]
 have uV:(cE (vI l n)).size=15:=by rw[bD,hT];simp only[VZ,V0,V1];omega
 have x1:(cE (vI l n)).extract 0 1=cE [WC (48+l.aw.toNat)]:=by
  rw[hT];have:=Ls (a:=[]) (b:=[WC (48+l.aw.toNat)]) (c:=qd l.bO 9++l.aY.data.toList++qd n 2) (i:=0) (j:=1) rfl rfl
  simpa only[List.nil_append,Xp]using this
 have x2:(cE (vI l n)).extract 1 10=cE (qd l.bO 9):=by
  rw[hT];have:=Ls (a:=[WC (48+l.aw.toNat)]) (b:=qd l.bO 9) (c:=l.aY.data.toList++qd n 2) (i:=1) (j:=10) rfl Yn
  simpa only[Xp]using this
 have x3:(cE (vI l n)).extract 10 13=l.aY:=by
  rw[hT];have:=Ls (a:=[WC (48+l.aw.toNat)]++qd l.bO 9) (b:=l.aY.data.toList) (c:=qd n 2) (i:=10) (j:=13) Yw Yn
  rwa[sP]at this
 have s1:((48+l.aw.toNat:Nat):Int)=48+l.aw:=Yn;have u1:(WC (48+l.aw.toNat)).toNat=48+l.aw.toNat:=by rw[UInt8.toNat_ofNat'];omega
 have a1:Lib.atoiAll (cE [WC (48+l.aw.toNat)]).data.toList=.ok l.aw:=by rw[vY,<-e1];exact Ex Yn Yn
 have a2:Lib.atoiAll (cE (qd l.bO 9)).data.toList=.ok l.bO:=by
  rw[vY,Va (u:=l.bO.toNat) (λe=>by rw[e]at e9;cases e9) (ZaT Yn) (P0 Yn Yn) Yn]
  congr 1;omega
 unfold jG;rw[if_pos Yn,if_pos uV,x1,x2,x3];simp only[a1,a2];rw[show(⟨l.aw,l.bO,l.aY⟩:bl)=l from rfl,f1];simp
theorem Ma(h:BS p n):jy (cE (pI p n))=YW (p,YY):=by
 obtain⟨x,y,z,hs,hx,hy,hz⟩:=h.sd;have hl:=Fb h;have r1:=Py (by have:=h.to3;unfold sy;omega) h.lab h.n0 h.n1 h.fli
 have hw:=h.w;have hv:=h.v;have vA:(qN p.bE).length<=1000:=by
  unfold pI at hl
  simp only[VZ,V0]at hl
  omega
 have sp:=L8 h;have ss:jD 120 (qN p.bE)=[Lib.itoa x,Lib.itoa y,Lib.itoa z]:=by rw[hs];exact Kn Yn Yn Yn
 have hft:=sP p.ar;have e1:=DL (c:=32) (L:=pI p n) Yn;have e2:=DL (c:=120) (L:=qN p.bE) Yn;rw[sp]at e1
 rw[ss]at e2
 have it:∀a b c d e,aE (jI a b c d e [cE (Lib.itoa x),cE (Lib.itoa y),cE (Lib.itoa z)]) NN (0,[])=YW [x,y,z]:=by
  intro a b c d e;refine yw (n:=4) ?_ Ys;rw[zN (s':=(1,[x])),zN (s':=(2,[x,y])),zN (s':=(3,[x,y,z])),ND (o:=[x,y,z])]
  all_goals unfold jI
  ·rfl
  ·simp only[show Y0 ((2:Int)<(([cE (Lib.itoa x),cE (Lib.itoa y),cE (Lib.itoa z)]:List ByteArray).length:Int))=YY from rfl,Yj,show aB [cE (Lib.itoa x),cE (Lib.itoa y),cE (Lib.itoa z)] 2=YW (cE (Lib.itoa z))from rfl,VT,qC (n:=z) ⟨Yn,Yn⟩,Zcv (a:=[x,y]) (b:=[z]) Yq,w3'];rfl
  ·simp only[show Y0 ((1:Int)<(([cE (Lib.itoa x),cE (Lib.itoa y),cE (Lib.itoa z)]:List ByteArray).length:Int))=YY from rfl,Yj,show aB [cE (Lib.itoa x),cE (Lib.itoa y),cE (Lib.itoa z)] 1=YW (cE (Lib.itoa y))from rfl,VT,qC (n:=y) ⟨Yn,Yn⟩,Zcv (a:=[x]) (b:=[y]) Yq,w2'];rfl
  ·simp only[show Y0 ((0:Int)<(([cE (Lib.itoa x),cE (Lib.itoa y),cE (Lib.itoa z)]:List ByteArray).length:Int))=YY from rfl,Yj,show aB [cE (Lib.itoa x),cE (Lib.itoa y),cE (Lib.itoa z)] 0=YW (cE (Lib.itoa x))from rfl,VT,qC (n:=x) ⟨Yn,Yn⟩,Zcv (a:=[]) (b:=[x]) Yq,w1'];rfl
 have gZ:Y0 (cE (pI p n)=⟨#[]⟩)=false:=Yg λe=>by
  have:=congrArg ByteArray.size e;rw[bD]at this
  have h2:(pI p n).length=0:=this;unfold pI at h2
  simp at h2
 unfold jy;rw[show(⟨#[32]⟩:ByteArray)=cE [32]from rfl,show(⟨#[120]⟩:ByteArray)=cE [120]from rfl,e1];simp only[XI,List.map_nil,VT];simp only[show ∀a b c d e:ByteArray,Y0 ((([a,b,c,d,e]:List ByteArray).length:Int)=5)=YY from λ_ _ _ _ _=>rfl,show ∀a b c d e:ByteArray,aB [a,b,c,d,e] 0=YW a from λ_ _ _ _ _=>rfl,show ∀a b c d e:ByteArray,aB [a,b,c,d,e] 1=YW b from λ_ _ _ _ _=>rfl,show ∀a b c d e:ByteArray,aB [a,b,c,d,e] 2=YW c from λ_ _ _ _ _=>rfl,show ∀a b c d e:ByteArray,aB [a,b,c,d,e] 3=YW d from λ_ _ _ _ _=>rfl,show ∀a b c d e:ByteArray,aB [a,b,c,d,e] 4=YW e from λ_ _ _ _ _=>rfl,V3,Yk,VT,r1,qC (n:=p.ab) ⟨Yn,Yn⟩,qC (n:=p.value) ⟨Yn,Yn⟩,e2,XI,List.map_nil,it,gZ,hft]
 rw[<-hs];show(gq p).bind _=_;rw[h.fi];simp
inductive Hs:ba->Prop
 |take (p:aL) (n:Int) (h:BS p n):Hs ⟨1,p,0,0,0,⟨0,0⟩⟩
 |pay (o m:Int) (h:1<=o/\o<=9999) (h2:1<=m/\m<=100000):Hs ⟨2,zP,o,m,0,⟨0,0⟩⟩
 |run (u:Int) (h:0<=u/\u<=100000):Hs ⟨3,zP,0,0,u,⟨0,0⟩⟩
 |shut (l d:Int) (h:0<=l/\l<=19) (h2:0<=d/\d<=60):Hs ⟨4,zP,0,0,0,⟨l,d⟩⟩
 |Zcg:Hs ⟨5,zP,0,0,0,⟨0,0⟩⟩
 |TU (o:Int) (h:1<=o/\o<=9999):Hs ⟨6,zP,o,0,0,⟨0,0⟩⟩
theorem UW(h1:a.aJ.label.aY.size<=sy)(h2:a.aJ.ar.size<=sy)(h3:a.aJ.bE.length<NN)(h:bT a=YW YY):Hs a:=by
 obtain⟨e1,b1,qZ⟩:=tZ h1 h2 h3;obtain⟨k,p,o,m,u,t⟩:=a;obtain⟨lg,d⟩:=t;obtain⟨lb,fr,w,sd,v⟩:=p;simp only at h1 h2 h3 e1 qZ
 have sv:=λb=>xD (a:=⟨k,⟨lb,fr,w,sd,v⟩,o,m,u,⟨lg,d⟩⟩) (b:=b) h3
 unfold bT at h
 simp only[mE,gY,e1,qZ,cN,VT]at h
 by_cases k1:k=1
 ·subst k1
  simp only[decide_true,Yj,VT,bh,sv]at h
  cases b1 with
  |false=>cases h
  |true=>
   simp at h
   obtain⟨rfl,rfl,rfl,rfl,rfl⟩:=h;obtain⟨n,hn⟩:=Mb h1 h2 h3 qZ;exact .take _ n hn
 by_cases k2:k=2
 ·subst k2
  simp only[Wx,decide_true,decide_false,Yj,Yk,VT,bh,sv,Lb]at h
  cases ha:(Y0 (1<=o)&&Y0 (o<=9999))<;>rw[ha]at h
  ·cases h
  cases hb:(Y0 (1<=m)&&Y0 (m<=100000))<;>rw[hb]at h
  ·cases h
  simp at h ha hb
  obtain⟨⟨rfl,rfl,rfl,rfl,rfl⟩,rfl,rfl,rfl⟩:=h;exact .pay o m ha hb
 by_cases k3:k=3
 ·subst k3
  simp only[Wx,decide_true,decide_false,Yj,Yk,VT,bh,sv,Lb]at h
  cases ha:(Y0 (0<=u)&&Y0 (u<=100000))<;>rw[ha]at h
  ·cases h
  simp at h ha
  obtain⟨⟨rfl,rfl,rfl,rfl,rfl⟩,rfl,rfl,rfl,rfl⟩:=h;exact .run u ha
 by_cases k4:k=4
 ·subst k4
  simp only[Wx,decide_true,decide_false,Yj,Yk,VT,bh,sv,Lb]at h
  cases ha:(Y0 (0<=lg)&&Y0 (lg<=19))<;>rw[ha]at h
  ·cases h
  cases hb:(Y0 (0<=d)&&Y0 (d<=60))<;>rw[hb]at h
  ·cases h
  simp at h ha hb
  obtain⟨⟨rfl,rfl,rfl,rfl,rfl⟩,rfl,rfl,rfl⟩:=h;exact .shut lg d ha hb
 by_cases k5:k=5
 ·subst k5
  simp only[Wx,decide_true,decide_false,Yj,Yk,VT,bh,sv,Lb]at h
  simp at h
  obtain⟨⟨rfl,rfl,rfl,rfl,rfl⟩,rfl,rfl,rfl,rfl,rfl⟩:=h;exact .Zcg
 by_cases k6:k=6
 ·subst k6
  simp only[Wx,decide_true,decide_false,Yj,Yk,VT,bh,sv,Lb]at h
  cases ha:(Y0 (1<=o)&&Y0 (o<=9999))<;>rw[ha]at h
  ·cases h
  simp at h ha
  obtain⟨⟨rfl,rfl,rfl,rfl,rfl⟩,rfl,rfl,rfl,rfl⟩:=h;exact .TU o ha
 simp only[Yg k1,Yg k2,Yg k3,Yg k4,Yg k5,Yg k6,Yk,VT,bh]at h
 cases h
theorem QQ(a b:List UInt8):Y0 (cE a=(⟨b.toArray⟩:ByteArray))=Y0 (a=b):=by
 rw[decide_eq_decide];exact⟨λh=>by have:=congrArg (λx:ByteArray=>x.data.toList) h;simpa[cE]using this,λh=>by rw[h];rfl⟩
structure RTi(a:ba)(s:ByteArray):Prop where
 fi:bL a=YW s
 fs:cn a=YW s
 ne:Y0 (s=⟨#[]⟩)=YZ
 nl:(10:UInt8) ∉ s.data.toList
 len:s.size<=1100
 pi:dU s=YW (a,YY)
theorem nlT{l:List UInt8}(h:(10:UInt8) ∉ l):(10:UInt8) ∉ (cE l).data.toList:=by simpa[cE]using h
theorem Qu(hi:bT ⟨5,zP,0,0,0,⟨0,0⟩⟩=YW YY)(hs:eV ⟨5,zP,0,0,0,⟨0,0⟩⟩=YW YY):∃s,RTi ⟨5,zP,0,0,0,⟨0,0⟩⟩ s:=by
 have f1:bL ⟨5,zP,0,0,0,⟨0,0⟩⟩=YW (cE [114,101,116,114,121]):=by
  unfold bL;rw[hi];rfl
 have f2:cn ⟨5,zP,0,0,0,⟨0,0⟩⟩=YW (cE [114,101,116,114,121]):=by
  unfold cn;rw[hs];rfl
 have ne:Y0 (cE [114,101,116,114,121]=⟨#[]⟩)=false:=by rw[QQ];rfl
 refine⟨cE [114,101,116,114,121],f1,f2,ne,nlT Yy,by rw[bD];decide,?_⟩
 ·have e1:=Vx (c:=32) (a:=[114,101,116,114,121]) Yy Yy
  unfold dU;rw[show(⟨#[32]⟩:ByteArray)=cE [32]from rfl,e1];simp only[mE,VT,QQ,bh,ne];simp[f1,bh]
theorem Zbm{o m:Int}(h:1<=o/\o<=9999)(h2:1<=m/\m<=100000)(hi:bT ⟨2,zP,o,m,0,⟨0,0⟩⟩=YW YY)(hs:eV ⟨2,zP,o,m,0,⟨0,0⟩⟩=YW YY):∃s,RTi ⟨2,zP,o,m,0,⟨0,0⟩⟩ s:=by
 have et:∀l:List UInt8,(⟨l.toArray⟩:ByteArray)=cE l:=λ_=>rfl
 have l0:=gB (n:=o) (eH Yn);have l1:=gB (n:=m) (eH Yn);have f1:bL ⟨2,zP,o,m,0,⟨0,0⟩⟩=YW (cE ([112,97,121]++32::(Lib.itoa o++32::Lib.itoa m))):=by
  unfold bL;simp only[hi,VT,V3,Yk,Wx,decide_true,decide_false,Yj,et,gG,fI (n:=o) (eH Yn),fI (n:=m) (eH Yn)]
  repeat rw[OC Yx,VT]
  simp
 have f2:cn ⟨2,zP,o,m,0,⟨0,0⟩⟩=YW (cE ([112,97,121]++32::(Lib.itoa o++32::Lib.itoa m))):=by
  unfold cn;simp only[hs,VT,V3,Yk,Wx,decide_true,decide_false,Yj,et,gG,fS (n:=o) (eH Yn),fS (n:=m) (eH Yn)]
  repeat rw[OC Yx,VT]
  simp
 have ne:Y0 (cE ([112,97,121]++32::(Lib.itoa o++32::Lib.itoa m))=⟨#[]⟩)=false:=by rw[QQ];exact Yg Yq
 refine⟨cE ([112,97,121]++32::(Lib.itoa o++32::Lib.itoa m)),f1,f2,ne,nlT (by simp[hY (n:=o) Yn (c:=10) Yy,hY (n:=m) Yn (c:=10) Yy]),by rw[bD];simp only[VZ,V0,V1];omega,?_⟩
 ·have e1:=xc (c:=32) (a:=[112,97,121]) (b:=(Lib.itoa o++32::Lib.itoa m)) Yy Yw
  unfold dU;rw[show(⟨#[32]⟩:ByteArray)=cE [32]from rfl,e1];simp only[mE,VT,QQ];rw[xc (c:=32) (a:=Lib.itoa o) (b:=Lib.itoa m) (hY (n:=o) Yn (c:=32) Yy) Yn];simp only[VT,qC (n:=o) ⟨Yn,Yn⟩,qC (n:=m) ⟨Yn,Yn⟩,bh,ne];simp[f1,bh]
theorem Zbn{u:Int}(h:0<=u/\u<=100000)(hi:bT ⟨3,zP,0,0,u,⟨0,0⟩⟩=YW YY)(hs:eV ⟨3,zP,0,0,u,⟨0,0⟩⟩=YW YY):∃s,RTi ⟨3,zP,0,0,u,⟨0,0⟩⟩ s:=by
 have et:∀l:List UInt8,(⟨l.toArray⟩:ByteArray)=cE l:=λ_=>rfl
 have l0:=gB (n:=u) (eH Yn);have f1:bL ⟨3,zP,0,0,u,⟨0,0⟩⟩=YW (cE ([114,117,110]++32::Lib.itoa u)):=by
  unfold bL;simp only[hi,VT,V3,Yk,Wx,decide_true,decide_false,Yj,et,gG,fI (n:=u) (eH Yn)]
  repeat rw[OC Yx,VT]
  simp
 have f2:cn ⟨3,zP,0,0,u,⟨0,0⟩⟩=YW (cE ([114,117,110]++32::Lib.itoa u)):=by
  unfold cn;simp only[hs,VT,V3,Yk,Wx,decide_true,decide_false,Yj,et,gG,fS (n:=u) (eH Yn)]
  repeat rw[OC Yx,VT]
  simp
 have ne:Y0 (cE ([114,117,110]++32::Lib.itoa u)=⟨#[]⟩)=false:=by rw[QQ];exact Yg Yq
 refine⟨cE ([114,117,110]++32::Lib.itoa u),f1,f2,ne,nlT (by simp[hY (n:=u) Yn (c:=10) Yy]),by rw[bD];simp only[VZ,V0,V1];omega,?_⟩
 ·have e1:=xc (c:=32) (a:=[114,117,110]) (b:=Lib.itoa u) Yy Yw
  unfold dU;rw[show(⟨#[32]⟩:ByteArray)=cE [32]from rfl,e1];simp only[mE,VT,QQ];simp only[VT,qC (n:=u) ⟨Yn,Yn⟩,bh,ne];simp[f1,bh]
theorem MF{o:Int}(h:1<=o/\o<=9999)(hi:bT ⟨6,zP,o,0,0,⟨0,0⟩⟩=YW YY)(hs:eV ⟨6,zP,o,0,0,⟨0,0⟩⟩=YW YY):∃s,RTi ⟨6,zP,o,0,0,⟨0,0⟩⟩ s:=by
 have et:∀l:List UInt8,(⟨l.toArray⟩:ByteArray)=cE l:=λ_=>rfl
 have l0:=gB (n:=o) (eH Yn);have f1:bL ⟨6,zP,o,0,0,⟨0,0⟩⟩=YW (cE ([114,101,102,117,110,100]++32::Lib.itoa o)):=by
  unfold bL;simp only[hi,VT,V3,Yk,Wx,decide_true,decide_false,Yj,et,gG,fI (n:=o) (eH Yn)]
  repeat rw[OC Yx,VT]
  simp
 have f2:cn ⟨6,zP,o,0,0,⟨0,0⟩⟩=YW (cE ([114,101,102,117,110,100]++32::Lib.itoa o)):=by
  unfold cn;simp only[hs,VT,V3,Yk,Wx,decide_true,decide_false,Yj,et,gG,fS (n:=o) (eH Yn)]
  repeat rw[OC Yx,VT]
  simp
 have ne:Y0 (cE ([114,101,102,117,110,100]++32::Lib.itoa o)=⟨#[]⟩)=false:=by rw[QQ];exact Yg Yq
 refine⟨cE ([114,101,102,117,110,100]++32::Lib.itoa o),f1,f2,ne,nlT (by simp[hY (n:=o) Yn (c:=10) Yy]),by rw[bD];simp only[VZ,V0,V1];omega,?_⟩
 ·have e1:=xc (c:=32) (a:=[114,101,102,117,110,100]) (b:=Lib.itoa o) Yy Yw
  unfold dU;rw[show(⟨#[32]⟩:ByteArray)=cE [32]from rfl,e1];simp only[mE,VT,QQ];simp only[VT,qC (n:=o) ⟨Yn,Yn⟩,bh,ne];simp[f1,bh]
theorem T9{l d:Int}(h:0<=l/\l<=19)(h2:0<=d/\d<=60)(hi:bT ⟨4,zP,0,0,0,⟨l,d⟩⟩=YW YY)(hs:eV ⟨4,zP,0,0,0,⟨l,d⟩⟩=YW YY):∃s,RTi ⟨4,zP,0,0,0,⟨l,d⟩⟩ s:=by
 have et:∀l:List UInt8,(⟨l.toArray⟩:ByteArray)=cE l:=λ_=>rfl
 have l0:=gB (n:=l) (eH Yn);have l1:=gB (n:=d) (eH Yn);have tt:nQ ⟨l,d⟩=YW (cE (Lib.itoa l++47::Lib.itoa d)):=by
  unfold nQ;simp only[fI (n:=l) (eH Yn),fI (n:=d) (eH Yn),VT,et,gG]
  repeat rw[OC Yx,VT]
  simp
 have hn:(32:UInt8) ∉ Lib.itoa l++47::Lib.itoa d:=by
  have a:=hY (n:=l) Yn (c:=32) Yy;have b:=hY (n:=d) Yn (c:=32) Yy;simp[a,b]
 have hq:=hY (n:=l) Yn (c:=47) Yy;have hq2:=hY (n:=d) Yn (c:=47) Yy;have f1:bL ⟨4,zP,0,0,0,⟨l,d⟩⟩=YW (cE ([115,104,117,116]++32::(Lib.itoa l++47::Lib.itoa d))):=by
  unfold bL;simp only[hi,VT,V3,Yk,Wx,decide_true,decide_false,Yj,et,gG,tt]
  repeat rw[OC Yx,VT]
  simp
 have f2:cn ⟨4,zP,0,0,0,⟨l,d⟩⟩=YW (cE ([115,104,117,116]++32::(Lib.itoa l++47::Lib.itoa d))):=by
  unfold cn;simp only[hs,VT,V3,Yk,Wx,decide_true,decide_false,Yj,et,gG,fS (n:=l) (eH Yn),fS (n:=d) (eH Yn)]
  repeat rw[OC Yx,VT]
  simp
 have ne:Y0 (cE ([115,104,117,116]++32::(Lib.itoa l++47::Lib.itoa d))=⟨#[]⟩)=false:=by rw[QQ];exact Yg Yq
 refine⟨cE ([115,104,117,116]++32::(Lib.itoa l++47::Lib.itoa d)),f1,f2,ne,nlT (by simp[hY (n:=l) Yn (c:=10) Yy,hY (n:=d) Yn (c:=10) Yy]),by rw[bD];simp only[VZ,V0,V1];omega,?_⟩
 ·have e1:=xc (c:=32) (a:=[115,104,117,116]) (b:=(Lib.itoa l++47::Lib.itoa d)) Yy Yw
  unfold dU;rw[show(⟨#[32]⟩:ByteArray)=cE [32]from rfl,e1];simp only[mE,VT,QQ];have rt:nP (cE (Lib.itoa l++47::Lib.itoa d))=YW (⟨l,d⟩,YY):=by
   unfold nP;rw[show(⟨#[47]⟩:ByteArray)=cE [47]from rfl,xc (c:=47) hq Yn];simp only[VT,qC (n:=l) ⟨Yn,Yn⟩,qC (n:=d) ⟨Yn,Yn⟩,Yj]
  simp only[VT,rt,bh,ne];simp[f1,bh]
theorem Tt(g:BS p n):(10:UInt8) ∉ pI p n:=by
 obtain⟨x,y,z,hs,hx,hy,hz⟩:=g.sd;have a:=BF (NF g.lab g.n0) (c:=10) Yy;have b:=BF g.fr.2 (c:=10) Yy;have c:=hY (n:=p.ab) (by have:=g.w;omega) (c:=10) Yy
 have d:=hY (n:=p.value) (by have:=g.v;omega) (c:=10) Yy
 have e:=hY (n:=x) Yn (c:=10) Yy;have f:=hY (n:=y) Yn (c:=10) Yy;have h:=hY (n:=z) Yn (c:=10) Yy;have k:(10:UInt8) ∉ qN p.bE:=by rw[hs];unfold qN;simp[e,f,h]
 unfold pI;simp only[List.mem_append,List.mem_cons,not_or];exact⟨a,by decide,b,by decide,c,by decide,k,by decide,d⟩
theorem Ua(g:BS p n)(hi:bT ⟨1,p,0,0,0,⟨0,0⟩⟩=YW YY)(hs:eV ⟨1,p,0,0,0,⟨0,0⟩⟩=YW YY):∃s,RTi ⟨1,p,0,0,0,⟨0,0⟩⟩ s:=by
 have et:∀l:List UInt8,(⟨l.toArray⟩:ByteArray)=cE l:=λ_=>rfl
 have hl:=Fb g;have r1:=Ma g;have f1:bL ⟨1,p,0,0,0,⟨0,0⟩⟩=YW (cE ([116,97,107,101]++32::pI p n)):=by
  unfold bL;simp only[hi,VT,V3,Yk,Wx,decide_true,decide_false,Yj,et,gG,g.fi]
  repeat rw[OC Yx,VT]
  simp
 have f2:cn ⟨1,p,0,0,0,⟨0,0⟩⟩=YW (cE ([116,97,107,101]++32::pI p n)):=by
  unfold cn;simp only[hs,VT,V3,Yk,Wx,decide_true,decide_false,Yj,et,gG,g.fs]
  repeat rw[OC Yx,VT]
  simp
 have ne:Y0 (cE ([116,97,107,101]++32::pI p n)=⟨#[]⟩)=false:=by rw[QQ];exact Yg Yq
 refine⟨cE ([116,97,107,101]++32::pI p n),f1,f2,ne,nlT (by simp[Tt g]),by rw[bD];simp only[VZ,V0,V1];omega,?_⟩
 ·have e1:=xc (c:=32) (a:=[116,97,107,101]) (b:=pI p n) Yy Yw
  unfold dU;rw[show(⟨#[32]⟩:ByteArray)=cE [32]from rfl,e1];simp only[mE,VT,QQ];simp only[VT,r1,bh,ne];simp[f1,bh]
theorem UX(hF:Hs a)(hi:bT a=YW YY)(hs:eV a=YW YY):∃s,RTi a s:=by
 cases hF with
 |take p n h=>exact Ua h hi hs
 |pay o m h h2=>exact Zbm h h2 hi hs
 |run u h=>exact Zbn h hi hs
 |shut l d h h2=>exact T9 h h2 hi hs
 |Zcg=>exact Qu hi hs
 |TU o h=>exact MF h hi hs
end Go.Proofs.YtdilaemengjipaaGreatDoor
