/- A part of the proof of the statement in the last file of this claim: texts on the language of the program and on its functions. No condition. -/
import Derived.Test.YtdilaemengjipaaGreatDoorCA4
import Derived.Test.YtdilaemengjipaaGreatDoorCA8
import Derived.Test.YtdilaemengjipaaGreatDoorCA11
import Derived.Test.YtdilaemengjipaaGreatDoorCA16
import Derived.Test.YtdilaemengjipaaGreatDoorCA10
import Derived.Test.YtdilaemengjipaaGreatDoorCA14
import Derived.Test.YtdilaemengjipaaGreatDoorCA13
import Derived.Test.YtdilaemengjipaaGreatDoorCA1
set_option linter.unusedVariables false
set_option linter.unusedSimpArgs false
set_option linter.unusedSectionVars false
open Option renaming some->YH,none->YI
open Bool renaming true->YJ,false->YK
open Decidable renaming decide->YL
open Go.Proofs.Tryz
set_option maxHeartbeats 40000000
namespace Go.Proofs.YtdilaemengjipaaGreatDoor
set_option maxRecDepth 10000
open Go.RowKit
def ko(o:aL)(s0:Int):Option (Int⊕(Unit⊕Bool)):=
 cond (YL (s0<(o.aK.length:Int)))
 ((aB o.aK s0).bind λy6=>
 (aB o.world.ae s0).bind λy7=>
 (kr o.aY o.aX y6).bind λy8=>
 cond (!y8.2)
 (YH (.inr (.inr YK)))
 (cond (!decide (y7.au=y6.au))
 (YH (.inr (.inr YK)))
 (cond (!decide (y7.a8=y6.label.a8))
 (YH (.inr (.inr YK)))
 (cond (!decide (y7.ay=y6.label.ay))
 (YH (.inr (.inr YK)))
 (cond (!decide (y7.ab=y6.ab))
 (YH (.inr (.inr YK)))
 ((db o.lines (aI (s0+1)) 1).bind λy9=>
 cond (!decide (y9=y8.1))
 (YH (.inr (.inr YK)))
 (YH (.inl (aI (s0+1))))))))))
 (YH (.inr (.inl ())))
instance (o:aL):bo (ko o):=⟨λs0=>(.un::.be 0 0 0::.un::.be 1 0 0::(U 57 (.sl (o.aK.map bJ)::vi (o.aK.length:Int)::vi s0::(U 92 [])))),λs0=>[YH ⟨.of 40,16,[[.sl (o.world.aa.aA.map bn),.sl (o.world.aa.off.map aE),vi o.world.aa.change,.sl (o.world.ae.map ba),.sl (o.world.ar.map aC),.sl (o.world.ah.map aW),vi o.world.now,.sl (o.world.aH.map bt),.sl (o.world.skip.map aE),vi o.world.bd,.sl (o.aY.map cG),.sl (o.aX.map cI),.sl (o.aM.map aE),.sl (o.aK.map bJ),.sl (o.lines.map bC),.sl (o.aF.map gF)]]⟩,YH ⟨.of 33,10,[[.sl (o.world.aa.aA.map bn),.sl (o.world.aa.off.map aE),vi o.world.aa.change,.sl (o.world.ae.map ba),.sl (o.world.ar.map aC),.sl (o.world.ah.map aW),vi o.world.now,.sl (o.world.aH.map bt),.sl (o.world.skip.map aE),vi o.world.bd]]⟩]⟩
def kp(o:aL)(s1:Int):Option (Int⊕(Unit⊕Bool)):=
 cond (YL (s1<(o.lines.length:Int)))
 ((aB o.lines s1).bind λdL=>
 cond (YL ((o.world.ae.length:Int)<dL.order))
 (YH (.inr (.inr YK)))
 (cond (YL (o.world.now<dL.aP))
 (YH (.inr (.inr YK)))
 (YH (.inl (aI (s1+1))))))
 (YH (.inr (.inl ())))
instance (o:aL):bo (kp o):=⟨λs1=>(.un::.be 0 0 0::.un::.be 1 0 0::(U 121 (.sl (o.lines.map bC)::vi (o.lines.length:Int)::vi s1::(U 28 [])))),λs1=>[YH ⟨.of 40,16,[[.sl (o.world.aa.aA.map bn),.sl (o.world.aa.off.map aE),vi o.world.aa.change,.sl (o.world.ae.map ba),.sl (o.world.ar.map aC),.sl (o.world.ah.map aW),vi o.world.now,.sl (o.world.aH.map bt),.sl (o.world.skip.map aE),vi o.world.bd,.sl (o.aY.map cG),.sl (o.aX.map cI),.sl (o.aM.map aE),.sl (o.aK.map bJ),.sl (o.lines.map bC),.sl (o.aF.map gF)]]⟩,YH ⟨.of 33,10,[[.sl (o.world.aa.aA.map bn),.sl (o.world.aa.off.map aE),vi o.world.aa.change,.sl (o.world.ae.map ba),.sl (o.world.ar.map aC),.sl (o.world.ah.map aW),vi o.world.now,.sl (o.world.aH.map bt),.sl (o.world.skip.map aE),vi o.world.bd]]⟩]⟩
def kq(o:aL)(s2:Int):Option (Int⊕(Unit⊕Bool)):=
 cond (YL (s2<(o.aF.length:Int)))
 ((aB o.aF s2).bind λji=>
 (eE ji).bind λoX=>
 cond (!oX)
 (YH (.inr (.inr YK)))
 (YH (.inl (aI (s2+1)))))
 (YH (.inr (.inl ())))
instance (o:aL):bo (kq o):=⟨λs2=>(U 146 (.sl (o.aF.map gF)::vi (o.aF.length:Int)::vi s2::(U 7 []))),λs2=>[]⟩
def jv(o:aL):Option Bool:=
 (gK o.world).bind λy1=>
 cond (!y1)
 (YH YK)
 ((ju o.aY).bind λy2=>
 cond (!y2)
 (YH YK)
 ((kY o.aX (o.aY.length:Int)).bind λy3=>
 cond (!y3)
 (YH YK)
 ((eD o.aM).bind λy4=>
 cond (!y4)
 (YH YK)
 ((dI o.lines).bind λy5=>
 cond (!y5)
 (YH YK)
 (cond (!decide ((o.aK.length:Int)=(o.world.ae.length:Int)))
 (YH YK)
 (cond (YL (150<(o.aF.length:Int)))
 (YH YK)
 ((aD (ko o) NN 0).bind (bk (λo0=>
 (aD (kp o) NN 0).bind (bk (λo1=>
 (aD (kq o) NN 0).bind (bk (λo2=>
 YH YJ) (λr=>YH r))) (λr=>YH r))) (λr=>YH r)))))))))
instance (o:aL):CT prog (jv o):=⟨10,[.ag (lx o)],[],λr=>vb r,λr=>[],cw (jv.eq_1 ..) func10 ntmps10 results10⟩
def nZ(o:aL)(i:Int):Option Bool:=
 (aB o.aK i).bind λy1=>
 (aB o.world.ae i).bind λy2=>
 (gR o.aY o.aX y1).bind λy3=>
 cond y3.2
 (cond (YL (y2.au=y1.au))
 (cond (YL (y2.a8=y1.label.a8))
 (cond (YL (y2.ay=y1.label.ay))
 (cond (YL (y2.ab=y1.ab))
 ((eM o.lines (aI (i+1)) 1).bind λy4=>
 YH (YL (y4=y3.1)))
 (YH YK))
 (YH YK))
 (YH YK))
 (YH YK))
 (YH YK)
instance (o:aL)(i:Int):CT prog (nZ o i):=⟨174,[.ag (lx o),vi i],[],λr=>vb r,λr=>[],cw (nZ.eq_1 ..) func174 ntmps174 results174⟩
def jc(a:ax)(b:ax)(s0:Int):Option (Int⊕(Unit⊕Bool)):=
 cond (YL (s0<(a.ae.length:Int)))
 ((aB a.ae s0).bind λy1=>
 (aB b.ae s0).bind λy2=>
 (lH y1 y2).bind λy3=>
 cond (!y3)
 (YH (.inr (.inr YK)))
 (YH (.inl (aI (s0+1)))))
 (YH (.inr (.inl ())))
instance (a:ax)(b:ax):bo (jc a b):=⟨λs0=>(.un::.un::.be 0 0 0::.be 1 0 0::(U 11 (vi (a.ae.length:Int)::vi s0::(U 82 [])))),λs0=>[YH ⟨.of 33,10,[[.sl (a.aa.aA.map bn),.sl (a.aa.off.map aE),vi a.aa.change,.sl (a.ae.map ba),.sl (a.ar.map aC),.sl (a.ah.map aW),vi a.now,.sl (a.aH.map bt),.sl (a.skip.map aE),vi a.bd]]⟩,YH ⟨.of 33,10,[[.sl (b.aa.aA.map bn),.sl (b.aa.off.map aE),vi b.aa.change,.sl (b.ae.map ba),.sl (b.ar.map aC),.sl (b.ah.map aW),vi b.now,.sl (b.aH.map bt),.sl (b.skip.map aE),vi b.bd]]⟩]⟩
def lC(a:ax)(b:ax):Option Bool:=
 cond (!decide ((a.ae.length:Int)=(b.ae.length:Int)))
 (YH YK)
 ((aD (jc a b) NN 0).bind (bk (λo0=>
 (iy a.aa.aA b.aa.aA).bind λy4=>
 cond y4
 ((eY a.aa.off b.aa.off).bind λy5=>
 cond y5
 (cond (YL (a.aa.change=b.aa.change))
 ((fM a.ar b.ar).bind λy6=>
 cond y6
 ((fG a.ah b.ah).bind λy7=>
 cond y7
 (cond (YL (a.now=b.now))
 ((gO a.aH b.aH).bind λy8=>
 cond y8
 ((eY a.skip b.skip).bind λy9=>
 cond y9
 (YH (YL (a.bd=b.bd)))
 (YH YK))
 (YH YK))
 (YH YK))
 (YH YK))
 (YH YK))
 (YH YK))
 (YH YK))
 (YH YK)) (λr=>YH r)))
instance (a:ax)(b:ax):CT prog (lC a b):=⟨31,[.ag (fY a),.ag (fY b)],[],λr=>vb r,λr=>[],cw (lC.eq_1 ..) func31 ntmps31 results31⟩
end Go.Proofs.YtdilaemengjipaaGreatDoor
