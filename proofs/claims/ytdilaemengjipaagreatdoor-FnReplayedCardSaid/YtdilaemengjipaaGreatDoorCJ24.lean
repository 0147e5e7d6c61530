/- A part of the proof of the statement in the last file of this claim: texts on the language of the program and on its functions. No condition. -/
import Derived.Test.YtdilaemengjipaaGreatDoorCJ4
import Derived.Test.YtdilaemengjipaaGreatDoorCJ7
import Derived.Test.YtdilaemengjipaaGreatDoorCJ12
import Derived.Test.YtdilaemengjipaaGreatDoorCJ13
import Derived.Test.YtdilaemengjipaaGreatDoorCJ18
import Derived.Test.YtdilaemengjipaaGreatDoorCJ6
import Derived.Test.YtdilaemengjipaaGreatDoorCJ11
import Derived.Test.YtdilaemengjipaaGreatDoorCJ16
import Derived.Test.YtdilaemengjipaaGreatDoorCJ8
import Derived.Test.YtdilaemengjipaaGreatDoorCJ1
set_option linter.unusedVariables false
set_option linter.unusedSimpArgs false
set_option linter.unusedSectionVars false
open Option renaming some->YW,none->YX
open Bool renaming true->YY,false->YZ
open Decidable renaming decide->Y0
open Go.Proofs.Tryz
set_option maxHeartbeats 40000000
namespace Go.Proofs.YtdilaemengjipaaGreatDoor
set_option maxRecDepth 10000
open Go.RowKit
def gL(l:List bc)(s0:Int):Option (Int⊕(Unit⊕Bool)):=
 cond (Y0 (s0<(l.length:Int)))
 ((jn 5 20 (
 (aB l s0).bind λy1=>
 (jn 6 8 (
 (ml y1).bind λy2=>
 cond (!y2)
 (YW (.inr YZ))
 (cond (Y0 (0<s0))
 ((aB l (aM (s0-1))).bind λy3=>
 cond (Y0 (y1.aQ<y3.aQ))
 (YW (.inr YZ))
 (YW (.inl ())))
 (YW (.inl ()))):Option (Unit⊕Bool)) (λz4=>(.sl (l.map bK)::.un::.un::vi s0::.be 0 0 0::(U 5 (.sl (l.map bK)::vi (l.length:Int)::vi s0::(U 69 []))))) (λz4=>[YW ⟨.of 85,4,[[vi y1.order,vi y1.kind,vi y1.bC,vi y1.aQ]]⟩])).bind (bh (λz4=>
 (cr (fJ 0 s0 l.length)).bind λ_=>
 (eo (cM l 0 s0) y1.order 1).bind λy5=>
 (cr (fJ 0 s0 l.length)).bind λ_=>
 (eo (cM l 0 s0) y1.order 2).bind λy6=>
 cond (Y0 (y1.kind=1))
 (cond (Y0 (0<y5))
 (YW (.inr YZ))
 (YW (.inl ())))
 (cond (Y0 (y1.kind=2))
 (cond (Y0 (y5<(aM (y6+y1.bC))))
 (YW (.inr YZ))
 (YW (.inl ())))
 (cond (Y0 (y1.kind=3))
 ((cr (fJ 0 s0 l.length)).bind λ_=>
 (eo (cM l 0 s0) y1.order 3).bind λy7=>
 cond (Y0 (0<y7))
 (YW (.inr YZ))
 (cond (!decide (y6=y5))
 (YW (.inr YZ))
 (cond (Y0 (y5<y1.bC))
 (YW (.inr YZ))
 (YW (.inl ())))))
 (YW (.inl ()))))) (λr=>YW (.inr r))):Option (Unit⊕Bool)) (λz8=>(.sl (l.map bK)::(U 9 (.sl (l.map bK)::vi (l.length:Int)::vi s0::(U 69 []))))) (λz8=>[])).bind (bh (λz8=>
 YW (.inl (aM (s0+1)))) (λr=>YW (.inr (.inr r)))))
 (YW (.inr (.inl ())))
instance (l:List bc):bp (gL l):=⟨λs0=>(.sl (l.map bK)::(U 9 (.sl (l.map bK)::vi (l.length:Int)::vi s0::(U 69 [])))),λs0=>[]⟩
def eu(l:List bc):Option Bool:=
 cond (Y0 (200<(l.length:Int)))
 (YW YZ)
 ((aE (gL l) NN 0).bind (bh (λo0=>
 YW YY) (λr=>YW r)))
theorem zV(l:List bc){r:Bool}(H:eu l=YW r):fa prog 42 [.sl (l.map bK)] [] (vb r) []:=by
 replace H:=H0 H;unfold eu at H
 refine js func42 rfl ntmps42 results42 λQ hQ IP=>?_
 exact KJ
instance (l:List bc):CT prog (eu l):=⟨42,[.sl (l.map bK)],[],λr=>vb r,λr=>[],zV l⟩
def kF(l:List bc)(x:bc):Option ((List bc)×Int):=
 cond (Y0 (200<=(l.length:Int)))
 ((bM l).bind λy1=>
 YW (y1,5))
 ((bM l).bind λy2=>
 (cr (bn ((y2:List bc).length+([x]:List bc).length) 32)).bind λ_=>
 (eu ((y2:List bc)++[x])).bind λy3=>
 cond (!y3)
 ((bM l).bind λy4=>
 YW (y4,1))
 (YW (((y2:List bc)++[x]),0)))
instance (l:List bc)(x:bc):CT prog (kF l x):=⟨141,[.sl (l.map bK),.ag (bK x)],[],λr=>.tu [.ms 0,vi r.2],λr=>[YW ⟨.of 85,4,r.1.map bK⟩],cw (kF.eq_1 ..) func141 ntmps141 results141⟩
def kA(l:List bc)(order:Int)(bC:Int)(gn:Int):Option ((List bc)×Int):=
 (eu l).bind λy1=>
 cond (!y1)
 ((bM l).bind λy2=>
 YW (y2,1))
 ((ml (⟨order,1,bC,gn⟩:bc)).bind λy3=>
 cond (!y3)
 ((bM l).bind λy4=>
 YW (y4,1))
 ((eo l order 1).bind λy5=>
 cond (Y0 (0<y5))
 ((bM l).bind λy6=>
 YW (y6,2))
 ((kF l (⟨order,1,bC,gn⟩:bc)).bind λy7=>
 YW (y7.1,y7.2))))
instance (l:List bc)(order:Int)(bC:Int)(gn:Int):CT prog (kA l order bC gn):=⟨74,[.sl (l.map bK),vi order,vi bC,vi gn],[],λr=>.tu [.ms 0,vi r.2],λr=>[YW ⟨.of 85,4,r.1.map bK⟩],cw (kA.eq_1 ..) func74 ntmps74 results74⟩
def mG(l:List bc)(order:Int):Option Int:=
 (eu l).bind λy1=>
 cond (!y1)
 (YW 0)
 ((eo l order 1).bind λy2=>
 (eo l order 2).bind λy3=>
 YW (aM (y2-y3)))
instance (l:List bc)(order:Int):CT prog (mG l order):=⟨49,[.sl (l.map bK),vi order],[],λr=>vi r,λr=>[],cw (mG.eq_1 ..) func49 ntmps49 results49⟩
def nM(l:List bc)(order:Int)(bC:Int)(gn:Int):Option ((List bc)×Int):=
 (eu l).bind λy1=>
 cond (!y1)
 ((bM l).bind λy2=>
 YW (y2,1))
 ((ml (⟨order,2,bC,gn⟩:bc)).bind λy3=>
 cond (!y3)
 ((bM l).bind λy4=>
 YW (y4,1))
 ((eo l order 1).bind λy5=>
 cond (Y0 (y5=0))
 ((bM l).bind λy6=>
 YW (y6,3))
 ((mG l order).bind λy7=>
 cond (Y0 (y7<bC))
 ((bM l).bind λy8=>
 YW (y8,4))
 ((kF l (⟨order,2,bC,gn⟩:bc)).bind λy9=>
 YW (y9.1,y9.2)))))
instance (l:List bc)(order:Int)(bC:Int)(gn:Int):CT prog (nM l order bC gn):=⟨75,[.sl (l.map bK),vi order,vi bC,vi gn],[],λr=>.tu [.ms 0,vi r.2],λr=>[YW ⟨.of 85,4,r.1.map bK⟩],cw (nM.eq_1 ..) func75 ntmps75 results75⟩
def kE(l:List bc)(order:Int)(eJ:Int)(bQ:Int)(aI:List Int)(pn:Int):Option ((List bc)×Int):=
 (eu l).bind λy1=>
 cond (!y1)
 ((bM l).bind λy2=>
 YW (y2,1))
 ((eP aI).bind λy3=>
 cond (!y3)
 ((bM l).bind λy4=>
 YW (y4,1))
 ((aX order 1 9999).bind λy5=>
 cond (!y5)
 ((bM l).bind λy6=>
 YW (y6,1))
 ((aX pn 0 100000).bind λy7=>
 cond (!y7)
 ((bM l).bind λy8=>
 YW (y8,1))
 ((eo l order 1).bind λy9=>
 (mI y9 eJ bQ aI).bind λeh=>
 cond (Y0 (y9=0))
 ((bM l).bind λlr=>
 YW (lr,3))
 ((mG l order).bind λoV=>
 cond (Y0 (0<oV))
 ((bM l).bind λoD=>
 YW (oD,3))
 ((eo l order 3).bind λnF=>
 cond (Y0 (0<nF))
 ((bM l).bind λpZ=>
 YW (pZ,2))
 (cond (Y0 (eh=0))
 ((bM l).bind λod=>
 YW (od,4))
 ((kF l (⟨order,3,eh,pn⟩:bc)).bind λrP=>
 YW (rP.1,rP.2)))))))))
instance (l:List bc)(order:Int)(eJ:Int)(bQ:Int)(aI:List Int)(pn:Int):CT prog (kE l order eJ bQ aI pn):=⟨76,[.sl (l.map bK),vi order,vi eJ,vi bQ,.sl (aI.map aG),vi pn],[],λr=>.tu [.ms 0,vi r.2],λr=>[YW ⟨.of 85,4,r.1.map bK⟩],cw (kE.eq_1 ..) func76 ntmps76 results76⟩
def kB(o:aF)(s0:Int):Option (Int⊕(Unit⊕Bool)):=
 cond (Y0 (s0<(o.aH.length:Int)))
 ((aB o.aH s0).bind λy6=>
 (aB o.world.aj s0).bind λy7=>
 (mH o.aS o.aT y6).bind λy8=>
 cond (!y8.2)
 (YW (.inr (.inr YZ)))
 (cond (!decide (y7.ar=y6.ar))
 (YW (.inr (.inr YZ)))
 (cond (!decide (y7.aY=y6.label.aY))
 (YW (.inr (.inr YZ)))
 (cond (!decide (y7.aw=y6.label.aw))
 (YW (.inr (.inr YZ)))
 (cond (!decide (y7.ab=y6.ab))
 (YW (.inr (.inr YZ)))
 ((eo o.lines (aM (s0+1)) 1).bind λy9=>
 cond (!decide (y9=y8.1))
 (YW (.inr (.inr YZ)))
 (YW (.inl (aM (s0+1))))))))))
 (YW (.inr (.inl ())))
instance (o:aF):bp (kB o):=⟨λs0=>(.un::.be 0 0 0::.un::.be 1 0 0::(U 57 (.sl (o.aH.map bA)::vi (o.aH.length:Int)::vi s0::(U 92 [])))),λs0=>[YW ⟨.of 40,16,[[.sl (o.world.aa.aA.map bo),.sl (o.world.aa.off.map aG),vi o.world.aa.change,.sl (o.world.aj.map aZ),.sl (o.world.au.map aC),.sl (o.world.ae.map aU),vi o.world.now,.sl (o.world.aN.map bw),.sl (o.world.skip.map aG),vi o.world.bg,.sl (o.aS.map cG),.sl (o.aT.map cy),.sl (o.aI.map aG),.sl (o.aH.map bA),.sl (o.lines.map bK),.sl (o.aD.map cX)]]⟩,YW ⟨.of 33,10,[[.sl (o.world.aa.aA.map bo),.sl (o.world.aa.off.map aG),vi o.world.aa.change,.sl (o.world.aj.map aZ),.sl (o.world.au.map aC),.sl (o.world.ae.map aU),vi o.world.now,.sl (o.world.aN.map bw),.sl (o.world.skip.map aG),vi o.world.bg]]⟩]⟩
def kC(o:aF)(s1:Int):Option (Int⊕(Unit⊕Bool)):=
 cond (Y0 (s1<(o.lines.length:Int)))
 ((aB o.lines s1).bind λeh=>
 cond (Y0 ((o.world.aj.length:Int)<eh.order))
 (YW (.inr (.inr YZ)))
 (cond (Y0 (o.world.now<eh.aQ))
 (YW (.inr (.inr YZ)))
 (YW (.inl (aM (s1+1))))))
 (YW (.inr (.inl ())))
instance (o:aF):bp (kC o):=⟨λs1=>(.un::.be 0 0 0::.un::.be 1 0 0::(U 121 (.sl (o.lines.map bK)::vi (o.lines.length:Int)::vi s1::(U 28 [])))),λs1=>[YW ⟨.of 40,16,[[.sl (o.world.aa.aA.map bo),.sl (o.world.aa.off.map aG),vi o.world.aa.change,.sl (o.world.aj.map aZ),.sl (o.world.au.map aC),.sl (o.world.ae.map aU),vi o.world.now,.sl (o.world.aN.map bw),.sl (o.world.skip.map aG),vi o.world.bg,.sl (o.aS.map cG),.sl (o.aT.map cy),.sl (o.aI.map aG),.sl (o.aH.map bA),.sl (o.lines.map bK),.sl (o.aD.map cX)]]⟩,YW ⟨.of 33,10,[[.sl (o.world.aa.aA.map bo),.sl (o.world.aa.off.map aG),vi o.world.aa.change,.sl (o.world.aj.map aZ),.sl (o.world.au.map aC),.sl (o.world.ae.map aU),vi o.world.now,.sl (o.world.aN.map bw),.sl (o.world.skip.map aG),vi o.world.bg]]⟩]⟩
def kD(o:aF)(s2:Int):Option (Int⊕(Unit⊕Bool)):=
 cond (Y0 (s2<(o.aD.length:Int)))
 ((aB o.aD s2).bind λlr=>
 (bT lr).bind λoV=>
 cond (!oV)
 (YW (.inr (.inr YZ)))
 (YW (.inl (aM (s2+1)))))
 (YW (.inr (.inl ())))
instance (o:aF):bp (kD o):=⟨λs2=>(U 146 (.sl (o.aD.map cX)::vi (o.aD.length:Int)::vi s2::(U 7 []))),λs2=>[]⟩
def nL(o:aF):Option Bool:=
 (ig o.world).bind λy1=>
 cond (!y1)
 (YW YZ)
 ((jM o.aS).bind λy2=>
 cond (!y2)
 (YW YZ)
 ((lu o.aT (o.aS.length:Int)).bind λy3=>
 cond (!y3)
 (YW YZ)
 ((eP o.aI).bind λy4=>
 cond (!y4)
 (YW YZ)
 ((eu o.lines).bind λy5=>
 cond (!y5)
 (YW YZ)
 (cond (!decide ((o.aH.length:Int)=(o.world.aj.length:Int)))
 (YW YZ)
 (cond (Y0 (150<(o.aD.length:Int)))
 (YW YZ)
 ((aE (kB o) NN 0).bind (bh (λo0=>
 (aE (kC o) NN 0).bind (bh (λo1=>
 (aE (kD o) NN 0).bind (bh (λo2=>
 YW YY) (λr=>YW r))) (λr=>YW r))) (λr=>YW r)))))))))
instance (o:aF):CT prog (nL o):=⟨10,[.ag (lM o)],[],λr=>vb r,λr=>[],cw (nL.eq_1 ..) func10 ntmps10 results10⟩
def nz(n:ah)(bx:ah)(gn:Int)(aA:Int)(y1:List ByteArray)(y2:Int)(s0:Int×(List Int)):Option ((Int×(List Int))⊕(List Int)):=
 cond (Y0 (s0.1<(y1.length:Int)))
 ((cr (bn ((s0.2:List Int).length+([(-1)]:List Int).length) 8)).bind λ_=>
 YW (.inl ((aM (s0.1+1)),((s0.2:List Int)++[(-1)]))))
 (YW (.inr s0.2))
instance (n:ah)(bx:ah)(gn:Int)(aA:Int)(y1:List ByteArray)(y2:Int):bp (nz n bx gn aA y1 y2):=⟨λs0=>(.un::.fn 366 [.rp [.sl (bx.aA.map bo),.sl (bx.off.map aG),vi bx.change]]::.un::vi gn::vi aA::.be 0 0 0::(U 5 (.ms 1::vi y2::.ms 2::(U 26 (vi (y1.length:Int)::vi s0.1::(U 83 [])))))),λs0=>[YW ⟨.of 27,3,[[.sl (n.aA.map bo),.sl (n.off.map aG),vi n.change]]⟩,YW ⟨.of 9,1,y1.map iU⟩,YW ⟨.of 3,1,s0.2.map aG⟩]⟩
def j7(n:ah)(bx:ah)(aA:Int)(y1:List ByteArray)(y2:Int)(s1:Int×(List Int))(s2:Int×Bool×(List Int)):Option ((Int×Bool×(List Int))⊕(Bool×(List Int))):=
 cond (Y0 (s2.1<(n.aA.length:Int)))
 ((aB n.aA s2.1).bind λy4=>
 (bU y1 y4.ar).bind λy5=>
 (bU y1 y4.aY).bind λy6=>
 (aB s1.2 y5).bind λy7=>
 cond (Y0 (y7<0))
 (YW (.inl ((aM (s2.1+1)),s2.2.1,s2.2.2)))
 ((aB s1.2 y5).bind λy8=>
 (kG n y8 (Y0 (y5=y2))).bind λy9=>
 (nO s2.1 y9 bx).bind λeh=>
 cond eh.2
 ((aB s2.2.2 y6).bind λlr=>
 cond (Y0 (lr<0))
 ((di n eh.1).bind λoV=>
 (aB s2.2.2 y6).bind λoD=>
 YW (.inl ((aM (s2.1+1)),YY,(s2.2.2.set (Int.toNat y6) oV))))
 ((di n eh.1).bind λnF=>
 (aB s2.2.2 y6).bind λpZ=>
 cond (Y0 (nF<pZ))
 ((di n eh.1).bind λod=>
 (aB s2.2.2 y6).bind λrP=>
 YW (.inl ((aM (s2.1+1)),YY,(s2.2.2.set (Int.toNat y6) od))))
 (YW (.inl ((aM (s2.1+1)),s2.2.1,s2.2.2)))))
 (YW (.inl ((aM (s2.1+1)),s2.2.1,s2.2.2)))))
 (YW (.inr (s2.2.1,s2.2.2)))
instance (n:ah)(bx:ah)(aA:Int)(y1:List ByteArray)(y2:Int)(s1:Int×(List Int)):bp (j7 n bx aA y1 y2 s1):=⟨λs2=>(.un::.fn 366 [.rp [.sl (bx.aA.map bo),.sl (bx.off.map aG),vi bx.change]]::.un::.un::vi aA::.be 0 0 0::(U 5 (.ms 1::vi y2::.ms 2::vi s1.1::.ms 3::vb s2.2.1::(U 44 (.sl (n.aA.map bo)::vi (n.aA.length:Int)::vi s2.1::(U 61 [])))))),λs2=>[YW ⟨.of 27,3,[[.sl (n.aA.map bo),.sl (n.off.map aG),vi n.change]]⟩,YW ⟨.of 9,1,y1.map iU⟩,YW ⟨.of 3,1,s1.2.map aG⟩,YW ⟨.of 3,1,s2.2.2.map aG⟩]⟩
def j6(n:ah)(bx:ah)(aA:Int)(y1:List ByteArray)(y2:Int)(s1:Int×(List Int)):Option ((Int×(List Int))⊕(List Int)):=
 cond (Y0 (s1.1<aA))
 ((cr (bn ((([]:List Int):List Int).length+(s1.2:List Int).length) 8)).bind λ_=>
 (aE (j7 n bx aA y1 y2 s1) NN (0,YZ,((([]:List Int):List Int)++s1.2))).bind (λo2=>
 cond (!o2.1)
 (YW (.inr o2.2))
 (YW (.inl ((aM (s1.1+1)),o2.2)))))
 (YW (.inr s1.2))
instance (n:ah)(bx:ah)(aA:Int)(y1:List ByteArray)(y2:Int):bp (j6 n bx aA y1 y2):=⟨λs1=>(.un::.fn 366 [.rp [.sl (bx.aA.map bo),.sl (bx.off.map aG),vi bx.change]]::.un::.un::vi aA::.be 0 0 0::(U 5 (.ms 1::vi y2::.ms 2::vi s1.1::(U 110 [])))),λs1=>[YW ⟨.of 27,3,[[.sl (n.aA.map bo),.sl (n.off.map aG),vi n.change]]⟩,YW ⟨.of 9,1,y1.map iU⟩,YW ⟨.of 3,1,s1.2.map aG⟩]⟩
def jY(n:ah)(bx:ah)(cV:ByteArray)(gn:Int)(aA:Int):Option (List Int):=
 (dx n).bind λy1=>
 (bU y1 cV).bind λy2=>
 cond (Y0 (y2<0))
 (YW ([]))
 (cond (Y0 (100000<gn))
 (YW ([]))
 (cond (Y0 (aA<0))
 (YW ([]))
 ((aE (nz n bx gn aA y1 y2) NN (0,([]:List Int))).bind (λo0=>
 (aB o0 y2).bind λy3=>
 (aE (j6 n bx aA y1 y2) NN (0,(o0.set (Int.toNat y2) (if 0 > gn then 0 else gn)))).bind (λo1=>
 YW o1)))))
instance (n:ah)(bx:ah)(cV:ByteArray)(gn:Int)(aA:Int):CT prog (jY n bx cV gn aA):=⟨248,[.ag (bB n),.fn 366 [.rp [.sl (bx.aA.map bo),.sl (bx.off.map aG),vi bx.change]],vs cV,vi gn,vi aA],[],λr=>.ms 0,λr=>[YW ⟨.of 3,1,r.map aG⟩],cw (jY.eq_1 ..) func248 ntmps248 results248⟩
def mw(n:ah)(cK:ByteArray)(mY:Int)(aA:Int):Option (List Int):=
 (fg n).bind λy1=>
 cond (!y1)
 (YW ([]))
 ((rA n).bind λy2=>
 (jY n y2 cK mY aA).bind λy3=>
 YW y3)
instance (n:ah)(cK:ByteArray)(mY:Int)(aA:Int):CT prog (mw n cK mY aA):=⟨255,[.ag (bB n),vs cK,vi mY,vi aA],[],λr=>.ms 0,λr=>[YW ⟨.of 3,1,r.map aG⟩],cw (mw.eq_1 ..) func255 ntmps255 results255⟩
def jF(n:ah)(cK:ByteArray)(aY:ByteArray)(gn:Int):Option Int:=
 (dx n).bind λy1=>
 (mw n cK gn (y1.length:Int)).bind λy2=>
 (bU y1 aY).bind λy3=>
 cond (Y0 (y3<0))
 (YW (-1))
 (cond (Y0 ((y2.length:Int)=0))
 (YW (-1))
 ((aB y2 y3).bind λy4=>
 YW y4))
instance (n:ah)(cK:ByteArray)(aY:ByteArray)(gn:Int):CT prog (jF n cK aY gn):=⟨202,[.ag (bB n),vs cK,vs aY,vi gn],[],λr=>vi r,λr=>[],cw (jF.eq_1 ..) func202 ntmps202 results202⟩
def fX(n:ah)(aw:Int)(cV:ByteArray)(aY:ByteArray)(lj:Int):Option Int:=
 (jF n cV aY lj).bind λy1=>
 cond (Y0 (y1=(-1)))
 (YW (-1))
 ((aX aw 1 3).bind λy2=>
 cond (!y2)
 (YW (-1))
 (cond (Y0 (1080<(Int.tmod y1 1440)))
 ((aB ([0,1,4]:List Int) (aM (aw-1))).bind λy3=>
 YW (aM ((aM ((aM ((aM ((IntKind.i64.wrap (Int.tdiv y1 1440))+1))+y3))*1440))+1080)))
 ((aB ([0,1,4]:List Int) (aM (aw-1))).bind λy4=>
 YW (aM ((aM ((aM ((IntKind.i64.wrap (Int.tdiv y1 1440))+y4))*1440))+1080)))))
instance (n:ah)(aw:Int)(cV:ByteArray)(aY:ByteArray)(lj:Int):CT prog (fX n aw cV aY lj):=⟨139,[.ag (bB n),vi aw,vs cV,vs aY,vi lj],[],λr=>vi r,λr=>[],cw (fX.eq_1 ..) func139 ntmps139 results139⟩
end Go.Proofs.YtdilaemengjipaaGreatDoor
