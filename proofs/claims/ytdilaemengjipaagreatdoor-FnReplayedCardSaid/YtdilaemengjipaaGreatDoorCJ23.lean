/- A part of the proof of the statement in the last file of this claim: texts on the language of the program and on its functions. No condition. -/
import Derived.Test.YtdilaemengjipaaGreatDoorCJ4
import Derived.Test.YtdilaemengjipaaGreatDoorCJ7
import Derived.Test.YtdilaemengjipaaGreatDoorCJ13
import Derived.Test.YtdilaemengjipaaGreatDoorCJ12
import Derived.Test.YtdilaemengjipaaGreatDoorCJ18
import Derived.Test.YtdilaemengjipaaGreatDoorCJ14
import Derived.Test.YtdilaemengjipaaGreatDoorCJ11
import Derived.Test.YtdilaemengjipaaGreatDoorCJ16
import Derived.Test.YtdilaemengjipaaGreatDoorCJ10
import Derived.Test.YtdilaemengjipaaGreatDoorCJ5
import Derived.Test.YtdilaemengjipaaGreatDoorCJ8
import Derived.Test.YtdilaemengjipaaGreatDoorCJ6
import Derived.Test.YtdilaemengjipaaGreatDoorCJ1
set_option linter.unusedVariables false
set_option linter.unusedSimpArgs false
set_option linter.unusedSectionVars false
open Option renaming some->YW,none->YX
open Bool renaming true->YY,false->YZ
open Decidable renaming decide->Y0
open Go.Proofs.Tryz
set_option maxHeartbeats 40000000
namespace Go.Proofs.YtdilaemengjipaaGreatDoor
open _root_.Int renaming toNat->Wm
set_option maxRecDepth 10000
open Go.RowKit
def gN(l:List bc)(s0:Int):Option (Int⊕(Unit⊕Bool)):=
 cond (Y0 (s0<(l.length:Int)))
 ((jn 6 5 (
 (aB l s0).bind λy1=>
 (jn 7 9 (
 (n9 y1).bind λy2=>
 cond (!y2)
 (YW (.inr YZ))
 (cond (Y0 (0<s0))
 ((aB l (aM (s0-1))).bind λy3=>
 cond (Y0 (y1.aQ<y3.aQ))
 (YW (.inr YZ))
 (YW (.inl ())))
 (YW (.inl ()))):Option (Unit⊕Bool)) (λz4=>(.sl (l.map bK)::.un::.un::vi s0::.be 0 0 0::(U 76 []))) (λz4=>[YW ⟨.of 85,4,[[vi y1.order,vi y1.kind,vi y1.bC,vi y1.aQ]]⟩])).bind (bh (λz4=>
 (cr (fJ 0 s0 l.length)).bind λ_=>
 (eX (cM l 0 s0) y1.order 1).bind λy5=>
 cond (Y0 (y1.kind=1))
 (cond (Y0 (0<y5))
 (YW (.inr YZ))
 (YW (.inl ())))
 (cond (Y0 (y1.kind=2))
 ((eX (cM l 0 s0) y1.order 2).bind λy6=>
 cond (Y0 (y5<(aM (y6+y1.bC))))
 (YW (.inr YZ))
 (YW (.inl ())))
 ((lH (cM l 0 s0) y1.order 3).bind λy7=>
 cond (Y0 (0<y7))
 (YW (.inr YZ))
 (cond (Y0 (y5<y1.bC))
 (YW (.inr YZ))
 ((eX (cM l 0 s0) y1.order 2).bind λy8=>
 cond (!decide (y8=y5))
 (YW (.inr YZ))
 (YW (.inl ()))))))) (λr=>YW (.inr r))):Option (Unit⊕Bool)) (λz9=>(.sl (l.map bK)::.un::.un::vi s0::(U 77 []))) (λz9=>[])).bind (bh (λz9=>
 YW (.inl (aM (s0+1)))) (λr=>YW (.inr (.inr r)))))
 (YW (.inr (.inl ())))
instance (l:List bc):bp (gN l):=⟨λs0=>(.sl (l.map bK)::.un::.un::vi s0::(U 77 [])),λs0=>[]⟩
def ew(l:List bc):Option Bool:=
 cond (Y0 (200<(l.length:Int)))
 (YW YZ)
 ((aE (gN l) NN 0).bind (bh (λo0=>
 YW YY) (λr=>YW r)))
theorem zY(l:List bc){r:Bool}(H:ew l=YW r):fa prog 173 [.sl (l.map bK)] [] (vb r) []:=by
 replace H:=H0 H;unfold ew at H
 refine js func173 rfl ntmps173 results173 λQ hQ IP=>?_
 exact KJ
instance (l:List bc):CT prog (ew l):=⟨173,[.sl (l.map bK)],[],λr=>vb r,λr=>[],zY l⟩
def kU(l:List bc)(x:bc):Option ((List bc)×Int):=
 (ca l).bind λy1=>
 (cr (bn ((y1:List bc).length+([x]:List bc).length) 32)).bind λ_=>
 cond (Y0 (200<=(l.length:Int)))
 ((ca l).bind λy2=>
 YW (y2,5))
 ((ew ((y1:List bc)++[x])).bind λy3=>
 cond (!y3)
 ((ca l).bind λy4=>
 YW (y4,1))
 (YW (((y1:List bc)++[x]),0)))
instance (l:List bc)(x:bc):CT prog (kU l x):=⟨244,[.sl (l.map bK),.ag (bK x)],[],λr=>.tu [.ms 0,vi r.2],λr=>[YW ⟨.of 85,4,r.1.map bK⟩],cw (kU.eq_1 ..) func244 ntmps244 results244⟩
def kM(l:List bc)(order:Int)(bC:Int)(gn:Int):Option ((List bc)×Int):=
 (ew l).bind λy1=>
 cond (!y1)
 ((ca l).bind λy2=>
 YW (y2,1))
 ((n9 (⟨order,1,bC,gn⟩:bc)).bind λy3=>
 cond (!y3)
 ((ca l).bind λy4=>
 YW (y4,1))
 ((eX l order 1).bind λy5=>
 cond (Y0 (0<y5))
 ((ca l).bind λy6=>
 YW (y6,2))
 ((kU l (⟨order,1,bC,gn⟩:bc)).bind λy7=>
 YW (y7.1,y7.2))))
instance (l:List bc)(order:Int)(bC:Int)(gn:Int):CT prog (kM l order bC gn):=⟨194,[.sl (l.map bK),vi order,vi bC,vi gn],[],λr=>.tu [.ms 0,vi r.2],λr=>[YW ⟨.of 85,4,r.1.map bK⟩],cw (kM.eq_1 ..) func194 ntmps194 results194⟩
def dX(l:List bc)(order:Int):Option Int:=
 (ew l).bind λy1=>
 cond (!y1)
 (YW 0)
 ((eX l order 1).bind λy2=>
 (eX l order 2).bind λy3=>
 YW (aM (y2-y3)))
instance (l:List bc)(order:Int):CT prog (dX l order):=⟨114,[.sl (l.map bK),vi order],[],λr=>vi r,λr=>[],cw (dX.eq_1 ..) func114 ntmps114 results114⟩
def nU(l:List bc)(order:Int)(bC:Int)(gn:Int):Option ((List bc)×Int):=
 (ew l).bind λy1=>
 cond (!y1)
 ((ca l).bind λy2=>
 YW (y2,1))
 ((n9 (⟨order,2,bC,gn⟩:bc)).bind λy3=>
 cond (!y3)
 ((ca l).bind λy4=>
 YW (y4,1))
 ((eX l order 1).bind λy5=>
 cond (Y0 (y5=0))
 ((ca l).bind λy6=>
 YW (y6,3))
 ((dX l order).bind λy7=>
 cond (Y0 (y7<bC))
 ((ca l).bind λy8=>
 YW (y8,4))
 ((kU l (⟨order,2,bC,gn⟩:bc)).bind λy9=>
 YW (y9.1,y9.2)))))
instance (l:List bc)(order:Int)(bC:Int)(gn:Int):CT prog (nU l order bC gn):=⟨195,[.sl (l.map bK),vi order,vi bC,vi gn],[],λr=>.tu [.ms 0,vi r.2],λr=>[YW ⟨.of 85,4,r.1.map bK⟩],cw (nU.eq_1 ..) func195 ntmps195 results195⟩
def kR(l:List bc)(order:Int)(eJ:Int)(bQ:Int)(aI:List Int)(pn:Int):Option ((List bc)×Int):=
 (eX l order 1).bind λy1=>
 (ew l).bind λy2=>
 cond (!y2)
 ((ca l).bind λy3=>
 YW (y3,1))
 ((eU aI).bind λy4=>
 cond (!y4)
 ((ca l).bind λy5=>
 YW (y5,1))
 ((bb order 1 9999).bind λy6=>
 cond (!y6)
 ((ca l).bind λy7=>
 YW (y7,1))
 ((bb pn 0 100000).bind λy8=>
 cond (!y8)
 ((ca l).bind λy9=>
 YW (y9,1))
 (cond (Y0 (y1=0))
 ((ca l).bind λeh=>
 YW (eh,3))
 ((dX l order).bind λlr=>
 cond (Y0 (0<lr))
 ((ca l).bind λoV=>
 YW (oV,3))
 ((lH l order 3).bind λoD=>
 cond (Y0 (0<oD))
 ((ca l).bind λnF=>
 YW (nF,2))
 ((kr y1 eJ bQ aI).bind λpZ=>
 cond (Y0 (pZ=0))
 ((ca l).bind λod=>
 YW (od,4))
 ((kr y1 eJ bQ aI).bind λrP=>
 (kU l (⟨order,3,rP,pn⟩:bc)).bind λva=>
 YW (va.1,va.2)))))))))
instance (l:List bc)(order:Int)(eJ:Int)(bQ:Int)(aI:List Int)(pn:Int):CT prog (kR l order eJ bQ aI pn):=⟨196,[.sl (l.map bK),vi order,vi eJ,vi bQ,.sl (aI.map aG),vi pn],[],λr=>.tu [.ms 0,vi r.2],λr=>[YW ⟨.of 85,4,r.1.map bK⟩],cw (kR.eq_1 ..) func196 ntmps196 results196⟩
def ou(o:aF)(i:Int):Option Bool:=
 (aB o.aH i).bind λy1=>
 (aB o.world.aj i).bind λy2=>
 (iu o.aS o.aT y1).bind λy3=>
 cond y3.2
 (cond (Y0 (y2.ar=y1.ar))
 (cond (Y0 (y2.aY=y1.label.aY))
 (cond (Y0 (y2.aw=y1.label.aw))
 (cond (Y0 (y2.ab=y1.ab))
 ((eX o.lines (aM (i+1)) 1).bind λy4=>
 YW (Y0 (y4=y3.1)))
 (YW YZ))
 (YW YZ))
 (YW YZ))
 (YW YZ))
 (YW YZ)
instance (o:aF)(i:Int):CT prog (ou o i):=⟨174,[.ag (lM o),vi i],[],λr=>vb r,λr=>[],cw (ou.eq_1 ..) func174 ntmps174 results174⟩
def jc(n:ah)(l:List aq)(ae:List av)(ab:Int)(aA:Int)(y1:(List ByteArray))(y2:Int)(s0:Int×(List Int)):Option ((Int×(List Int))⊕(List Int)):=
 cond (Y0 (s0.1<aA))
 (cond (Y0 (s0.1<(y1.length:Int)))
 ((eD n l ae ab y1 s0.2 y2).bind λy5=>
 YW (.inl ((aM (s0.1+1)),y5)))
 (YW (.inr s0.2)))
 (YW (.inr s0.2))
instance (n:ah)(l:List aq)(ae:List av)(ab:Int)(aA:Int)(y1:(List ByteArray))(y2:Int):bp (jc n l ae ab aA y1 y2):=⟨λs0=>(.un::.sl (l.map aC)::.sl (ae.map aU)::.un::.un::vi ab::vi aA::.be 0 0 0::(U 7 (.ms 1::vi y2::.ms 2::vi s0.1::(U 50 [])))),λs0=>[YW ⟨.of 27,3,[[.sl (n.aA.map bo),.sl (n.off.map aG),vi n.change]]⟩,YW ⟨.of 9,1,y1.map iU⟩,YW ⟨.of 3,1,s0.2.map aG⟩]⟩
def df(n:ah)(l:List aq)(ae:List av)(fw:ByteArray)(lj:Int)(ab:Int)(aA:Int):Option (List Int):=
 (dh n).bind λy1=>
 (cb y1 fw).bind λy2=>
 (eT n l).bind λy3=>
 cond (!y3)
 (YW ([]:List Int))
 (cond (Y0 (y2<0))
 (YW ([]:List Int))
 (cond (Y0 (100000<lj))
 (YW ([]:List Int))
 (cond (Y0 (ab<1))
 (YW ([]:List Int))
 (cond (Y0 (aA<0))
 (YW ([]:List Int))
 ((ix y1 y2 lj).bind λy4=>
 (aE (jc n l ae ab aA y1 y2) NN (0,y4)).bind (λo0=>
 YW o0))))))
instance (n:ah)(l:List aq)(ae:List av)(fw:ByteArray)(lj:Int)(ab:Int)(aA:Int):CT prog (df n l ae fw lj ab aA):=⟨348,[.ag (bB n),.sl (l.map aC),.sl (ae.map aU),vs fw,vi lj,vi ab,vi aA],[],λr=>.ms 0,λr=>[YW ⟨.of 3,1,r.map aG⟩],cw (df.eq_1 ..) func348 ntmps348 results348⟩
def fQ(n:ah)(l:List aq)(ae:List av)(fw:ByteArray)(pn:Int)(ab:Int)(y1:(List ByteArray))(y2:Int)(y3:Int)(y6:Int)(s0:Int):Option (Int⊕Int):=
 (df n l ae fw pn ab s0).bind λy7=>
 (aB y7 y3).bind λy8=>
 cond (!decide (y8=y6))
 (YW (.inl (aM (s0+1))))
 (YW (.inr s0))
instance (n:ah)(l:List aq)(ae:List av)(fw:ByteArray)(pn:Int)(ab:Int)(y1:(List ByteArray))(y2:Int)(y3:Int)(y6:Int):bp (fQ n l ae fw pn ab y1 y2 y3 y6):=⟨λs0=>(.un::.sl (l.map aC)::.sl (ae.map aU)::vs fw::.un::vi pn::vi ab::.be 0 0 0::(U 8 (.ms 1::vi y2::vi y3::.un::.ms 2::vi y6::vi s0::(U 97 [])))),λs0=>[YW ⟨.of 27,3,[[.sl (n.aA.map bo),.sl (n.off.map aG),vi n.change]]⟩,YW ⟨.of 9,1,y1.map iU⟩,YW ⟨.of 46,2,([]:List av).map aU⟩]⟩
def fR(n:ah)(l:List aq)(ae:List av)(fw:ByteArray)(pn:Int)(ab:Int)(y1:(List ByteArray))(y2:Int)(s1:Int×Int×Int×(List av)):Option ((Int×Int×Int×(List av))⊕(List av)):=
 cond (Y0 (0<s1.2.2.1))
 ((df n l ae fw pn ab (aM (s1.2.2.1-1))).bind λy9=>
 (pG n l ae ab y1 y9 y2 s1.1 s1.2.1).bind λeh=>
 (cr (bn (([eh]:List av).length+(s1.2.2.2:List av).length) 16)).bind λ_=>
 (aB n.aA eh.bH).bind λlr=>
 (cb y1 lr.ar).bind λoV=>
 (aB y9 oV).bind λoD=>
 YW (.inl (oV,oD,(aM (s1.2.2.1-1)),(([eh]:List av)++s1.2.2.2))))
 (YW (.inr s1.2.2.2))
instance (n:ah)(l:List aq)(ae:List av)(fw:ByteArray)(pn:Int)(ab:Int)(y1:(List ByteArray))(y2:Int):bp (fR n l ae fw pn ab y1 y2):=⟨λs1=>(.un::.sl (l.map aC)::.sl (ae.map aU)::vs fw::.un::vi pn::vi ab::.be 0 0 0::(U 8 (.ms 1::vi y2::vi s1.1::.un::.ms 2::vi s1.2.1::.un::vi s1.2.2.1::(U 96 [])))),λs1=>[YW ⟨.of 27,3,[[.sl (n.aA.map bo),.sl (n.off.map aG),vi n.change]]⟩,YW ⟨.of 9,1,y1.map iU⟩,YW ⟨.of 46,2,s1.2.2.2.map aU⟩]⟩
def bS(n:ah)(l:List aq)(ae:List av)(fw:ByteArray)(aY:ByteArray)(pn:Int)(ab:Int):Option ((List av)×Bool):=
 (dh n).bind λy1=>
 (cb y1 fw).bind λy2=>
 (cb y1 aY).bind λy3=>
 (df n l ae fw pn ab (y1.length:Int)).bind λy4=>
 cond (Y0 (y3<0))
 (YW (([]:List av),YZ))
 (cond (Y0 ((y4.length:Int)=0))
 (YW (([]:List av),YZ))
 ((aB y4 y3).bind λy5=>
 cond (Y0 (y5<0))
 (YW (([]:List av),YZ))
 ((aB y4 y3).bind λy6=>
 (aE (fQ n l ae fw pn ab y1 y2 y3 y6) NN 0).bind (λo0=>
 (aE (fR n l ae fw pn ab y1 y2) NN (y3,y6,o0,([]:List av))).bind (λo1=>
 YW (o1,YY))))))
instance (n:ah)(l:List aq)(ae:List av)(fw:ByteArray)(aY:ByteArray)(pn:Int)(ab:Int):CT prog (bS n l ae fw aY pn ab):=⟨289,[.ag (bB n),.sl (l.map aC),.sl (ae.map aU),vs fw,vs aY,vi pn,vi ab],[],λr=>.tu [.ms 0,vb r.2],λr=>[YW ⟨.of 46,2,r.1.map aU⟩],cw (bS.eq_1 ..) func289 ntmps289 results289⟩
def l6(n:ah)(l:List aq)(bz:Int)(ab:Int)(aK:List av)(s0:Int×(List aq)):Option ((Int×(List aq))⊕(List aq)):=
 cond (Y0 (s0.1<(aK.length:Int)))
 ((aB aK s0.1).bind λy3=>
 (nB s0.2 (⟨bz,y3,ab⟩:aq)).bind λy4=>
 YW (.inl ((aM (s0.1+1)),y4)))
 (YW (.inr s0.2))
instance (n:ah)(l:List aq)(bz:Int)(ab:Int)(aK:List av):bp (l6 n l bz ab aK):=⟨λs0=>(.un::.sl (l.map aC)::vi bz::vi ab::.sl (aK.map aU)::.be 0 0 0::(U 6 (.ms 1::vi s0.1::(U 34 [])))),λs0=>[YW ⟨.of 27,3,[[.sl (n.aA.map bo),.sl (n.off.map aG),vi n.change]]⟩,YW ⟨.of 147,4,s0.2.map aC⟩]⟩
def cx(n:ah)(l:List aq)(bz:Int)(ab:Int)(aK:List av):Option ((List aq)×Bool):=
 (kn l).bind λy1=>
 (eT n l).bind λy2=>
 cond (!y2)
 (YW (y1,YZ))
 (cond (Y0 (20<(aK.length:Int)))
 (YW (y1,YZ))
 ((aE (l6 n l bz ab aK) NN (0,y1)).bind (λo0=>
 (eT n o0).bind λy5=>
 cond (!y5)
 ((kn l).bind λy6=>
 YW (y6,YZ))
 (YW (o0,YY)))))
instance (n:ah)(l:List aq)(bz:Int)(ab:Int)(aK:List av):CT prog (cx n l bz ab aK):=⟨290,[.ag (bB n),.sl (l.map aC),vi bz,vi ab,.sl (aK.map aU)],[],λr=>.tu [.ms 0,vb r.2],λr=>[YW ⟨.of 147,4,r.1.map aC⟩],cw (cx.eq_1 ..) func290 ntmps290 results290⟩
def eR(n:ah)(bx:ah)(cZ:List av)(da:List aq)(db:Int)(gn:Int)(aA:Int)(y1:List ByteArray)(y2:Int)(s0:Int×(List Int)):Option ((Int×(List Int))⊕(List Int)):=
 cond (Y0 (s0.1<(y1.length:Int)))
 ((cr (bn ((s0.2:List Int).length+([(-1)]:List Int).length) 8)).bind λ_=>
 YW (.inl ((aM (s0.1+1)),((s0.2:List Int)++[(-1)]))))
 (YW (.inr s0.2))
instance (n:ah)(bx:ah)(cZ:List av)(da:List aq)(db:Int)(gn:Int)(aA:Int)(y1:List ByteArray)(y2:Int):bp (eR n bx cZ da db gn aA y1 y2):=⟨λs0=>(.un::.fn 250 [.rp [.sl (bx.aA.map bo),.sl (bx.off.map aG),vi bx.change],.rp [.sl (cZ.map aU)],.rp [.sl (da.map aC)],.rp [vi db]]::.un::vi gn::vi aA::.be 0 0 0::(U 5 (.ms 1::vi y2::.ms 2::(U 26 (vi (y1.length:Int)::vi s0.1::(U 83 [])))))),λs0=>[YW ⟨.of 27,3,[[.sl (n.aA.map bo),.sl (n.off.map aG),vi n.change]]⟩,YW ⟨.of 9,1,y1.map iU⟩,YW ⟨.of 3,1,s0.2.map aG⟩]⟩
def dp(n:ah)(bx:ah)(cZ:List av)(da:List aq)(db:Int)(aA:Int)(y1:List ByteArray)(y2:Int)(s1:Int×(List Int))(s2:Int×Bool×(List Int)):Option ((Int×Bool×(List Int))⊕(Bool×(List Int))):=
 cond (Y0 (s2.1<(n.aA.length:Int)))
 ((aB n.aA s2.1).bind λy4=>
 (bU y1 y4.ar).bind λy5=>
 (bU y1 y4.aY).bind λy6=>
 (aB s1.2 y5).bind λy7=>
 cond (Y0 (y7<0))
 (YW (.inl ((aM (s2.1+1)),s2.2.1,s2.2.2)))
 ((aB s1.2 y5).bind λy8=>
 (kG n y8 (Y0 (y5=y2))).bind λy9=>
 (iH s2.1 y9 bx cZ da db).bind λeh=>
 cond eh.2
 ((aB s2.2.2 y6).bind λlr=>
 cond (Y0 (lr<0))
 ((di n eh.1).bind λoV=>
 (aB s2.2.2 y6).bind λoD=>
 YW (.inl ((aM (s2.1+1)),YY,(s2.2.2.set (Wm y6) oV))))
 ((di n eh.1).bind λnF=>
 (aB s2.2.2 y6).bind λpZ=>
 cond (Y0 (nF<pZ))
 ((di n eh.1).bind λod=>
 (aB s2.2.2 y6).bind λrP=>
 YW (.inl ((aM (s2.1+1)),YY,(s2.2.2.set (Wm y6) od))))
 (YW (.inl ((aM (s2.1+1)),s2.2.1,s2.2.2)))))
 (YW (.inl ((aM (s2.1+1)),s2.2.1,s2.2.2)))))
 (YW (.inr (s2.2.1,s2.2.2)))
instance (n:ah)(bx:ah)(cZ:List av)(da:List aq)(db:Int)(aA:Int)(y1:List ByteArray)(y2:Int)(s1:Int×(List Int)):bp (dp n bx cZ da db aA y1 y2 s1):=⟨λs2=>(.un::.fn 250 [.rp [.sl (bx.aA.map bo),.sl (bx.off.map aG),vi bx.change],.rp [.sl (cZ.map aU)],.rp [.sl (da.map aC)],.rp [vi db]]::.un::.un::vi aA::.be 0 0 0::(U 5 (.ms 1::vi y2::.ms 2::vi s1.1::.ms 3::vb s2.2.1::(U 44 (.sl (n.aA.map bo)::vi (n.aA.length:Int)::vi s2.1::(U 61 [])))))),λs2=>[YW ⟨.of 27,3,[[.sl (n.aA.map bo),.sl (n.off.map aG),vi n.change]]⟩,YW ⟨.of 9,1,y1.map iU⟩,YW ⟨.of 3,1,s1.2.map aG⟩,YW ⟨.of 3,1,s2.2.2.map aG⟩]⟩
def dn(n:ah)(bx:ah)(cZ:List av)(da:List aq)(db:Int)(aA:Int)(y1:List ByteArray)(y2:Int)(s1:Int×(List Int)):Option ((Int×(List Int))⊕(List Int)):=
 cond (Y0 (s1.1<aA))
 ((cr (bn ((([]:List Int):List Int).length+(s1.2:List Int).length) 8)).bind λ_=>
 (aE (dp n bx cZ da db aA y1 y2 s1) NN (0,YZ,((([]:List Int):List Int)++s1.2))).bind (λo2=>
 cond (!o2.1)
 (YW (.inr o2.2))
 (YW (.inl ((aM (s1.1+1)),o2.2)))))
 (YW (.inr s1.2))
instance (n:ah)(bx:ah)(cZ:List av)(da:List aq)(db:Int)(aA:Int)(y1:List ByteArray)(y2:Int):bp (dn n bx cZ da db aA y1 y2):=⟨λs1=>(.un::.fn 250 [.rp [.sl (bx.aA.map bo),.sl (bx.off.map aG),vi bx.change],.rp [.sl (cZ.map aU)],.rp [.sl (da.map aC)],.rp [vi db]]::.un::.un::vi aA::.be 0 0 0::(U 5 (.ms 1::vi y2::.ms 2::vi s1.1::(U 110 [])))),λs1=>[YW ⟨.of 27,3,[[.sl (n.aA.map bo),.sl (n.off.map aG),vi n.change]]⟩,YW ⟨.of 9,1,y1.map iU⟩,YW ⟨.of 3,1,s1.2.map aG⟩]⟩
def ep(n:ah)(bx:ah)(cZ:List av)(da:List aq)(db:Int)(cV:ByteArray)(gn:Int)(aA:Int):Option (List Int):=
 (dx n).bind λy1=>
 (bU y1 cV).bind λy2=>
 cond (Y0 (y2<0))
 (YW ([]))
 (cond (Y0 (100000<gn))
 (YW ([]))
 (cond (Y0 (aA<0))
 (YW ([]))
 ((aE (eR n bx cZ da db gn aA y1 y2) NN (0,([]:List Int))).bind (λo0=>
 (aB o0 y2).bind λy3=>
 (aE (dn n bx cZ da db aA y1 y2) NN (0,(o0.set (Wm y2) (if 0 > gn then 0 else gn)))).bind (λo1=>
 YW o1)))))
instance (n:ah)(bx:ah)(cZ:List av)(da:List aq)(db:Int)(cV:ByteArray)(gn:Int)(aA:Int):CT prog (ep n bx cZ da db cV gn aA):=⟨248,[.ag (bB n),.fn 250 [.rp [.sl (bx.aA.map bo),.sl (bx.off.map aG),vi bx.change],.rp [.sl (cZ.map aU)],.rp [.sl (da.map aC)],.rp [vi db]],vs cV,vi gn,vi aA],[],λr=>.ms 0,λr=>[YW ⟨.of 3,1,r.map aG⟩],cw (ep.eq_1 ..) func248 ntmps248 results248⟩
def eQ(w:ax)(i:Int):Option ax:=
 (aB w.aj i).bind λy1=>
 (fo y1).bind λy2=>
 cond (Y0 (0<y2))
 ((aB y1.aK (aM (y2-1))).bind λy3=>
 (bm w.aa y3).bind λy4=>
 (fA (aM (w.now+1)) (aM (y4+w.aa.change))).bind λy5=>
 (lE w.aa w.au (aM (i+1)) (aM (w.now+1))).bind λy6=>
 (fe w.aa y1).bind λy7=>
 (bS w.aa y6 w.ae y7 y1.aY y5 y1.ab).bind λy8=>
 (cx w.aa y6 (aM (i+1)) y1.ab y8.1).bind λy9=>
 (cr (fJ 0 y2 y1.aK.length)).bind λ_=>
 (cr (bn ((([]:List av):List av).length+((cM y1.aK 0 y2):List av).length) 16)).bind λ_=>
 (aB w.aj i).bind λeh=>
 cond y9.2
 ((aB w.aj i).bind λlr=>
 (cr (bn ((((([]:List av):List av)++(cM y1.aK 0 y2)):List av).length+(y8.1:List av).length) 16)).bind λ_=>
 (aB w.aj i).bind λoV=>
 YW (⟨w.aa,(w.aj.set (Wm i) (⟨eh.ar,eh.aY,eh.aw,eh.ab,eh.aQ,eh.eJ,((((([]:List av):List av)++(cM y1.aK 0 y2)):List av)++y8.1),eh.aO,eh.state,eh.place,eh.bQ⟩:az)),y9.1,w.ae,w.now,w.aN,w.skip,w.bg⟩:ax))
 (YW (⟨w.aa,(w.aj.set (Wm i) (⟨eh.ar,eh.aY,eh.aw,eh.ab,eh.aQ,eh.eJ,((([]:List av):List av)++(cM y1.aK 0 y2)),eh.aO,eh.state,eh.place,eh.bQ⟩:az)),y6,w.ae,w.now,w.aN,w.skip,w.bg⟩:ax)))
 ((lE w.aa w.au (aM (i+1)) (aM (w.now+1))).bind λoD=>
 (fe w.aa y1).bind λnF=>
 (bS w.aa oD w.ae nF y1.aY (aM (w.now+1)) y1.ab).bind λpZ=>
 (cx w.aa oD (aM (i+1)) y1.ab pZ.1).bind λod=>
 (cr (fJ 0 y2 y1.aK.length)).bind λ_=>
 (cr (bn ((([]:List av):List av).length+((cM y1.aK 0 y2):List av).length) 16)).bind λ_=>
 (aB w.aj i).bind λrP=>
 cond od.2
 ((aB w.aj i).bind λva=>
 (cr (bn ((((([]:List av):List av)++(cM y1.aK 0 y2)):List av).length+(pZ.1:List av).length) 16)).bind λ_=>
 (aB w.aj i).bind λwJ=>
 YW (⟨w.aa,(w.aj.set (Wm i) (⟨rP.ar,rP.aY,rP.aw,rP.ab,rP.aQ,rP.eJ,((((([]:List av):List av)++(cM y1.aK 0 y2)):List av)++pZ.1),rP.aO,rP.state,rP.place,rP.bQ⟩:az)),od.1,w.ae,w.now,w.aN,w.skip,w.bg⟩:ax))
 (YW (⟨w.aa,(w.aj.set (Wm i) (⟨rP.ar,rP.aY,rP.aw,rP.ab,rP.aQ,rP.eJ,((([]:List av):List av)++(cM y1.aK 0 y2)),rP.aO,rP.state,rP.place,rP.bQ⟩:az)),oD,w.ae,w.now,w.aN,w.skip,w.bg⟩:ax)))
instance (w:ax)(i:Int):CT prog (eQ w i):=⟨232,[.be 0 0 0,vi i],[YW ⟨.of 33,10,[[.ms 1,.ms 2,vi w.aa.change,.ms 3,.ms 4,.ms 5,vi w.now,.ms 6,.ms 7,vi w.bg]]⟩,YW ⟨.of 144,6,w.aa.aA.map bo⟩,YW ⟨.of 3,1,w.aa.off.map aG⟩,YW ⟨.of 94,11,w.aj.map aZ⟩,YW ⟨.of 147,4,w.au.map aC⟩,YW ⟨.of 46,2,w.ae.map aU⟩,YW ⟨.of 151,6,w.aN.map bw⟩,YW ⟨.of 3,1,w.skip.map aG⟩],λr=>.tu [],λr=>[YW ⟨.of 33,10,[[.ms 1,.ms 2,vi r.aa.change,.ms 3,.ms 8,.ms 5,vi r.now,.ms 6,.ms 7,vi r.bg]]⟩,YW ⟨.of 144,6,r.aa.aA.map bo⟩,YW ⟨.of 3,1,r.aa.off.map aG⟩,YW ⟨.of 94,11,r.aj.map aZ⟩,YX,YW ⟨.of 46,2,r.ae.map aU⟩,YW ⟨.of 151,6,r.aN.map bw⟩,YW ⟨.of 3,1,r.skip.map aG⟩,YW ⟨.of 147,4,r.au.map aC⟩],cw (eQ.eq_1 ..) func232 ntmps232 results232⟩
def jb(o:aF)(a:ba):Option (Int×aF):=
 (bb a.order 1 (o.aH.length:Int)).bind λy1=>
 cond (!y1)
 (YW (4,o))
 ((nU o.lines a.order a.bC o.world.now).bind λy2=>
 cond (Y0 (a.kind=6))
 ((aB o.world.aj (aM (a.order-1))).bind λy3=>
 cond (!decide (y3.state=3))
 (YW (4,o))
 ((kR o.lines a.order y3.eJ y3.bQ o.aI o.world.now).bind λy4=>
 cond (!decide (y4.2=0))
 (YW (4,o))
 (YW (0,(⟨o.world,o.aS,o.aT,o.aI,o.aH,y4.1,o.aD⟩:aF)))))
 (cond (!decide (y2.2=0))
 (YW (4,o))
 (YW (0,(⟨o.world,o.aS,o.aT,o.aI,o.aH,y2.1,o.aD⟩:aF)))))
instance (o:aF)(a:ba):CT prog (jb o a):=⟨178,[.be 0 0 0,.ag (cX a)],[YW ⟨.of 40,16,[[.sl (o.world.aa.aA.map bo),.sl (o.world.aa.off.map aG),vi o.world.aa.change,.sl (o.world.aj.map aZ),.sl (o.world.au.map aC),.sl (o.world.ae.map aU),vi o.world.now,.sl (o.world.aN.map bw),.sl (o.world.skip.map aG),vi o.world.bg,.ms 1,.ms 2,.ms 3,.ms 4,.ms 5,.ms 6]]⟩,YW ⟨.of 78,2,o.aS.map cG⟩,YW ⟨.of 81,4,o.aT.map cy⟩,YW ⟨.of 3,1,o.aI.map aG⟩,YW ⟨.of 44,7,o.aH.map bA⟩,YW ⟨.of 85,4,o.lines.map bK⟩,YW ⟨.of 48,13,o.aD.map cX⟩],λr=>vi r.1,λr=>[YW ⟨.of 40,16,[[.sl (r.2.world.aa.aA.map bo),.sl (r.2.world.aa.off.map aG),vi r.2.world.aa.change,.sl (r.2.world.aj.map aZ),.sl (r.2.world.au.map aC),.sl (r.2.world.ae.map aU),vi r.2.world.now,.sl (r.2.world.aN.map bw),.sl (r.2.world.skip.map aG),vi r.2.world.bg,.ms 1,.ms 2,.ms 3,.ms 4,.ms 7,.ms 6]]⟩,YW ⟨.of 78,2,r.2.aS.map cG⟩,YW ⟨.of 81,4,r.2.aT.map cy⟩,YW ⟨.of 3,1,r.2.aI.map aG⟩,YW ⟨.of 44,7,r.2.aH.map bA⟩,YX,YW ⟨.of 48,13,r.2.aD.map cX⟩,YW ⟨.of 85,4,r.2.lines.map bK⟩],cw (jb.eq_1 ..) func178 ntmps178 results178⟩
def jT(o:aF)(y1:ax)(y2:(List Int))(y3:(List bc))(s0:Int×(List aL)):Option ((Int×(List aL))⊕(List aL)):=
 cond (Y0 (s0.1<(o.aH.length:Int)))
 ((aB o.aH s0.1).bind λy4=>
 (gW y4).bind λy5=>
 (cr (bn ((s0.2:List aL).length+([y5]:List aL).length) 88)).bind λ_=>
 YW (.inl ((aM (s0.1+1)),((s0.2:List aL)++[y5]))))
 (YW (.inr s0.2))
instance (o:aF)(y1:ax)(y2:(List Int))(y3:(List bc)):bp (jT o y1 y2 y3):=⟨λs0=>(.un::.be 0 0 0::.be 1 0 0::.be 2 0 0::vi s0.1::(U 61 [])),λs0=>[YW ⟨.of 40,16,[[.sl (o.world.aa.aA.map bo),.sl (o.world.aa.off.map aG),vi o.world.aa.change,.sl (o.world.aj.map aZ),.sl (o.world.au.map aC),.sl (o.world.ae.map aU),vi o.world.now,.sl (o.world.aN.map bw),.sl (o.world.skip.map aG),vi o.world.bg,.sl (o.aS.map cG),.sl (o.aT.map cy),.sl (o.aI.map aG),.sl (o.aH.map bA),.sl (o.lines.map bK),.sl (o.aD.map cX)]]⟩,YW ⟨.of 40,16,[[.v (.slice YX 0 0),.v (.slice YX 0 0),vi 0,.v (.slice YX 0 0),.v (.slice YX 0 0),.v (.slice YX 0 0),vi 0,.v (.slice YX 0 0),.v (.slice YX 0 0),vi 0,.v (.slice YX 0 0),.v (.slice YX 0 0),.v (.slice YX 0 0),.v (.slice YX 0 0),.v (.slice YX 0 0),.v (.slice YX 0 0)]]⟩,YW ⟨.of 40,16,[[.ms 3,.ms 4,vi y1.aa.change,.ms 5,.ms 6,.ms 7,vi y1.now,.ms 8,.ms 9,vi y1.bg,.ms 10,.ms 11,.ms 12,.ms 13,.ms 14,.v (.slice YX 0 0)]]⟩,YW ⟨.of 144,6,y1.aa.aA.map bo⟩,YW ⟨.of 3,1,y1.aa.off.map aG⟩,YW ⟨.of 94,11,y1.aj.map aZ⟩,YW ⟨.of 147,4,y1.au.map aC⟩,YW ⟨.of 46,2,y1.ae.map aU⟩,YW ⟨.of 151,6,y1.aN.map bw⟩,YW ⟨.of 3,1,y1.skip.map aG⟩,YW ⟨.of 78,2,((([]:List ct):List ct)++o.aS).map cG⟩,YW ⟨.of 81,4,((([]:List bF):List bF)++o.aT).map cy⟩,YW ⟨.of 3,1,y2.map aG⟩,YW ⟨.of 44,7,s0.2.map bA⟩,YW ⟨.of 85,4,y3.map bK⟩]⟩
def jU(o:aF)(y1:ax)(y2:(List Int))(y3:(List bc))(o0:(List aL))(s1:Int×(List ba)):Option ((Int×(List ba))⊕(List ba)):=
 cond (Y0 (s1.1<(o.aD.length:Int)))
 ((aB o.aD s1.1).bind λy6=>
 (gW y6.aJ).bind λy7=>
 (cr (bn ((s1.2:List ba).length+([(⟨y6.kind,y7,y6.order,y6.bC,y6.bI,y6.bk⟩:ba)]:List ba).length) 136)).bind λ_=>
 YW (.inl ((aM (s1.1+1)),((s1.2:List ba)++[(⟨y6.kind,y7,y6.order,y6.bC,y6.bI,y6.bk⟩:ba)]))))
 (YW (.inr s1.2))
instance (o:aF)(y1:ax)(y2:(List Int))(y3:(List bc))(o0:(List aL)):bp (jU o y1 y2 y3 o0):=⟨λs1=>(.un::.be 0 0 0::.be 1 0 0::.be 2 0 0::.un::vi s1.1::(U 60 [])),λs1=>[YW ⟨.of 40,16,[[.sl (o.world.aa.aA.map bo),.sl (o.world.aa.off.map aG),vi o.world.aa.change,.sl (o.world.aj.map aZ),.sl (o.world.au.map aC),.sl (o.world.ae.map aU),vi o.world.now,.sl (o.world.aN.map bw),.sl (o.world.skip.map aG),vi o.world.bg,.sl (o.aS.map cG),.sl (o.aT.map cy),.sl (o.aI.map aG),.sl (o.aH.map bA),.sl (o.lines.map bK),.sl (o.aD.map cX)]]⟩,YW ⟨.of 40,16,[[.v (.slice YX 0 0),.v (.slice YX 0 0),vi 0,.v (.slice YX 0 0),.v (.slice YX 0 0),.v (.slice YX 0 0),vi 0,.v (.slice YX 0 0),.v (.slice YX 0 0),vi 0,.v (.slice YX 0 0),.v (.slice YX 0 0),.v (.slice YX 0 0),.v (.slice YX 0 0),.v (.slice YX 0 0),.v (.slice YX 0 0)]]⟩,YW ⟨.of 40,16,[[.ms 3,.ms 4,vi y1.aa.change,.ms 5,.ms 6,.ms 7,vi y1.now,.ms 8,.ms 9,vi y1.bg,.ms 10,.ms 11,.ms 12,.ms 13,.ms 14,.ms 15]]⟩,YW ⟨.of 144,6,y1.aa.aA.map bo⟩,YW ⟨.of 3,1,y1.aa.off.map aG⟩,YW ⟨.of 94,11,y1.aj.map aZ⟩,YW ⟨.of 147,4,y1.au.map aC⟩,YW ⟨.of 46,2,y1.ae.map aU⟩,YW ⟨.of 151,6,y1.aN.map bw⟩,YW ⟨.of 3,1,y1.skip.map aG⟩,YW ⟨.of 78,2,((([]:List ct):List ct)++o.aS).map cG⟩,YW ⟨.of 81,4,((([]:List bF):List bF)++o.aT).map cy⟩,YW ⟨.of 3,1,y2.map aG⟩,YW ⟨.of 44,7,o0.map bA⟩,YW ⟨.of 85,4,y3.map bK⟩,YW ⟨.of 48,13,s1.2.map cX⟩]⟩
def gf(o:aF):Option aF:=
 (oe 8 []).bind λ_=>
 (eC o.world).bind λy1=>
 (cr (bn ((([]:List ct):List ct).length+(o.aS:List ct).length) 32)).bind λ_=>
 (cr (bn ((([]:List bF):List bF).length+(o.aT:List bF).length) 32)).bind λ_=>
 (eF o.aI).bind λy2=>
 (ca o.lines).bind λy3=>
 (aE (jT o y1 y2 y3) NN (0,[])).bind (λo0=>
 (aE (jU o y1 y2 y3 o0) NN (0,[])).bind (λo1=>
 YW (⟨y1,((([]:List ct):List ct)++o.aS),((([]:List bF):List bF)++o.aT),y2,o0,y3,o1⟩:aF)))
instance (o:aF):CT prog (gf o):=⟨52,[.ag (lM o)],[],λr=>.ag [.sl (r.world.aa.aA.map bo),.sl (r.world.aa.off.map aG),vi r.world.aa.change,.sl (r.world.aj.map aZ),.sl (r.world.au.map aC),.sl (r.world.ae.map aU),vi r.world.now,.sl (r.world.aN.map bw),.sl (r.world.skip.map aG),vi r.world.bg,.ms 0,.ms 1,.ms 2,.ms 3,.ms 4,.ms 5],λr=>[YW ⟨.of 78,2,r.aS.map cG⟩,YW ⟨.of 81,4,r.aT.map cy⟩,YW ⟨.of 3,1,r.aI.map aG⟩,YW ⟨.of 44,7,r.aH.map bA⟩,YW ⟨.of 85,4,r.lines.map bK⟩,YW ⟨.of 48,13,r.aD.map cX⟩],cw (gf.eq_1 ..) func52 ntmps52 results52⟩
def mP(c:bj)(o:aF):Option (ba×bj):=
 (bq [0]).bind λ_=>
 (ay c 9).bind λy1=>
 cond (Y0 (y1.1=0))
 (cond (Y0 (y1.1=0))
 ((bq [0]).bind λ_=>
 (de y1.2).bind λy2=>
 (bq [0]).bind λ_=>
 (ay y2.2 6000).bind λy3=>
 (bq [0]).bind λ_=>
 (ay y3.2 300).bind λy4=>
 (bq [0]).bind λ_=>
 (ay y4.2 200).bind λy5=>
 (bq [0]).bind λ_=>
 (ay y5.2 200).bind λy6=>
 (bq [0]).bind λ_=>
 (cB y6.2 o.world.aa).bind λy7=>
 (bq [0]).bind λ_=>
 (cB y7.2 o.world.aa).bind λy8=>
 cond (Y0 (y7.1=y8.1))
 (YW ((⟨1,(⟨(⟨y2.1.label.aw,y2.1.label.bO,y8.1⟩:bl),⟨#[79,83,76]⟩,(aM (200+y3.1)),[(aM (100+y4.1)),(aM (100+y5.1)),(aM (50+y6.1))],y2.1.value⟩:aL),0,0,0,(⟨0,0⟩:av)⟩:ba),y8.2))
 (YW ((⟨1,(⟨(⟨y2.1.label.aw,y2.1.label.bO,y8.1⟩:bl),y7.1,(aM (200+y3.1)),[(aM (100+y4.1)),(aM (100+y5.1)),(aM (50+y6.1))],y2.1.value⟩:aL),0,0,0,(⟨0,0⟩:av)⟩:ba),y8.2)))
 (cond (Y0 (y1.1=3))
 ((bq [0]).bind λ_=>
 (ay y1.2 (aM ((o.aH.length:Int)+1))).bind λy9=>
 (dX o.lines (aM (1+y9.1))).bind λeh=>
 (bq [0,3]).bind λ_=>
 (bW y9.2 ([0,0,0,100])).bind λlr=>
 (fA 1 (aM (eh-lr.1))).bind λoV=>
 YW ((⟨2,(⟨(⟨0,0,⟨#[]⟩⟩:bl),⟨#[]⟩,0,[],0⟩:aL),(aM (1+y9.1)),oV,0,(⟨0,0⟩:av)⟩:ba),lr.2.1))
 (cond (Y0 (y1.1=4))
 ((bq [0]).bind λ_=>
 (dy y1.2 o.world).bind λoD=>
 YW ((⟨4,(⟨(⟨0,0,⟨#[]⟩⟩:bl),⟨#[]⟩,0,[],0⟩:aL),0,0,0,oD.1⟩:ba),oD.2))
 (cond (Y0 (y1.1=5))
 (YW ((⟨5,(⟨(⟨0,0,⟨#[]⟩⟩:bl),⟨#[]⟩,0,[],0⟩:aL),0,0,0,(⟨0,0⟩:av)⟩:ba),y1.2))
 (cond (Y0 (y1.1=6))
 ((bq [0]).bind λ_=>
 (ay y1.2 (aM ((o.aH.length:Int)+1))).bind λnF=>
 YW ((⟨6,(⟨(⟨0,0,⟨#[]⟩⟩:bl),⟨#[]⟩,0,[],0⟩:aL),(aM (1+nF.1)),0,0,(⟨0,0⟩:av)⟩:ba),nF.2))
 ((oe 8 [4]).bind λ_=>
 (bq [0]).bind λ_=>
 (ay y1.2 90).bind λpZ=>
 YW ((⟨3,(⟨(⟨0,0,⟨#[]⟩⟩:bl),⟨#[]⟩,0,[],0⟩:aL),0,0,(aM (o.world.now+(aM (30*pZ.1)))),(⟨0,0⟩:av)⟩:ba),pZ.2)))))))
 (cond (Y0 (y1.1=1))
 (cond (Y0 (y1.1=1))
 ((bq [0]).bind λ_=>
 (de y1.2).bind λod=>
 (bq [0]).bind λ_=>
 (ay od.2 6000).bind λrP=>
 (bq [0]).bind λ_=>
 (ay rP.2 300).bind λva=>
 (bq [0]).bind λ_=>
 (ay va.2 200).bind λwJ=>
 (bq [0]).bind λ_=>
 (ay wJ.2 200).bind λD5=>
 (bq [0]).bind λ_=>
 (cB D5.2 o.world.aa).bind λHj=>
 (bq [0]).bind λ_=>
 (cB Hj.2 o.world.aa).bind λza=>
 cond (Y0 (Hj.1=za.1))
 (YW ((⟨1,(⟨(⟨od.1.label.aw,od.1.label.bO,za.1⟩:bl),⟨#[79,83,76]⟩,(aM (200+rP.1)),[(aM (100+va.1)),(aM (100+wJ.1)),(aM (50+D5.1))],od.1.value⟩:aL),0,0,0,(⟨0,0⟩:av)⟩:ba),za.2))
 (YW ((⟨1,(⟨(⟨od.1.label.aw,od.1.label.bO,za.1⟩:bl),Hj.1,(aM (200+rP.1)),[(aM (100+va.1)),(aM (100+wJ.1)),(aM (50+D5.1))],od.1.value⟩:aL),0,0,0,(⟨0,0⟩:av)⟩:ba),za.2)))
 (cond (Y0 (y1.1=3))
 ((bq [0]).bind λ_=>
 (ay y1.2 (aM ((o.aH.length:Int)+1))).bind λBp=>
 (dX o.lines (aM (1+Bp.1))).bind λy24=>
 (bq [0,3]).bind λ_=>
 (bW Bp.2 ([0,0,0,100])).bind λy25=>
 (fA 1 (aM (y24-y25.1))).bind λy26=>
 YW ((⟨2,(⟨(⟨0,0,⟨#[]⟩⟩:bl),⟨#[]⟩,0,[],0⟩:aL),(aM (1+Bp.1)),y26,0,(⟨0,0⟩:av)⟩:ba),y25.2.1))
 (cond (Y0 (y1.1=4))
 ((bq [0]).bind λ_=>
 (dy y1.2 o.world).bind λy27=>
 YW ((⟨4,(⟨(⟨0,0,⟨#[]⟩⟩:bl),⟨#[]⟩,0,[],0⟩:aL),0,0,0,y27.1⟩:ba),y27.2))
 (cond (Y0 (y1.1=5))
 (YW ((⟨5,(⟨(⟨0,0,⟨#[]⟩⟩:bl),⟨#[]⟩,0,[],0⟩:aL),0,0,0,(⟨0,0⟩:av)⟩:ba),y1.2))
 (cond (Y0 (y1.1=6))
 ((bq [0]).bind λ_=>
 (ay y1.2 (aM ((o.aH.length:Int)+1))).bind λy28=>
 YW ((⟨6,(⟨(⟨0,0,⟨#[]⟩⟩:bl),⟨#[]⟩,0,[],0⟩:aL),(aM (1+y28.1)),0,0,(⟨0,0⟩:av)⟩:ba),y28.2))
 ((oe 8 [4]).bind λ_=>
 (bq [0]).bind λ_=>
 (ay y1.2 90).bind λy29=>
 YW ((⟨3,(⟨(⟨0,0,⟨#[]⟩⟩:bl),⟨#[]⟩,0,[],0⟩:aL),0,0,(aM (o.world.now+(aM (30*y29.1)))),(⟨0,0⟩:av)⟩:ba),y29.2)))))))
 (cond (Y0 (y1.1=2))
 ((bq [0]).bind λ_=>
 (de y1.2).bind λMU=>
 (bq [0]).bind λ_=>
 (ay MU.2 6000).bind λy31=>
 (bq [0]).bind λ_=>
 (ay y31.2 300).bind λy32=>
 (bq [0]).bind λ_=>
 (ay y32.2 200).bind λy33=>
 (bq [0]).bind λ_=>
 (ay y33.2 200).bind λy34=>
 (bq [0]).bind λ_=>
 (cB y34.2 o.world.aa).bind λy35=>
 (bq [0]).bind λ_=>
 (cB y35.2 o.world.aa).bind λUF=>
 cond (Y0 (y35.1=UF.1))
 (YW ((⟨1,(⟨(⟨MU.1.label.aw,MU.1.label.bO,UF.1⟩:bl),⟨#[79,83,76]⟩,(aM (200+y31.1)),[(aM (100+y32.1)),(aM (100+y33.1)),(aM (50+y34.1))],MU.1.value⟩:aL),0,0,0,(⟨0,0⟩:av)⟩:ba),UF.2))
 (YW ((⟨1,(⟨(⟨MU.1.label.aw,MU.1.label.bO,UF.1⟩:bl),y35.1,(aM (200+y31.1)),[(aM (100+y32.1)),(aM (100+y33.1)),(aM (50+y34.1))],MU.1.value⟩:aL),0,0,0,(⟨0,0⟩:av)⟩:ba),UF.2)))
 (cond (Y0 (y1.1=3))
 ((bq [0]).bind λ_=>
 (ay y1.2 (aM ((o.aH.length:Int)+1))).bind λy37=>
 (dX o.lines (aM (1+y37.1))).bind λy38=>
 (bq [0,3]).bind λ_=>
 (bW y37.2 ([0,0,0,100])).bind λy39=>
 (fA 1 (aM (y38-y39.1))).bind λy40=>
 YW ((⟨2,(⟨(⟨0,0,⟨#[]⟩⟩:bl),⟨#[]⟩,0,[],0⟩:aL),(aM (1+y37.1)),y40,0,(⟨0,0⟩:av)⟩:ba),y39.2.1))
 (cond (Y0 (y1.1=4))
 ((bq [0]).bind λ_=>
 (dy y1.2 o.world).bind λy41=>
 YW ((⟨4,(⟨(⟨0,0,⟨#[]⟩⟩:bl),⟨#[]⟩,0,[],0⟩:aL),0,0,0,y41.1⟩:ba),y41.2))
 (cond (Y0 (y1.1=5))
 (YW ((⟨5,(⟨(⟨0,0,⟨#[]⟩⟩:bl),⟨#[]⟩,0,[],0⟩:aL),0,0,0,(⟨0,0⟩:av)⟩:ba),y1.2))
 (cond (Y0 (y1.1=6))
 ((bq [0]).bind λ_=>
 (ay y1.2 (aM ((o.aH.length:Int)+1))).bind λy42=>
 YW ((⟨6,(⟨(⟨0,0,⟨#[]⟩⟩:bl),⟨#[]⟩,0,[],0⟩:aL),(aM (1+y42.1)),0,0,(⟨0,0⟩:av)⟩:ba),y42.2))
 ((oe 8 [4]).bind λ_=>
 (bq [0]).bind λ_=>
 (ay y1.2 90).bind λy43=>
 YW ((⟨3,(⟨(⟨0,0,⟨#[]⟩⟩:bl),⟨#[]⟩,0,[],0⟩:aL),0,0,(aM (o.world.now+(aM (30*y43.1)))),(⟨0,0⟩:av)⟩:ba),y43.2))))))))
instance (c:bj)(o:aF):CT prog (mP c o):=⟨55,[.be 0 0 0,.ag (lM o)],[YW ⟨.of 119,3,[[.sl (c.b.map Y5),vi c.i,vi c.h]]⟩],λr=>.ag [vi r.1.kind,vi r.1.aJ.label.aw,vi r.1.aJ.label.bO,vs r.1.aJ.label.aY,vs r.1.aJ.ar,vi r.1.aJ.ab,.sl (r.1.aJ.bE.map aG),vi r.1.aJ.value,vi r.1.order,vi r.1.bC,vi r.1.bI,vi r.1.bk.bH,vi r.1.bk.day],λr=>[YW ⟨.of 119,3,[[.sl (r.2.b.map Y5),vi r.2.i,vi r.2.h]]⟩],cw (mP.eq_1 ..) func55 ntmps55 results55⟩
def mK(c:bj)(o:aF):Option (ba×bj×aF):=
 (bq [0]).bind λ_=>
 (ay c 9).bind λy1=>
 cond (Y0 (y1.1=0))
 (cond (Y0 (y1.1=0))
 ((bq [0]).bind λ_=>
 (de y1.2).bind λy2=>
 (bq [0]).bind λ_=>
 (ay y2.2 6000).bind λy3=>
 (bq [0]).bind λ_=>
 (ay y3.2 300).bind λy4=>
 (bq [0]).bind λ_=>
 (ay y4.2 200).bind λy5=>
 (bq [0]).bind λ_=>
 (ay y5.2 200).bind λy6=>
 (bq [0]).bind λ_=>
 (cB y6.2 o.world.aa).bind λy7=>
 (bq [0]).bind λ_=>
 (cB y7.2 o.world.aa).bind λy8=>
 cond (Y0 (y7.1=y8.1))
 (YW ((⟨1,(⟨(⟨y2.1.label.aw,y2.1.label.bO,y8.1⟩:bl),⟨#[79,83,76]⟩,(aM (200+y3.1)),[(aM (100+y4.1)),(aM (100+y5.1)),(aM (50+y6.1))],y2.1.value⟩:aL),0,0,0,(⟨0,0⟩:av)⟩:ba),y8.2,o))
 (YW ((⟨1,(⟨(⟨y2.1.label.aw,y2.1.label.bO,y8.1⟩:bl),y7.1,(aM (200+y3.1)),[(aM (100+y4.1)),(aM (100+y5.1)),(aM (50+y6.1))],y2.1.value⟩:aL),0,0,0,(⟨0,0⟩:av)⟩:ba),y8.2,o)))
 (cond (Y0 (y1.1=3))
 ((bq [0]).bind λ_=>
 (ay y1.2 (aM ((o.aH.length:Int)+1))).bind λy9=>
 (dX o.lines (aM (1+y9.1))).bind λeh=>
 (bq [0,5]).bind λ_=>
 (bW y9.2 ([0,0,0,100])).bind λlr=>
 (fA 1 (aM (eh-lr.1))).bind λoV=>
 YW ((⟨2,(⟨(⟨0,0,⟨#[]⟩⟩:bl),⟨#[]⟩,0,[],0⟩:aL),(aM (1+y9.1)),oV,0,(⟨0,0⟩:av)⟩:ba),lr.2.1,o))
 (cond (Y0 (y1.1=4))
 ((bq [0]).bind λ_=>
 (dy y1.2 o.world).bind λoD=>
 YW ((⟨4,(⟨(⟨0,0,⟨#[]⟩⟩:bl),⟨#[]⟩,0,[],0⟩:aL),0,0,0,oD.1⟩:ba),oD.2,o))
 (cond (Y0 (y1.1=5))
 (YW ((⟨5,(⟨(⟨0,0,⟨#[]⟩⟩:bl),⟨#[]⟩,0,[],0⟩:aL),0,0,0,(⟨0,0⟩:av)⟩:ba),y1.2,o))
 (cond (Y0 (y1.1=6))
 ((bq [0]).bind λ_=>
 (ay y1.2 (aM ((o.aH.length:Int)+1))).bind λnF=>
 YW ((⟨6,(⟨(⟨0,0,⟨#[]⟩⟩:bl),⟨#[]⟩,0,[],0⟩:aL),(aM (1+nF.1)),0,0,(⟨0,0⟩:av)⟩:ba),nF.2,o))
 ((oe 8 [4]).bind λ_=>
 (bq [0]).bind λ_=>
 (ay y1.2 90).bind λpZ=>
 YW ((⟨3,(⟨(⟨0,0,⟨#[]⟩⟩:bl),⟨#[]⟩,0,[],0⟩:aL),0,0,(aM (o.world.now+(aM (30*pZ.1)))),(⟨0,0⟩:av)⟩:ba),pZ.2,o)))))))
 (cond (Y0 (y1.1=1))
 (cond (Y0 (y1.1=1))
 ((bq [0]).bind λ_=>
 (de y1.2).bind λod=>
 (bq [0]).bind λ_=>
 (ay od.2 6000).bind λrP=>
 (bq [0]).bind λ_=>
 (ay rP.2 300).bind λva=>
 (bq [0]).bind λ_=>
 (ay va.2 200).bind λwJ=>
 (bq [0]).bind λ_=>
 (ay wJ.2 200).bind λD5=>
 (bq [0]).bind λ_=>
 (cB D5.2 o.world.aa).bind λHj=>
 (bq [0]).bind λ_=>
 (cB Hj.2 o.world.aa).bind λza=>
 cond (Y0 (Hj.1=za.1))
 (YW ((⟨1,(⟨(⟨od.1.label.aw,od.1.label.bO,za.1⟩:bl),⟨#[79,83,76]⟩,(aM (200+rP.1)),[(aM (100+va.1)),(aM (100+wJ.1)),(aM (50+D5.1))],od.1.value⟩:aL),0,0,0,(⟨0,0⟩:av)⟩:ba),za.2,o))
 (YW ((⟨1,(⟨(⟨od.1.label.aw,od.1.label.bO,za.1⟩:bl),Hj.1,(aM (200+rP.1)),[(aM (100+va.1)),(aM (100+wJ.1)),(aM (50+D5.1))],od.1.value⟩:aL),0,0,0,(⟨0,0⟩:av)⟩:ba),za.2,o)))
 (cond (Y0 (y1.1=3))
 ((bq [0]).bind λ_=>
 (ay y1.2 (aM ((o.aH.length:Int)+1))).bind λBp=>
 (dX o.lines (aM (1+Bp.1))).bind λy24=>
 (bq [0,5]).bind λ_=>
 (bW Bp.2 ([0,0,0,100])).bind λy25=>
 (fA 1 (aM (y24-y25.1))).bind λy26=>
 YW ((⟨2,(⟨(⟨0,0,⟨#[]⟩⟩:bl),⟨#[]⟩,0,[],0⟩:aL),(aM (1+Bp.1)),y26,0,(⟨0,0⟩:av)⟩:ba),y25.2.1,o))
 (cond (Y0 (y1.1=4))
 ((bq [0]).bind λ_=>
 (dy y1.2 o.world).bind λy27=>
 YW ((⟨4,(⟨(⟨0,0,⟨#[]⟩⟩:bl),⟨#[]⟩,0,[],0⟩:aL),0,0,0,y27.1⟩:ba),y27.2,o))
 (cond (Y0 (y1.1=5))
 (YW ((⟨5,(⟨(⟨0,0,⟨#[]⟩⟩:bl),⟨#[]⟩,0,[],0⟩:aL),0,0,0,(⟨0,0⟩:av)⟩:ba),y1.2,o))
 (cond (Y0 (y1.1=6))
 ((bq [0]).bind λ_=>
 (ay y1.2 (aM ((o.aH.length:Int)+1))).bind λy28=>
 YW ((⟨6,(⟨(⟨0,0,⟨#[]⟩⟩:bl),⟨#[]⟩,0,[],0⟩:aL),(aM (1+y28.1)),0,0,(⟨0,0⟩:av)⟩:ba),y28.2,o))
 ((oe 8 [4]).bind λ_=>
 (bq [0]).bind λ_=>
 (ay y1.2 90).bind λy29=>
 YW ((⟨3,(⟨(⟨0,0,⟨#[]⟩⟩:bl),⟨#[]⟩,0,[],0⟩:aL),0,0,(aM (o.world.now+(aM (30*y29.1)))),(⟨0,0⟩:av)⟩:ba),y29.2,o)))))))
 (cond (Y0 (y1.1=2))
 ((bq [0]).bind λ_=>
 (de y1.2).bind λMU=>
 (bq [0]).bind λ_=>
 (ay MU.2 6000).bind λy31=>
 (bq [0]).bind λ_=>
 (ay y31.2 300).bind λy32=>
 (bq [0]).bind λ_=>
 (ay y32.2 200).bind λy33=>
 (bq [0]).bind λ_=>
 (ay y33.2 200).bind λy34=>
 (bq [0]).bind λ_=>
 (cB y34.2 o.world.aa).bind λy35=>
 (bq [0]).bind λ_=>
 (cB y35.2 o.world.aa).bind λUF=>
 cond (Y0 (y35.1=UF.1))
 (YW ((⟨1,(⟨(⟨MU.1.label.aw,MU.1.label.bO,UF.1⟩:bl),⟨#[79,83,76]⟩,(aM (200+y31.1)),[(aM (100+y32.1)),(aM (100+y33.1)),(aM (50+y34.1))],MU.1.value⟩:aL),0,0,0,(⟨0,0⟩:av)⟩:ba),UF.2,o))
 (YW ((⟨1,(⟨(⟨MU.1.label.aw,MU.1.label.bO,UF.1⟩:bl),y35.1,(aM (200+y31.1)),[(aM (100+y32.1)),(aM (100+y33.1)),(aM (50+y34.1))],MU.1.value⟩:aL),0,0,0,(⟨0,0⟩:av)⟩:ba),UF.2,o)))
 (cond (Y0 (y1.1=3))
 ((bq [0]).bind λ_=>
 (ay y1.2 (aM ((o.aH.length:Int)+1))).bind λy37=>
 (dX o.lines (aM (1+y37.1))).bind λy38=>
 (bq [0,5]).bind λ_=>
 (bW y37.2 ([0,0,0,100])).bind λy39=>
 (fA 1 (aM (y38-y39.1))).bind λy40=>
 YW ((⟨2,(⟨(⟨0,0,⟨#[]⟩⟩:bl),⟨#[]⟩,0,[],0⟩:aL),(aM (1+y37.1)),y40,0,(⟨0,0⟩:av)⟩:ba),y39.2.1,o))
 (cond (Y0 (y1.1=4))
 ((bq [0]).bind λ_=>
 (dy y1.2 o.world).bind λy41=>
 YW ((⟨4,(⟨(⟨0,0,⟨#[]⟩⟩:bl),⟨#[]⟩,0,[],0⟩:aL),0,0,0,y41.1⟩:ba),y41.2,o))
 (cond (Y0 (y1.1=5))
 (YW ((⟨5,(⟨(⟨0,0,⟨#[]⟩⟩:bl),⟨#[]⟩,0,[],0⟩:aL),0,0,0,(⟨0,0⟩:av)⟩:ba),y1.2,o))
 (cond (Y0 (y1.1=6))
 ((bq [0]).bind λ_=>
 (ay y1.2 (aM ((o.aH.length:Int)+1))).bind λy42=>
 YW ((⟨6,(⟨(⟨0,0,⟨#[]⟩⟩:bl),⟨#[]⟩,0,[],0⟩:aL),(aM (1+y42.1)),0,0,(⟨0,0⟩:av)⟩:ba),y42.2,o))
 ((oe 8 [4]).bind λ_=>
 (bq [0]).bind λ_=>
 (ay y1.2 90).bind λy43=>
 YW ((⟨3,(⟨(⟨0,0,⟨#[]⟩⟩:bl),⟨#[]⟩,0,[],0⟩:aL),0,0,(aM (o.world.now+(aM (30*y43.1)))),(⟨0,0⟩:av)⟩:ba),y43.2,o))))))))
instance (c:bj)(o:aF):CT prog (mK c o):=⟨55,[.be 0 0 0,.ag [.sl (o.world.aa.aA.map bo),.sl (o.world.aa.off.map aG),vi o.world.aa.change,.sl (o.world.aj.map aZ),.sl (o.world.au.map aC),.sl (o.world.ae.map aU),vi o.world.now,.sl (o.world.aN.map bw),.sl (o.world.skip.map aG),vi o.world.bg,.sl (o.aS.map cG),.sl (o.aT.map cy),.sl (o.aI.map aG),.ms 1,.sl (o.lines.map bK),.ms 2]],[YW ⟨.of 119,3,[[.sl (c.b.map Y5),vi c.i,vi c.h]]⟩,YW ⟨.of 44,7,o.aH.map bA⟩,YW ⟨.of 48,13,o.aD.map cX⟩],λr=>.ag [vi r.1.kind,vi r.1.aJ.label.aw,vi r.1.aJ.label.bO,vs r.1.aJ.label.aY,vs r.1.aJ.ar,vi r.1.aJ.ab,.sl (r.1.aJ.bE.map aG),vi r.1.aJ.value,vi r.1.order,vi r.1.bC,vi r.1.bI,vi r.1.bk.bH,vi r.1.bk.day],λr=>[YW ⟨.of 119,3,[[.sl (r.2.1.b.map Y5),vi r.2.1.i,vi r.2.1.h]]⟩,YW ⟨.of 44,7,r.2.2.aH.map bA⟩,YW ⟨.of 48,13,r.2.2.aD.map cX⟩],cw (mK.eq_1 ..) func55 ntmps55 results55⟩
def jV(c:bj)(o:aF):Option (ba×bj×aF):=
 (bq [0,1,2]).bind λ_=>
 (mK c o).bind λy1=>
 (bq [0]).bind λ_=>
 (ay y1.2.1 12).bind λy2=>
 cond (Y0 (y2.1=0))
 ((bq [0]).bind λ_=>
 (ay y2.2 9).bind λy3=>
 YW ((⟨y3.1,y1.1.aJ,y1.1.order,y1.1.bC,y1.1.bI,y1.1.bk⟩:ba),y3.2,(⟨o.world,o.aS,o.aT,o.aI,y1.2.2.aH,o.lines,y1.2.2.aD⟩:aF)))
 (cond (Y0 (y2.1=1))
 ((bq [0,6]).bind λ_=>
 (bW y2.2 ([0,1,9999,10000])).bind λy4=>
 YW ((⟨y1.1.kind,y1.1.aJ,y4.1,y1.1.bC,y1.1.bI,y1.1.bk⟩:ba),y4.2.1,(⟨o.world,o.aS,o.aT,o.aI,y1.2.2.aH,o.lines,y1.2.2.aD⟩:aF)))
 (cond (Y0 (y2.1=2))
 ((bq [0,6]).bind λ_=>
 (bW y2.2 ([0,1,100000,100001])).bind λy5=>
 YW ((⟨y1.1.kind,y1.1.aJ,y1.1.order,y5.1,y1.1.bI,y1.1.bk⟩:ba),y5.2.1,(⟨o.world,o.aS,o.aT,o.aI,y1.2.2.aH,o.lines,y1.2.2.aD⟩:aF)))
 (cond (Y0 (y2.1=3))
 ((bq [0,6]).bind λ_=>
 (bW y2.2 ([(-1),0,100000,100001])).bind λy6=>
 YW ((⟨y1.1.kind,y1.1.aJ,y1.1.order,y1.1.bC,y6.1,y1.1.bk⟩:ba),y6.2.1,(⟨o.world,o.aS,o.aT,o.aI,y1.2.2.aH,o.lines,y1.2.2.aD⟩:aF)))
 (cond (Y0 (y2.1=4))
 ((bq [0,6]).bind λ_=>
 (bW y2.2 ([(-1),0,19,20])).bind λy7=>
 (bq [0,7]).bind λ_=>
 (bW y7.2.1 ([0,60,61])).bind λy8=>
 YW ((⟨y1.1.kind,y1.1.aJ,y1.1.order,y1.1.bC,y1.1.bI,(⟨y7.1,y8.1⟩:av)⟩:ba),y8.2.1,(⟨o.world,o.aS,o.aT,o.aI,y1.2.2.aH,o.lines,y1.2.2.aD⟩:aF)))
 (cond (Y0 (y2.1=5))
 (YW ((⟨y1.1.kind,(⟨y1.1.aJ.label,y1.1.aJ.ar,(aM (y1.1.aJ.ab+1)),y1.1.aJ.bE,y1.1.aJ.value⟩:aL),y1.1.order,y1.1.bC,y1.1.bI,y1.1.bk⟩:ba),y2.2,(⟨o.world,o.aS,o.aT,o.aI,y1.2.2.aH,o.lines,y1.2.2.aD⟩:aF)))
 (YW (y1.1,y2.2,(⟨o.world,o.aS,o.aT,o.aI,y1.2.2.aH,o.lines,y1.2.2.aD⟩:aF))))))))
instance (c:bj)(o:aF):CT prog (jV c o):=⟨24,[.be 0 0 0,.ag [.sl (o.world.aa.aA.map bo),.sl (o.world.aa.off.map aG),vi o.world.aa.change,.sl (o.world.aj.map aZ),.sl (o.world.au.map aC),.sl (o.world.ae.map aU),vi o.world.now,.sl (o.world.aN.map bw),.sl (o.world.skip.map aG),vi o.world.bg,.sl (o.aS.map cG),.sl (o.aT.map cy),.sl (o.aI.map aG),.ms 1,.sl (o.lines.map bK),.ms 2]],[YW ⟨.of 119,3,[[.sl (c.b.map Y5),vi c.i,vi c.h]]⟩,YW ⟨.of 44,7,o.aH.map bA⟩,YW ⟨.of 48,13,o.aD.map cX⟩],λr=>.ag [vi r.1.kind,vi r.1.aJ.label.aw,vi r.1.aJ.label.bO,vs r.1.aJ.label.aY,vs r.1.aJ.ar,vi r.1.aJ.ab,.sl (r.1.aJ.bE.map aG),vi r.1.aJ.value,vi r.1.order,vi r.1.bC,vi r.1.bI,vi r.1.bk.bH,vi r.1.bk.day],λr=>[YW ⟨.of 119,3,[[.sl (r.2.1.b.map Y5),vi r.2.1.i,vi r.2.1.h]]⟩,YW ⟨.of 44,7,r.2.2.aH.map bA⟩,YW ⟨.of 48,13,r.2.2.aD.map cX⟩],cw (jV.eq_1 ..) func24 ntmps24 results24⟩
end Go.Proofs.YtdilaemengjipaaGreatDoor
