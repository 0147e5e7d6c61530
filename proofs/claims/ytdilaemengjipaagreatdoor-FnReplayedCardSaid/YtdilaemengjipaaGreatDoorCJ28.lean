/- A part of the proof of the statement in the last file of this claim: texts on the language of the program and on its functions. No condition. -/
import Derived.Test.YtdilaemengjipaaGreatDoorCJ4
import Derived.Test.YtdilaemengjipaaGreatDoorCJ7
import Derived.Test.YtdilaemengjipaaGreatDoorCJ6
import Derived.Test.YtdilaemengjipaaGreatDoorCJ23
import Derived.Test.YtdilaemengjipaaGreatDoorCJ19
import Derived.Test.YtdilaemengjipaaGreatDoorCJ18
import Derived.Test.YtdilaemengjipaaGreatDoorCJ11
import Derived.Test.YtdilaemengjipaaGreatDoorCJ20
import Derived.Test.YtdilaemengjipaaGreatDoorCJ10
import Derived.Test.YtdilaemengjipaaGreatDoorCJ1
set_option linter.unusedVariables false
set_option linter.unusedSimpArgs false
set_option linter.unusedSectionVars false
open Option renaming some->YW,none->YX
open Bool renaming true->YY,false->YZ
open Decidable renaming decide->Y0
open Go.Proofs.Tryz
set_option maxHeartbeats 40000000
namespace Go.Proofs.YtdilaemengjipaaGreatDoor
set_option maxRecDepth 10000
open Go.RowKit
def dM(n:ah)(bx:ah)(cZ:List av)(da:List aq)(db:Int)(cV:ByteArray)(lj:Int)(y1:List ByteArray)(y2:Int)(s0:Int×(List (List Int))):Option ((Int×(List (List Int)))⊕((List (List Int))⊕((List av)×Bool))):=
 cond (Y0 (s0.1<=(y1.length:Int)))
 ((ep n bx cZ da db cV lj s0.1).bind λy3=>
 cond (Y0 ((y3.length:Int)=0))
 (YW (.inr (.inr ([],YZ))))
 (cond (Y0 (y2<0))
 (YW (.inr (.inr ([],YZ))))
 ((A8 (.un::.fn 250 [.rp [.sl (bx.aA.map bo),.sl (bx.off.map aG),vi bx.change],.rp [.sl (cZ.map aU)],.rp [.sl (da.map aC)],.rp [vi db]]::vs cV::.un::vi lj::.be 0 0 0::(U 6 (.ms 1::vi y2::.ms 2::vi s0.1::.sl (y3.map aG)::(U 116 [])))) [YW ⟨.of 27,3,[[.sl (n.aA.map bo),.sl (n.off.map aG),vi n.change]]⟩,YW ⟨.of 9,1,y1.map iU⟩,YW ⟨.of 25,1,s0.2.map As⟩]).bind λ_=>
 (cr (bn ((s0.2:List (List Int)).length+([y3]:List (List Int)).length) 24)).bind λ_=>
 YW (.inl ((aM (s0.1+1)),((s0.2:List (List Int))++[y3]))))))
 (YW (.inr (.inl s0.2)))
instance (n:ah)(bx:ah)(cZ:List av)(da:List aq)(db:Int)(cV:ByteArray)(lj:Int)(y1:List ByteArray)(y2:Int):bp (dM n bx cZ da db cV lj y1 y2):=⟨λs0=>(.un::.fn 250 [.rp [.sl (bx.aA.map bo),.sl (bx.off.map aG),vi bx.change],.rp [.sl (cZ.map aU)],.rp [.sl (da.map aC)],.rp [vi db]]::vs cV::.un::vi lj::.be 0 0 0::(U 6 (.ms 1::vi y2::.ms 2::vi s0.1::(U 117 [])))),λs0=>[YW ⟨.of 27,3,[[.sl (n.aA.map bo),.sl (n.off.map aG),vi n.change]]⟩,YW ⟨.of 9,1,y1.map iU⟩,YW ⟨.of 25,1,s0.2.map As⟩]⟩
def fu(n:ah)(bx:ah)(cZ:List av)(da:List aq)(db:Int)(cV:ByteArray)(y1:List ByteArray)(y2:Int)(o0:(List (List Int)))(y5:Int)(s1:Int):Option (Int⊕Int):=
 (aB o0 s1).bind λy6=>
 (aB y6 y2).bind λy7=>
 cond (!decide (y7=y5))
 (YW (.inl (aM (s1+1))))
 (YW (.inr s1))
instance (n:ah)(bx:ah)(cZ:List av)(da:List aq)(db:Int)(cV:ByteArray)(y1:List ByteArray)(y2:Int)(o0:(List (List Int)))(y5:Int):bp (fu n bx cZ da db cV y1 y2 o0 y5):=⟨λs1=>(.un::.fn 250 [.rp [.sl (bx.aA.map bo),.sl (bx.off.map aG),vi bx.change],.rp [.sl (cZ.map aU)],.rp [.sl (da.map aC)],.rp [vi db]]::vs cV::.un::.un::.be 0 0 0::(U 6 (.ms 1::vi y2::.ms 2::.un::.un::vi y5::vi s1::(U 114 [])))),λs1=>[YW ⟨.of 27,3,[[.sl (n.aA.map bo),.sl (n.off.map aG),vi n.change]]⟩,YW ⟨.of 9,1,y1.map iU⟩,YW ⟨.of 25,1,o0.map As⟩]⟩
def jW(n:ah)(bx:ah)(cZ:List av)(da:List aq)(db:Int)(cV:ByteArray)(y1:List ByteArray)(o0:(List (List Int)))(s2:Int×Int×Int×(List av)):Option ((Int×Int×Int×(List av))⊕((List av)⊕((List av)×Bool))):=
 cond (Y0 (0<s2.2.2.1))
 ((aB o0 (aM (s2.2.2.1-1))).bind λy8=>
 (kJ n bx cZ da db (y1:List ByteArray) y8 cV s2.1 s2.2.1).bind λy9=>
 cond (!y9.2)
 (YW (.inr (.inr ([],YZ))))
 ((cr (bn ((s2.2.2.2:List av).length+([y9.1]:List av).length) 16)).bind λ_=>
 (aB n.aA y9.1.bH).bind λeh=>
 (bU (y1:List ByteArray) eh.ar).bind λlr=>
 (aB o0 (aM (s2.2.2.1-1))).bind λoV=>
 (aB oV lr).bind λoD=>
 YW (.inl (lr,oD,(aM (s2.2.2.1-1)),((s2.2.2.2:List av)++[y9.1])))))
 (YW (.inr (.inl s2.2.2.2)))
instance (n:ah)(bx:ah)(cZ:List av)(da:List aq)(db:Int)(cV:ByteArray)(y1:List ByteArray)(o0:(List (List Int))):bp (jW n bx cZ da db cV y1 o0):=⟨λs2=>(.un::.fn 250 [.rp [.sl (bx.aA.map bo),.sl (bx.off.map aG),vi bx.change],.rp [.sl (cZ.map aU)],.rp [.sl (da.map aC)],.rp [vi db]]::vs cV::.un::.un::.be 0 0 0::(U 6 (.sl ((y1:List ByteArray).map iU)::vi s2.1::.ms 1::.un::.un::vi s2.2.1::vi s2.2.2.1::.ms 2::(U 113 [])))),λs2=>[YW ⟨.of 27,3,[[.sl (n.aA.map bo),.sl (n.off.map aG),vi n.change]]⟩,YW ⟨.of 25,1,o0.map As⟩,YW ⟨.of 46,2,s2.2.2.2.map aU⟩]⟩
def jX(o2:(List av))(s3:Int×(List av)):Option ((Int×(List av))⊕(List av)):=
 cond (Y0 (0<=s3.1))
 ((aB o2 s3.1).bind λnF=>
 (cr (bn ((s3.2:List av).length+([nF]:List av).length) 16)).bind λ_=>
 YW (.inl ((aM (s3.1-1)),((s3.2:List av)++[nF]))))
 (YW (.inr s3.2))
instance (o2:(List av)):bp (jX o2):=⟨λs3=>(U 19 (.ms 0::.un::.un::.ms 1::vi s3.1::(U 109 []))),λs3=>[YW ⟨.of 46,2,o2.map aU⟩,YW ⟨.of 46,2,s3.2.map aU⟩]⟩
def pb(n:ah)(bx:ah)(cZ:List av)(da:List aq)(db:Int)(cV:ByteArray)(aY:ByteArray)(lj:Int):Option ((List av)×Bool):=
 (dx n).bind λy1=>
 (bU y1 aY).bind λy2=>
 (aE (dM n bx cZ da db cV lj y1 y2) NN (0,([]:List (List Int)))).bind (bh (λo0=>
 (aB o0 (y1.length:Int)).bind λy4=>
 (aB y4 y2).bind λy5=>
 cond (Y0 (y5<0))
 (YW ([],YZ))
 ((aE (fu n bx cZ da db cV y1 y2 o0 y5) NN 0).bind (λo1=>
 (aE (jW n bx cZ da db cV y1 o0) NN (y2,y5,o1,([]:List av))).bind (bh (λo2=>
 (aE (jX o2) NN ((aM ((o2.length:Int)-1)),([]:List av))).bind (λo3=>
 YW (o3,YY))) (λr=>YW r))))) (λr=>YW r))
instance (n:ah)(bx:ah)(cZ:List av)(da:List aq)(db:Int)(cV:ByteArray)(aY:ByteArray)(lj:Int):CT prog (pb n bx cZ da db cV aY lj):=⟨198,[.ag (bB n),.fn 250 [.rp [.sl (bx.aA.map bo),.sl (bx.off.map aG),vi bx.change],.rp [.sl (cZ.map aU)],.rp [.sl (da.map aC)],.rp [vi db]],vs cV,vs aY,vi lj],[],λr=>.tu [.ms 0,vb r.2],λr=>[YW ⟨.of 46,2,r.1.map aU⟩],cw (pb.eq_1 ..) func198 ntmps198 results198⟩
def iG(n:ah)(l:List aq)(ae:List av)(fw:ByteArray)(aY:ByteArray)(pn:Int)(ab:Int):Option ((List av)×Bool):=
 (iW n l).bind λy1=>
 cond (!y1)
 (YW ([],YZ))
 (cond (Y0 (ab<1))
 (YW ([],YZ))
 ((ry n l ae ab).bind λy2=>
 (pb n y2.1 y2.2.1 y2.2.2.1 y2.2.2.2 fw aY pn).bind λy3=>
 YW (y3.1,y3.2)))
instance (n:ah)(l:List aq)(ae:List av)(fw:ByteArray)(aY:ByteArray)(pn:Int)(ab:Int):CT prog (iG n l ae fw aY pn ab):=⟨137,[.ag (bB n),.sl (l.map aC),.sl (ae.map aU),vs fw,vs aY,vi pn,vi ab],[],λr=>.tu [.ms 0,vb r.2],λr=>[YW ⟨.of 46,2,r.1.map aU⟩],cw (iG.eq_1 ..) func137 ntmps137 results137⟩
def fP(t:av)(s0:Int×Int×Int×Int×(List bP)×(List Int)×(List az)×(List aq)×(List av)×(List br)×(List Int)):Option ((Int×Int×Int×Int×(List bP)×(List Int)×(List az)×(List aq)×(List av)×(List br)×(List Int))⊕(Int×Int×Int×(List bP)×(List Int)×(List az)×(List aq)×(List av)×(List br)×(List Int))):=
 cond (Y0 (s0.1<(s0.2.2.2.2.2.2.1.length:Int)))
 ((aB s0.2.2.2.2.2.2.1 s0.1).bind λy6=>
 (fo y6).bind λy7=>
 (cr (fJ y7 (y6.aK.length:Int) y6.aK.length)).bind λ_=>
 (dB (cM y6.aK y7 (y6.aK.length:Int)) t).bind λy8=>
 cond y8
 ((bq [2,3,4,5,6,7,8,9]).bind λ_=>
 (eQ (⟨(⟨s0.2.2.2.2.1,s0.2.2.2.2.2.1,s0.2.1⟩:ah),s0.2.2.2.2.2.2.1,s0.2.2.2.2.2.2.2.1,s0.2.2.2.2.2.2.2.2.1,s0.2.2.1,s0.2.2.2.2.2.2.2.2.2.1,s0.2.2.2.2.2.2.2.2.2.2,s0.2.2.2.1⟩:ax) s0.1).bind λy9=>
 YW (.inl ((aM (s0.1+1)),y9.aa.change,y9.now,y9.bg,y9.aa.aA,y9.aa.off,y9.aj,y9.au,y9.ae,y9.aN,y9.skip)))
 (YW (.inl ((aM (s0.1+1)),s0.2.1,s0.2.2.1,s0.2.2.2.1,s0.2.2.2.2.1,s0.2.2.2.2.2.1,s0.2.2.2.2.2.2.1,s0.2.2.2.2.2.2.2.1,s0.2.2.2.2.2.2.2.2.1,s0.2.2.2.2.2.2.2.2.2.1,s0.2.2.2.2.2.2.2.2.2.2))))
 (YW (.inr (s0.2.1,s0.2.2.1,s0.2.2.2.1,s0.2.2.2.2.1,s0.2.2.2.2.2.1,s0.2.2.2.2.2.2.1,s0.2.2.2.2.2.2.2.1,s0.2.2.2.2.2.2.2.2.1,s0.2.2.2.2.2.2.2.2.2.1,s0.2.2.2.2.2.2.2.2.2.2)))
instance (t:av):bp (fP t):=⟨λs0=>(U 3 (.be 0 0 0::.be 1 0 0::.un::.be 2 0 0::vi s0.1::(U 63 []))),λs0=>[YW ⟨.of 46,2,[[vi t.bH,vi t.day]]⟩,YW ⟨.of 33,10,[[.v (.slice YX 0 0),.v (.slice YX 0 0),vi 0,.v (.slice YX 0 0),.v (.slice YX 0 0),.v (.slice YX 0 0),vi 0,.v (.slice YX 0 0),.v (.slice YX 0 0),vi 0]]⟩,YW ⟨.of 33,10,[[.ms 3,.ms 4,vi s0.2.1,.ms 5,.ms 6,.ms 7,vi s0.2.2.1,.ms 8,.ms 9,vi s0.2.2.2.1]]⟩,YW ⟨.of 144,6,s0.2.2.2.2.1.map bo⟩,YW ⟨.of 3,1,s0.2.2.2.2.2.1.map aG⟩,YW ⟨.of 94,11,s0.2.2.2.2.2.2.1.map aZ⟩,YW ⟨.of 147,4,s0.2.2.2.2.2.2.2.1.map aC⟩,YW ⟨.of 46,2,s0.2.2.2.2.2.2.2.2.1.map aU⟩,YW ⟨.of 151,6,s0.2.2.2.2.2.2.2.2.2.1.map bw⟩,YW ⟨.of 3,1,s0.2.2.2.2.2.2.2.2.2.2.map aG⟩]⟩
def dW(w:ax)(t:av):Option (ax×Bool):=
 (eC w).bind λy1=>
 (fT w).bind λy2=>
 cond (!y2)
 (YW (y1,YZ))
 ((dN w.aa t).bind λy3=>
 cond (!y3)
 (YW (y1,YZ))
 ((bt w.aa t).bind λy4=>
 cond (Y0 (y4<=w.now))
 (YW (y1,YZ))
 ((dB w.ae t).bind λy5=>
 cond y5
 (YW (y1,YZ))
 (cond (Y0 (20<=(w.ae.length:Int)))
 (YW (y1,YZ))
 ((cr (bn ((y1.ae:List av).length+([t]:List av).length) 16)).bind λ_=>
 (aE (fP t) NN (0,y1.aa.change,y1.now,y1.bg,y1.aa.aA,y1.aa.off,y1.aj,y1.au,((y1.ae:List av)++[t]),y1.aN,y1.skip)).bind (λo0=>
 YW ((⟨(⟨o0.2.2.2.1,o0.2.2.2.2.1,o0.1⟩:ah),o0.2.2.2.2.2.1,o0.2.2.2.2.2.2.1,o0.2.2.2.2.2.2.2.1,o0.2.1,o0.2.2.2.2.2.2.2.2.1,o0.2.2.2.2.2.2.2.2.2,o0.2.2.1⟩:ax),YY)))))))
instance (w:ax)(t:av):CT prog (dW w t):=⟨180,[.ag (gK w),.ag (aU t)],[],λr=>.tu [.ag [.ms 0,.ms 1,vi r.1.aa.change,.ms 2,.ms 3,.ms 4,vi r.1.now,.ms 5,.ms 6,vi r.1.bg],vb r.2],λr=>[YW ⟨.of 144,6,r.1.aa.aA.map bo⟩,YW ⟨.of 3,1,r.1.aa.off.map aG⟩,YW ⟨.of 94,11,r.1.aj.map aZ⟩,YW ⟨.of 147,4,r.1.au.map aC⟩,YW ⟨.of 46,2,r.1.ae.map aU⟩,YW ⟨.of 151,6,r.1.aN.map bw⟩,YW ⟨.of 3,1,r.1.skip.map aG⟩],cw (dW.eq_1 ..) func180 ntmps180 results180⟩
def eB(y2:(List Int))(s0:Int×Int×Int×Int×(List bP)×(List Int)×(List az)×(List aq)×(List av)×(List br)×(List Int)):Option ((Int×Int×Int×Int×(List bP)×(List Int)×(List az)×(List aq)×(List av)×(List br)×(List Int))⊕(Int×Int×Int×(List bP)×(List Int)×(List az)×(List aq)×(List av)×(List br)×(List Int))):=
 cond (Y0 (s0.1<(y2.length:Int)))
 ((aB y2 s0.1).bind λy3=>
 (bq [1,2,3,4,5,6,7,8]).bind λ_=>
 (eQ (⟨(⟨s0.2.2.2.2.1,s0.2.2.2.2.2.1,s0.2.1⟩:ah),s0.2.2.2.2.2.2.1,s0.2.2.2.2.2.2.2.1,s0.2.2.2.2.2.2.2.2.1,s0.2.2.1,s0.2.2.2.2.2.2.2.2.2.1,s0.2.2.2.2.2.2.2.2.2.2,s0.2.2.2.1⟩:ax) (aM (y3-1))).bind λy4=>
 YW (.inl ((aM (s0.1+1)),y4.aa.change,y4.now,y4.bg,y4.aa.aA,y4.aa.off,y4.aj,y4.au,y4.ae,y4.aN,y4.skip)))
 (YW (.inr (s0.2.1,s0.2.2.1,s0.2.2.2.1,s0.2.2.2.2.1,s0.2.2.2.2.2.1,s0.2.2.2.2.2.2.1,s0.2.2.2.2.2.2.2.1,s0.2.2.2.2.2.2.2.2.1,s0.2.2.2.2.2.2.2.2.2.1,s0.2.2.2.2.2.2.2.2.2.2)))
instance (y2:(List Int)):bp (eB y2):=⟨λs0=>(.un::.un::.be 0 0 0::.un::.be 1 0 0::.ms 9::vi s0.1::(U 23 [])),λs0=>[YW ⟨.of 33,10,[[.v (.slice YX 0 0),.v (.slice YX 0 0),vi 0,.v (.slice YX 0 0),.v (.slice YX 0 0),.v (.slice YX 0 0),vi 0,.v (.slice YX 0 0),.v (.slice YX 0 0),vi 0]]⟩,YW ⟨.of 33,10,[[.ms 2,.ms 3,vi s0.2.1,.ms 4,.ms 5,.ms 6,vi s0.2.2.1,.ms 7,.ms 8,vi s0.2.2.2.1]]⟩,YW ⟨.of 144,6,s0.2.2.2.2.1.map bo⟩,YW ⟨.of 3,1,s0.2.2.2.2.2.1.map aG⟩,YW ⟨.of 94,11,s0.2.2.2.2.2.2.1.map aZ⟩,YW ⟨.of 147,4,s0.2.2.2.2.2.2.2.1.map aC⟩,YW ⟨.of 46,2,s0.2.2.2.2.2.2.2.2.1.map aU⟩,YW ⟨.of 151,6,s0.2.2.2.2.2.2.2.2.2.1.map bw⟩,YW ⟨.of 3,1,s0.2.2.2.2.2.2.2.2.2.2.map aG⟩,YW ⟨.of 3,1,y2.map aG⟩]⟩
def dV(w:ax):Option (ax×Int):=
 (eC w).bind λy1=>
 (iw w).bind λy2=>
 (aE (eB y2) NN (0,y1.aa.change,y1.now,y1.bg,y1.aa.aA,y1.aa.off,y1.aj,y1.au,y1.ae,y1.aN,y1.skip)).bind (λo0=>
 (iw (⟨(⟨o0.2.2.2.1,o0.2.2.2.2.1,o0.1⟩:ah),o0.2.2.2.2.2.1,o0.2.2.2.2.2.2.1,o0.2.2.2.2.2.2.2.1,o0.2.1,o0.2.2.2.2.2.2.2.2.1,o0.2.2.2.2.2.2.2.2.2,o0.2.2.1⟩:ax)).bind λy5=>
 YW ((⟨(⟨o0.2.2.2.1,o0.2.2.2.2.1,o0.1⟩:ah),o0.2.2.2.2.2.1,o0.2.2.2.2.2.2.1,o0.2.2.2.2.2.2.2.1,o0.2.1,o0.2.2.2.2.2.2.2.2.1,o0.2.2.2.2.2.2.2.2.2,o0.2.2.1⟩:ax),(aM ((y2.length:Int)-(y5.length:Int)))))
instance (w:ax):CT prog (dV w):=⟨181,[.ag (gK w)],[],λr=>.tu [.ag [.ms 0,.ms 1,vi r.1.aa.change,.ms 2,.ms 3,.ms 4,vi r.1.now,.ms 5,.ms 6,vi r.1.bg],vi r.2],λr=>[YW ⟨.of 144,6,r.1.aa.aA.map bo⟩,YW ⟨.of 3,1,r.1.aa.off.map aG⟩,YW ⟨.of 94,11,r.1.aj.map aZ⟩,YW ⟨.of 147,4,r.1.au.map aC⟩,YW ⟨.of 46,2,r.1.ae.map aU⟩,YW ⟨.of 151,6,r.1.aN.map bw⟩,YW ⟨.of 3,1,r.1.skip.map aG⟩],cw (dV.eq_1 ..) func181 ntmps181 results181⟩
end Go.Proofs.YtdilaemengjipaaGreatDoor
