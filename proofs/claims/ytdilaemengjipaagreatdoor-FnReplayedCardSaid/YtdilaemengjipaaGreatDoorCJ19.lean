/- A part of the proof of the statement in the last file of this claim: texts on the language of the program and on its functions. No condition. -/
import Derived.Test.YtdilaemengjipaaGreatDoorCJ4
import Derived.Test.YtdilaemengjipaaGreatDoorCJ7
import Derived.Test.YtdilaemengjipaaGreatDoorCJ6
import Derived.Test.YtdilaemengjipaaGreatDoorCJ18
import Derived.Test.YtdilaemengjipaaGreatDoorCJ16
import Derived.Test.YtdilaemengjipaaGreatDoorCJ11
import Derived.Test.YtdilaemengjipaaGreatDoorCJ10
import Derived.Test.YtdilaemengjipaaGreatDoorCJ5
import Derived.Test.YtdilaemengjipaaGreatDoorCJ17
import Derived.Test.YtdilaemengjipaaGreatDoorCJ9
import Derived.Test.YtdilaemengjipaaGreatDoorCJ12
import Derived.Test.YtdilaemengjipaaGreatDoorCJ14
import Derived.Test.YtdilaemengjipaaGreatDoorCJ1
set_option linter.unusedVariables false
set_option linter.unusedSimpArgs false
set_option linter.unusedSectionVars false
open Option renaming some->YW,none->YX
open Bool renaming true->YY,false->YZ
open Decidable renaming decide->Y0
open Go.Proofs.Tryz
set_option maxHeartbeats 40000000
namespace Go.Proofs.YtdilaemengjipaaGreatDoor
open _root_.Int renaming toNat->Wm,tdiv->Xc
set_option maxRecDepth 10000
open Go.RowKit
def gT(w:ax)(fG:Int)(s0:Int×Int×Int×Int×(List bP)×(List Int)×(List az)×(List aq)×(List av)×(List Int)×(List br)):Option ((Int×Int×Int×Int×(List bP)×(List Int)×(List az)×(List aq)×(List av)×(List Int)×(List br))⊕(Int×Int×Int×(List bP)×(List Int)×(List az)×(List aq)×(List av)×(List Int)×(List br))):=
 cond (Y0 (s0.1<(w.aj.length:Int)))
 ((aB s0.2.2.2.2.2.2.1 s0.1).bind λy1=>
 cond (!decide (y1.state=2))
 (YW (.inl ((aM (s0.1+1)),s0.2.1,s0.2.2.1,s0.2.2.2.1,s0.2.2.2.2.1,s0.2.2.2.2.2.1,s0.2.2.2.2.2.2.1,s0.2.2.2.2.2.2.2.1,s0.2.2.2.2.2.2.2.2.1,s0.2.2.2.2.2.2.2.2.2.1,s0.2.2.2.2.2.2.2.2.2.2)))
 ((aB y1.aK y1.aO).bind λy2=>
 (di (⟨s0.2.2.2.2.1,s0.2.2.2.2.2.1,w.aa.change⟩:ah) y2).bind λy3=>
 cond (!decide (y3=fG))
 (YW (.inl ((aM (s0.1+1)),s0.2.1,s0.2.2.1,s0.2.2.2.1,s0.2.2.2.2.1,s0.2.2.2.2.2.1,s0.2.2.2.2.2.2.1,s0.2.2.2.2.2.2.2.1,s0.2.2.2.2.2.2.2.2.1,s0.2.2.2.2.2.2.2.2.2.1,s0.2.2.2.2.2.2.2.2.2.2)))
 ((wQ s0.2.2.2.2.2.2.1 s0.1).bind λy4=>
 (aB y4.aK y4.aO).bind λy5=>
 (wQ s0.2.2.2.2.2.2.1 s0.1).bind λy6=>
 (aB s0.2.2.2.2.1 y5.bH).bind λy7=>
 (wQ s0.2.2.2.2.2.2.1 s0.1).bind λy8=>
 (D9 (s0.2.2.2.2.2.2.1.set (Wm s0.1) (⟨y6.ar,y6.aY,y6.aw,y6.ab,y6.aQ,y6.eJ,y6.aK,(aM (y6.aO+1)),1,y7.aY,y6.bQ⟩:az)) (λy9=>(.be 0 0 0::vi fG::.un::.un::.be 9 0 0::vi s0.1::.be 3 (Wm s0.1) 0::.be 10 0 0::(U 10 (vi (w.aj.length:Int)::vi s0.1::(U 167 []))))) (λy9=>[YW ⟨.of 33,10,[[.ms 1,.ms 2,vi s0.2.1,.ms 3,.ms 4,.ms 5,vi s0.2.2.1,.ms 8,.ms 7,vi s0.2.2.2.1]]⟩,YW ⟨.of 144,6,s0.2.2.2.2.1.map bo⟩,YW ⟨.of 3,1,s0.2.2.2.2.2.1.map aG⟩,YW ⟨⟨94,YW 46⟩,11,y9.map aZ⟩,YW ⟨.of 147,4,s0.2.2.2.2.2.2.2.1.map aC⟩,YW ⟨.of 46,2,s0.2.2.2.2.2.2.2.2.1.map aU⟩,YX,YW ⟨.of 3,1,s0.2.2.2.2.2.2.2.2.2.1.map aG⟩,YW ⟨.of 151,6,s0.2.2.2.2.2.2.2.2.2.2.map bw⟩,YW ⟨.of 27,3,[[.ms 1,.ms 2,vi w.aa.change]]⟩,YW ⟨.of 46,2,[[vi y5.bH,vi y5.day]]⟩])).bind λy9=>
 (bq [0,1,2,3,4,5,8,7]).bind λ_=>
 (ft (⟨(⟨s0.2.2.2.2.1,s0.2.2.2.2.2.1,s0.2.1⟩:ah),y9,s0.2.2.2.2.2.2.2.1,s0.2.2.2.2.2.2.2.2.1,s0.2.2.1,s0.2.2.2.2.2.2.2.2.2.2,s0.2.2.2.2.2.2.2.2.2.1,s0.2.2.2.1⟩:ax) (⟨(aM (s0.1+1)),fG,2,⟨#[]⟩,y5⟩:br)).bind λeh=>
 (wQ eh.aj s0.1).bind λlr=>
 cond (Y0 (lr.place=lr.aY))
 ((D9 (eh.aj.set (Wm s0.1) (⟨lr.ar,lr.aY,lr.aw,lr.ab,lr.aQ,lr.eJ,lr.aK,lr.aO,3,lr.place,fG⟩:az)) (λoV=>(.be 0 0 0::vi fG::.un::.un::.be 9 0 0::vi s0.1::.be 3 (Wm s0.1) 0::(U 11 (vi (w.aj.length:Int)::vi s0.1::(U 167 []))))) (λoV=>[YW ⟨.of 33,10,[[.ms 1,.ms 2,vi eh.aa.change,.ms 3,.ms 4,.ms 5,vi eh.now,.ms 8,.ms 7,vi eh.bg]]⟩,YW ⟨.of 144,6,eh.aa.aA.map bo⟩,YW ⟨.of 3,1,eh.aa.off.map aG⟩,YW ⟨⟨94,YW 46⟩,11,oV.map aZ⟩,YW ⟨.of 147,4,eh.au.map aC⟩,YW ⟨.of 46,2,eh.ae.map aU⟩,YX,YW ⟨.of 3,1,eh.skip.map aG⟩,YW ⟨.of 151,6,eh.aN.map bw⟩,YW ⟨.of 27,3,[[.ms 1,.ms 2,vi w.aa.change]]⟩])).bind λoV=>
 (wQ oV s0.1).bind λoD=>
 (bq [0,1,2,3,4,5,8,7]).bind λ_=>
 (ft (⟨eh.aa,oV,eh.au,eh.ae,eh.now,eh.aN,eh.skip,eh.bg⟩:ax) (⟨(aM (s0.1+1)),fG,4,oD.place,(⟨0,0⟩:av)⟩:br)).bind λnF=>
 YW (.inl ((aM (s0.1+1)),nF.aa.change,nF.now,nF.bg,nF.aa.aA,nF.aa.off,nF.aj,nF.au,nF.ae,nF.skip,nF.aN)))
 (YW (.inl ((aM (s0.1+1)),eh.aa.change,eh.now,eh.bg,eh.aa.aA,eh.aa.off,eh.aj,eh.au,eh.ae,eh.skip,eh.aN))))))
 (YW (.inr (s0.2.1,s0.2.2.1,s0.2.2.2.1,s0.2.2.2.2.1,s0.2.2.2.2.2.1,s0.2.2.2.2.2.2.1,s0.2.2.2.2.2.2.2.1,s0.2.2.2.2.2.2.2.2.1,s0.2.2.2.2.2.2.2.2.2.1,s0.2.2.2.2.2.2.2.2.2.2)))
instance (w:ax)(fG:Int):bp (gT w fG):=⟨λs0=>(.be 0 0 0::vi fG::.un::.un::.be 9 0 0::(U 13 (vi (w.aj.length:Int)::vi s0.1::(U 167 [])))),λs0=>[YW ⟨.of 33,10,[[.ms 1,.ms 2,vi s0.2.1,.ms 3,.ms 4,.ms 5,vi s0.2.2.1,.ms 8,.ms 7,vi s0.2.2.2.1]]⟩,YW ⟨.of 144,6,s0.2.2.2.2.1.map bo⟩,YW ⟨.of 3,1,s0.2.2.2.2.2.1.map aG⟩,YW ⟨⟨94,YW 46⟩,11,s0.2.2.2.2.2.2.1.map aZ⟩,YW ⟨.of 147,4,s0.2.2.2.2.2.2.2.1.map aC⟩,YW ⟨.of 46,2,s0.2.2.2.2.2.2.2.2.1.map aU⟩,YX,YW ⟨.of 3,1,s0.2.2.2.2.2.2.2.2.2.1.map aG⟩,YW ⟨.of 151,6,s0.2.2.2.2.2.2.2.2.2.2.map bw⟩,YW ⟨.of 27,3,[[.ms 1,.ms 2,vi w.aa.change]]⟩]⟩
def gU(w:ax)(fG:Int)(o0:Int×Int×Int×(List bP)×(List Int)×(List az)×(List aq)×(List av)×(List Int)×(List br))(s1:Int×Int×Int×Int×(List bP)×(List Int)×(List az)×(List aq)×(List av)×(List Int)×(List br)):Option ((Int×Int×Int×Int×(List bP)×(List Int)×(List az)×(List aq)×(List av)×(List Int)×(List br))⊕(Int×Int×Int×(List bP)×(List Int)×(List az)×(List aq)×(List av)×(List Int)×(List br))):=
 cond (Y0 (s1.1<(o0.2.2.2.2.2.1.length:Int)))
 ((aB s1.2.2.2.2.2.2.1 s1.1).bind λpZ=>
 cond (Y0 (pZ.state=1))
 (cond (Y0 (pZ.aO<(pZ.aK.length:Int)))
 ((aB pZ.aK pZ.aO).bind λod=>
 (dq (⟨s1.2.2.2.2.1,s1.2.2.2.2.2.1,w.aa.change⟩:ah) od).bind λrP=>
 cond (Y0 (rP=fG))
 ((wQ s1.2.2.2.2.2.2.1 s1.1).bind λva=>
 (D9 (s1.2.2.2.2.2.2.1.set (Wm s1.1) (⟨va.ar,va.aY,va.aw,va.ab,va.aQ,va.eJ,va.aK,va.aO,2,⟨#[]⟩,va.bQ⟩:az)) (λwJ=>(.be 0 0 0::vi fG::.un::.un::.be 9 0 0::(U 3 (vi s1.1::.be 3 (Wm s1.1) 0::(U 107 (vi (o0.2.2.2.2.2.1.length:Int)::vi s1.1::(U 68 []))))))) (λwJ=>[YW ⟨.of 33,10,[[.ms 1,.ms 2,vi s1.2.1,.ms 3,.ms 4,.ms 5,vi s1.2.2.1,.ms 8,.ms 7,vi s1.2.2.2.1]]⟩,YW ⟨.of 144,6,s1.2.2.2.2.1.map bo⟩,YW ⟨.of 3,1,s1.2.2.2.2.2.1.map aG⟩,YW ⟨⟨94,YW 46⟩,11,wJ.map aZ⟩,YW ⟨.of 147,4,s1.2.2.2.2.2.2.2.1.map aC⟩,YW ⟨.of 46,2,s1.2.2.2.2.2.2.2.2.1.map aU⟩,YX,YW ⟨.of 3,1,s1.2.2.2.2.2.2.2.2.2.1.map aG⟩,YW ⟨.of 151,6,s1.2.2.2.2.2.2.2.2.2.2.map bw⟩,YW ⟨.of 27,3,[[.ms 1,.ms 2,vi w.aa.change]]⟩])).bind λwJ=>
 (oe 8 [15]).bind λ_=>
 (wQ wJ s1.1).bind λD5=>
 (aB D5.aK D5.aO).bind λHj=>
 (bq [0,1,2,3,4,5,8,7]).bind λ_=>
 (ft (⟨(⟨s1.2.2.2.2.1,s1.2.2.2.2.2.1,s1.2.1⟩:ah),wJ,s1.2.2.2.2.2.2.2.1,s1.2.2.2.2.2.2.2.2.1,s1.2.2.1,s1.2.2.2.2.2.2.2.2.2.2,s1.2.2.2.2.2.2.2.2.2.1,s1.2.2.2.1⟩:ax) (⟨(aM (s1.1+1)),fG,3,⟨#[]⟩,Hj⟩:br)).bind λza=>
 YW (.inl ((aM (s1.1+1)),za.aa.change,za.now,za.bg,za.aa.aA,za.aa.off,za.aj,za.au,za.ae,za.skip,za.aN)))
 (YW (.inl ((aM (s1.1+1)),s1.2.1,s1.2.2.1,s1.2.2.2.1,s1.2.2.2.2.1,s1.2.2.2.2.2.1,s1.2.2.2.2.2.2.1,s1.2.2.2.2.2.2.2.1,s1.2.2.2.2.2.2.2.2.1,s1.2.2.2.2.2.2.2.2.2.1,s1.2.2.2.2.2.2.2.2.2.2))))
 (YW (.inl ((aM (s1.1+1)),s1.2.1,s1.2.2.1,s1.2.2.2.1,s1.2.2.2.2.1,s1.2.2.2.2.2.1,s1.2.2.2.2.2.2.1,s1.2.2.2.2.2.2.2.1,s1.2.2.2.2.2.2.2.2.1,s1.2.2.2.2.2.2.2.2.2.1,s1.2.2.2.2.2.2.2.2.2.2))))
 (YW (.inl ((aM (s1.1+1)),s1.2.1,s1.2.2.1,s1.2.2.2.1,s1.2.2.2.2.1,s1.2.2.2.2.2.1,s1.2.2.2.2.2.2.1,s1.2.2.2.2.2.2.2.1,s1.2.2.2.2.2.2.2.2.1,s1.2.2.2.2.2.2.2.2.2.1,s1.2.2.2.2.2.2.2.2.2.2))))
 (YW (.inr (s1.2.1,s1.2.2.1,s1.2.2.2.1,s1.2.2.2.2.1,s1.2.2.2.2.2.1,s1.2.2.2.2.2.2.1,s1.2.2.2.2.2.2.2.1,s1.2.2.2.2.2.2.2.2.1,s1.2.2.2.2.2.2.2.2.2.1,s1.2.2.2.2.2.2.2.2.2.2)))
instance (w:ax)(fG:Int)(o0:Int×Int×Int×(List bP)×(List Int)×(List az)×(List aq)×(List av)×(List Int)×(List br)):bp (gU w fG o0):=⟨λs1=>(.be 0 0 0::vi fG::.un::.un::.be 9 0 0::(U 112 (vi (o0.2.2.2.2.2.1.length:Int)::vi s1.1::(U 68 [])))),λs1=>[YW ⟨.of 33,10,[[.ms 1,.ms 2,vi s1.2.1,.ms 3,.ms 4,.ms 5,vi s1.2.2.1,.ms 8,.ms 7,vi s1.2.2.2.1]]⟩,YW ⟨.of 144,6,s1.2.2.2.2.1.map bo⟩,YW ⟨.of 3,1,s1.2.2.2.2.2.1.map aG⟩,YW ⟨⟨94,YW 46⟩,11,s1.2.2.2.2.2.2.1.map aZ⟩,YW ⟨.of 147,4,s1.2.2.2.2.2.2.2.1.map aC⟩,YW ⟨.of 46,2,s1.2.2.2.2.2.2.2.2.1.map aU⟩,YX,YW ⟨.of 3,1,s1.2.2.2.2.2.2.2.2.2.1.map aG⟩,YW ⟨.of 151,6,s1.2.2.2.2.2.2.2.2.2.2.map bw⟩,YW ⟨.of 27,3,[[.ms 1,.ms 2,vi w.aa.change]]⟩]⟩
def lW(w:ax)(fG:Int):Option ax:=
 (aE (gT w fG) NN (0,w.aa.change,w.now,w.bg,w.aa.aA,w.aa.off,w.aj,w.au,w.ae,w.skip,w.aN)).bind (λo0=>
 (aE (gU w fG o0) NN (0,o0.1,o0.2.1,o0.2.2.1,o0.2.2.2.1,o0.2.2.2.2.1,o0.2.2.2.2.2.1,o0.2.2.2.2.2.2.1,o0.2.2.2.2.2.2.2.1,o0.2.2.2.2.2.2.2.2.1,o0.2.2.2.2.2.2.2.2.2)).bind (λo1=>
 YW (⟨(⟨o1.2.2.2.1,o1.2.2.2.2.1,o1.1⟩:ah),o1.2.2.2.2.2.1,o1.2.2.2.2.2.2.1,o1.2.2.2.2.2.2.2.1,fG,o1.2.2.2.2.2.2.2.2.2,o1.2.2.2.2.2.2.2.2.1,o1.2.2.1⟩:ax)))
instance (w:ax)(fG:Int):CT prog (lW w fG):=⟨144,[.be 0 0 0,vi fG],[YW ⟨.of 33,10,[[.ms 1,.ms 2,vi w.aa.change,.ms 3,.ms 4,.ms 5,vi w.now,.ms 6,.ms 7,vi w.bg]]⟩,YW ⟨.of 144,6,w.aa.aA.map bo⟩,YW ⟨.of 3,1,w.aa.off.map aG⟩,YW ⟨⟨94,YW 46⟩,11,w.aj.map aZ⟩,YW ⟨.of 147,4,w.au.map aC⟩,YW ⟨.of 46,2,w.ae.map aU⟩,YW ⟨.of 151,6,w.aN.map bw⟩,YW ⟨.of 3,1,w.skip.map aG⟩],λr=>.tu [],λr=>[YW ⟨.of 33,10,[[.ms 1,.ms 2,vi r.aa.change,.ms 3,.ms 4,.ms 5,vi r.now,.ms 8,.ms 7,vi r.bg]]⟩,YW ⟨.of 144,6,r.aa.aA.map bo⟩,YW ⟨.of 3,1,r.aa.off.map aG⟩,YW ⟨⟨94,YW 46⟩,11,r.aj.map aZ⟩,YW ⟨.of 147,4,r.au.map aC⟩,YW ⟨.of 46,2,r.ae.map aU⟩,YX,YW ⟨.of 3,1,r.skip.map aG⟩,YW ⟨.of 151,6,r.aN.map bw⟩],ck (lW.eq_1 ..) func144 ntmps144 results144⟩
def j5(bI:Int)(s0:Int×Int×Int×Int×(List bP)×(List Int)×(List az)×(List aq)×(List av)×(List br)×(List Int)):Option ((Int×Int×Int×Int×(List bP)×(List Int)×(List az)×(List aq)×(List av)×(List br)×(List Int))⊕(Int×Int×Int×(List bP)×(List Int)×(List az)×(List aq)×(List av)×(List br)×(List Int))):=
 cond (Y0 (0<=s0.1))
 (cond (Y0 (s0.1<=bI))
 ((bq [1,2,3,4,5,6,7,8]).bind λ_=>
 (lW (⟨(⟨s0.2.2.2.2.1,s0.2.2.2.2.2.1,s0.2.1⟩:ah),s0.2.2.2.2.2.2.1,s0.2.2.2.2.2.2.2.1,s0.2.2.2.2.2.2.2.2.1,s0.2.2.1,s0.2.2.2.2.2.2.2.2.2.1,s0.2.2.2.2.2.2.2.2.2.2,s0.2.2.2.1⟩:ax) s0.1).bind λy5=>
 (gQ y5).bind λy6=>
 YW (.inl (y6,y5.aa.change,y5.now,y5.bg,y5.aa.aA,y5.aa.off,y5.aj,y5.au,y5.ae,y5.aN,y5.skip)))
 (YW (.inr (s0.2.1,s0.2.2.1,s0.2.2.2.1,s0.2.2.2.2.1,s0.2.2.2.2.2.1,s0.2.2.2.2.2.2.1,s0.2.2.2.2.2.2.2.1,s0.2.2.2.2.2.2.2.2.1,s0.2.2.2.2.2.2.2.2.2.1,s0.2.2.2.2.2.2.2.2.2.2))))
 (YW (.inr (s0.2.1,s0.2.2.1,s0.2.2.2.1,s0.2.2.2.2.1,s0.2.2.2.2.2.1,s0.2.2.2.2.2.2.1,s0.2.2.2.2.2.2.2.1,s0.2.2.2.2.2.2.2.2.1,s0.2.2.2.2.2.2.2.2.2.1,s0.2.2.2.2.2.2.2.2.2.2)))
instance (bI:Int):bp (j5 bI):=⟨λs0=>(.un::vi bI::.un::.un::.be 0 0 0::.be 1 0 0::vi s0.1::(U 29 [])),λs0=>[YW ⟨.of 33,10,[[.v (.slice YX 0 0),.v (.slice YX 0 0),vi 0,.v (.slice YX 0 0),.v (.slice YX 0 0),.v (.slice YX 0 0),vi 0,.v (.slice YX 0 0),.v (.slice YX 0 0),vi 0]]⟩,YW ⟨.of 33,10,[[.ms 2,.ms 3,vi s0.2.1,.ms 4,.ms 5,.ms 6,vi s0.2.2.1,.ms 7,.ms 8,vi s0.2.2.2.1]]⟩,YW ⟨.of 144,6,s0.2.2.2.2.1.map bo⟩,YW ⟨.of 3,1,s0.2.2.2.2.2.1.map aG⟩,YW ⟨⟨94,YW 46⟩,11,s0.2.2.2.2.2.2.1.map aZ⟩,YW ⟨.of 147,4,s0.2.2.2.2.2.2.2.1.map aC⟩,YW ⟨.of 46,2,s0.2.2.2.2.2.2.2.2.1.map aU⟩,YW ⟨.of 151,6,s0.2.2.2.2.2.2.2.2.2.1.map bw⟩,YW ⟨.of 3,1,s0.2.2.2.2.2.2.2.2.2.2.map aG⟩]⟩
def jS(w:ax)(bI:Int):Option ax:=
 (dL w).bind λy1=>
 (ig w).bind λy2=>
 cond (!y2)
 (YW y1)
 ((aX bI w.now 100000).bind λy3=>
 cond (!y3)
 (YW y1)
 ((gQ y1).bind λy4=>
 (aE (j5 bI) NN (y4,y1.aa.change,y1.now,y1.bg,y1.aa.aA,y1.aa.off,y1.aj,y1.au,y1.ae,y1.aN,y1.skip)).bind (λo0=>
 YW (⟨(⟨o0.2.2.2.1,o0.2.2.2.2.1,o0.1⟩:ah),o0.2.2.2.2.2.1,o0.2.2.2.2.2.2.1,o0.2.2.2.2.2.2.2.1,bI,o0.2.2.2.2.2.2.2.2.1,o0.2.2.2.2.2.2.2.2.2,o0.2.2.1⟩:ax))))
instance (w:ax)(bI:Int):CT prog (jS w bI):=⟨77,[.ag (gK w),vi bI],[],λr=>.ag [.ms 0,.ms 1,vi r.aa.change,.ms 2,.ms 3,.ms 4,vi r.now,.ms 5,.ms 6,vi r.bg],λr=>[YW ⟨.of 144,6,r.aa.aA.map bo⟩,YW ⟨.of 3,1,r.aa.off.map aG⟩,YW ⟨⟨94,YW 46⟩,11,r.aj.map aZ⟩,YW ⟨.of 147,4,r.au.map aC⟩,YW ⟨.of 46,2,r.ae.map aU⟩,YW ⟨.of 151,6,r.aN.map bw⟩,YW ⟨.of 3,1,r.skip.map aG⟩],ck (jS.eq_1 ..) func77 ntmps77 results77⟩
def gg(n:ah)(aA:Int)(y1:(List ByteArray))(y2:Int)(s0:Int×(List Int)):Option ((Int×(List Int))⊕(List Int)):=
 cond (Y0 (s0.1<aA))
 (cond (Y0 (s0.1<(y1.length:Int)))
 ((oR n y1 s0.2 y2).bind λy5=>
 YW (.inl ((aM (s0.1+1)),y5)))
 (YW (.inr s0.2)))
 (YW (.inr s0.2))
instance (n:ah)(aA:Int)(y1:(List ByteArray))(y2:Int):bp (gg n aA y1 y2):=⟨λs0=>(U 3 (vi aA::.be 0 0 0::(U 4 (.ms 1::vi y2::.ms 2::vi s0.1::(U 42 []))))),λs0=>[YW ⟨.of 27,3,[[.sl (n.aA.map bo),.sl (n.off.map aG),vi n.change]]⟩,YW ⟨.of 9,1,y1.map iU⟩,YW ⟨.of 3,1,s0.2.map aG⟩]⟩
def jZ(n:ah)(cK:ByteArray)(mY:Int)(aA:Int):Option (List Int):=
 (dh n).bind λy1=>
 (cb y1 cK).bind λy2=>
 (aW n).bind λy3=>
 cond (!y3)
 (YW ([]:List Int))
 (cond (Y0 (y2<0))
 (YW ([]:List Int))
 (cond (Y0 (100000<mY))
 (YW ([]:List Int))
 (cond (Y0 (aA<0))
 (YW ([]:List Int))
 ((ix y1 y2 mY).bind λy4=>
 (aE (gg n aA y1 y2) NN (0,y4)).bind (λo0=>
 YW o0)))))
instance (n:ah)(cK:ByteArray)(mY:Int)(aA:Int):CT prog (jZ n cK mY aA):=⟨380,[.ag (bB n),vs cK,vi mY,vi aA],[],λr=>.ms 0,λr=>[YW ⟨.of 3,1,r.map aG⟩],cw (jZ.eq_1 ..) func380 ntmps380 results380⟩
def jK(n:ah)(cK:ByteArray)(aY:ByteArray)(gn:Int):Option Int:=
 (dh n).bind λy1=>
 (cb y1 aY).bind λy2=>
 (jZ n cK gn (y1.length:Int)).bind λy3=>
 cond (Y0 (y2<0))
 (YW (-1))
 (cond (Y0 ((y3.length:Int)=0))
 (YW (-1))
 ((aB y3 y2).bind λy4=>
 YW y4))
instance (n:ah)(cK:ByteArray)(aY:ByteArray)(gn:Int):CT prog (jK n cK aY gn):=⟨351,[.ag (bB n),vs cK,vs aY,vi gn],[],λr=>vi r,λr=>[],cw (jK.eq_1 ..) func351 ntmps351 results351⟩
def kq(n:ah)(aw:Int)(cV:ByteArray)(aY:ByteArray)(lj:Int):Option Int:=
 (jK n cV aY lj).bind λy1=>
 cond (Y0 (y1<0))
 (YW (-1))
 ((bb aw 1 3).bind λy2=>
 cond (!y2)
 (YW (-1))
 (cond (Y0 (1080<(Int.tmod y1 1440)))
 (YW (aM ((aM ((aM ((aM ((IntKind.i64.wrap (Xc y1 1440))+1))+(aM ((aM (aw-1))*(aM (aw-1))))))*1440))+1080)))
 (YW (aM ((aM ((aM ((IntKind.i64.wrap (Xc y1 1440))+(aM ((aM (aw-1))*(aM (aw-1))))))*1440))+1080)))))
instance (n:ah)(aw:Int)(cV:ByteArray)(aY:ByteArray)(lj:Int):CT prog (kq n aw cV aY lj):=⟨291,[.ag (bB n),vi aw,vs cV,vs aY,vi lj],[],λr=>vi r,λr=>[],cw (kq.eq_1 ..) func291 ntmps291 results291⟩
def fz(n:ah)(bx:ah)(cZ:List av)(da:List aq)(db:Int)(places:List ByteArray)(before:List Int)(uB:ByteArray)(k:Int)(eJ:Int)(s0:Int):Option (Int⊕(Unit⊕(av×Bool))):=
 cond (Y0 (s0<(n.aA.length:Int)))
 ((aB n.aA s0).bind λy1=>
 (bU places y1.ar).bind λy2=>
 (aB places k).bind λy3=>
 cond (!decide (y1.aY=y3))
 (YW (.inl (aM (s0+1))))
 ((aB before y2).bind λy4=>
 cond (Y0 (y4<0))
 (YW (.inl (aM (s0+1))))
 ((aB before y2).bind λy5=>
 (kG n y5 (Y0 (y1.ar=uB))).bind λy6=>
 (iH s0 y6 bx cZ da db).bind λy7=>
 cond y7.2
 ((di n y7.1).bind λy8=>
 cond (Y0 (y8=eJ))
 (YW (.inr (.inr (y7.1,YY))))
 (YW (.inl (aM (s0+1)))))
 (YW (.inl (aM (s0+1)))))))
 (YW (.inr (.inl ())))
instance (n:ah)(bx:ah)(cZ:List av)(da:List aq)(db:Int)(places:List ByteArray)(before:List Int)(uB:ByteArray)(k:Int)(eJ:Int):bp (fz n bx cZ da db places before uB k eJ):=⟨λs0=>(.un::.fn 250 [.rp [.sl (bx.aA.map bo),.sl (bx.off.map aG),vi bx.change],.rp [.sl (cZ.map aU)],.rp [.sl (da.map aC)],.rp [vi db]]::.sl (places.map iU)::.sl (before.map aG)::vs uB::vi k::vi eJ::.be 0 0 0::(U 6 (.be 1 0 0::(U 7 (.sl (n.aA.map bo)::vi (n.aA.length:Int)::vi s0::(U 49 [])))))),λs0=>[YW ⟨.of 27,3,[[.sl (n.aA.map bo),.sl (n.off.map aG),vi n.change]]⟩,YW ⟨.of 46,2,[[vi 0,vi 0]]⟩]⟩
def kJ(n:ah)(bx:ah)(cZ:List av)(da:List aq)(db:Int)(places:List ByteArray)(before:List Int)(uB:ByteArray)(k:Int)(eJ:Int):Option (av×Bool):=
 (aE (fz n bx cZ da db places before uB k eJ) NN 0).bind (bh (λo0=>
 YW ((⟨0,0⟩:av),YZ)) (λr=>YW r))
instance (n:ah)(bx:ah)(cZ:List av)(da:List aq)(db:Int)(places:List ByteArray)(before:List Int)(uB:ByteArray)(k:Int)(eJ:Int):CT prog (kJ n bx cZ da db places before uB k eJ):=⟨249,[.ag (bB n),.fn 250 [.rp [.sl (bx.aA.map bo),.sl (bx.off.map aG),vi bx.change],.rp [.sl (cZ.map aU)],.rp [.sl (da.map aC)],.rp [vi db]],.sl (places.map iU),.sl (before.map aG),vs uB,vi k,vi eJ],[],λr=>.tu [.ag [vi r.1.bH,vi r.1.day],vb r.2],λr=>[],cw (kJ.eq_1 ..) func249 ntmps249 results249⟩
def jv(a:ax)(b:ax)(s0:Int):Option (Int⊕(Unit⊕Bool)):=
 cond (Y0 (s0<(a.aj.length:Int)))
 ((aB a.aj s0).bind λy1=>
 (aB b.aj s0).bind λy2=>
 (lV y1 y2).bind λy3=>
 cond (!y3)
 (YW (.inr (.inr YZ)))
 (YW (.inl (aM (s0+1)))))
 (YW (.inr (.inl ())))
instance (a:ax)(b:ax):bp (jv a b):=⟨λs0=>(.un::.un::.be 0 0 0::.be 1 0 0::(U 11 (vi (a.aj.length:Int)::vi s0::(U 82 [])))),λs0=>[YW ⟨.of 33,10,[[.sl (a.aa.aA.map bo),.sl (a.aa.off.map aG),vi a.aa.change,.sl (a.aj.map aZ),.sl (a.au.map aC),.sl (a.ae.map aU),vi a.now,.sl (a.aN.map bw),.sl (a.skip.map aG),vi a.bg]]⟩,YW ⟨.of 33,10,[[.sl (b.aa.aA.map bo),.sl (b.aa.off.map aG),vi b.aa.change,.sl (b.aj.map aZ),.sl (b.au.map aC),.sl (b.ae.map aU),vi b.now,.sl (b.aN.map bw),.sl (b.skip.map aG),vi b.bg]]⟩]⟩
def lQ(a:ax)(b:ax):Option Bool:=
 cond (!decide ((a.aj.length:Int)=(b.aj.length:Int)))
 (YW YZ)
 ((aE (jv a b) NN 0).bind (bh (λo0=>
 (iP a.aa.aA b.aa.aA).bind λy4=>
 cond y4
 ((fk a.aa.off b.aa.off).bind λy5=>
 cond y5
 (cond (Y0 (a.aa.change=b.aa.change))
 ((gl a.au b.au).bind λy6=>
 cond y6
 ((fZ a.ae b.ae).bind λy7=>
 cond y7
 (cond (Y0 (a.now=b.now))
 ((im a.aN b.aN).bind λy8=>
 cond y8
 ((fk a.skip b.skip).bind λy9=>
 cond y9
 (YW (Y0 (a.bg=b.bg)))
 (YW YZ))
 (YW YZ))
 (YW YZ))
 (YW YZ))
 (YW YZ))
 (YW YZ))
 (YW YZ))
 (YW YZ)) (λr=>YW r)))
instance (a:ax)(b:ax):CT prog (lQ a b):=⟨31,[.ag (gK a),.ag (gK b)],[],λr=>vb r,λr=>[],cw (lQ.eq_1 ..) func31 ntmps31 results31⟩
def kN(l:bl):Option Int:=
 (cC l).bind λy1=>
 cond (!y1)
 (YW (-1))
 ((oc l).bind λy2=>
 (cr (dC y2 (⟨#[48,48]⟩))).bind λ_=>
 (pF (y2++⟨#[48,48]⟩)).bind λy3=>
 (j8 y3.1).bind λy4=>
 YW (aM (98-y4)))
instance (l:bl):CT prog (kN l):=⟨237,[.ag (mC l)],[],λr=>vi r,λr=>[],cw (kN.eq_1 ..) func237 ntmps237 results237⟩
def je(l:bl):Option ByteArray:=
 (cC l).bind λy1=>
 cond (!y1)
 (YW (⟨#[]⟩))
 ((oc l).bind λy2=>
 (kN l).bind λy3=>
 (lI y3 2).bind λy4=>
 (cr (dC y2 y4)).bind λ_=>
 YW (y2++y4))
instance (l:bl):CT prog (je l):=⟨186,[.ag (mC l)],[],λr=>vs r,λr=>[],cw (je.eq_1 ..) func186 ntmps186 results186⟩
def j2(p:aL):Option ByteArray:=
 (ey p).bind λy1=>
 cond (!y1)
 (YW (⟨#[]⟩))
 ((je p.label).bind λy2=>
 (cr (dC y2 (⟨#[32]⟩))).bind λ_=>
 (cr (dC (y2++⟨#[32]⟩) p.ar)).bind λ_=>
 (cr (dC ((y2++⟨#[32]⟩)++p.ar) (⟨#[32]⟩))).bind λ_=>
 (bN p.ab).bind λy3=>
 (cr (dC (((y2++⟨#[32]⟩)++p.ar)++⟨#[32]⟩) y3)).bind λ_=>
 (cr (dC ((((y2++⟨#[32]⟩)++p.ar)++⟨#[32]⟩)++y3) (⟨#[32]⟩))).bind λ_=>
 (aB p.bE 0).bind λy4=>
 (bN y4).bind λy5=>
 (cr (dC (((((y2++⟨#[32]⟩)++p.ar)++⟨#[32]⟩)++y3)++⟨#[32]⟩) y5)).bind λ_=>
 (cr (dC ((((((y2++⟨#[32]⟩)++p.ar)++⟨#[32]⟩)++y3)++⟨#[32]⟩)++y5) (⟨#[120]⟩))).bind λ_=>
 (aB p.bE 1).bind λy6=>
 (bN y6).bind λy7=>
 (cr (dC (((((((y2++⟨#[32]⟩)++p.ar)++⟨#[32]⟩)++y3)++⟨#[32]⟩)++y5)++⟨#[120]⟩) y7)).bind λ_=>
 (cr (dC ((((((((y2++⟨#[32]⟩)++p.ar)++⟨#[32]⟩)++y3)++⟨#[32]⟩)++y5)++⟨#[120]⟩)++y7) (⟨#[120]⟩))).bind λ_=>
 (aB p.bE 2).bind λy8=>
 (bN y8).bind λy9=>
 (cr (dC (((((((((y2++⟨#[32]⟩)++p.ar)++⟨#[32]⟩)++y3)++⟨#[32]⟩)++y5)++⟨#[120]⟩)++y7)++⟨#[120]⟩) y9)).bind λ_=>
 (cr (dC ((((((((((y2++⟨#[32]⟩)++p.ar)++⟨#[32]⟩)++y3)++⟨#[32]⟩)++y5)++⟨#[120]⟩)++y7)++⟨#[120]⟩)++y9) (⟨#[32]⟩))).bind λ_=>
 (bN p.value).bind λeh=>
 (cr (dC (((((((((((y2++⟨#[32]⟩)++p.ar)++⟨#[32]⟩)++y3)++⟨#[32]⟩)++y5)++⟨#[120]⟩)++y7)++⟨#[120]⟩)++y9)++⟨#[32]⟩) eh)).bind λ_=>
 YW ((((((((((((y2++⟨#[32]⟩)++p.ar)++⟨#[32]⟩)++y3)++⟨#[32]⟩)++y5)++⟨#[120]⟩)++y7)++⟨#[120]⟩)++y9)++⟨#[32]⟩)++eh))
instance (p:aL):CT prog (j2 p):=⟨117,[.ag (bA p)],[],λr=>vs r,λr=>[],cw (j2.eq_1 ..) func117 ntmps117 results117⟩
def cn(a:ba):Option ByteArray:=
 (eV a).bind λy1=>
 cond (!y1)
 (YW (⟨#[]⟩))
 (cond (Y0 (a.kind=1))
 ((j2 a.aJ).bind λy2=>
 (cr (dC (⟨#[116,97,107,101,32]⟩) y2)).bind λ_=>
 YW (⟨#[116,97,107,101,32]⟩++y2))
 (cond (Y0 (a.kind=2))
 ((bN a.order).bind λy3=>
 (cr (dC (⟨#[112,97,121,32]⟩) y3)).bind λ_=>
 (cr (dC (⟨#[112,97,121,32]⟩++y3) (⟨#[32]⟩))).bind λ_=>
 (bN a.bC).bind λy4=>
 (cr (dC ((⟨#[112,97,121,32]⟩++y3)++⟨#[32]⟩) y4)).bind λ_=>
 YW (((⟨#[112,97,121,32]⟩++y3)++⟨#[32]⟩)++y4))
 (cond (Y0 (a.kind=3))
 ((bN a.bI).bind λy5=>
 (cr (dC (⟨#[114,117,110,32]⟩) y5)).bind λ_=>
 YW (⟨#[114,117,110,32]⟩++y5))
 (cond (Y0 (a.kind=4))
 ((bN a.bk.bH).bind λy6=>
 (cr (dC (⟨#[115,104,117,116,32]⟩) y6)).bind λ_=>
 (cr (dC (⟨#[115,104,117,116,32]⟩++y6) (⟨#[47]⟩))).bind λ_=>
 (bN a.bk.day).bind λy7=>
 (cr (dC ((⟨#[115,104,117,116,32]⟩++y6)++⟨#[47]⟩) y7)).bind λ_=>
 YW (((⟨#[115,104,117,116,32]⟩++y6)++⟨#[47]⟩)++y7))
 (cond (Y0 (a.kind=5))
 (YW (⟨#[114,101,116,114,121]⟩))
 ((bN a.order).bind λy8=>
 (cr (dC (⟨#[114,101,102,117,110,100,32]⟩) y8)).bind λ_=>
 YW (⟨#[114,101,102,117,110,100,32]⟩++y8)))))))
instance (a:ba):CT prog (cn a):=⟨59,[.ag (cX a)],[],λr=>vs r,λr=>[],cw (cn.eq_1 ..) func59 ntmps59 results59⟩
def oN(a:List ba)(b:List ba)(s0:Int):Option (Int⊕(Unit⊕Bool)):=
 cond (Y0 (s0<(a.length:Int)))
 ((aB a s0).bind λy1=>
 (cn y1).bind λy2=>
 (aB b s0).bind λy3=>
 (cn y3).bind λy4=>
 cond (!decide (y2=y4))
 (YW (.inr (.inr YZ)))
 (YW (.inl (aM (s0+1)))))
 (YW (.inr (.inl ())))
instance (a:List ba)(b:List ba):bp (oN a b):=⟨λs0=>(.sl (a.map cX)::.sl (b.map cX)::(U 3 (vi s0::(U 22 [])))),λs0=>[]⟩
def jx(a:List ba)(b:List ba):Option Bool:=
 cond (!decide ((a.length:Int)=(b.length:Int)))
 (YW YZ)
 ((aE (oN a b) NN 0).bind (bh (λo0=>
 YW YY) (λr=>YW r)))
instance (a:List ba)(b:List ba):CT prog (jx a b):=⟨18,[.sl (a.map cX),.sl (b.map cX)],[],λr=>vb r,λr=>[],cw (jx.eq_1 ..) func18 ntmps18 results18⟩
end Go.Proofs.YtdilaemengjipaaGreatDoor
