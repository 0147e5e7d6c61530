/- A part of the proof of the statement in the last file of this claim: texts on the language of the program and on its functions. No condition. -/
import Derived.Test.YtdilaemengjipaaGreatDoorCJ4
import Derived.Test.YtdilaemengjipaaGreatDoorCJ7
import Derived.Test.YtdilaemengjipaaGreatDoorCJ10
import Derived.Test.YtdilaemengjipaaGreatDoorCJ6
import Derived.Test.YtdilaemengjipaaGreatDoorCJ9
import Derived.Test.YtdilaemengjipaaGreatDoorCJ8
import Derived.Test.YtdilaemengjipaaGreatDoorCJ5
import Derived.Test.YtdilaemengjipaaGreatDoorCJ1
set_option linter.unusedVariables false
set_option linter.unusedSimpArgs false
set_option linter.unusedSectionVars false
open Option renaming some->YW,none->YX
open Bool renaming true->YY,false->YZ
open Decidable renaming decide->Y0
open Go.Proofs.Tryz
set_option maxHeartbeats 40000000
namespace Go.Proofs.YtdilaemengjipaaGreatDoor
open _root_.Int renaming toNat->Wm,tmod->WV,tmod_nonneg->X1,tmod_lt_of_pos->XJ
open BitVec renaming ofInt->V9
open List renaming mem_cons->V5,not_mem_nil->V4,length_nil->V1,length_cons->V0,mem_append->Wi,mem_singleton->Wh,length_append->VZ
set_option maxRecDepth 10000
open Go.RowKit
variable {β:Type}{Q:β->Prop}{f:Unit->Option β}{r:β}{x:Option β}
def gx(w:ax)(s:br):Option ax:=
 cond (Y0 (w.bg<1000000000))
 ((mc w.skip (aM (w.bg+1))).bind λy1=>
 cond (!y1)
 (cond (Y0 ((w.aN.length:Int)<200))
 ((cr (bn ((w.aN:List br).length+([s]:List br).length) 56)).bind λ_=>
 YW (⟨w.aa,w.aj,w.au,w.ae,w.now,((w.aN:List br)++[s]),w.skip,(aM (w.bg+1))⟩:ax))
 (YW (⟨w.aa,w.aj,w.au,w.ae,w.now,w.aN,w.skip,(aM (w.bg+1))⟩:ax)))
 (YW (⟨w.aa,w.aj,w.au,w.ae,w.now,w.aN,w.skip,(aM (w.bg+1))⟩:ax)))
 ((mc w.skip w.bg).bind λy2=>
 cond (!y2)
 (cond (Y0 ((w.aN.length:Int)<200))
 ((cr (bn ((w.aN:List br).length+([s]:List br).length) 56)).bind λ_=>
 YW (⟨w.aa,w.aj,w.au,w.ae,w.now,((w.aN:List br)++[s]),w.skip,w.bg⟩:ax))
 (YW w))
 (YW w))
instance (w:ax)(s:br):CT prog (gx w s):=⟨292,[.be 0 0 0,.ag (bw s)],[YW ⟨.of 33,10,[[.ms 1,.ms 2,vi w.aa.change,.ms 3,.ms 4,.ms 5,vi w.now,.ms 6,.ms 7,vi w.bg]]⟩,YW ⟨.of 144,6,w.aa.aA.map bo⟩,YW ⟨.of 3,1,w.aa.off.map aG⟩,YW ⟨.of 94,11,w.aj.map aZ⟩,YW ⟨.of 147,4,w.au.map aC⟩,YW ⟨.of 46,2,w.ae.map aU⟩,YW ⟨.of 151,6,w.aN.map bw⟩,YW ⟨.of 3,1,w.skip.map aG⟩],λr=>.tu [],λr=>[YW ⟨.of 33,10,[[.ms 1,.ms 2,vi r.aa.change,.ms 3,.ms 4,.ms 5,vi r.now,.ms 8,.ms 7,vi r.bg]]⟩,YW ⟨.of 144,6,r.aa.aA.map bo⟩,YW ⟨.of 3,1,r.aa.off.map aG⟩,YW ⟨.of 94,11,r.aj.map aZ⟩,YW ⟨.of 147,4,r.au.map aC⟩,YW ⟨.of 46,2,r.ae.map aU⟩,YX,YW ⟨.of 3,1,r.skip.map aG⟩,YW ⟨.of 151,6,r.aN.map bw⟩],cw (gx.eq_1 ..) func292 ntmps292 results292⟩
def iZ(fG:Int)(s0:Int×Int×Int×Int×(List bP)×(List Int)×(List az)×(List aq)×(List av)×(List Int)×(List br)):Option ((Int×Int×Int×Int×(List bP)×(List Int)×(List az)×(List aq)×(List av)×(List Int)×(List br))⊕(Int×Int×Int×(List bP)×(List Int)×(List az)×(List aq)×(List av)×(List Int)×(List br))):=
 cond (Y0 (s0.1<(s0.2.2.2.2.2.2.1.length:Int)))
 ((aB s0.2.2.2.2.2.2.1 s0.1).bind λy1=>
 cond (!decide (y1.state=2))
 (YW (.inl ((aM (s0.1+1)),s0.2.1,s0.2.2.1,s0.2.2.2.1,s0.2.2.2.2.1,s0.2.2.2.2.2.1,s0.2.2.2.2.2.2.1,s0.2.2.2.2.2.2.2.1,s0.2.2.2.2.2.2.2.2.1,s0.2.2.2.2.2.2.2.2.2.1,s0.2.2.2.2.2.2.2.2.2.2)))
 ((aB y1.aK y1.aO).bind λy2=>
 (bm (⟨s0.2.2.2.2.1,s0.2.2.2.2.2.1,s0.2.1⟩:ah) y2).bind λy3=>
 cond (!decide (y3=fG))
 (YW (.inl ((aM (s0.1+1)),s0.2.1,s0.2.2.1,s0.2.2.2.1,s0.2.2.2.2.1,s0.2.2.2.2.2.1,s0.2.2.2.2.2.2.1,s0.2.2.2.2.2.2.2.1,s0.2.2.2.2.2.2.2.2.1,s0.2.2.2.2.2.2.2.2.2.1,s0.2.2.2.2.2.2.2.2.2.2)))
 ((aB y1.aK y1.aO).bind λy4=>
 (bq [0,1,2,3,4,5,8,7]).bind λ_=>
 (gx (⟨(⟨s0.2.2.2.2.1,s0.2.2.2.2.2.1,s0.2.1⟩:ah),s0.2.2.2.2.2.2.1,s0.2.2.2.2.2.2.2.1,s0.2.2.2.2.2.2.2.2.1,s0.2.2.1,s0.2.2.2.2.2.2.2.2.2.2,s0.2.2.2.2.2.2.2.2.2.1,s0.2.2.2.1⟩:ax) (⟨(aM (s0.1+1)),fG,2,⟨#[]⟩,y4⟩:br)).bind λy5=>
 (aB y1.aK y1.aO).bind λy6=>
 (aB y5.aa.aA y6.bH).bind λy7=>
 (aB y5.aj s0.1).bind λy8=>
 (aB y5.aj s0.1).bind λy9=>
 (aB y5.aj s0.1).bind λeh=>
 (aB y5.aj s0.1).bind λlr=>
 cond (Y0 (y7.aY=y1.aY))
 ((aB y5.aj s0.1).bind λoV=>
 (aB y5.aj s0.1).bind λoD=>
 (D9 (y5.aj.set (Wm s0.1) (⟨y8.ar,y8.aY,y8.aw,y8.ab,y8.aQ,y8.eJ,y8.aK,(aM (y1.aO+1)),3,y7.aY,fG⟩:az)) (λnF=>(.be 0 0 0::vi fG::.un::.un::vi s0.1::.be 9 0 0::(U 193 []))) (λnF=>[YW ⟨.of 33,10,[[.ms 1,.ms 2,vi y5.aa.change,.ms 3,.ms 4,.ms 5,vi y5.now,.ms 8,.ms 7,vi y5.bg]]⟩,YW ⟨.of 144,6,y5.aa.aA.map bo⟩,YW ⟨.of 3,1,y5.aa.off.map aG⟩,YW ⟨.of 94,11,nF.map aZ⟩,YW ⟨.of 147,4,y5.au.map aC⟩,YW ⟨.of 46,2,y5.ae.map aU⟩,YX,YW ⟨.of 3,1,y5.skip.map aG⟩,YW ⟨.of 151,6,y5.aN.map bw⟩,YW ⟨.of 94,11,[[vs y1.ar,vs y1.aY,vi y1.aw,vi y1.ab,vi y1.aQ,vi y1.eJ,.sl (y1.aK.map aU),vi y1.aO,vi y1.state,vs y1.place,vi y1.bQ]]⟩])).bind λnF=>
 (bq [0,1,2,3,4,5,8,7]).bind λ_=>
 (gx (⟨y5.aa,nF,y5.au,y5.ae,y5.now,y5.aN,y5.skip,y5.bg⟩:ax) (⟨(aM (s0.1+1)),fG,4,y1.aY,(⟨0,0⟩:av)⟩:br)).bind λpZ=>
 YW (.inl ((aM (s0.1+1)),pZ.aa.change,pZ.now,pZ.bg,pZ.aa.aA,pZ.aa.off,pZ.aj,pZ.au,pZ.ae,pZ.skip,pZ.aN)))
 (YW (.inl ((aM (s0.1+1)),y5.aa.change,y5.now,y5.bg,y5.aa.aA,y5.aa.off,(y5.aj.set (Wm s0.1) (⟨y8.ar,y8.aY,y8.aw,y8.ab,y8.aQ,y8.eJ,y8.aK,(aM (y1.aO+1)),1,y7.aY,y8.bQ⟩:az)),y5.au,y5.ae,y5.skip,y5.aN))))))
 (YW (.inr (s0.2.1,s0.2.2.1,s0.2.2.2.1,s0.2.2.2.2.1,s0.2.2.2.2.2.1,s0.2.2.2.2.2.2.1,s0.2.2.2.2.2.2.2.1,s0.2.2.2.2.2.2.2.2.1,s0.2.2.2.2.2.2.2.2.2.1,s0.2.2.2.2.2.2.2.2.2.2)))
instance (fG:Int):bp (iZ fG):=⟨λs0=>(.be 0 0 0::vi fG::.un::.un::vi s0.1::(U 194 [])),λs0=>[YW ⟨.of 33,10,[[.ms 1,.ms 2,vi s0.2.1,.ms 3,.ms 4,.ms 5,vi s0.2.2.1,.ms 8,.ms 7,vi s0.2.2.2.1]]⟩,YW ⟨.of 144,6,s0.2.2.2.2.1.map bo⟩,YW ⟨.of 3,1,s0.2.2.2.2.2.1.map aG⟩,YW ⟨.of 94,11,s0.2.2.2.2.2.2.1.map aZ⟩,YW ⟨.of 147,4,s0.2.2.2.2.2.2.2.1.map aC⟩,YW ⟨.of 46,2,s0.2.2.2.2.2.2.2.2.1.map aU⟩,YX,YW ⟨.of 3,1,s0.2.2.2.2.2.2.2.2.2.1.map aG⟩,YW ⟨.of 151,6,s0.2.2.2.2.2.2.2.2.2.2.map bw⟩]⟩
def ja(fG:Int)(s1:Int×Int×Int×Int×(List bP)×(List Int)×(List az)×(List aq)×(List av)×(List Int)×(List br)):Option ((Int×Int×Int×Int×(List bP)×(List Int)×(List az)×(List aq)×(List av)×(List Int)×(List br))⊕(Int×Int×Int×(List bP)×(List Int)×(List az)×(List aq)×(List av)×(List Int)×(List br))):=
 cond (Y0 (s1.1<(s1.2.2.2.2.2.2.1.length:Int)))
 ((aB s1.2.2.2.2.2.2.1 s1.1).bind λod=>
 cond (Y0 (od.state=1))
 (cond (Y0 (od.aO<(od.aK.length:Int)))
 ((aB od.aK od.aO).bind λrP=>
 (bt (⟨s1.2.2.2.2.1,s1.2.2.2.2.2.1,s1.2.1⟩:ah) rP).bind λva=>
 cond (Y0 (va=fG))
 ((aB s1.2.2.2.2.2.2.1 s1.1).bind λwJ=>
 (aB s1.2.2.2.2.2.2.1 s1.1).bind λD5=>
 (D9 (s1.2.2.2.2.2.2.1.set (Wm s1.1) (⟨wJ.ar,wJ.aY,wJ.aw,wJ.ab,wJ.aQ,wJ.eJ,wJ.aK,wJ.aO,2,⟨#[]⟩,wJ.bQ⟩:az)) (λHj=>(.be 0 0 0::vi fG::(U 4 (vi s1.1::.be 9 0 0::(U 191 []))))) (λHj=>[YW ⟨.of 33,10,[[.ms 1,.ms 2,vi s1.2.1,.ms 3,.ms 4,.ms 5,vi s1.2.2.1,.ms 8,.ms 7,vi s1.2.2.2.1]]⟩,YW ⟨.of 144,6,s1.2.2.2.2.1.map bo⟩,YW ⟨.of 3,1,s1.2.2.2.2.2.1.map aG⟩,YW ⟨.of 94,11,Hj.map aZ⟩,YW ⟨.of 147,4,s1.2.2.2.2.2.2.2.1.map aC⟩,YW ⟨.of 46,2,s1.2.2.2.2.2.2.2.2.1.map aU⟩,YX,YW ⟨.of 3,1,s1.2.2.2.2.2.2.2.2.2.1.map aG⟩,YW ⟨.of 151,6,s1.2.2.2.2.2.2.2.2.2.2.map bw⟩,YW ⟨.of 94,11,[[vs od.ar,vs od.aY,vi od.aw,vi od.ab,vi od.aQ,vi od.eJ,.sl (od.aK.map aU),vi od.aO,vi od.state,vs od.place,vi od.bQ]]⟩])).bind λHj=>
 (aB od.aK od.aO).bind λza=>
 (bq [0,1,2,3,4,5,8,7]).bind λ_=>
 (gx (⟨(⟨s1.2.2.2.2.1,s1.2.2.2.2.2.1,s1.2.1⟩:ah),Hj,s1.2.2.2.2.2.2.2.1,s1.2.2.2.2.2.2.2.2.1,s1.2.2.1,s1.2.2.2.2.2.2.2.2.2.2,s1.2.2.2.2.2.2.2.2.2.1,s1.2.2.2.1⟩:ax) (⟨(aM (s1.1+1)),fG,3,⟨#[]⟩,za⟩:br)).bind λBp=>
 YW (.inl ((aM (s1.1+1)),Bp.aa.change,Bp.now,Bp.bg,Bp.aa.aA,Bp.aa.off,Bp.aj,Bp.au,Bp.ae,Bp.skip,Bp.aN)))
 (YW (.inl ((aM (s1.1+1)),s1.2.1,s1.2.2.1,s1.2.2.2.1,s1.2.2.2.2.1,s1.2.2.2.2.2.1,s1.2.2.2.2.2.2.1,s1.2.2.2.2.2.2.2.1,s1.2.2.2.2.2.2.2.2.1,s1.2.2.2.2.2.2.2.2.2.1,s1.2.2.2.2.2.2.2.2.2.2))))
 (YW (.inl ((aM (s1.1+1)),s1.2.1,s1.2.2.1,s1.2.2.2.1,s1.2.2.2.2.1,s1.2.2.2.2.2.1,s1.2.2.2.2.2.2.1,s1.2.2.2.2.2.2.2.1,s1.2.2.2.2.2.2.2.2.1,s1.2.2.2.2.2.2.2.2.2.1,s1.2.2.2.2.2.2.2.2.2.2))))
 (YW (.inl ((aM (s1.1+1)),s1.2.1,s1.2.2.1,s1.2.2.2.1,s1.2.2.2.2.1,s1.2.2.2.2.2.1,s1.2.2.2.2.2.2.1,s1.2.2.2.2.2.2.2.1,s1.2.2.2.2.2.2.2.2.1,s1.2.2.2.2.2.2.2.2.2.1,s1.2.2.2.2.2.2.2.2.2.2))))
 (YW (.inr (s1.2.1,s1.2.2.1,s1.2.2.2.1,s1.2.2.2.2.1,s1.2.2.2.2.2.1,s1.2.2.2.2.2.2.1,s1.2.2.2.2.2.2.2.1,s1.2.2.2.2.2.2.2.2.1,s1.2.2.2.2.2.2.2.2.2.1,s1.2.2.2.2.2.2.2.2.2.2)))
instance (fG:Int):bp (ja fG):=⟨λs1=>(.be 0 0 0::vi fG::(U 4 (vi s1.1::(U 192 [])))),λs1=>[YW ⟨.of 33,10,[[.ms 1,.ms 2,vi s1.2.1,.ms 3,.ms 4,.ms 5,vi s1.2.2.1,.ms 8,.ms 7,vi s1.2.2.2.1]]⟩,YW ⟨.of 144,6,s1.2.2.2.2.1.map bo⟩,YW ⟨.of 3,1,s1.2.2.2.2.2.1.map aG⟩,YW ⟨.of 94,11,s1.2.2.2.2.2.2.1.map aZ⟩,YW ⟨.of 147,4,s1.2.2.2.2.2.2.2.1.map aC⟩,YW ⟨.of 46,2,s1.2.2.2.2.2.2.2.2.1.map aU⟩,YX,YW ⟨.of 3,1,s1.2.2.2.2.2.2.2.2.2.1.map aG⟩,YW ⟨.of 151,6,s1.2.2.2.2.2.2.2.2.2.2.map bw⟩]⟩
def nS(w:ax)(fG:Int):Option ax:=
 (aE (iZ fG) NN (0,w.aa.change,w.now,w.bg,w.aa.aA,w.aa.off,w.aj,w.au,w.ae,w.skip,w.aN)).bind (λo0=>
 (aE (ja fG) NN (0,o0.1,o0.2.1,o0.2.2.1,o0.2.2.2.1,o0.2.2.2.2.1,o0.2.2.2.2.2.1,o0.2.2.2.2.2.2.1,o0.2.2.2.2.2.2.2.1,o0.2.2.2.2.2.2.2.2.1,o0.2.2.2.2.2.2.2.2.2)).bind (λo1=>
 YW (⟨(⟨o1.2.2.2.1,o1.2.2.2.2.1,o1.1⟩:ah),o1.2.2.2.2.2.1,o1.2.2.2.2.2.2.1,o1.2.2.2.2.2.2.2.1,fG,o1.2.2.2.2.2.2.2.2.2,o1.2.2.2.2.2.2.2.2.1,o1.2.2.1⟩:ax)))
instance (w:ax)(fG:Int):CT prog (nS w fG):=⟨228,[.be 0 0 0,vi fG],[YW ⟨.of 33,10,[[.ms 1,.ms 2,vi w.aa.change,.ms 3,.ms 4,.ms 5,vi w.now,.ms 6,.ms 7,vi w.bg]]⟩,YW ⟨.of 144,6,w.aa.aA.map bo⟩,YW ⟨.of 3,1,w.aa.off.map aG⟩,YW ⟨.of 94,11,w.aj.map aZ⟩,YW ⟨.of 147,4,w.au.map aC⟩,YW ⟨.of 46,2,w.ae.map aU⟩,YW ⟨.of 151,6,w.aN.map bw⟩,YW ⟨.of 3,1,w.skip.map aG⟩],λr=>.tu [],λr=>[YW ⟨.of 33,10,[[.ms 1,.ms 2,vi r.aa.change,.ms 3,.ms 4,.ms 5,vi r.now,.ms 8,.ms 7,vi r.bg]]⟩,YW ⟨.of 144,6,r.aa.aA.map bo⟩,YW ⟨.of 3,1,r.aa.off.map aG⟩,YW ⟨.of 94,11,r.aj.map aZ⟩,YW ⟨.of 147,4,r.au.map aC⟩,YW ⟨.of 46,2,r.ae.map aU⟩,YX,YW ⟨.of 3,1,r.skip.map aG⟩,YW ⟨.of 151,6,r.aN.map bw⟩],cw (nS.eq_1 ..) func228 ntmps228 results228⟩
def jz(n:ah):Option ah:=
 (cr (bn ((([]:List bP):List bP).length+(n.aA:List bP).length) 64)).bind λ_=>
 (cr (bn ((([]:List Int):List Int).length+(n.off:List Int).length) 8)).bind λ_=>
 YW (⟨((([]:List bP):List bP)++n.aA),((([]:List Int):List Int)++n.off),n.change⟩:ah)
instance (n:ah):CT prog (jz n):=⟨131,[.ag (bB n)],[],λr=>.ag [.ms 0,.ms 1,vi r.change],λr=>[YW ⟨.of 144,6,r.aA.map bo⟩,YW ⟨.of 3,1,r.off.map aG⟩],cw (jz.eq_1 ..) func131 ntmps131 results131⟩
def gb(w:ax)(y1:ah)(y2:(List aq))(y3:(List av))(s0:Int×(List az)):Option ((Int×(List az))⊕(List az)):=
 cond (Y0 (s0.1<(w.aj.length:Int)))
 ((aB w.aj s0.1).bind λy4=>
 (fh y4.aK).bind λy5=>
 (cr (bn ((s0.2:List az).length+([(⟨y4.ar,y4.aY,y4.aw,y4.ab,y4.aQ,y4.eJ,y5,y4.aO,y4.state,y4.place,y4.bQ⟩:az)]:List az).length) 128)).bind λ_=>
 YW (.inl ((aM (s0.1+1)),((s0.2:List az)++[(⟨y4.ar,y4.aY,y4.aw,y4.ab,y4.aQ,y4.eJ,y5,y4.aO,y4.state,y4.place,y4.bQ⟩:az)]))))
 (YW (.inr s0.2))
instance (w:ax)(y1:ah)(y2:(List aq))(y3:(List av)):bp (gb w y1 y2 y3):=⟨λs0=>(.un::.un::.be 0 0 0::.be 1 0 0::(U 25 (.sl (w.aj.map aZ)::vi (w.aj.length:Int)::vi s0.1::(U 15 [])))),λs0=>[YW ⟨.of 33,10,[[.v (.slice YX 0 0),.v (.slice YX 0 0),vi 0,.v (.slice YX 0 0),.v (.slice YX 0 0),.v (.slice YX 0 0),vi 0,.v (.slice YX 0 0),.v (.slice YX 0 0),vi 0]]⟩,YW ⟨.of 33,10,[[.ms 2,.ms 3,vi y1.change,.ms 4,.ms 5,.ms 6,vi w.now,.ms 7,.ms 8,vi w.bg]]⟩,YW ⟨.of 144,6,y1.aA.map bo⟩,YW ⟨.of 3,1,y1.off.map aG⟩,YW ⟨⟨94,YW 46⟩,11,s0.2.map aZ⟩,YW ⟨.of 147,4,y2.map aC⟩,YW ⟨.of 46,2,y3.map aU⟩,YW ⟨.of 151,6,((([]:List br):List br)++w.aN).map bw⟩,YW ⟨.of 3,1,((([]:List Int):List Int)++w.skip).map aG⟩]⟩
def dL(w:ax):Option ax:=
 (jz w.aa).bind λy1=>
 (gr w.au).bind λy2=>
 (fh w.ae).bind λy3=>
 (cr (bn ((([]:List br):List br).length+(w.aN:List br).length) 56)).bind λ_=>
 (cr (bn ((([]:List Int):List Int).length+(w.skip:List Int).length) 8)).bind λ_=>
 (aE (gb w y1 y2 y3) NN (0,[])).bind (λo0=>
 YW (⟨y1,o0,y2,y3,w.now,((([]:List br):List br)++w.aN),((([]:List Int):List Int)++w.skip),w.bg⟩:ax))
instance (w:ax):CT prog (dL w):=⟨68,[.ag (gK w)],[],λr=>.ag [.ms 0,.ms 1,vi r.aa.change,.ms 2,.ms 3,.ms 4,vi r.now,.ms 5,.ms 6,vi r.bg],λr=>[YW ⟨.of 144,6,r.aa.aA.map bo⟩,YW ⟨.of 3,1,r.aa.off.map aG⟩,YW ⟨⟨94,YW 46⟩,11,r.aj.map aZ⟩,YW ⟨.of 147,4,r.au.map aC⟩,YW ⟨.of 46,2,r.ae.map aU⟩,YW ⟨.of 151,6,r.aN.map bw⟩,YW ⟨.of 3,1,r.skip.map aG⟩],ck (dL.eq_1 ..) func68 ntmps68 results68⟩
def gV(c:bj):Option (Int×bj):=
 cond (Y0 (c.i<(c.b.length:Int)))
 ((aB c.b c.i).bind λy1=>
 YW ((IntKind.i64.wrap (V9 IntKind.i64.bits (aM ((IntKind.i64.wrap (V9 IntKind.i64.bits (IntKind.i64.wrap (V9 IntKind.i64.bits (Int.fdiv (aM ((aM (c.h*6364136223846793005))+1442695040888963407)) (2 ^ (min (Wm 35) IntKind.i64.bits))) ^^^ V9 IntKind.i64.bits (Int.fdiv (aM ((aM (c.h*6364136223846793005))+1442695040888963407)) (2 ^ (min (Wm 45) IntKind.i64.bits)))).toNat) &&& V9 IntKind.i64.bits 255).toNat)+(IntKind.i64.wrap y1.v))) &&& V9 IntKind.i64.bits 255).toNat),(⟨c.b,(aM (c.i+1)),(aM ((aM (c.h*6364136223846793005))+1442695040888963407))⟩:bj)))
 (YW ((IntKind.i64.wrap (V9 IntKind.i64.bits (IntKind.i64.wrap (V9 IntKind.i64.bits (Int.fdiv (aM ((aM (c.h*6364136223846793005))+1442695040888963407)) (2 ^ (min (Wm 35) IntKind.i64.bits))) ^^^ V9 IntKind.i64.bits (Int.fdiv (aM ((aM (c.h*6364136223846793005))+1442695040888963407)) (2 ^ (min (Wm 45) IntKind.i64.bits)))).toNat) &&& V9 IntKind.i64.bits 255).toNat),(⟨c.b,c.i,(aM ((aM (c.h*6364136223846793005))+1442695040888963407))⟩:bj)))
instance (c:bj):CT prog (gV c):=⟨108,[.be 0 0 0],[YW ⟨.of 119,3,[[.sl (c.b.map Y5),vi c.i,vi c.h]]⟩],λr=>vi r.1,λr=>[YW ⟨.of 119,3,[[.sl (r.2.b.map Y5),vi r.2.i,vi r.2.h]]⟩],cw (gV.eq_1 ..) func108 ntmps108 results108⟩
def ay(c:bj)(n:Int):Option (Int×bj):=
 cond (Y0 (n<=0))
 (YW (0,c))
 (cond (Y0 (n<=256))
 ((bq [0]).bind λ_=>
 (gV c).bind λy1=>
 (cr (Y0 (n≠0))).bind λ_=>
 YW ((WV y1.1 n),y1.2))
 ((bq [0]).bind λ_=>
 (gV c).bind λy2=>
 (bq [0]).bind λ_=>
 (gV y2.2).bind λy3=>
 (bq [0]).bind λ_=>
 (gV y3.2).bind λy4=>
 (cr (Y0 (n≠0))).bind λ_=>
 YW ((WV (aM ((aM ((aM (y2.1*65536))+(aM (y3.1*256))))+y4.1)) n),y4.2)))
instance (c:bj)(n:Int):CT prog (ay c n):=⟨53,[.be 0 0 0,vi n],[YW ⟨.of 119,3,[[.sl (c.b.map Y5),vi c.i,vi c.h]]⟩],λr=>vi r.1,λr=>[YW ⟨.of 119,3,[[.sl (r.2.b.map Y5),vi r.2.i,vi r.2.h]]⟩],cw (ay.eq_1 ..) func53 ntmps53 results53⟩
def cA(c:bj)(n:Int):Option (Bool×bj):=
 (bq [0]).bind λ_=>
 (ay c n).bind λy1=>
 YW ((Y0 (y1.1=0)),y1.2)
instance (c:bj)(n:Int):CT prog (cA c n):=⟨56,[.be 0 0 0,vi n],[YW ⟨.of 119,3,[[.sl (c.b.map Y5),vi c.i,vi c.h]]⟩],λr=>vb r.1,λr=>[YW ⟨.of 119,3,[[.sl (r.2.b.map Y5),vi r.2.i,vi r.2.h]]⟩],cw (cA.eq_1 ..) func56 ntmps56 results56⟩
def lC(c:bj)(list:List ByteArray):Option (ByteArray×bj×(List ByteArray)):=
 (bq [0]).bind λ_=>
 (ay c (list.length:Int)).bind λy1=>
 (aB list y1.1).bind λy2=>
 YW (y2,y1.2,list)
instance (c:bj)(list:List ByteArray):CT prog (lC c list):=⟨125,[.be 0 0 0,.ms 1],[YW ⟨.of 119,3,[[.sl (c.b.map Y5),vi c.i,vi c.h]]⟩,YW ⟨.of 9,1,list.map iU⟩],λr=>vs r.1,λr=>[YW ⟨.of 119,3,[[.sl (r.2.1.b.map Y5),vi r.2.1.i,vi r.2.1.h]]⟩,YW ⟨.of 9,1,r.2.2.map iU⟩],cw (lC.eq_1 ..) func125 ntmps125 results125⟩
def fD(c:bj):Option (ByteArray×bj):=
 (bq [0,1]).bind λ_=>
 (lC c ([⟨#[65,77,83]⟩,⟨#[66,82,85]⟩,⟨#[67,68,71]⟩,⟨#[68,85,66]⟩,⟨#[69,68,73]⟩,⟨#[70,82,65]⟩,⟨#[71,79,84]⟩])).bind λy1=>
 YW (y1.1,y1.2.1)
instance (c:bj):CT prog (fD c):=⟨129,[.be 0 0 0],[YW ⟨.of 119,3,[[.sl (c.b.map Y5),vi c.i,vi c.h]]⟩],λr=>vs r.1,λr=>[YW ⟨.of 119,3,[[.sl (r.2.b.map Y5),vi r.2.i,vi r.2.h]]⟩],cw (fD.eq_1 ..) func129 ntmps129 results129⟩
def bW(c:bj)(list:List Int):Option (Int×bj×(List Int)):=
 (bq [0]).bind λ_=>
 (ay c (list.length:Int)).bind λy1=>
 (aB list y1.1).bind λy2=>
 YW (y2,y1.2,list)
instance (c:bj)(list:List Int):CT prog (bW c list):=⟨67,[.be 0 0 0,.ms 1],[YW ⟨.of 119,3,[[.sl (c.b.map Y5),vi c.i,vi c.h]]⟩,YW ⟨.of 3,1,list.map aG⟩],λr=>vi r.1,λr=>[YW ⟨.of 119,3,[[.sl (r.2.1.b.map Y5),vi r.2.1.i,vi r.2.1.h]]⟩,YW ⟨.of 3,1,r.2.2.map aG⟩],cw (bW.eq_1 ..) func67 ntmps67 results67⟩
def nv(y3:Int×bj)(y4:Int×bj)(y5:Int×bj)(y6:Int×bj)(s0:(List Y6)×Int×Int×ByteArray×ByteArray):Option (((List Y6)×Int×Int×ByteArray×ByteArray)⊕((List Y6)×Int×Int×ByteArray×ByteArray)):=
 cond (Y0 (s0.2.2.2.1=s0.2.2.2.2))
 ((bq [0,3]).bind λ_=>
 (lC (⟨s0.1,s0.2.1,s0.2.2.1⟩:bj) ([⟨#[65,77,83]⟩,⟨#[66,82,85]⟩,⟨#[67,68,71]⟩])).bind λy7=>
 cond (Y0 (s0.2.2.2.1=y7.1))
 (YW (.inl (y7.2.1.b,y7.2.1.i,y7.2.1.h,⟨#[68,85,66]⟩,y7.1)))
 (YW (.inl (y7.2.1.b,y7.2.1.i,y7.2.1.h,s0.2.2.2.1,y7.1))))
 (YW (.inr (s0.1,s0.2.1,s0.2.2.1,s0.2.2.2.1,s0.2.2.2.2)))
instance (y3:Int×bj)(y4:Int×bj)(y5:Int×bj)(y6:Int×bj):bp (nv y3 y4 y5 y6):=⟨λs0=>(.be 0 0 0::.un::.be 1 0 0::.be 2 0 0::(U 43 [])),λs0=>[YW ⟨.of 119,3,[[.sl (s0.1.map Y5),vi s0.2.1,vi s0.2.2.1]]⟩,YW ⟨.of 144,6,[[vs (⟨#[]⟩),vs (⟨#[]⟩),vi 0,vi 0,vi 0,vi 0]]⟩,YW ⟨.of 144,6,[[vs s0.2.2.2.1,vs s0.2.2.2.2,vi (aM (30*y3.1)),vi (aM (30*(aM (1+y4.1)))),vi (aM (1+y5.1)),vi (aM (1000*y6.1))]]⟩]⟩
def nT(c:bj):Option (bP×bj):=
 (bq [0]).bind λ_=>
 (fD c).bind λy1=>
 (bq [0]).bind λ_=>
 (fD y1.2).bind λy2=>
 (bq [0]).bind λ_=>
 (ay y2.2 48).bind λy3=>
 (bq [0]).bind λ_=>
 (ay y3.2 40).bind λy4=>
 (bq [0]).bind λ_=>
 (ay y4.2 127).bind λy5=>
 (bq [0]).bind λ_=>
 (ay y5.2 60).bind λy6=>
 (aE (nv y3 y4 y5 y6) NN (y6.2.b,y6.2.i,y6.2.h,y1.1,y2.1)).bind (λo0=>
 (bq [0]).bind λ_=>
 (cA (⟨o0.1,o0.2.1,o0.2.2.1⟩:bj) 2).bind λy8=>
 cond y8.1
 ((bq [0]).bind λ_=>
 (cA y8.2 9).bind λy9=>
 cond y9.1
 ((bq [0,3]).bind λ_=>
 (bW y9.2 ([1,1440,4320])).bind λeh=>
 YW ((⟨o0.2.2.2.1,o0.2.2.2.2,(aM (30*y3.1)),eh.1,127,(aM (1000*y6.1))⟩:bP),eh.2.1))
 (YW ((⟨o0.2.2.2.1,o0.2.2.2.2,(aM (30*y3.1)),(aM (30*(aM (1+y4.1)))),127,(aM (1000*y6.1))⟩:bP),y9.2)))
 ((bq [0]).bind λ_=>
 (cA y8.2 9).bind λlr=>
 cond lr.1
 ((bq [0,3]).bind λ_=>
 (bW lr.2 ([1,1440,4320])).bind λoV=>
 YW ((⟨o0.2.2.2.1,o0.2.2.2.2,(aM (30*y3.1)),oV.1,(aM (1+y5.1)),(aM (1000*y6.1))⟩:bP),oV.2.1))
 (YW ((⟨o0.2.2.2.1,o0.2.2.2.2,(aM (30*y3.1)),(aM (30*(aM (1+y4.1)))),(aM (1+y5.1)),(aM (1000*y6.1))⟩:bP),lr.2))))
instance (c:bj):CT prog (nT c):=⟨166,[.be 0 0 0],[YW ⟨.of 119,3,[[.sl (c.b.map Y5),vi c.i,vi c.h]]⟩],λr=>.ag [vs r.1.ar,vs r.1.aY,vi r.1.start,vi r.1.nd,vi r.1.vt,vi r.1.jk],λr=>[YW ⟨.of 119,3,[[.sl (r.2.b.map Y5),vi r.2.i,vi r.2.h]]⟩],cw (nT.eq_1 ..) func166 ntmps166 results166⟩
def mA(xq:Int)(y1:Int×bj)(s0:Int×(List Y6)×Int×Int×(List bP)):Option ((Int×(List Y6)×Int×Int×(List bP))⊕((List Y6)×Int×Int×(List bP))):=
 cond (Y0 (0<s0.1))
 ((bq [0]).bind λ_=>
 (nT (⟨s0.2.1,s0.2.2.1,s0.2.2.2.1⟩:bj)).bind λy3=>
 (cr (bn ((s0.2.2.2.2:List bP).length+([y3.1]:List bP).length) 64)).bind λ_=>
 (bq [0]).bind λ_=>
 (cA y3.2 3).bind λy4=>
 cond y4.1
 (cond (Y0 ((((s0.2.2.2.2:List bP)++[y3.1]).length:Int)<xq))
 ((aB ((s0.2.2.2.2:List bP)++[y3.1]) (aM ((((s0.2.2.2.2:List bP)++[y3.1]).length:Int)-1))).bind λy5=>
 (aB ((s0.2.2.2.2:List bP)++[y3.1]) (aM ((((s0.2.2.2.2:List bP)++[y3.1]).length:Int)-1))).bind λy6=>
 (oe 8 [3]).bind λ_=>
 (bq [0]).bind λ_=>
 (ay y4.2 20).bind λy7=>
 (cr (bn ((((s0.2.2.2.2:List bP)++[y3.1]):List bP).length+([(⟨y5.aY,y6.ar,(WV (aM (y3.1.start+(aM (60*y7.1)))) 1440),y3.1.nd,y3.1.vt,y3.1.jk⟩:bP)]:List bP).length) 64)).bind λ_=>
 YW (.inl ((aM (s0.1-1)),y7.2.b,y7.2.i,y7.2.h,((((s0.2.2.2.2:List bP)++[y3.1]):List bP)++[(⟨y5.aY,y6.ar,(WV (aM (y3.1.start+(aM (60*y7.1)))) 1440),y3.1.nd,y3.1.vt,y3.1.jk⟩:bP)]))))
 (YW (.inl ((aM (s0.1-1)),y4.2.b,y4.2.i,y4.2.h,((s0.2.2.2.2:List bP)++[y3.1])))))
 (YW (.inl ((aM (s0.1-1)),y4.2.b,y4.2.i,y4.2.h,((s0.2.2.2.2:List bP)++[y3.1])))))
 (YW (.inr (s0.2.1,s0.2.2.1,s0.2.2.2.1,s0.2.2.2.2)))
instance (xq:Int)(y1:Int×bj):bp (mA xq y1):=⟨λs0=>(.be 0 0 0::vi xq::.un::.un::.be 1 0 0::.be 2 0 0::vi s0.1::(U 74 [])),λs0=>[YW ⟨.of 119,3,[[.sl (s0.2.1.map Y5),vi s0.2.2.1,vi s0.2.2.2.1]]⟩,YW ⟨.of 27,3,[[.v (.slice YX 0 0),.v (.slice YX 0 0),vi 0]]⟩,YW ⟨.of 27,3,[[.ms 3,.v (.slice YX 0 0),vi (aM (15*y1.1))]]⟩,YW ⟨.of 144,6,s0.2.2.2.2.map bo⟩]⟩
def mO(c:bj)(xq:Int):Option (ah×bj):=
 (bq [0]).bind λ_=>
 (ay c 9).bind λy1=>
 (bq [0]).bind λ_=>
 (ay y1.2 xq).bind λy2=>
 (aE (mA xq y1) NN ((aM (1+y2.1)),y2.2.b,y2.2.i,y2.2.h,[])).bind (λo0=>
 (bq [0]).bind λ_=>
 (cA (⟨o0.1,o0.2.1,o0.2.2.1⟩:bj) 2).bind λy8=>
 cond y8.1
 ((bq [0]).bind λ_=>
 (ay y8.2 3).bind λy9=>
 (bq [0]).bind λ_=>
 (ay y9.2 4).bind λeh=>
 YW ((⟨o0.2.2.2,[y9.1,(aM (3+eh.1))],(aM (15*y1.1))⟩:ah),eh.2))
 (YW ((⟨o0.2.2.2,[],(aM (15*y1.1))⟩:ah),y8.2)))
instance (c:bj)(xq:Int):CT prog (mO c xq):=⟨101,[.be 0 0 0,vi xq],[YW ⟨.of 119,3,[[.sl (c.b.map Y5),vi c.i,vi c.h]]⟩],λr=>.ag [.ms 1,.ms 2,vi r.1.change],λr=>[YW ⟨.of 119,3,[[.sl (r.2.b.map Y5),vi r.2.i,vi r.2.h]]⟩,YW ⟨.of 144,6,r.1.aA.map bo⟩,YW ⟨.of 3,1,r.1.off.map aG⟩],cw (mO.eq_1 ..) func101 ntmps101 results101⟩
def qJ(code:List Y6)(s0:Int×Int):Option ((Int×Int)⊕Int):=
 cond (Y0 (s0.2<(code.length:Int)))
 (cond (Y0 (s0.2<4000))
 ((aB code s0.2).bind λy1=>
 YW (.inl ((IntKind.i64.wrap (V9 IntKind.i64.bits (aM ((aM ((aM (s0.1*167))+(IntKind.i64.wrap y1.v)))+29)) &&& V9 IntKind.i64.bits 1073741823).toNat),(aM (s0.2+1)))))
 (YW (.inr s0.1)))
 (YW (.inr s0.1))
instance (code:List Y6):bp (qJ code):=⟨λs0=>(.sl (code.map Y5)::.un::.un::vi s0.1::vi s0.2::(U 28 [])),λs0=>[]⟩
def oO(code:List Y6):Option bj:=
 (aE (qJ code) NN ((aM (744201+(aM (3*(code.length:Int))))),0)).bind (λo0=>
 YW (⟨code,0,o0⟩:bj))
instance (code:List Y6):CT prog (oO code):=⟨22,[.sl (code.map Y5)],[],λr=>.be 0 0 0,λr=>[YW ⟨.of 119,3,[[.sl (r.b.map Y5),vi r.i,vi r.h]]⟩],cw (oO.eq_1 ..) func22 ntmps22 results22⟩
def aV{α:Type}(x:Option α)(P:α->Prop):Prop:=∃r,x=YW r/\P r
theorem aV.bind{α β:Type}{x:Option α}{P:α->Prop}{f:α->Option β}{Q:β->Prop}(h:aV x P)(k:∀r,P r->aV (f r) Q):aV (x.bind f) Q:=by
 obtain⟨r,rfl,hr⟩:=h;exact k r hr
theorem aV.cond{β:Type}{b:Bool}{x y:Option β}{Q:β->Prop}(h:b=YY->aV x Q)(k:b=YZ->aV y Q):aV (cond b x y) Q:=by
 cases b with
 |true=>exact h rfl
 |false=>exact k rfl
theorem aV.ret(h:Q r):aV (YW r) Q:=⟨r,rfl,h⟩
theorem aV.of(h:x=YW r)(h':Q r):aV x Q:=⟨r,h,h'⟩
theorem aV.mono{P Q:β->Prop}(h:aV x P)(k:∀r,P r->Q r):aV x Q:=by
 obtain⟨r,e,hr⟩:=h;exact⟨r,e,k r hr⟩
theorem aV.fV{ρ:List Nat}(k:aV (f ()) Q):aV ((bq ρ).bind f) Q:=k
theorem aV.drw{wd:Nat}{fl:List Nat}(k:aV (f ()) Q):aV ((oe wd fl).bind f) Q:=k
theorem aV.A8{β:Type}{t:List PV}{m:Mem}{f:Unit->Option β}{Q:β->Prop}(k:aV (f ()) Q):aV ((Go.Proofs.YtdilaemengjipaaGreatDoor.A8 t m).bind f) Q:=k
theorem aV.cr{β:Type}{b:Bool}{f:Unit->Option β}{Q:β->Prop}(h:b=YY)(k:aV (f ()) Q):aV ((Go.Proofs.YtdilaemengjipaaGreatDoor.cr b).bind f) Q:=by
 subst h;exact k
theorem aV.get{α β:Type}{xs:List α}{i:Int}{f:α->Option β}{Q:β->Prop}(h0:0<=i)(h1:i<xs.length)(k:∀x,x∈xs->aB xs i=YW x->aV (f x) Q):aV ((aB xs i).bind f) Q:=by
 have bX:i.toNat<xs.length:=Yn;have e:aB xs i=YW xs[i.toNat]:=by unfold aB;rw[if_pos h0];exact List.getElem?_eq_getElem bX
 rw[e];exact k _ (List.getElem_mem bX) e
def uT{σ ο:Type}(I:Nat->σ->Prop)(P:ο->Prop)(k:Nat):σ⊕ο->Prop
 |.inl s'=>∃k',k'<k/\I k' s'
 |.inr o=>P o
theorem aV.loop{σ ο:Type}{body:σ->Option (σ⊕ο)}(I:Nat->σ->Prop){P:ο->Prop}(h:∀k s,I k s->aV (body s) (uT I P k)):∀(N k:Nat) (s:σ),I k s->k<N->aV (aE body N s) P
 |0,k,s,_,hN=>Yn
 |N+1,k,s,hI,hN=>by
  obtain⟨r,e,hr⟩:=h k s hI;simp only[aE,e]
  cases r with
  |inr o=>exact⟨o,rfl,hr⟩
  |inl s'=>
   obtain⟨k',hk,hI'⟩:=hr;exact aV.loop I h N k' s' hI' Yn
theorem oX{a b c:Nat}(h:a+b<=1099511627776)(hc:c<=128):bn (a+b) c=true:=by
 unfold bn;refine Ya ⟨Yn,?_⟩;have:(a+b)*c<=1099511627776*128:=Nat.mul_le_mul h hc;omega
structure dv(c:bj):Prop where
 i:0<=c.i
 len:c.b.length<=4096
 b:∀x∈c.b,0<=x.v/\x.v<=255
theorem Rm(x:BitVec IntKind.i64.bits):0<=IntKind.i64.wrap ((x &&& V9 IntKind.i64.bits 255).toNat:Int)/\IntKind.i64.wrap ((x &&& V9 IntKind.i64.bits 255).toNat:Int)<=255:=by
 have h:(x &&& V9 IntKind.i64.bits 255).toNat<=255:=by
  have e:(V9 IntKind.i64.bits 255).toNat=255:=by decide
  have:=Nat.and_le_right (n:=x.toNat) (m:=(V9 IntKind.i64.bits 255).toNat);rw[e]at this
  rw[BitVec.toNat_and];exact this
 have e:=aR (n:=((x &&& V9 IntKind.i64.bits 255).toNat:Int)) Yn;have e':IntKind.i64.wrap ((x &&& V9 IntKind.i64.bits 255).toNat:Int)=((x &&& V9 IntKind.i64.bits 255).toNat:Int):=e;rw[e'];omega
theorem xZ{c:bj}(h:dv c):aV (gV c) λr=>(0<=r.1/\r.1<=255)/\dv r.2:=by
 unfold gV;refine aV.cond (λhc=>?_) λhc=>?_
 ·have bX:=Yh hc
  have hl:=h.len;refine aV.get h.i bX λx hx _=>aV.ret ⟨Rm _,⟨?_,h.len,h.b⟩⟩
  show 0<=aM (c.i+1);rw[aR (by have:=h.i;omega)]
  have:=h.i;omega
 ·exact aV.ret ⟨Rm _,⟨h.i,h.len,h.b⟩⟩
theorem bJ{c:bj}(h:dv c)(n:Int):aV (ay c n) λr=>(0<=r.1/\(0<n->r.1<n)/\(n<=0->r.1=0))/\dv r.2:=by
 unfold ay;refine aV.cond (λhc=>?_) λhc=>?_
 ·have:=Yh hc
  exact aV.ret ⟨⟨by simp,λ_=>by simp only;omega,λ_=>rfl⟩,h⟩
 ·have h0:=Yi hc
  refine aV.cond (λhd=>?_) λhd=>?_
  ·refine aV.fV (aV.bind (xZ h) λy hy=>aV.cr (Ya Yn) (aV.ret ⟨⟨?_,λ_=>?_,λhn=>absurd hn h0⟩,hy.2⟩))
   ·exact X1 _ hy.1.1
   ·exact XJ _ Yn
  ·refine aV.fV (aV.bind (xZ h) λy hy=>aV.fV (aV.bind (xZ hy.2) λz hz=>aV.fV (aV.bind (xZ hz.2) λu hu=>aV.cr (Ya Yn) (aV.ret ⟨⟨?_,λ_=>?_,λhn=>absurd hn h0⟩,hu.2⟩))))
   ·have e1:aM (y.1*65536)=y.1*65536:=aR Yn
    have e2:aM (z.1*256)=z.1*256:=aR Yn;have e3:aM (y.1*65536+z.1*256)=y.1*65536+z.1*256:=aR Yn;have e4:aM (y.1*65536+z.1*256+u.1)=y.1*65536+z.1*256+u.1:=aR Yn;simp only[e1,e2,e3,e4];exact X1 _ Yn
   ·exact XJ _ Yn
theorem mW{c:bj}(h:dv c)(n:Int):aV (cA c n) λr=>dv r.2:=by
 unfold cA;exact aV.fV (aV.bind (bJ h n) λy hy=>aV.ret hy.2)
theorem Oe{c:bj}(h:dv c){l:List ByteArray}(hl:0<l.length):aV (lC c l) λr=>r.1∈l/\dv r.2.1:=by
 unfold lC;exact aV.fV (aV.bind (bJ h _) λy hy=>aV.get hy.1.1 (hy.1.2.1 Yn) λx hx _=>aV.ret ⟨hx,hy.2⟩)
theorem pQ{c:bj}(h:dv c){l:List Int}(hl:0<l.length):aV (bW c l) λr=>r.1∈l/\dv r.2.1:=by
 unfold bW;exact aV.fV (aV.bind (bJ h _) λy hy=>aV.get hy.1.1 (hy.1.2.1 Yn) λx hx _=>aV.ret ⟨hx,hy.2⟩)
def rV:List ByteArray:=[⟨#[65,77,83]⟩,⟨#[66,82,85]⟩,⟨#[67,68,71]⟩,⟨#[68,85,66]⟩,⟨#[69,68,73]⟩,⟨#[70,82,65]⟩,⟨#[71,79,84]⟩]
theorem ue{c:bj}(h:dv c):aV (fD c) λr=>r.1∈rV/\dv r.2:=by
 unfold fD;exact aV.fV (aV.bind (Oe h Yq) λy hy=>aV.ret ⟨hy.1,hy.2⟩)
structure BQ(l:bP):Prop where
 ar:l.ar∈rV
 aY:l.aY∈rV
 ne:¬l.ar=l.aY
 start:0<=l.start/\l.start<=1439
 nd:1<=l.nd/\l.nd<=4320
 vt:1<=l.vt/\l.vt<=127
 jk:0<=l.jk/\l.jk<=1000000
theorem ZaA{c:bj}(h:dv c):aV (nT c) λr=>BQ r.1/\dv r.2:=by
 unfold nT;refine aV.fV (aV.bind (ue h) λy1 h1=>aV.fV (aV.bind (ue h1.2) λy2 h2=>aV.fV (aV.bind (bJ h2.2 48) λy3 h3=>aV.fV (aV.bind (bJ h3.2 40) λy4 h4=>aV.fV (aV.bind (bJ h4.2 127) λy5 h5=>aV.fV (aV.bind (bJ h5.2 60) λy6 h6=>?_))))))
 have b3:=h3.1.2.1 Yn;have b4:=h4.1.2.1 Yn;have b5:=h5.1.2.1 Yn;have b6:=h6.1.2.1 Yn;have St:aV (aE (nv y3 y4 y5 y6) NN (y6.2.b,y6.2.i,y6.2.h,y1.1,y2.1)) λo=>dv ⟨o.1,o.2.1,o.2.2.1⟩/\o.2.2.2.1∈rV/\o.2.2.2.2∈rV/\¬o.2.2.2.1=o.2.2.2.2:=by
  refine aV.loop (λk s=>dv ⟨s.1,s.2.1,s.2.2.1⟩/\s.2.2.2.1∈rV/\s.2.2.2.2∈rV/\(k=1\/(k=0/\¬s.2.2.2.1=s.2.2.2.2))) (λk s hs=>?_) NN 1 _ ⟨h6.2,h1.1,h2.1,.inl rfl⟩ Ys
  obtain⟨k1,k2,k3,k4⟩:=hs;unfold nv;refine aV.cond (λhc=>?_) λhc=>aV.ret ⟨k1,k2,k3,Yi hc⟩
  have he:=Yh hc;have hk:k=1:=by rcases k4 with k4|⟨_,k4⟩
                                 ·exact k4
                                 ·exact absurd he k4
  subst hk;refine aV.fV (aV.bind (Oe k1 Yq) λy7 h7=>?_)
  have hy:y7.1∈rV/\¬(⟨#[68,85,66]⟩:ByteArray)=y7.1:=by
   have:=h7.1;simp only[V5,V4,or_false]at this
   rcases this with e|e|e<;>rw[e]<;>exact⟨by simp[rV],by decide +kernel⟩
  have Zg9:(⟨#[68,85,66]⟩:ByteArray)∈rV:=by simp[rV]
  refine aV.cond (λhd=>aV.ret ⟨0,Yn,h7.2,Zg9,hy.1,.inr ⟨rfl,hy.2⟩⟩) λhd=>aV.ret ⟨0,Yn,h7.2,k2,hy.1,.inr ⟨rfl,Yi hd⟩⟩
 refine aV.bind St λo ho=>aV.fV (aV.bind (mW ho.1 2) λy8 h8=>?_)
 have w1:aM (30*y3.1)=30*y3.1:=aR Yn;have w2:aM (1+y4.1)=1+y4.1:=aR Yn;have w3:aM (30*(1+y4.1))=30*(1+y4.1):=aR Yn;have w4:aM (1+y5.1)=1+y5.1:=aR Yn;have w5:aM (1000*y6.1)=1000*y6.1:=aR Yn;simp only[w1,w2,w3,w4,w5];have vz:∀x:Int,x∈[1,1440,(4320:Int)]->1<=x/\x<=4320:=λx hx=>by
  simp only[V5,V4,or_false]at hx
  omega
 refine aV.cond (λhd=>aV.fV (aV.bind (mW h8 9) λy9 h9=>aV.cond (λhe=>aV.fV (aV.bind (pQ h9 Yq) λeh zG=>aV.ret ⟨⟨ho.2.1,ho.2.2.1,ho.2.2.2,by simp only;omega,vz _ zG.1,by simp only;omega,by simp only;omega⟩,zG.2⟩)) λhe=>aV.ret ⟨⟨ho.2.1,ho.2.2.1,ho.2.2.2,by simp only;omega,by simp only;omega,by simp only;omega,by simp only;omega⟩,h9⟩))
  λhd=>aV.fV (aV.bind (mW h8 9) λy9 h9=>aV.cond (λhe=>aV.fV (aV.bind (pQ h9 Yq) λeh zG=>aV.ret ⟨⟨ho.2.1,ho.2.2.1,ho.2.2.2,by simp only;omega,vz _ zG.1,by simp only;omega,by simp only;omega⟩,zG.2⟩)) λhe=>aV.ret ⟨⟨ho.2.1,ho.2.2.1,ho.2.2.2,by simp only;omega,by simp only;omega,by simp only;omega,by simp only;omega⟩,h9⟩)
structure tD(n:ah):Prop where
 len:1<=n.aA.length/\n.aA.length<=14
 bH:∀l∈n.aA,BQ l
 off:n.off=[]\/∃a b:Int,n.off=[a,b]/\0<=a/\a<b/\b<=60
 change:0<=n.change/\n.change<=240
theorem ZaF{c:bj}(h:dv c):aV (mO c 7) λr=>tD r.1/\dv r.2:=by
 unfold mO;refine aV.fV (aV.bind (bJ h 9) λy1 h1=>aV.fV (aV.bind (bJ h1.2 7) λy2 h2=>?_))
 have b1:=h1.1.2.1 Yn;have b2:=h2.1.2.1 Yn;have w1:aM (1+y2.1)=1+y2.1:=aR Yn;have St:aV (aE (mA 7 y1) NN (aM (1+y2.1),y2.2.b,y2.2.i,y2.2.h,[])) λo=>dv ⟨o.1,o.2.1,o.2.2.1⟩/\1<=o.2.2.2.length/\o.2.2.2.length<=14/\∀l∈o.2.2.2,BQ l:=by
  refine aV.loop (λk s=>s.1=(k:Int)/\k<=7/\dv ⟨s.2.1,s.2.2.1,s.2.2.2.1⟩/\s.2.2.2.2.length+2*k<=14/\(k=0->1<=s.2.2.2.2.length)/\∀l∈s.2.2.2.2,BQ l) (λk s hs=>?_) NN (1+y2.1).toNat _ ⟨by rw[w1];omega,Yn,h2.2,by simp only[V1];omega,λhk=>Yn,λl hl=>by cases hl⟩ Ys
  obtain⟨k1,k2,k3,k4,k5,k6⟩:=hs;unfold mA;refine aV.cond (λhc=>?_) λhc=>aV.ret ⟨k3,k5 (by have:=Yi hc;omega),by simp only;omega,k6⟩
  have hk:=Yh hc;have hw:aM (s.1-1)=((k-1:Nat):Int):=by rw[aR Yn];omega
  refine aV.fV (aV.bind (ZaA k3) λy3 h3=>aV.cr (oX YN Yn) (aV.fV (aV.bind (mW h3.2 3) λy4 h4=>?_)))
  have tr:∀l∈s.2.2.2.2++[y3.1],BQ l:=λl hl=>by
   rcases Wi.1 hl with hl|hl
   ·exact k6 l hl
   ·obtain rfl:=Wh.1 hl;exact h3.1
  have hlen:(s.2.2.2.2++[y3.1]).length=s.2.2.2.2.length+1:=by simp
  have one:aV (YW (Sum.inl (aM (s.1-1),y4.2.b,y4.2.i,y4.2.h,s.2.2.2.2++[y3.1])):Option ((Int×List Y6×Int×Int×List bP)⊕(List Y6×Int×Int×List bP)))
   (uT (λk s=>s.1=(k:Int)/\k<=7/\dv ⟨s.2.1,s.2.2.1,s.2.2.2.1⟩/\s.2.2.2.2.length+2*k<=14/\(k=0->1<=s.2.2.2.2.length)/\∀l∈s.2.2.2.2,BQ l) (λo=>dv ⟨o.1,o.2.1,o.2.2.1⟩/\1<=o.2.2.2.length/\o.2.2.2.length<=14/\∀l∈o.2.2.2,BQ l) k):=aV.ret ⟨k-1,Yn,hw,Yn,h4,by simp only[hlen];omega,λ_=>by simp only[hlen];omega,tr⟩
  refine aV.cond (λhd=>aV.cond (λhe=>?_) λhe=>one) λhd=>one
  have UQ:aM (((s.2.2.2.2++[y3.1]).length:Int)-1)=(s.2.2.2.2.length:Int):=by rw[hlen,aR Yn];omega
  have wT:aB (s.2.2.2.2++[y3.1]) (s.2.2.2.2.length:Int)=YW y3.1:=by rw[aP,List.getElem?_append_right (Nat.le_refl _)];simp
  rw[UQ,wT];simp only[Option.bind_some];refine aV.drw (aV.fV (aV.bind (bJ h4 20) λy7 h7=>aV.cr (oX (by simp only[V0,V1,hlen];omega) Yn) (aV.ret ⟨k-1,Yn,hw,Yn,h7.2,?_,λ_=>?_,λl hl=>?_⟩)))
  ·simp only[VZ,V0,V1];omega
  ·simp only[VZ,V0,V1];omega
  ·rcases Wi.1 hl with hl|hl
   ·exact tr l hl
   ·obtain rfl:=Wh.1 hl
    obtain⟨a1,a2,a3,a4,a5,a6,a7⟩:=h3.1;have b7:=h7.1.2.1 Yn;have e1:aM (60*y7.1)=60*y7.1:=aR Yn;have e2:aM (y3.1.start+60*y7.1)=y3.1.start+60*y7.1:=aR Yn;refine⟨a2,a1,λe=>a3 e.symm,?_,a5,a6,a7⟩
    simp only[e1,e2];have g1:=X1 1440 (show 0<=y3.1.start+60*y7.1 by omega)
    have g2:=XJ (y3.1.start+60*y7.1) (show(0:Int)<1440 by omega)
    omega
 refine aV.bind St λo ho=>aV.fV (aV.bind (mW ho.1 2) λy8 h8=>?_)
 have w2:aM (15*y1.1)=15*y1.1:=aR Yn;simp only[w2];refine aV.cond (λhd=>aV.fV (aV.bind (bJ h8 3) λy9 h9=>aV.fV (aV.bind (bJ h9.2 4) λeh zG=>?_))) λhd=>aV.ret ⟨⟨⟨ho.2.1,ho.2.2.1⟩,ho.2.2.2,.inl rfl,by simp only;omega⟩,h8⟩
 have b9:=h9.1.2.1 Yn;have b10:=zG.1.2.1 Yn;have w3:aM (3+eh.1)=3+eh.1:=aR Yn;exact aV.ret ⟨⟨⟨ho.2.1,ho.2.2.1⟩,ho.2.2.2,.inr ⟨_,_,rfl,Yn,Yn,Yn⟩,by simp only;omega⟩,zG.2⟩
theorem ZaH{code:List Y6}(hl:code.length<=4096)(hb:∀x∈code,0<=x.v/\x.v<=255):aV (oO code) dv:=by
 unfold oO;refine aV.bind (P:=λ_=>True) ?_ λo _=>aV.ret ⟨by simp,hl,hb⟩
 refine aV.loop (λk s=>∃i:Nat,s.2=(i:Int)/\i+k=code.length) (λk s hs=>?_) NN code.length _ ⟨0,rfl,Yn⟩ Ys
 obtain⟨i,hi,hk⟩:=hs;unfold qJ;rw[hi];refine aV.cond (λhc=>aV.cond (λhd=>?_) λhd=>aV.ret trivial) λhc=>aV.ret trivial
 have bX:=Yh hc;exact aV.get Yn bX λx hx _=>aV.ret ⟨k-1,Yn,i+1,by simp only;rw[aR Yn];omega,Yn⟩
def dm(n:ah)(fG:Int)(first:Bool):Option Int:=
 cond first
 (YW fG)
 (YW (aM (fG+n.change)))
instance (n:ah)(fG:Int)(first:Bool):CT prog (dm n fG first):=⟨379,[.ag (bB n),vi fG,vb first],[],λr=>vi r,λr=>[],cw (dm.eq_1 ..) func379 ntmps379 results379⟩
def cQ(n:ah)(l:List aq)(ae:List av)(bH:Int)(lj:Int)(ab:Int)(s0:Int):Option (Int⊕(Unit⊕Int)):=
 cond (Y0 (s0<=60))
 ((cJ n bH s0).bind λy1=>
 cond y1
 ((bt n (⟨bH,s0⟩:av)).bind λy2=>
 cond (Y0 (lj<=y2))
 ((dB ae (⟨bH,s0⟩:av)).bind λy3=>
 cond (!y3)
 ((aB n.aA bH).bind λy4=>
 (dO l (⟨bH,s0⟩:av)).bind λy5=>
 cond (Y0 (ab<=(aM (y4.jk-y5))))
 (YW (.inr (.inr s0)))
 (YW (.inl (aM (s0+1)))))
 (YW (.inl (aM (s0+1)))))
 (YW (.inl (aM (s0+1)))))
 (YW (.inl (aM (s0+1)))))
 (YW (.inr (.inl ())))
instance (n:ah)(l:List aq)(ae:List av)(bH:Int)(lj:Int)(ab:Int):bp (cQ n l ae bH lj ab):=⟨λs0=>(.un::.sl (l.map aC)::.sl (ae.map aU)::vi bH::vi lj::vi ab::.be 0 0 0::(U 6 (vi s0::(U 40 [])))),λs0=>[YW ⟨.of 27,3,[[.sl (n.aA.map bo),.sl (n.off.map aG),vi n.change]]⟩]⟩
def cO(n:ah)(l:List aq)(ae:List av)(bH:Int)(lj:Int)(ab:Int):Option Int:=
 (aE (cQ n l ae bH lj ab) NN 0).bind (bh (λo0=>
 YW (-1)) (λr=>YW r))
instance (n:ah)(l:List aq)(ae:List av)(bH:Int)(lj:Int)(ab:Int):CT prog (cO n l ae bH lj ab):=⟨378,[.ag (bB n),.sl (l.map aC),.sl (ae.map aU),vi bH,vi lj,vi ab],[],λr=>vi r,λr=>[],cw (cO.eq_1 ..) func378 ntmps378 results378⟩
def eG(n:ah)(l:List aq)(ae:List av)(ab:Int)(places:List ByteArray)(ia:List Int)(ni:Int)(s0:Int×(List Int)):Option ((Int×(List Int))⊕(List Int)):=
 cond (Y0 (s0.1<(n.aA.length:Int)))
 ((aB n.aA s0.1).bind λy2=>
 (cb places y2.ar).bind λy3=>
 (aB n.aA s0.1).bind λy4=>
 (cb places y4.aY).bind λy5=>
 (aB ia y3).bind λy6=>
 cond (Y0 (y6<0))
 (YW (.inl ((aM (s0.1+1)),s0.2)))
 ((aB ia y3).bind λy7=>
 (dm n y7 (Y0 (y3=ni))).bind λy8=>
 (cO n l ae s0.1 y8 ab).bind λy9=>
 cond (Y0 (y9<0))
 (YW (.inl ((aM (s0.1+1)),s0.2)))
 ((bm n (⟨s0.1,y9⟩:av)).bind λeh=>
 (aB s0.2 y5).bind λlr=>
 cond (Y0 (lr<0))
 ((aB s0.2 y5).bind λoV=>
 YW (.inl ((aM (s0.1+1)),(s0.2.set (Wm y5) eh))))
 ((aB s0.2 y5).bind λoD=>
 cond (Y0 (eh<oD))
 ((aB s0.2 y5).bind λnF=>
 YW (.inl ((aM (s0.1+1)),(s0.2.set (Wm y5) eh))))
 (YW (.inl ((aM (s0.1+1)),s0.2)))))))
 (YW (.inr s0.2))
instance (n:ah)(l:List aq)(ae:List av)(ab:Int)(places:List ByteArray)(ia:List Int)(ni:Int):bp (eG n l ae ab places ia ni):=⟨λs0=>(.un::.sl (l.map aC)::.sl (ae.map aU)::vi ab::.sl (places.map iU)::.sl (ia.map aG)::vi ni::.be 0 0 0::(U 7 (.ms 1::vi s0.1::(U 74 [])))),λs0=>[YW ⟨.of 27,3,[[.sl (n.aA.map bo),.sl (n.off.map aG),vi n.change]]⟩,YW ⟨.of 3,1,s0.2.map aG⟩]⟩
def eD(n:ah)(l:List aq)(ae:List av)(ab:Int)(places:List ByteArray)(ia:List Int)(ni:Int):Option (List Int):=
 (eF ia).bind λy1=>
 (aE (eG n l ae ab places ia ni) NN (0,y1)).bind (λo0=>
 YW o0)
instance (n:ah)(l:List aq)(ae:List av)(ab:Int)(places:List ByteArray)(ia:List Int)(ni:Int):CT prog (eD n l ae ab places ia ni):=⟨377,[.ag (bB n),.sl (l.map aC),.sl (ae.map aU),vi ab,.sl (places.map iU),.sl (ia.map aG),vi ni],[],λr=>.ms 0,λr=>[YW ⟨.of 3,1,r.map aG⟩],cw (eD.eq_1 ..) func377 ntmps377 results377⟩
def ji(n:ah)(l:List aq)(ae:List av)(ab:Int)(places:List ByteArray)(before:List Int)(ni:Int)(aY:Int)(ends:Int)(s0:Int):Option (Int⊕(Unit⊕av)):=
 cond (Y0 (s0<(n.aA.length:Int)))
 ((aB n.aA s0).bind λy1=>
 (cb places y1.ar).bind λy2=>
 (aB n.aA s0).bind λy3=>
 (aB places aY).bind λy4=>
 cond (!decide (y3.aY=y4))
 (YW (.inl (aM (s0+1))))
 ((aB before y2).bind λy5=>
 cond (Y0 (y5<0))
 (YW (.inl (aM (s0+1))))
 ((aB before y2).bind λy6=>
 (dm n y6 (Y0 (y2=ni))).bind λy7=>
 (cO n l ae s0 y7 ab).bind λy8=>
 cond (Y0 (0<=y8))
 ((bm n (⟨s0,y8⟩:av)).bind λy9=>
 cond (Y0 (y9=ends))
 (YW (.inr (.inr (⟨s0,y8⟩:av))))
 (YW (.inl (aM (s0+1)))))
 (YW (.inl (aM (s0+1)))))))
 (YW (.inr (.inl ())))
instance (n:ah)(l:List aq)(ae:List av)(ab:Int)(places:List ByteArray)(before:List Int)(ni:Int)(aY:Int)(ends:Int):bp (ji n l ae ab places before ni aY ends):=⟨λs0=>(.un::.sl (l.map aC)::.sl (ae.map aU)::vi ab::.sl (places.map iU)::.sl (before.map aG)::vi ni::vi aY::vi ends::.be 0 0 0::(U 8 (.be 1 0 0::vi s0::(U 64 [])))),λs0=>[YW ⟨.of 27,3,[[.sl (n.aA.map bo),.sl (n.off.map aG),vi n.change]]⟩,YW ⟨.of 46,2,[[vi 0,vi 0]]⟩]⟩
def pG(n:ah)(l:List aq)(ae:List av)(ab:Int)(places:List ByteArray)(before:List Int)(ni:Int)(aY:Int)(ends:Int):Option av:=
 (aE (ji n l ae ab places before ni aY ends) NN 0).bind (bh (λo0=>
 YW (⟨0,0⟩:av)) (λr=>YW r))
instance (n:ah)(l:List aq)(ae:List av)(ab:Int)(places:List ByteArray)(before:List Int)(ni:Int)(aY:Int)(ends:Int):CT prog (pG n l ae ab places before ni aY ends):=⟨349,[.ag (bB n),.sl (l.map aC),.sl (ae.map aU),vi ab,.sl (places.map iU),.sl (before.map aG),vi ni,vi aY,vi ends],[],λr=>.ag [vi r.bH,vi r.day],λr=>[],cw (pG.eq_1 ..) func349 ntmps349 results349⟩
def ks(n:ah)(bH:Int)(mY:Int)(s0:Int):Option (Int⊕(Unit⊕Int)):=
 cond (Y0 (s0<=60))
 ((cJ n bH s0).bind λy1=>
 cond y1
 ((bt n (⟨bH,s0⟩:av)).bind λy2=>
 cond (Y0 (mY<=y2))
 (YW (.inr (.inr s0)))
 (YW (.inl (aM (s0+1)))))
 (YW (.inl (aM (s0+1)))))
 (YW (.inr (.inl ())))
instance (n:ah)(bH:Int)(mY:Int):bp (ks n bH mY):=⟨λs0=>(.un::vi bH::vi mY::.be 0 0 0::(U 3 (vi s0::(U 18 [])))),λs0=>[YW ⟨.of 27,3,[[.sl (n.aA.map bo),.sl (n.off.map aG),vi n.change]]⟩]⟩
def km(n:ah)(bH:Int)(mY:Int):Option Int:=
 (aE (ks n bH mY) NN 0).bind (bh (λo0=>
 YW (-1)) (λr=>YW r))
instance (n:ah)(bH:Int)(mY:Int):CT prog (km n bH mY):=⟨234,[.ag (bB n),vi bH,vi mY],[],λr=>vi r,λr=>[],cw (km.eq_1 ..) func234 ntmps234 results234⟩
def oA(n:ah)(places:List ByteArray)(ia:List Int)(fw:Int)(s0:Int×(List Int)):Option ((Int×(List Int))⊕(List Int)):=
 cond (Y0 (s0.1<(n.aA.length:Int)))
 ((aB n.aA s0.1).bind λy2=>
 (cb places y2.ar).bind λy3=>
 (aB n.aA s0.1).bind λy4=>
 (cb places y4.aY).bind λy5=>
 (aB ia y3).bind λy6=>
 cond (Y0 (y6<0))
 (YW (.inl ((aM (s0.1+1)),s0.2)))
 ((aB ia y3).bind λy7=>
 (dm n y7 (Y0 (y3=fw))).bind λy8=>
 (km n s0.1 y8).bind λy9=>
 cond (Y0 (y9<0))
 (YW (.inl ((aM (s0.1+1)),s0.2)))
 ((bm n (⟨s0.1,y9⟩:av)).bind λeh=>
 (aB s0.2 y5).bind λlr=>
 cond (Y0 (lr<0))
 ((aB s0.2 y5).bind λoV=>
 YW (.inl ((aM (s0.1+1)),(s0.2.set (Wm y5) eh))))
 ((aB s0.2 y5).bind λoD=>
 cond (Y0 (eh<oD))
 ((aB s0.2 y5).bind λnF=>
 YW (.inl ((aM (s0.1+1)),(s0.2.set (Wm y5) eh))))
 (YW (.inl ((aM (s0.1+1)),s0.2)))))))
 (YW (.inr s0.2))
instance (n:ah)(places:List ByteArray)(ia:List Int)(fw:Int):bp (oA n places ia fw):=⟨λs0=>(.un::.sl (places.map iU)::.sl (ia.map aG)::vi fw::.be 0 0 0::(U 4 (.ms 1::vi s0.1::(U 71 [])))),λs0=>[YW ⟨.of 27,3,[[.sl (n.aA.map bo),.sl (n.off.map aG),vi n.change]]⟩,YW ⟨.of 3,1,s0.2.map aG⟩]⟩
def oR(n:ah)(places:List ByteArray)(ia:List Int)(fw:Int):Option (List Int):=
 (eF ia).bind λy1=>
 (aE (oA n places ia fw) NN (0,y1)).bind (λo0=>
 YW o0)
instance (n:ah)(places:List ByteArray)(ia:List Int)(fw:Int):CT prog (oR n places ia fw):=⟨390,[.ag (bB n),.sl (places.map iU),.sl (ia.map aG),vi fw],[],λr=>.ms 0,λr=>[YW ⟨.of 3,1,r.map aG⟩],cw (oR.eq_1 ..) func390 ntmps390 results390⟩
def rA(n:ah):Option ah:=
 YW (n)
instance (n:ah):CT prog (rA n):=⟨322,[.ag (bB n)],[],λr=>.fn 366 [.rp [.sl (r.aA.map bo),.sl (r.off.map aG),vi r.change]],λr=>[],cw (rA.eq_1 ..) func322 ntmps322 results322⟩
theorem qz:∀p∈rV,bV p=YW YY/\p.size=3:=λp hp=>by
 unfold rV at hp
 simp only[V5,V4,or_false]at hp
 rcases hp with rfl|rfl|rfl|rfl|rfl|rfl|rfl<;>exact⟨by decide +kernel,by decide +kernel⟩
def cB(c:bj)(n:ah):Option (ByteArray×bj):=
 (dh n).bind λy1=>
 (bq [0]).bind λ_=>
 (cA c 9).bind λy2=>
 cond y2.1
 ((bq [0]).bind λ_=>
 (fD y2.2).bind λy3=>
 YW (y3.1,y3.2))
 ((bq [0]).bind λ_=>
 (ay y2.2 (y1.length:Int)).bind λy4=>
 (aB y1 y4.1).bind λy5=>
 YW (y5,y4.2))
instance (c:bj)(n:ah):CT prog (cB c n):=⟨112,[.be 0 0 0,.ag (bB n)],[YW ⟨.of 119,3,[[.sl (c.b.map Y5),vi c.i,vi c.h]]⟩],λr=>vs r.1,λr=>[YW ⟨.of 119,3,[[.sl (r.2.b.map Y5),vi r.2.i,vi r.2.h]]⟩],cw (cB.eq_1 ..) func112 ntmps112 results112⟩
def kp(c:bj)(n:ah):Option (av×bj):=
 (bq [0]).bind λ_=>
 (ay c (n.aA.length:Int)).bind λy1=>
 (bq [0]).bind λ_=>
 (ay y1.2 10).bind λy2=>
 (km n y1.1 (aM (y2.1*1440))).bind λy3=>
 cond (Y0 (0<=y3))
 ((bq [0]).bind λ_=>
 (cA y2.2 4).bind λy4=>
 cond (!y4.1)
 (YW ((⟨y1.1,y3⟩:av),y4.2))
 (YW ((⟨y1.1,y2.1⟩:av),y4.2)))
 (YW ((⟨y1.1,y2.1⟩:av),y2.2))
instance (c:bj)(n:ah):CT prog (kp c n):=⟨184,[.be 0 0 0,.ag (bB n)],[YW ⟨.of 119,3,[[.sl (c.b.map Y5),vi c.i,vi c.h]]⟩],λr=>.ag [vi r.1.bH,vi r.1.day],λr=>[YW ⟨.of 119,3,[[.sl (r.2.b.map Y5),vi r.2.i,vi r.2.h]]⟩],cw (kp.eq_1 ..) func184 ntmps184 results184⟩
def dy(c:bj)(w:ax):Option (av×bj):=
 cond (Y0 (0<(w.au.length:Int)))
 ((bq [0]).bind λ_=>
 (cA c 4).bind λy1=>
 cond (!y1.1)
 ((oe 8 [6]).bind λ_=>
 (bq [0]).bind λ_=>
 (ay y1.2 (w.au.length:Int)).bind λy2=>
 (aB w.au y2.1).bind λy3=>
 YW (y3.bk,y2.2))
 ((bq [0]).bind λ_=>
 (kp y1.2 w.aa).bind λy4=>
 YW (y4.1,y4.2)))
 ((bq [0]).bind λ_=>
 (kp c w.aa).bind λy5=>
 YW (y5.1,y5.2))
instance (c:bj)(w:ax):CT prog (dy c w):=⟨115,[.be 0 0 0,.ag (gK w)],[YW ⟨.of 119,3,[[.sl (c.b.map Y5),vi c.i,vi c.h]]⟩],λr=>.ag [vi r.1.bH,vi r.1.day],λr=>[YW ⟨.of 119,3,[[.sl (r.2.b.map Y5),vi r.2.i,vi r.2.h]]⟩],cw (dy.eq_1 ..) func115 ntmps115 results115⟩
def lY(c:bj):Option (bl×bj):=
 (bq [0]).bind λ_=>
 (ay c 3).bind λy1=>
 (bq [0]).bind λ_=>
 (ay y1.2 1000).bind λy2=>
 (bq [0]).bind λ_=>
 (fD y2.2).bind λy3=>
 (bq [0]).bind λ_=>
 (cA y3.2 3).bind λy4=>
 cond y4.1
 ((bq [0,3]).bind λ_=>
 (bW y4.2 ([0,7,999999999,100000000,123456789])).bind λy5=>
 YW ((⟨(aM (1+y1.1)),y5.1,y3.1⟩:bl),y5.2.1))
 (YW ((⟨(aM (1+y1.1)),y2.1,y3.1⟩:bl),y4.2))
instance (c:bj):CT prog (lY c):=⟨128,[.be 0 0 0],[YW ⟨.of 119,3,[[.sl (c.b.map Y5),vi c.i,vi c.h]]⟩],λr=>.ag [vi r.1.aw,vi r.1.bO,vs r.1.aY],λr=>[YW ⟨.of 119,3,[[.sl (r.2.b.map Y5),vi r.2.i,vi r.2.h]]⟩],cw (lY.eq_1 ..) func128 ntmps128 results128⟩
def lZ(c:bj):Option ((List Int)×bj):=
 (bq [0]).bind λ_=>
 (ay c 600).bind λy1=>
 (bq [0]).bind λ_=>
 (ay y1.2 400).bind λy2=>
 (bq [0]).bind λ_=>
 (ay y2.2 300).bind λy3=>
 YW ([(aM (1+y1.1)),(aM (1+y2.1)),(aM (1+y3.1))],y3.2)
instance (c:bj):CT prog (lZ c):=⟨130,[.be 0 0 0],[YW ⟨.of 119,3,[[.sl (c.b.map Y5),vi c.i,vi c.h]]⟩],λr=>.ms 1,λr=>[YW ⟨.of 119,3,[[.sl (r.2.b.map Y5),vi r.2.i,vi r.2.h]]⟩,YW ⟨.of 3,1,r.1.map aG⟩],cw (lZ.eq_1 ..) func130 ntmps130 results130⟩
def de(c:bj):Option (aL×bj):=
 (bq [0]).bind λ_=>
 (lY c).bind λy1=>
 (bq [0]).bind λ_=>
 (fD y1.2).bind λy2=>
 (bq [0]).bind λ_=>
 (ay y2.2 30000).bind λy3=>
 (bq [0]).bind λ_=>
 (lZ y3.2).bind λy4=>
 (bq [0]).bind λ_=>
 (ay y4.2 500001).bind λy5=>
 cond (Y0 (y2.1=y1.1.aY))
 ((bq [0]).bind λ_=>
 (cA y5.2 3).bind λy6=>
 cond y6.1
 ((bq [0,4]).bind λ_=>
 (bW y6.2 ([1,500,1000,1001,5000,30000])).bind λy7=>
 YW ((⟨y1.1,⟨#[79,83,76]⟩,y7.1,y4.1,y5.1⟩:aL),y7.2.1))
 (YW ((⟨y1.1,⟨#[79,83,76]⟩,(aM (1+y3.1)),y4.1,y5.1⟩:aL),y6.2)))
 ((bq [0]).bind λ_=>
 (cA y5.2 3).bind λy8=>
 cond y8.1
 ((bq [0,4]).bind λ_=>
 (bW y8.2 ([1,500,1000,1001,5000,30000])).bind λy9=>
 YW ((⟨y1.1,y2.1,y9.1,y4.1,y5.1⟩:aL),y9.2.1))
 (YW ((⟨y1.1,y2.1,(aM (1+y3.1)),y4.1,y5.1⟩:aL),y8.2)))
instance (c:bj):CT prog (de c):=⟨66,[.be 0 0 0],[YW ⟨.of 119,3,[[.sl (c.b.map Y5),vi c.i,vi c.h]]⟩],λr=>.ag [vi r.1.label.aw,vi r.1.label.bO,vs r.1.label.aY,vs r.1.ar,vi r.1.ab,.sl (r.1.bE.map aG),vi r.1.value],λr=>[YW ⟨.of 119,3,[[.sl (r.2.b.map Y5),vi r.2.i,vi r.2.h]]⟩],cw (de.eq_1 ..) func66 ntmps66 results66⟩
def iR(c:bj):Option ((List Int)×bj):=
 (bq [0]).bind λ_=>
 (ay c 5).bind λy1=>
 cond (Y0 (y1.1=0))
 (YW ([25,50,100],y1.2))
 (cond (Y0 (y1.1=1))
 (YW ([10],y1.2))
 (cond (Y0 (y1.1=2))
 (YW ([0,100],y1.2))
 (cond (Y0 (y1.1=3))
 (YW ([0],y1.2))
 (cond (Y0 (y1.1=4))
 (YW ([1,1,2,3,50,100],y1.2))
 (YX)))))
instance (c:bj):CT prog (iR c):=⟨103,[.be 0 0 0],[YW ⟨.of 119,3,[[.sl (c.b.map Y5),vi c.i,vi c.h]]⟩],λr=>.sl (r.1.map aG),λr=>[YW ⟨.of 119,3,[[.sl (r.2.b.map Y5),vi r.2.i,vi r.2.h]]⟩],cw (iR.eq_1 ..) func103 ntmps103 results103⟩
def mo(a:List bP)(b:List bP)(s0:Int):Option (Int⊕(Unit⊕Bool)):=
 cond (Y0 (s0<(a.length:Int)))
 ((aB a s0).bind λy1=>
 (aB b s0).bind λy2=>
 cond (!decide (y1=y2))
 (YW (.inr (.inr YZ)))
 (YW (.inl (aM (s0+1)))))
 (YW (.inr (.inl ())))
instance (a:List bP)(b:List bP):bp (mo a b):=⟨λs0=>(.sl (a.map bo)::.sl (b.map bo)::(U 10 (vi (a.length:Int)::vi s0::(U 12 [])))),λs0=>[]⟩
def iP(a:List bP)(b:List bP):Option Bool:=
 cond (!decide ((a.length:Int)=(b.length:Int)))
 (YW YZ)
 ((aE (mo a b) NN 0).bind (bh (λo0=>
 YW YY) (λr=>YW r)))
instance (a:List bP)(b:List bP):CT prog (iP a b):=⟨81,[.sl (a.map bo),.sl (b.map bo)],[],λr=>vb r,λr=>[],λH=>by replace H:=H0 H;unfold iP at H;exact js func81 rfl ntmps81 results81 λQ hQ IP=>KJ⟩
def ln(a:List br)(b:List br)(s0:Int):Option (Int⊕(Unit⊕Bool)):=
 cond (Y0 (s0<(a.length:Int)))
 ((aB a s0).bind λy1=>
 (aB b s0).bind λy2=>
 cond (!decide (y1=y2))
 (YW (.inr (.inr YZ)))
 (YW (.inl (aM (s0+1)))))
 (YW (.inr (.inl ())))
instance (a:List br)(b:List br):bp (ln a b):=⟨λs0=>(.sl (a.map bw)::.sl (b.map bw)::(U 10 (vi (a.length:Int)::vi s0::(U 12 [])))),λs0=>[]⟩
def im(a:List br)(b:List br):Option Bool:=
 cond (!decide ((a.length:Int)=(b.length:Int)))
 (YW YZ)
 ((aE (ln a b) NN 0).bind (bh (λo0=>
 YW YY) (λr=>YW r)))
instance (a:List br)(b:List br):CT prog (im a b):=⟨84,[.sl (a.map bw),.sl (b.map bw)],[],λr=>vb r,λr=>[],λH=>by replace H:=H0 H;unfold im at H;exact js func84 rfl ntmps84 results84 λQ hQ IP=>KJ⟩
end Go.Proofs.YtdilaemengjipaaGreatDoor
