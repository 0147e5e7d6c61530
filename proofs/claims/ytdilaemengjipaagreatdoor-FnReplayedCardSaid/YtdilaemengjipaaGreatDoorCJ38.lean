/- A part of the proof of the statement in the last file of this claim: texts on the language of the program and on its functions. No condition. -/
import Derived.Test.YtdilaemengjipaaGreatDoorCJ4
import Derived.Test.YtdilaemengjipaaGreatDoorCJ7
import Derived.Test.YtdilaemengjipaaGreatDoorCJ35
import Derived.Test.YtdilaemengjipaaGreatDoorCJ6
import Derived.Test.YtdilaemengjipaaGreatDoorCJ14
import Derived.Test.YtdilaemengjipaaGreatDoorCJ24
import Derived.Test.YtdilaemengjipaaGreatDoorCJ1
set_option linter.unusedVariables false
set_option linter.unusedSimpArgs false
set_option linter.unusedSectionVars false
open Option renaming some->YW,none->YX
open Bool renaming true->YY,false->YZ
open Decidable renaming decide->Y0
open Go.Proofs.Tryz
set_option maxHeartbeats 40000000
namespace Go.Proofs.YtdilaemengjipaaGreatDoor
set_option maxRecDepth 10000
open Go.RowKit
def fc(o:aF)(a:ba):Option (aF×Int):=
 (dt o).bind λy1=>
 (nL o).bind λy2=>
 cond (!y2)
 (YW (y1,1))
 ((bT a).bind λy3=>
 cond (!y3)
 (YW (y1,1))
 (cond (Y0 (150<=(o.aD.length:Int)))
 (YW (y1,5))
 (cond (Y0 (a.kind=1))
 ((bq [16,3,4,5,6,7,8,9,10,11,12,13,14,15]).bind λ_=>
 (nR y1 a.aJ).bind λy4=>
 cond (!decide (y4.1=0))
 ((dt o).bind λy5=>
 YW (y5,y4.1))
 ((eE a).bind λy6=>
 (cr (bn ((y4.2.aD:List ba).length+([y6]:List ba).length) 136)).bind λ_=>
 YW ((⟨y4.2.world,y4.2.aS,y4.2.aT,y4.2.aI,y4.2.aH,y4.2.lines,((y4.2.aD:List ba)++[y6])⟩:aF),0)))
 (cond (Y0 (a.kind=2))
 (cond (Y0 (a.kind=2))
 ((bq [16,3,4,5,6,7,8,9,10,11,12,13,14,15]).bind λ_=>
 (ko y1 a).bind λy7=>
 cond (!decide (y7.1=0))
 ((dt o).bind λy8=>
 YW (y8,y7.1))
 ((eE a).bind λy9=>
 (cr (bn ((y7.2.aD:List ba).length+([y9]:List ba).length) 136)).bind λ_=>
 YW ((⟨y7.2.world,y7.2.aS,y7.2.aT,y7.2.aI,y7.2.aH,y7.2.lines,((y7.2.aD:List ba)++[y9])⟩:aF),0)))
 ((bq [16,3,4,5,6,7,8,9,10,11,12,13,14,15]).bind λ_=>
 (lz y1 a).bind λeh=>
 cond (!decide (eh.1=0))
 ((dt o).bind λlr=>
 YW (lr,eh.1))
 ((eE a).bind λoV=>
 (cr (bn ((eh.2.aD:List ba).length+([oV]:List ba).length) 136)).bind λ_=>
 YW ((⟨eh.2.world,eh.2.aS,eh.2.aT,eh.2.aI,eh.2.aH,eh.2.lines,((eh.2.aD:List ba)++[oV])⟩:aF),0))))
 (cond (Y0 (a.kind=6))
 ((bq [16,3,4,5,6,7,8,9,10,11,12,13,14,15]).bind λ_=>
 (ko y1 a).bind λoD=>
 cond (!decide (oD.1=0))
 ((dt o).bind λnF=>
 YW (nF,oD.1))
 ((eE a).bind λpZ=>
 (cr (bn ((oD.2.aD:List ba).length+([pZ]:List ba).length) 136)).bind λ_=>
 YW ((⟨oD.2.world,oD.2.aS,oD.2.aT,oD.2.aI,oD.2.aH,oD.2.lines,((oD.2.aD:List ba)++[pZ])⟩:aF),0)))
 ((bq [16,3,4,5,6,7,8,9,10,11,12,13,14,15]).bind λ_=>
 (lz y1 a).bind λod=>
 cond (!decide (od.1=0))
 ((dt o).bind λrP=>
 YW (rP,od.1))
 ((eE a).bind λva=>
 (cr (bn ((od.2.aD:List ba).length+([va]:List ba).length) 136)).bind λ_=>
 YW ((⟨od.2.world,od.2.aS,od.2.aT,od.2.aI,od.2.aH,od.2.lines,((od.2.aD:List ba)++[va])⟩:aF),0))))))))
instance (o:aF)(a:ba):CT prog (fc o a):=⟨8,[.ag (lM o),.ag (cX a)],[],λr=>.tu [.ag [.ms 0,.ms 1,vi r.1.world.aa.change,.ms 2,.ms 3,.ms 4,vi r.1.world.now,.ms 5,.ms 6,vi r.1.world.bg,.ms 7,.ms 8,.ms 9,.ms 10,.ms 11,.ms 12],vi r.2],λr=>[YW ⟨.of 144,6,r.1.world.aa.aA.map bo⟩,YW ⟨.of 3,1,r.1.world.aa.off.map aG⟩,YW ⟨⟨94,YW 46⟩,11,r.1.world.aj.map aZ⟩,YW ⟨.of 147,4,r.1.world.au.map aC⟩,YW ⟨.of 46,2,r.1.world.ae.map aU⟩,YW ⟨.of 151,6,r.1.world.aN.map bw⟩,YW ⟨.of 3,1,r.1.world.skip.map aG⟩,YW ⟨.of 78,2,r.1.aS.map cG⟩,YW ⟨.of 81,4,r.1.aT.map cy⟩,YW ⟨.of 3,1,r.1.aI.map aG⟩,YW ⟨⟨44,YW 3⟩,7,r.1.aH.map bA⟩,YW ⟨.of 85,4,r.1.lines.map bK⟩,YW ⟨⟨48,YW 3⟩,13,r.1.aD.map cX⟩],ck (fc.eq_1 ..) func8 ntmps8 results8⟩
def dK(l:List ba)(s0:Int×Int×Int×Int×Int×(List bP)×(List Int)×(List az)×(List aq)×(List av)×(List br)×(List Int)×(List ct)×(List bF)×(List Int)×(List aL)×(List bc)×(List ba)):Option ((Int×Int×Int×Int×Int×(List bP)×(List Int)×(List az)×(List aq)×(List av)×(List br)×(List Int)×(List ct)×(List bF)×(List Int)×(List aL)×(List bc)×(List ba))⊕(Int×Int×Int×Int×(List bP)×(List Int)×(List az)×(List aq)×(List av)×(List br)×(List Int)×(List ct)×(List bF)×(List Int)×(List aL)×(List bc)×(List ba))):=
 cond (Y0 (s0.2.1<((cM l 0 (if 150<(l.length:Int)then 150 else(l.length:Int))).length:Int)))
 ((aB (cM l 0 (if 150<(l.length:Int)then 150 else(l.length:Int))) s0.2.1).bind λy2=>
 (fc (⟨(⟨(⟨s0.2.2.2.2.2.1,s0.2.2.2.2.2.2.1,s0.2.2.1⟩:ah),s0.2.2.2.2.2.2.2.1,s0.2.2.2.2.2.2.2.2.1,s0.2.2.2.2.2.2.2.2.2.1,s0.2.2.2.1,s0.2.2.2.2.2.2.2.2.2.2.1,s0.2.2.2.2.2.2.2.2.2.2.2.1,s0.2.2.2.2.1⟩:ax),s0.2.2.2.2.2.2.2.2.2.2.2.2.1,s0.2.2.2.2.2.2.2.2.2.2.2.2.2.1,s0.2.2.2.2.2.2.2.2.2.2.2.2.2.2.1,s0.2.2.2.2.2.2.2.2.2.2.2.2.2.2.2.1,s0.2.2.2.2.2.2.2.2.2.2.2.2.2.2.2.2.1,s0.2.2.2.2.2.2.2.2.2.2.2.2.2.2.2.2.2⟩:aF) y2).bind λy3=>
 cond (!decide (y3.2=0))
 (YW (.inr (s0.1,s0.2.2.1,s0.2.2.2.1,s0.2.2.2.2.1,s0.2.2.2.2.2.1,s0.2.2.2.2.2.2.1,s0.2.2.2.2.2.2.2.1,s0.2.2.2.2.2.2.2.2.1,s0.2.2.2.2.2.2.2.2.2.1,s0.2.2.2.2.2.2.2.2.2.2.1,s0.2.2.2.2.2.2.2.2.2.2.2.1,s0.2.2.2.2.2.2.2.2.2.2.2.2.1,s0.2.2.2.2.2.2.2.2.2.2.2.2.2.1,s0.2.2.2.2.2.2.2.2.2.2.2.2.2.2.1,s0.2.2.2.2.2.2.2.2.2.2.2.2.2.2.2.1,s0.2.2.2.2.2.2.2.2.2.2.2.2.2.2.2.2.1,s0.2.2.2.2.2.2.2.2.2.2.2.2.2.2.2.2.2)))
 (YW (.inl ((aM (s0.1+1)),(aM (s0.2.1+1)),y3.1.world.aa.change,y3.1.world.now,y3.1.world.bg,y3.1.world.aa.aA,y3.1.world.aa.off,y3.1.world.aj,y3.1.world.au,y3.1.world.ae,y3.1.world.aN,y3.1.world.skip,y3.1.aS,y3.1.aT,y3.1.aI,y3.1.aH,y3.1.lines,y3.1.aD))))
 (YW (.inr (s0.1,s0.2.2.1,s0.2.2.2.1,s0.2.2.2.2.1,s0.2.2.2.2.2.1,s0.2.2.2.2.2.2.1,s0.2.2.2.2.2.2.2.1,s0.2.2.2.2.2.2.2.2.1,s0.2.2.2.2.2.2.2.2.2.1,s0.2.2.2.2.2.2.2.2.2.2.1,s0.2.2.2.2.2.2.2.2.2.2.2.1,s0.2.2.2.2.2.2.2.2.2.2.2.2.1,s0.2.2.2.2.2.2.2.2.2.2.2.2.2.1,s0.2.2.2.2.2.2.2.2.2.2.2.2.2.2.1,s0.2.2.2.2.2.2.2.2.2.2.2.2.2.2.2.1,s0.2.2.2.2.2.2.2.2.2.2.2.2.2.2.2.2.1,s0.2.2.2.2.2.2.2.2.2.2.2.2.2.2.2.2.2)))
instance (l:List ba):bp (dK l):=⟨λs0=>(U 4 (.be 0 0 0::.un::.be 1 0 0::vi s0.1::(U 10 (.sl ((cM l 0 (if 150<(l.length:Int)then 150 else(l.length:Int))).map cX)::vi ((cM l 0 (if 150<(l.length:Int)then 150 else(l.length:Int))).length:Int)::vi s0.2.1::(U 17 []))))),λs0=>[YW ⟨.of 40,16,[[.v (.slice YX 0 0),.v (.slice YX 0 0),vi 0,.v (.slice YX 0 0),.v (.slice YX 0 0),.v (.slice YX 0 0),vi 0,.v (.slice YX 0 0),.v (.slice YX 0 0),vi 0,.v (.slice YX 0 0),.v (.slice YX 0 0),.v (.slice YX 0 0),.v (.slice YX 0 0),.v (.slice YX 0 0),.v (.slice YX 0 0)]]⟩,YW ⟨.of 40,16,[[.ms 2,.ms 3,vi s0.2.2.1,.ms 4,.ms 5,.ms 6,vi s0.2.2.2.1,.ms 7,.ms 8,vi s0.2.2.2.2.1,.ms 9,.ms 10,.ms 11,.ms 12,.ms 13,.ms 14]]⟩,YW ⟨.of 144,6,s0.2.2.2.2.2.1.map bo⟩,YW ⟨.of 3,1,s0.2.2.2.2.2.2.1.map aG⟩,YW ⟨⟨94,YW 46⟩,11,s0.2.2.2.2.2.2.2.1.map aZ⟩,YW ⟨.of 147,4,s0.2.2.2.2.2.2.2.2.1.map aC⟩,YW ⟨.of 46,2,s0.2.2.2.2.2.2.2.2.2.1.map aU⟩,YW ⟨.of 151,6,s0.2.2.2.2.2.2.2.2.2.2.1.map bw⟩,YW ⟨.of 3,1,s0.2.2.2.2.2.2.2.2.2.2.2.1.map aG⟩,YW ⟨.of 78,2,s0.2.2.2.2.2.2.2.2.2.2.2.2.1.map cG⟩,YW ⟨.of 81,4,s0.2.2.2.2.2.2.2.2.2.2.2.2.2.1.map cy⟩,YW ⟨.of 3,1,s0.2.2.2.2.2.2.2.2.2.2.2.2.2.2.1.map aG⟩,YW ⟨⟨44,YW 3⟩,7,s0.2.2.2.2.2.2.2.2.2.2.2.2.2.2.2.1.map bA⟩,YW ⟨.of 85,4,s0.2.2.2.2.2.2.2.2.2.2.2.2.2.2.2.2.1.map bK⟩,YW ⟨⟨48,YW 3⟩,13,s0.2.2.2.2.2.2.2.2.2.2.2.2.2.2.2.2.2.map cX⟩]⟩
def cL(o:aF)(l:List ba):Option (aF×Int):=
 (dt o).bind λy1=>
 (cr (fJ 0 (if 150<(l.length:Int)then 150 else(l.length:Int)) l.length)).bind λ_=>
 (aE (dK l) NN (0,0,y1.world.aa.change,y1.world.now,y1.world.bg,y1.world.aa.aA,y1.world.aa.off,y1.world.aj,y1.world.au,y1.world.ae,y1.world.aN,y1.world.skip,y1.aS,y1.aT,y1.aI,y1.aH,y1.lines,y1.aD)).bind (λo0=>
 YW ((⟨(⟨(⟨o0.2.2.2.2.1,o0.2.2.2.2.2.1,o0.2.1⟩:ah),o0.2.2.2.2.2.2.1,o0.2.2.2.2.2.2.2.1,o0.2.2.2.2.2.2.2.2.1,o0.2.2.1,o0.2.2.2.2.2.2.2.2.2.1,o0.2.2.2.2.2.2.2.2.2.2.1,o0.2.2.2.1⟩:ax),o0.2.2.2.2.2.2.2.2.2.2.2.1,o0.2.2.2.2.2.2.2.2.2.2.2.2.1,o0.2.2.2.2.2.2.2.2.2.2.2.2.2.1,o0.2.2.2.2.2.2.2.2.2.2.2.2.2.2.1,o0.2.2.2.2.2.2.2.2.2.2.2.2.2.2.2.1,o0.2.2.2.2.2.2.2.2.2.2.2.2.2.2.2.2⟩:aF),o0.1))
instance (o:aF)(l:List ba):CT prog (cL o l):=⟨15,[.ag (lM o),.sl (l.map cX)],[],λr=>.tu [.ag [.ms 0,.ms 1,vi r.1.world.aa.change,.ms 2,.ms 3,.ms 4,vi r.1.world.now,.ms 5,.ms 6,vi r.1.world.bg,.ms 7,.ms 8,.ms 9,.ms 10,.ms 11,.ms 12],vi r.2],λr=>[YW ⟨.of 144,6,r.1.world.aa.aA.map bo⟩,YW ⟨.of 3,1,r.1.world.aa.off.map aG⟩,YW ⟨⟨94,YW 46⟩,11,r.1.world.aj.map aZ⟩,YW ⟨.of 147,4,r.1.world.au.map aC⟩,YW ⟨.of 46,2,r.1.world.ae.map aU⟩,YW ⟨.of 151,6,r.1.world.aN.map bw⟩,YW ⟨.of 3,1,r.1.world.skip.map aG⟩,YW ⟨.of 78,2,r.1.aS.map cG⟩,YW ⟨.of 81,4,r.1.aT.map cy⟩,YW ⟨.of 3,1,r.1.aI.map aG⟩,YW ⟨⟨44,YW 3⟩,7,r.1.aH.map bA⟩,YW ⟨.of 85,4,r.1.lines.map bK⟩,YW ⟨⟨48,YW 3⟩,13,r.1.aD.map cX⟩],ck (cL.eq_1 ..) func15 ntmps15 results15⟩
def ll(a:List bF)(b:List bF)(s0:Int):Option (Int⊕(Unit⊕Bool)):=
 cond (Y0 (s0<(a.length:Int)))
 ((aB a s0).bind λy1=>
 (aB b s0).bind λy2=>
 cond (!decide (y1=y2))
 (YW (.inr (.inr YZ)))
 (YW (.inl (aM (s0+1)))))
 (YW (.inr (.inl ())))
instance (a:List bF)(b:List bF):bp (ll a b):=⟨λs0=>(.sl (a.map cy)::.sl (b.map cy)::(U 10 (vi (a.length:Int)::vi s0::(U 12 [])))),λs0=>[]⟩
def il(a:List bF)(b:List bF):Option Bool:=
 cond (!decide ((a.length:Int)=(b.length:Int)))
 (YW YZ)
 ((aE (ll a b) NN 0).bind (bh (λo0=>
 YW YY) (λr=>YW r)))
instance (a:List bF)(b:List bF):CT prog (il a b):=⟨33,[.sl (a.map cy),.sl (b.map cy)],[],λr=>vb r,λr=>[],λH=>by replace H:=H0 H;unfold il at H;exact js func33 rfl ntmps33 results33 λQ hQ IP=>KJ⟩
end Go.Proofs.YtdilaemengjipaaGreatDoor
