/- A part of the proof of the statement in the last file of this claim: texts on the language of the program and on its functions. No condition. -/
import Derived.Test.YtdilaemengjipaaGreatDoorCA4
import Derived.Test.YtdilaemengjipaaGreatDoorCA9
import Derived.Test.YtdilaemengjipaaGreatDoorCA7
import Derived.Test.YtdilaemengjipaaGreatDoorCA5
import Derived.Test.YtdilaemengjipaaGreatDoorCA8
import Derived.Test.YtdilaemengjipaaGreatDoorCA1
set_option linter.unusedVariables false
set_option linter.unusedSimpArgs false
set_option linter.unusedSectionVars false
open Option renaming some->YH,none->YI
open Bool renaming true->YJ,false->YK
open Decidable renaming decide->YL
open Go.Proofs.Tryz
set_option maxHeartbeats 40000000
namespace Go.Proofs.YtdilaemengjipaaGreatDoor
open List renaming length_cons->VZ,foldl_cons->Wn,range->Wg,map_append->Xw,map_cons->WX,sum_cons->Xl
set_option maxRecDepth 10000
open Go.RowKit
variable {m:List Ln}
def cz(n:aj)(s:bq):Option Bool:=
 (aV n).bind λy1=>
 cond (!y1)
 (YH YK)
 ((bc s.bw 1 9999).bind λy2=>
 cond (!y2)
 (YH YK)
 ((bc s.aP 0 100000).bind λy3=>
 cond (!y3)
 (YH YK)
 (cond (YL (s.kind=1))
 (cond (YL (s.kind=1))
 ((cW n).bind λy4=>
 (ca y4 s.place).bind λy5=>
 cond (YL (0<=y5))
 (YH (YL (s.bj=(⟨0,0⟩:av))))
 (YH YK))
 (cond (YL (s.kind=3))
 (cond (YL (s.place=⟨#[]⟩))
 ((dC n s.bj).bind λy6=>
 cond y6
 ((bp n s.bj).bind λy7=>
 YH (YL (s.aP<=y7)))
 (YH YK))
 (YH YK))
 (cond (YL (s.kind=2))
 (cond (YL (s.place=⟨#[]⟩))
 ((dC n s.bj).bind λy8=>
 cond y8
 ((bl n s.bj).bind λy9=>
 YH (YL (y9<=s.aP)))
 (YH YK))
 (YH YK))
 (YH YK))))
 (cond (YL (s.kind=4))
 ((cW n).bind λdL=>
 (ca dL s.place).bind λji=>
 cond (YL (0<=ji))
 (YH (YL (s.bj=(⟨0,0⟩:av))))
 (YH YK))
 (cond (YL (s.kind=3))
 (cond (YL (s.place=⟨#[]⟩))
 ((dC n s.bj).bind λoX=>
 cond oX
 ((bp n s.bj).bind λmf=>
 YH (YL (s.aP<=mf)))
 (YH YK))
 (YH YK))
 (cond (YL (s.kind=2))
 (cond (YL (s.place=⟨#[]⟩))
 ((dC n s.bj).bind λkX=>
 cond kX
 ((bl n s.bj).bind λpg=>
 YH (YL (pg<=s.aP)))
 (YH YK))
 (YH YK))
 (YH YK)))))))
instance (n:aj)(s:bq):CT prog (cz n s):=⟨216,[.ag (bA n),.ag (bt s)],[],λr=>vb r,λr=>[],cw (cz.eq_1 ..) func216 ntmps216 results216⟩
def fU(w:ax)(s:bq):Option ax:=
 cond (YL (w.bd<1000000000))
 ((jQ w.skip (aI (w.bd+1))).bind λy1=>
 cond (!y1)
 (cond (YL ((w.aH.length:Int)<200))
 ((bW (bm ((w.aH:List bq).length+([s]:List bq).length) 56)).bind λ_=>
 YH (⟨w.aa,w.ae,w.ar,w.ah,w.now,((w.aH:List bq)++[s]),w.skip,(aI (w.bd+1))⟩:ax))
 (YH (⟨w.aa,w.ae,w.ar,w.ah,w.now,w.aH,w.skip,(aI (w.bd+1))⟩:ax)))
 (YH (⟨w.aa,w.ae,w.ar,w.ah,w.now,w.aH,w.skip,(aI (w.bd+1))⟩:ax)))
 ((jQ w.skip w.bd).bind λy2=>
 cond (!y2)
 (cond (YL ((w.aH.length:Int)<200))
 ((bW (bm ((w.aH:List bq).length+([s]:List bq).length) 56)).bind λ_=>
 YH (⟨w.aa,w.ae,w.ar,w.ah,w.now,((w.aH:List bq)++[s]),w.skip,w.bd⟩:ax))
 (YH w))
 (YH w))
instance (w:ax)(s:bq):CT prog (fU w s):=⟨292,[.be 0 0 0,.ag (bt s)],[YH ⟨.of 33,10,[[.ms 1,.ms 2,vi w.aa.change,.ms 3,.ms 4,.ms 5,vi w.now,.ms 6,.ms 7,vi w.bd]]⟩,YH ⟨.of 144,6,w.aa.aA.map bn⟩,YH ⟨.of 3,1,w.aa.off.map aE⟩,YH ⟨.of 94,11,w.ae.map ba⟩,YH ⟨.of 147,4,w.ar.map aC⟩,YH ⟨.of 46,2,w.ah.map aW⟩,YH ⟨.of 151,6,w.aH.map bt⟩,YH ⟨.of 3,1,w.skip.map aE⟩],λr=>.tu [],λr=>[YH ⟨.of 33,10,[[.ms 1,.ms 2,vi r.aa.change,.ms 3,.ms 4,.ms 5,vi r.now,.ms 8,.ms 7,vi r.bd]]⟩,YH ⟨.of 144,6,r.aa.aA.map bn⟩,YH ⟨.of 3,1,r.aa.off.map aE⟩,YH ⟨.of 94,11,r.ae.map ba⟩,YH ⟨.of 147,4,r.ar.map aC⟩,YH ⟨.of 46,2,r.ah.map aW⟩,YI,YH ⟨.of 3,1,r.skip.map aE⟩,YH ⟨.of 151,6,r.aH.map bt⟩],cw (fU.eq_1 ..) func292 ntmps292 results292⟩
def iK(ft:Int)(s0:Int×Int×Int×Int×(List bK)×(List Int)×(List az)×(List aq)×(List av)×(List Int)×(List bq)):Option ((Int×Int×Int×Int×(List bK)×(List Int)×(List az)×(List aq)×(List av)×(List Int)×(List bq))⊕(Int×Int×Int×(List bK)×(List Int)×(List az)×(List aq)×(List av)×(List Int)×(List bq))):=
 cond (YL (s0.1<(s0.2.2.2.2.2.2.1.length:Int)))
 ((aB s0.2.2.2.2.2.2.1 s0.1).bind λy1=>
 cond (!decide (y1.state=2))
 (YH (.inl ((aI (s0.1+1)),s0.2.1,s0.2.2.1,s0.2.2.2.1,s0.2.2.2.2.1,s0.2.2.2.2.2.1,s0.2.2.2.2.2.2.1,s0.2.2.2.2.2.2.2.1,s0.2.2.2.2.2.2.2.2.1,s0.2.2.2.2.2.2.2.2.2.1,s0.2.2.2.2.2.2.2.2.2.2)))
 ((aB y1.aG y1.aN).bind λy2=>
 (bl (⟨s0.2.2.2.2.1,s0.2.2.2.2.2.1,s0.2.1⟩:aj) y2).bind λy3=>
 cond (!decide (y3=ft))
 (YH (.inl ((aI (s0.1+1)),s0.2.1,s0.2.2.1,s0.2.2.2.1,s0.2.2.2.2.1,s0.2.2.2.2.2.1,s0.2.2.2.2.2.2.1,s0.2.2.2.2.2.2.2.1,s0.2.2.2.2.2.2.2.2.1,s0.2.2.2.2.2.2.2.2.2.1,s0.2.2.2.2.2.2.2.2.2.2)))
 ((aB y1.aG y1.aN).bind λy4=>
 (bh [0,1,2,3,4,5,8,7]).bind λ_=>
 (fU (⟨(⟨s0.2.2.2.2.1,s0.2.2.2.2.2.1,s0.2.1⟩:aj),s0.2.2.2.2.2.2.1,s0.2.2.2.2.2.2.2.1,s0.2.2.2.2.2.2.2.2.1,s0.2.2.1,s0.2.2.2.2.2.2.2.2.2.2,s0.2.2.2.2.2.2.2.2.2.1,s0.2.2.2.1⟩:ax) (⟨(aI (s0.1+1)),ft,2,⟨#[]⟩,y4⟩:bq)).bind λy5=>
 (aB y1.aG y1.aN).bind λy6=>
 (aB y5.aa.aA y6.bD).bind λy7=>
 (aB y5.ae s0.1).bind λy8=>
 (aB y5.ae s0.1).bind λy9=>
 (aB y5.ae s0.1).bind λdL=>
 (aB y5.ae s0.1).bind λji=>
 cond (YL (y7.a8=y1.a8))
 ((aB y5.ae s0.1).bind λoX=>
 (aB y5.ae s0.1).bind λmf=>
 (Ds (y5.ae.set (Int.toNat s0.1) (⟨y8.au,y8.a8,y8.ay,y8.ab,y8.aP,y8.dW,y8.aG,(aI (y1.aN+1)),3,y7.a8,ft⟩:az)) (λkX=>(.be 0 0 0::vi ft::.un::.un::vi s0.1::.be 9 0 0::(U 193 []))) (λkX=>[YH ⟨.of 33,10,[[.ms 1,.ms 2,vi y5.aa.change,.ms 3,.ms 4,.ms 5,vi y5.now,.ms 8,.ms 7,vi y5.bd]]⟩,YH ⟨.of 144,6,y5.aa.aA.map bn⟩,YH ⟨.of 3,1,y5.aa.off.map aE⟩,YH ⟨.of 94,11,kX.map ba⟩,YH ⟨.of 147,4,y5.ar.map aC⟩,YH ⟨.of 46,2,y5.ah.map aW⟩,YI,YH ⟨.of 3,1,y5.skip.map aE⟩,YH ⟨.of 151,6,y5.aH.map bt⟩,YH ⟨.of 94,11,[[vs y1.au,vs y1.a8,vi y1.ay,vi y1.ab,vi y1.aP,vi y1.dW,.sl (y1.aG.map aW),vi y1.aN,vi y1.state,vs y1.place,vi y1.bB]]⟩])).bind λkX=>
 (bh [0,1,2,3,4,5,8,7]).bind λ_=>
 (fU (⟨y5.aa,kX,y5.ar,y5.ah,y5.now,y5.aH,y5.skip,y5.bd⟩:ax) (⟨(aI (s0.1+1)),ft,4,y1.a8,(⟨0,0⟩:av)⟩:bq)).bind λpg=>
 YH (.inl ((aI (s0.1+1)),pg.aa.change,pg.now,pg.bd,pg.aa.aA,pg.aa.off,pg.ae,pg.ar,pg.ah,pg.skip,pg.aH)))
 (YH (.inl ((aI (s0.1+1)),y5.aa.change,y5.now,y5.bd,y5.aa.aA,y5.aa.off,(y5.ae.set (Int.toNat s0.1) (⟨y8.au,y8.a8,y8.ay,y8.ab,y8.aP,y8.dW,y8.aG,(aI (y1.aN+1)),1,y7.a8,y8.bB⟩:az)),y5.ar,y5.ah,y5.skip,y5.aH))))))
 (YH (.inr (s0.2.1,s0.2.2.1,s0.2.2.2.1,s0.2.2.2.2.1,s0.2.2.2.2.2.1,s0.2.2.2.2.2.2.1,s0.2.2.2.2.2.2.2.1,s0.2.2.2.2.2.2.2.2.1,s0.2.2.2.2.2.2.2.2.2.1,s0.2.2.2.2.2.2.2.2.2.2)))
instance (ft:Int):bo (iK ft):=⟨λs0=>(.be 0 0 0::vi ft::.un::.un::vi s0.1::(U 194 [])),λs0=>[YH ⟨.of 33,10,[[.ms 1,.ms 2,vi s0.2.1,.ms 3,.ms 4,.ms 5,vi s0.2.2.1,.ms 8,.ms 7,vi s0.2.2.2.1]]⟩,YH ⟨.of 144,6,s0.2.2.2.2.1.map bn⟩,YH ⟨.of 3,1,s0.2.2.2.2.2.1.map aE⟩,YH ⟨.of 94,11,s0.2.2.2.2.2.2.1.map ba⟩,YH ⟨.of 147,4,s0.2.2.2.2.2.2.2.1.map aC⟩,YH ⟨.of 46,2,s0.2.2.2.2.2.2.2.2.1.map aW⟩,YI,YH ⟨.of 3,1,s0.2.2.2.2.2.2.2.2.2.1.map aE⟩,YH ⟨.of 151,6,s0.2.2.2.2.2.2.2.2.2.2.map bt⟩]⟩
def iL(ft:Int)(s1:Int×Int×Int×Int×(List bK)×(List Int)×(List az)×(List aq)×(List av)×(List Int)×(List bq)):Option ((Int×Int×Int×Int×(List bK)×(List Int)×(List az)×(List aq)×(List av)×(List Int)×(List bq))⊕(Int×Int×Int×(List bK)×(List Int)×(List az)×(List aq)×(List av)×(List Int)×(List bq))):=
 cond (YL (s1.1<(s1.2.2.2.2.2.2.1.length:Int)))
 ((aB s1.2.2.2.2.2.2.1 s1.1).bind λmu=>
 cond (YL (mu.state=1))
 (cond (YL (mu.aN<(mu.aG.length:Int)))
 ((aB mu.aG mu.aN).bind λrn=>
 (bp (⟨s1.2.2.2.2.1,s1.2.2.2.2.2.1,s1.2.1⟩:aj) rn).bind λsi=>
 cond (YL (si=ft))
 ((aB s1.2.2.2.2.2.2.1 s1.1).bind λvH=>
 (aB s1.2.2.2.2.2.2.1 s1.1).bind λAJ=>
 (Ds (s1.2.2.2.2.2.2.1.set (Int.toNat s1.1) (⟨vH.au,vH.a8,vH.ay,vH.ab,vH.aP,vH.dW,vH.aG,vH.aN,2,⟨#[]⟩,vH.bB⟩:az)) (λxp=>(.be 0 0 0::vi ft::(U 4 (vi s1.1::.be 9 0 0::(U 191 []))))) (λxp=>[YH ⟨.of 33,10,[[.ms 1,.ms 2,vi s1.2.1,.ms 3,.ms 4,.ms 5,vi s1.2.2.1,.ms 8,.ms 7,vi s1.2.2.2.1]]⟩,YH ⟨.of 144,6,s1.2.2.2.2.1.map bn⟩,YH ⟨.of 3,1,s1.2.2.2.2.2.1.map aE⟩,YH ⟨.of 94,11,xp.map ba⟩,YH ⟨.of 147,4,s1.2.2.2.2.2.2.2.1.map aC⟩,YH ⟨.of 46,2,s1.2.2.2.2.2.2.2.2.1.map aW⟩,YI,YH ⟨.of 3,1,s1.2.2.2.2.2.2.2.2.2.1.map aE⟩,YH ⟨.of 151,6,s1.2.2.2.2.2.2.2.2.2.2.map bt⟩,YH ⟨.of 94,11,[[vs mu.au,vs mu.a8,vi mu.ay,vi mu.ab,vi mu.aP,vi mu.dW,.sl (mu.aG.map aW),vi mu.aN,vi mu.state,vs mu.place,vi mu.bB]]⟩])).bind λxp=>
 (aB mu.aG mu.aN).bind λAq=>
 (bh [0,1,2,3,4,5,8,7]).bind λ_=>
 (fU (⟨(⟨s1.2.2.2.2.1,s1.2.2.2.2.2.1,s1.2.1⟩:aj),xp,s1.2.2.2.2.2.2.2.1,s1.2.2.2.2.2.2.2.2.1,s1.2.2.1,s1.2.2.2.2.2.2.2.2.2.2,s1.2.2.2.2.2.2.2.2.2.1,s1.2.2.2.1⟩:ax) (⟨(aI (s1.1+1)),ft,3,⟨#[]⟩,Aq⟩:bq)).bind λFa=>
 YH (.inl ((aI (s1.1+1)),Fa.aa.change,Fa.now,Fa.bd,Fa.aa.aA,Fa.aa.off,Fa.ae,Fa.ar,Fa.ah,Fa.skip,Fa.aH)))
 (YH (.inl ((aI (s1.1+1)),s1.2.1,s1.2.2.1,s1.2.2.2.1,s1.2.2.2.2.1,s1.2.2.2.2.2.1,s1.2.2.2.2.2.2.1,s1.2.2.2.2.2.2.2.1,s1.2.2.2.2.2.2.2.2.1,s1.2.2.2.2.2.2.2.2.2.1,s1.2.2.2.2.2.2.2.2.2.2))))
 (YH (.inl ((aI (s1.1+1)),s1.2.1,s1.2.2.1,s1.2.2.2.1,s1.2.2.2.2.1,s1.2.2.2.2.2.1,s1.2.2.2.2.2.2.1,s1.2.2.2.2.2.2.2.1,s1.2.2.2.2.2.2.2.2.1,s1.2.2.2.2.2.2.2.2.2.1,s1.2.2.2.2.2.2.2.2.2.2))))
 (YH (.inl ((aI (s1.1+1)),s1.2.1,s1.2.2.1,s1.2.2.2.1,s1.2.2.2.2.1,s1.2.2.2.2.2.1,s1.2.2.2.2.2.2.1,s1.2.2.2.2.2.2.2.1,s1.2.2.2.2.2.2.2.2.1,s1.2.2.2.2.2.2.2.2.2.1,s1.2.2.2.2.2.2.2.2.2.2))))
 (YH (.inr (s1.2.1,s1.2.2.1,s1.2.2.2.1,s1.2.2.2.2.1,s1.2.2.2.2.2.1,s1.2.2.2.2.2.2.1,s1.2.2.2.2.2.2.2.1,s1.2.2.2.2.2.2.2.2.1,s1.2.2.2.2.2.2.2.2.2.1,s1.2.2.2.2.2.2.2.2.2.2)))
instance (ft:Int):bo (iL ft):=⟨λs1=>(.be 0 0 0::vi ft::(U 4 (vi s1.1::(U 192 [])))),λs1=>[YH ⟨.of 33,10,[[.ms 1,.ms 2,vi s1.2.1,.ms 3,.ms 4,.ms 5,vi s1.2.2.1,.ms 8,.ms 7,vi s1.2.2.2.1]]⟩,YH ⟨.of 144,6,s1.2.2.2.2.1.map bn⟩,YH ⟨.of 3,1,s1.2.2.2.2.2.1.map aE⟩,YH ⟨.of 94,11,s1.2.2.2.2.2.2.1.map ba⟩,YH ⟨.of 147,4,s1.2.2.2.2.2.2.2.1.map aC⟩,YH ⟨.of 46,2,s1.2.2.2.2.2.2.2.2.1.map aW⟩,YI,YH ⟨.of 3,1,s1.2.2.2.2.2.2.2.2.2.1.map aE⟩,YH ⟨.of 151,6,s1.2.2.2.2.2.2.2.2.2.2.map bt⟩]⟩
def nH(w:ax)(ft:Int):Option ax:=
 (aD (iK ft) NN (0,w.aa.change,w.now,w.bd,w.aa.aA,w.aa.off,w.ae,w.ar,w.ah,w.skip,w.aH)).bind (λo0=>
 (aD (iL ft) NN (0,o0.1,o0.2.1,o0.2.2.1,o0.2.2.2.1,o0.2.2.2.2.1,o0.2.2.2.2.2.1,o0.2.2.2.2.2.2.1,o0.2.2.2.2.2.2.2.1,o0.2.2.2.2.2.2.2.2.1,o0.2.2.2.2.2.2.2.2.2)).bind (λo1=>
 YH (⟨(⟨o1.2.2.2.1,o1.2.2.2.2.1,o1.1⟩:aj),o1.2.2.2.2.2.1,o1.2.2.2.2.2.2.1,o1.2.2.2.2.2.2.2.1,ft,o1.2.2.2.2.2.2.2.2.2,o1.2.2.2.2.2.2.2.2.1,o1.2.2.1⟩:ax)))
instance (w:ax)(ft:Int):CT prog (nH w ft):=⟨228,[.be 0 0 0,vi ft],[YH ⟨.of 33,10,[[.ms 1,.ms 2,vi w.aa.change,.ms 3,.ms 4,.ms 5,vi w.now,.ms 6,.ms 7,vi w.bd]]⟩,YH ⟨.of 144,6,w.aa.aA.map bn⟩,YH ⟨.of 3,1,w.aa.off.map aE⟩,YH ⟨.of 94,11,w.ae.map ba⟩,YH ⟨.of 147,4,w.ar.map aC⟩,YH ⟨.of 46,2,w.ah.map aW⟩,YH ⟨.of 151,6,w.aH.map bt⟩,YH ⟨.of 3,1,w.skip.map aE⟩],λr=>.tu [],λr=>[YH ⟨.of 33,10,[[.ms 1,.ms 2,vi r.aa.change,.ms 3,.ms 4,.ms 5,vi r.now,.ms 8,.ms 7,vi r.bd]]⟩,YH ⟨.of 144,6,r.aa.aA.map bn⟩,YH ⟨.of 3,1,r.aa.off.map aE⟩,YH ⟨.of 94,11,r.ae.map ba⟩,YH ⟨.of 147,4,r.ar.map aC⟩,YH ⟨.of 46,2,r.ah.map aW⟩,YI,YH ⟨.of 3,1,r.skip.map aE⟩,YH ⟨.of 151,6,r.aH.map bt⟩],cw (nH.eq_1 ..) func228 ntmps228 results228⟩
def ia(w:ax)(y1:(List Int))(s0:Int×(List az)):Option ((Int×(List az))⊕(List az)):=
 cond (YL (s0.1<(w.ae.length:Int)))
 ((aB w.ae s0.1).bind λy2=>
 (bW (bm ((([]:List av):List av).length+(y2.aG:List av).length) 16)).bind λ_=>
 (D9 (.un::.be 0 0 0::.be 1 0 0::.be 2 0 0::vi s0.1::.be 6 0 0::(U 59 [])) [YH ⟨.of 33,10,[[.sl (w.aa.aA.map bn),.sl (w.aa.off.map aE),vi w.aa.change,.sl (w.ae.map ba),.sl (w.ar.map aC),.sl (w.ah.map aW),vi w.now,.sl (w.aH.map bt),.sl (w.skip.map aE),vi w.bd]]⟩,YH ⟨.of 33,10,[[.v (.slice YI 0 0),.v (.slice YI 0 0),vi 0,.v (.slice YI 0 0),.v (.slice YI 0 0),.v (.slice YI 0 0),vi 0,.v (.slice YI 0 0),.v (.slice YI 0 0),vi 0]]⟩,YH ⟨.of 33,10,[[.ms 3,.ms 4,vi w.aa.change,.ms 5,.sl (w.ar.map aC),.sl (w.ah.map aW),vi w.now,.sl (w.aH.map bt),.sl (w.skip.map aE),vi w.bd]]⟩,YH ⟨.of 144,6,((([]:List bK):List bK)++w.aa.aA).map bn⟩,YH ⟨.of 3,1,y1.map aE⟩,YH ⟨.of 94,11,s0.2.map ba⟩,YH ⟨.of 94,11,[[vs y2.au,vs y2.a8,vi y2.ay,vi y2.ab,vi y2.aP,vi y2.dW,.sl (((([]:List av):List av)++y2.aG).map aW),vi y2.aN,vi y2.state,vs y2.place,vi y2.bB]]⟩]).bind λ_=>
 (bW (bm ((s0.2:List az).length+([(⟨y2.au,y2.a8,y2.ay,y2.ab,y2.aP,y2.dW,((([]:List av):List av)++y2.aG),y2.aN,y2.state,y2.place,y2.bB⟩:az)]:List az).length) 128)).bind λ_=>
 YH (.inl ((aI (s0.1+1)),((s0.2:List az)++[(⟨y2.au,y2.a8,y2.ay,y2.ab,y2.aP,y2.dW,((([]:List av):List av)++y2.aG),y2.aN,y2.state,y2.place,y2.bB⟩:az)]))))
 (YH (.inr s0.2))
instance (w:ax)(y1:(List Int)):bo (ia w y1):=⟨λs0=>(.un::.be 0 0 0::.be 1 0 0::.be 2 0 0::vi s0.1::(U 60 [])),λs0=>[YH ⟨.of 33,10,[[.sl (w.aa.aA.map bn),.sl (w.aa.off.map aE),vi w.aa.change,.sl (w.ae.map ba),.sl (w.ar.map aC),.sl (w.ah.map aW),vi w.now,.sl (w.aH.map bt),.sl (w.skip.map aE),vi w.bd]]⟩,YH ⟨.of 33,10,[[.v (.slice YI 0 0),.v (.slice YI 0 0),vi 0,.v (.slice YI 0 0),.v (.slice YI 0 0),.v (.slice YI 0 0),vi 0,.v (.slice YI 0 0),.v (.slice YI 0 0),vi 0]]⟩,YH ⟨.of 33,10,[[.ms 3,.ms 4,vi w.aa.change,.ms 5,.sl (w.ar.map aC),.sl (w.ah.map aW),vi w.now,.sl (w.aH.map bt),.sl (w.skip.map aE),vi w.bd]]⟩,YH ⟨.of 144,6,((([]:List bK):List bK)++w.aa.aA).map bn⟩,YH ⟨.of 3,1,y1.map aE⟩,YH ⟨.of 94,11,s0.2.map ba⟩]⟩
def ee(w:ax):Option ax:=
 (bW (bm ((([]:List bK):List bK).length+(w.aa.aA:List bK).length) 64)).bind λ_=>
 (eA w.aa.off).bind λy1=>
 (aD (ia w y1) NN (0,([]:List az))).bind (λo0=>
 (j2 w.ar).bind λy3=>
 (bW (bm ((([]:List av):List av).length+(w.ah:List av).length) 16)).bind λ_=>
 (bW (bm ((([]:List bq):List bq).length+(w.aH:List bq).length) 56)).bind λ_=>
 (eA w.skip).bind λy4=>
 YH (⟨(⟨((([]:List bK):List bK)++w.aa.aA),y1,w.aa.change⟩:aj),o0,y3,((([]:List av):List av)++w.ah),w.now,((([]:List bq):List bq)++w.aH),y4,w.bd⟩:ax))
instance (w:ax):CT prog (ee w):=⟨104,[.ag (fY w)],[],λr=>.ag [.ms 0,.ms 1,vi r.aa.change,.ms 2,.ms 3,.ms 4,vi r.now,.ms 5,.ms 6,vi r.bd],λr=>[YH ⟨.of 144,6,r.aa.aA.map bn⟩,YH ⟨.of 3,1,r.aa.off.map aE⟩,YH ⟨.of 94,11,r.ae.map ba⟩,YH ⟨.of 147,4,r.ar.map aC⟩,YH ⟨.of 46,2,r.ah.map aW⟩,YH ⟨.of 151,6,r.aH.map bt⟩,YH ⟨.of 3,1,r.skip.map aE⟩],cw (ee.eq_1 ..) func104 ntmps104 results104⟩
def pQ(l:List aU)(order:Int)(kind:Int)(s0:Int×Int):Option ((Int×Int)⊕Int):=
 cond (YL (s0.2<(l.length:Int)))
 ((jn 5 4 (
 (aB l s0.2).bind λy1=>
 cond (YL (y1.order=order))
 ((aB l s0.2).bind λy2=>
 cond (YL (y2.kind=kind))
 ((aB l s0.2).bind λy3=>
 YH (.inl (aI (s0.1+y3.bz))))
 (YH (.inl s0.1)))
 (YH (.inl s0.1)):Option (Int⊕Empty)) (λz4=>(.sl (l.map bC)::vi order::vi kind::(U 4 (vi z4::vi s0.2::(U 30 []))))) (λz4=>[])).bind (bk (λz4=>
 YH (.inl (z4,(aI (s0.2+1))))) (λr=>r.elim)))
 (YH (.inr s0.1))
instance (l:List aU)(order:Int)(kind:Int):bo (pQ l order kind):=⟨λs0=>(.sl (l.map bC)::vi order::vi kind::(U 4 (vi s0.1::vi s0.2::(U 30 [])))),λs0=>[]⟩
def eM(l:List aU)(order:Int)(kind:Int):Option Int:=
 (aD (pQ l order kind) NN (0,0)).bind (λo0=>
 YH o0)
theorem DD(l:List aU)(order:Int)(kind:Int){r:Int}(H:eM l order kind=YH r):fL prog 183 [.sl (l.map bC),vi order,vi kind] [] (vi r) []:=by
 replace H:=H0 H;unfold eM at H
 refine ja func183 rfl ntmps183 results183 λQ hQ Ia=>?_
 exact JU
instance (l:List aU)(order:Int)(kind:Int):CT prog (eM l order kind):=⟨183,[.sl (l.map bC),vi order,vi kind],[],λr=>vi r,λr=>[],DD l order kind⟩
def cZ(n:aj)(ft:Int)(first:Bool):Option Int:=
 cond first
 (YH ft)
 (YH (aI (ft+n.change)))
instance (n:aj)(ft:Int)(first:Bool):CT prog (cZ n ft first):=⟨379,[.ag (bA n),vi ft,vb first],[],λr=>vi r,λr=>[],cw (cZ.eq_1 ..) func379 ntmps379 results379⟩
def fv(p:aT):Option aT:=
 (bW (bm ((([]:List Int):List Int).length+(p.bH:List Int).length) 8)).bind λ_=>
 YH (⟨p.label,p.au,p.ab,((([]:List Int):List Int)++p.bH),p.value⟩:aT)
instance (p:aT):CT prog (fv p):=⟨70,[.ag (bJ p)],[],λr=>.ag [vi r.label.ay,vi r.label.da,vs r.label.a8,vs r.au,vi r.ab,.ms 0,vi r.value],λr=>[YH ⟨.of 3,1,r.bH.map aE⟩],ck (fv.eq_1 ..) func70 ntmps70 results70⟩
def ey(a:bV):Option bV:=
 (fv a.aQ).bind λy1=>
 YH (⟨a.kind,y1,a.order,a.bz,a.bM,a.bj⟩:bV)
instance (a:bV):CT prog (ey a):=⟨30,[.ag (gF a)],[],λr=>.ag [vi r.kind,vi r.aQ.label.ay,vi r.aQ.label.da,vs r.aQ.label.a8,vs r.aQ.au,vi r.aQ.ab,.ms 0,vi r.aQ.value,vi r.order,vi r.bz,vi r.bM,vi r.bj.bD,vi r.bj.day],λr=>[YH ⟨.of 3,1,r.aQ.bH.map aE⟩],ck (ey.eq_1 ..) func30 ntmps30 results30⟩
def pS(m:List Ln)(o k:Int):Int:=(m.map λx=>if(x.o==o&&x.k==k)=YJ then x.a else 0).sum
def pC(m:List Ln):Int:=(m.map λx=>if(x.k==2)=YJ then x.a else if(x.k==3)=YJ then -x.a else 0).sum
theorem L1(o k:Int):∀(m:List Ln) (s:Int),(∀x∈m,1<=x.a/\x.a<=100000)->0<=s->s+100000*(m.length:Int)<=100000000->m.foldl (l0 o k) s=s+pS m o k/\0<=pS m o k/\pS m o k<=100000*(m.length:Int)
 | [],s,_,_,_=>by simp[pS]
 |x::m,s,ha,h0,h1=>by
  have hx:=ha x Ye;simp only[VZ]at h1
  have hc:pS (x::m) o k=(if(x.o==o&&x.k==k)=YJ then x.a else 0)+pS m o k:=by simp[pS]
  rw[Wn,hc]
  by_cases h:(x.o==o&&x.k==k)=YJ
  ·have e:l0 o k s x=s+x.a:=by rw[l0,if_pos h];exact IntWalk.wrap64_in _ ⟨X9,X9⟩
   have r:=L1 o k m (s+x.a) (λy hy=>ha y (by simp[hy])) X9 (by push_cast at h1;omega)
   rw[e,if_pos h,r.1,VZ];refine⟨X9,X9,?_⟩
   push_cast;omega
  ·have e:l0 o k s x=s:=by rw[l0,if_neg h]
   have r:=L1 o k m s (λy hy=>ha y (by simp[hy])) h0 (by push_cast at h1;omega)
   rw[e,if_neg h,r.1,VZ];refine⟨X9,X9,?_⟩
   push_cast;omega
theorem JK(ha:∀x∈m,1<=x.a/\x.a<=100000)(hl:m.length<=200)(o k:Int):cr m o k=pS m o k/\0<=pS m o k/\pS m o k<=20000000:=by
 have r:=L1 o k m 0 ha X9 X9;exact⟨by unfold cr;rw[r.1];omega,r.2.1,X9⟩
theorem Uc(m:List Ln):∀s:Int,(∀x∈m,1<=x.a/\x.a<=100000)->100000*(m.length:Int)<=s+100000000->s+100000*(m.length:Int)<=100000000->m.foldl tq s=s+pC m:=by
 induction m with
 |nil=>intro s _ _ _;simp[pC]
 |cons x m ih=>
  intro s ha h0 h1;have hx:=ha x Ye;simp only[VZ]at h0 h1
  push_cast at h0 h1
  have hc:pC (x::m)=(if(x.k==2)=YJ then x.a else if(x.k==3)=YJ then -x.a else 0)+pC m:=by simp[pC]
  have e:tq s x=s+(if(x.k==2)=YJ then x.a else if(x.k==3)=YJ then -x.a else 0):=by
   unfold tq
   split
   ·exact IntWalk.wrap64_in _ ⟨X9,X9⟩
   ·split
    ·rw[IntWalk.wrap64_in _ ⟨X9,X9⟩];omega
    ·omega
  have hv:-100000<=(if(x.k==2)=YJ then x.a else if(x.k==3)=YJ then -x.a else 0)/\(if(x.k==2)=YJ then x.a else if(x.k==3)=YJ then -x.a else 0)<=100000:=by
   repeat' split
   all_goals omega
  rw[Wn,hc,e,ih _ (λy hy=>ha y (by simp[hy])) X9 X9]
  omega
theorem y0(ha:∀x∈m,1<=x.a/\x.a<=100000)(hl:m.length<=200):Fo m=pC m:=by
 unfold Fo;rw[Uc m 0 ha X9 X9];omega
theorem Cw(c o:Int):∀n:Nat,((Wg n).map λi:Nat=>if((o==((i:Int)+1))=YJ)then c else 0).sum=if 1<=o/\o<=(n:Int)then c else 0
 |0=>by rw[if_neg X9];rfl
 |n+1=>by
  rw[List.range_succ,Xw,List.sum_append,Cw c o n];simp only[WX,List.map_nil,Xl,List.sum_nil,beq_iff_eq]
  by_cases h:o=(n:Int)+1
  ·rw[if_neg X9,if_pos h,if_pos (by push_cast;omega)];omega
  ·rw[if_neg h]
   by_cases h2:1<=o/\o<=(n:Int)
   ·rw[if_pos h2,if_pos (by push_cast;omega)];omega
   ·rw[if_neg h2,if_neg (by push_cast;omega)];omega
theorem JL{α:Type}(f g:α->Int):∀l:List α,(l.map λi=>f i+g i).sum=(l.map f).sum+(l.map g).sum
 | []=>by simp
 |a::l=>by simp only[WX,Xl,JL f g l];omega
theorem BD(n:Nat):∀m:List Ln,(∀x∈m,1<=x.o/\x.o<=(n:Int))->pC m=((Wg n).map λi:Nat=>pS m ((i:Int)+1) 2-pS m ((i:Int)+1) 3).sum
 | [],_=>by
  have:∀l:List Nat,(l.map λi:Nat=>pS [] ((i:Int)+1) 2-pS [] ((i:Int)+1) 3).sum=0:=λl=>by
   induction l with
   |nil=>rfl
   |cons a l ih=>simp only[WX,Xl,ih];simp[pS]
  rw[this];rfl
 |x::m,h=>by
  have hx:=h x Ye;have hc:pC (x::m)=(if(x.k==2)=YJ then x.a else if(x.k==3)=YJ then -x.a else 0)+pC m:=by simp[pC]
  have e:(λi:Nat=>pS (x::m) ((i:Int)+1) 2-pS (x::m) ((i:Int)+1) 3)=λi:Nat=>(if((x.o==((i:Int)+1))=YJ)then(if(x.k==2)=YJ then x.a else if(x.k==3)=YJ then -x.a else 0)else 0)+(pS m ((i:Int)+1) 2-pS m ((i:Int)+1) 3):=by
   funext i
   simp only[pS,WX,Xl,Bool.and_eq_true,beq_iff_eq]
   by_cases h1:x.o=(i:Int)+1<;>by_cases h2:x.k=2<;>by_cases h3:x.k=3<;>simp[h1,h2,h3]<;>omega
  rw[e,JL,Cw,if_pos hx,hc,BD n m λy hy=>h y (by simp[hy])]
theorem GC{f:Nat->Int}:∀{n:Nat},(∀i,i<n->0<=f i)->0<=((Wg n).map f).sum/\(((Wg n).map f).sum=0↔∀i,i<n->f i=0)
 |0,_=>by simp
 |n+1,h=>by
  obtain⟨h1,h2⟩:=GC (n:=n) λi hi=>h i X9
  have h3:=h n X9;rw[List.range_succ,Xw,List.sum_append];simp only[WX,List.map_nil,Xl,List.sum_nil];refine⟨X9,λhs i hi=>?_,λhs=>?_⟩
  ·by_cases hn:i=n
   ·subst hn;omega
   ·exact(h2.1 X9) i X9
  ·have:=h2.2 λi hi=>hs i X9
   have:=hs n X9;omega
end Go.Proofs.YtdilaemengjipaaGreatDoor
