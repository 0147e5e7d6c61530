/- A part of the proof of the statement in the last file of this claim: texts on the language of the program and on its functions. No condition. -/
import Derived.Test.YtdilaemengjipaaGreatDoorCA4
import Derived.Test.YtdilaemengjipaaGreatDoorCA8
import Derived.Test.YtdilaemengjipaaGreatDoorCA9
import Derived.Test.YtdilaemengjipaaGreatDoorCA5
import Derived.Test.YtdilaemengjipaaGreatDoorCA7
import Derived.Test.YtdilaemengjipaaGreatDoorCA1
set_option linter.unusedVariables false
set_option linter.unusedSimpArgs false
set_option linter.unusedSectionVars false
open Option renaming some->YH,none->YI
open Bool renaming true->YJ,false->YK
open Decidable renaming decide->YL
open Go.Proofs.Tryz
set_option maxHeartbeats 40000000
namespace Go.Proofs.YtdilaemengjipaaGreatDoor
set_option maxRecDepth 10000
open Go.RowKit
def pw(n:aj)(bD:Int)(day:Int):Option Bool:=
 (eW n).bind λy1=>
 cond y1
 ((oq n bD day).bind λy2=>
 YH y2)
 (YH YK)
instance (n:aj)(bD:Int)(day:Int):CT prog (pw n bD day):=⟨153,[.ag (bA n),vi bD,vi day],[],λr=>vb r,λr=>[],cw (pw.eq_1 ..) func153 ntmps153 results153⟩
def dQ(n:aj)(t:av):Option Bool:=
 (pw n t.bD t.day).bind λy1=>
 YH y1
instance (n:aj)(t:av):CT prog (dQ n t):=⟨86,[.ag (bA n),.ag (aW t)],[],λr=>vb r,λr=>[],cw (dQ.eq_1 ..) func86 ntmps86 results86⟩
def fF(a:aq)(b:aq):Option Int:=
 (dR a.bj.day b.bj.day).bind λy1=>
 (dR a.bj.bD b.bj.bD).bind λy2=>
 (dR a.bw b.bw).bind λy3=>
 (oS ([y1,y2,y3])).bind λy4=>
 YH y4
instance (a:aq)(b:aq):CT prog (fF a b):=⟨151,[.ag (aC a),.ag (aC b)],[],λr=>vi r,λr=>[],cw (fF.eq_1 ..) func151 ntmps151 results151⟩
def fX(n:aj)(l:List aq)(s0:Int):Option (Int⊕(Unit⊕Bool)):=
 cond (YL (s0<(l.length:Int)))
 ((aB l s0).bind λy2=>
 cond (YL (0<s0))
 ((aB l (aI (s0-1))).bind λy3=>
 (fF y3 y2).bind λy4=>
 cond (YL (0<=y4))
 (YH (.inr (.inr YK)))
 ((dQ n y2.bj).bind λy5=>
 cond (!y5)
 (YH (.inr (.inr YK)))
 ((aZ y2.bw 1 9999).bind λy6=>
 cond (!y6)
 (YH (.inr (.inr YK)))
 ((aZ y2.ab 1 1000000).bind λy7=>
 cond (!y7)
 (YH (.inr (.inr YK)))
 ((jY l y2.bj).bind λy8=>
 (aB n.aA y2.bj.bD).bind λy9=>
 cond (YL (y9.iU<y8))
 (YH (.inr (.inr YK)))
 (YH (.inl (aI (s0+1)))))))))
 ((dQ n y2.bj).bind λdL=>
 cond (!dL)
 (YH (.inr (.inr YK)))
 ((aZ y2.bw 1 9999).bind λji=>
 cond (!ji)
 (YH (.inr (.inr YK)))
 ((aZ y2.ab 1 1000000).bind λoX=>
 cond (!oX)
 (YH (.inr (.inr YK)))
 ((jY l y2.bj).bind λmf=>
 (aB n.aA y2.bj.bD).bind λkX=>
 cond (YL (kX.iU<mf))
 (YH (.inr (.inr YK)))
 (YH (.inl (aI (s0+1)))))))))
 (YH (.inr (.inl ())))
instance (n:aj)(l:List aq):bo (fX n l):=⟨λs0=>(.un::.sl (l.map aC)::.be 0 0 0::(U 12 (.sl (l.map aC)::vi (l.length:Int)::vi s0::(U 51 [])))),λs0=>[YH ⟨.of 27,3,[[.sl (n.aA.map bn),.sl (n.off.map aE),vi n.change]]⟩]⟩
def iF(n:aj)(l:List aq):Option Bool:=
 (eW n).bind λy1=>
 cond (!y1)
 (YH YK)
 (cond (YL (120<(l.length:Int)))
 (YH YK)
 ((aD (fX n l) NN 0).bind (bk (λo0=>
 YH YJ) (λr=>YH r))))
instance (n:aj)(l:List aq):CT prog (iF n l):=⟨85,[.ag (bA n),.sl (l.map aC)],[],λr=>vb r,λr=>[],cw (iF.eq_1 ..) func85 ntmps85 results85⟩
def pM(n:aj)(aG:List av)(a8:ByteArray)(s0:Int×ByteArray×Int):Option ((Int×ByteArray×Int)⊕(ByteArray⊕Bool)):=
 cond (YL (s0.2.2<(aG.length:Int)))
 ((aB aG s0.2.2).bind λy5=>
 (dQ n y5).bind λy6=>
 cond (!y6)
 (YH (.inr (.inr YK)))
 ((aB n.aA y5.bD).bind λy7=>
 cond (!decide (y7.au=s0.2.1))
 (YH (.inr (.inr YK)))
 ((df n y5).bind λy8=>
 cond (YL (y8<s0.1))
 (YH (.inr (.inr YK)))
 ((aB n.aA y5.bD).bind λy9=>
 (aB aG s0.2.2).bind λdL=>
 (cX n dL).bind λji=>
 YH (.inl ((aI (ji+n.change)),y9.a8,(aI (s0.2.2+1))))))))
 (YH (.inr (.inl s0.2.1)))
instance (n:aj)(aG:List av)(a8:ByteArray):bo (pM n aG a8):=⟨λs0=>(.un::.sl (aG.map aW)::.un::vs a8::vi s0.1::.be 0 0 0::(U 6 (vs s0.2.1::(U 20 (.sl (aG.map aW)::vi (aG.length:Int)::vi s0.2.2::(U 46 [])))))),λs0=>[YH ⟨.of 27,3,[[.sl (n.aA.map bn),.sl (n.off.map aE),vi n.change]]⟩]⟩
def qz(n:aj)(aG:List av)(cP:ByteArray)(a8:ByteArray)(kP:Int):Option Bool:=
 (dm n).bind λy1=>
 (eW n).bind λy2=>
 cond (!y2)
 (YH YK)
 ((bS y1 cP).bind λy3=>
 cond (YL (y3<0))
 (YH YK)
 ((bS y1 a8).bind λy4=>
 cond (YL (y4<0))
 (YH YK)
 ((aD (pM n aG a8) NN (kP,cP,0)).bind (bk (λo0=>
 YH (YL (o0=a8))) (λr=>YH r)))))
instance (n:aj)(aG:List av)(cP:ByteArray)(a8:ByteArray)(kP:Int):CT prog (qz n aG cP a8 kP):=⟨158,[.ag (bA n),.sl (aG.map aW),vs cP,vs a8,vi kP],[],λr=>vb r,λr=>[],cw (qz.eq_1 ..) func158 ntmps158 results158⟩
def pv(n:aj)(s:bq):Option Bool:=
 (eW n).bind λy1=>
 cond (!y1)
 (YH YK)
 ((aZ s.bw 1 9999).bind λy2=>
 cond (!y2)
 (YH YK)
 ((aZ s.aP 0 100000).bind λy3=>
 cond (!y3)
 (YH YK)
 (cond (YL (s.kind=1))
 (cond (YL (s.kind=1))
 ((dm n).bind λy4=>
 (bS y4 s.place).bind λy5=>
 cond (YL (0<=y5))
 (YH (YL (s.bj=(⟨0,0⟩:av))))
 (YH YK))
 (cond (YL (s.kind=3))
 (cond (YL (s.place=⟨#[]⟩))
 ((dQ n s.bj).bind λy6=>
 cond y6
 ((df n s.bj).bind λy7=>
 YH (YL (s.aP<=y7)))
 (YH YK))
 (YH YK))
 (cond (YL (s.kind=2))
 (cond (YL (s.place=⟨#[]⟩))
 ((dQ n s.bj).bind λy8=>
 cond y8
 ((cX n s.bj).bind λy9=>
 YH (YL (y9<=s.aP)))
 (YH YK))
 (YH YK))
 (YH YK))))
 (cond (YL (s.kind=4))
 ((dm n).bind λdL=>
 (bS dL s.place).bind λji=>
 cond (YL (0<=ji))
 (YH (YL (s.bj=(⟨0,0⟩:av))))
 (YH YK))
 (cond (YL (s.kind=3))
 (cond (YL (s.place=⟨#[]⟩))
 ((dQ n s.bj).bind λoX=>
 cond oX
 ((df n s.bj).bind λmf=>
 YH (YL (s.aP<=mf)))
 (YH YK))
 (YH YK))
 (cond (YL (s.kind=2))
 (cond (YL (s.place=⟨#[]⟩))
 ((dQ n s.bj).bind λkX=>
 cond kX
 ((cX n s.bj).bind λpg=>
 YH (YL (pg<=s.aP)))
 (YH YK))
 (YH YK))
 (YH YK)))))))
instance (n:aj)(s:bq):CT prog (pv n s):=⟨88,[.ag (bA n),.ag (bt s)],[],λr=>vb r,λr=>[],cw (pv.eq_1 ..) func88 ntmps88 results88⟩
def lG(w:ax)(id:Int)(y1:az)(s0:ByteArray×Int):Option ((ByteArray×Int)⊕(ByteArray⊕Bool)):=
 cond (YL (s0.2<(y1.aG.length:Int)))
 ((aB y1.aG s0.2).bind λy9=>
 (dQ w.aa y9).bind λdL=>
 cond (!dL)
 (YH (.inr (.inr YK)))
 ((lF w id y9).bind λji=>
 cond (!ji)
 (YH (.inr (.inr YK)))
 ((gI y1).bind λoX=>
 cond (YL (oX<=s0.2))
 ((eR w.ah y9).bind λmf=>
 cond mf
 (YH (.inr (.inr YK)))
 ((aB w.aa.aA y9.bD).bind λkX=>
 cond (YL (kX.a8=y1.a8))
 (cond (YL (s0.2<(aI ((y1.aG.length:Int)-1))))
 (YH (.inr (.inr YK)))
 (YH (.inl (kX.a8,(aI (s0.2+1))))))
 (YH (.inl (kX.a8,(aI (s0.2+1)))))))
 ((aB w.aa.aA y9.bD).bind λpg=>
 cond (YL (pg.a8=y1.a8))
 (cond (YL (s0.2<(aI ((y1.aG.length:Int)-1))))
 (YH (.inr (.inr YK)))
 (YH (.inl (pg.a8,(aI (s0.2+1))))))
 (YH (.inl (pg.a8,(aI (s0.2+1)))))))))
 (YH (.inr (.inl s0.1)))
instance (w:ax)(id:Int)(y1:az):bo (lG w id y1):=⟨λs0=>(.un::vi id::.un::.be 0 0 0::(U 3 (.be 1 0 0::vs s0.1::(U 65 (.sl (y1.aG.map aW)::vi (y1.aG.length:Int)::vi s0.2::(U 65 [])))))),λs0=>[YH ⟨.of 33,10,[[.sl (w.aa.aA.map bn),.sl (w.aa.off.map aE),vi w.aa.change,.sl (w.ae.map ba),.sl (w.ar.map aC),.sl (w.ah.map aW),vi w.now,.sl (w.aH.map bt),.sl (w.skip.map aE),vi w.bd]]⟩,YH ⟨.of 94,11,[[vs y1.au,vs y1.a8,vi y1.ay,vi y1.ab,vi y1.aP,vi y1.dW,.sl (y1.aG.map aW),vi y1.aN,vi y1.state,vs y1.place,vi y1.bB]]⟩]⟩
def oj(w:ax)(id:Int)(places:List ByteArray):Option Bool:=
 (aB w.ae (aI (id-1))).bind λy1=>
 cond (YL (y1.au=y1.a8))
 (YH YK)
 ((bS places y1.au).bind λy2=>
 cond (YL (y2<0))
 (YH YK)
 ((bS places y1.a8).bind λy3=>
 cond (YL (y3<0))
 (YH YK)
 ((aZ y1.ay 1 3).bind λy4=>
 cond (!y4)
 (YH YK)
 ((aZ y1.ab 1 30000).bind λy5=>
 cond (!y5)
 (YH YK)
 ((aZ y1.aP 0 w.now).bind λy6=>
 cond (!y6)
 (YH YK)
 ((aZ y1.dW 0 200000).bind λy7=>
 cond (!y7)
 (YH YK)
 ((aZ y1.aN 0 (y1.aG.length:Int)).bind λy8=>
 cond (!y8)
 (YH YK)
 ((aD (lG w id y1) NN (y1.au,0)).bind (bk (λo0=>
 (qz w.aa y1.aG y1.au o0 (aI (y1.aP+1))).bind λmu=>
 cond mu
 ((om w y1).bind λrn=>
 YH rn)
 (YH YK)) (λr=>YH r))))))))))
instance (w:ax)(id:Int)(places:List ByteArray):CT prog (oj w id places):=⟨90,[.ag (fY w),vi id,.sl (places.map jK)],[],λr=>vb r,λr=>[],cw (oj.eq_1 ..) func90 ntmps90 results90⟩
def lz(w:ax)(s0:Int):Option (Int⊕(Unit⊕Bool)):=
 cond (YL (s0<(w.ah.length:Int)))
 ((aB w.ah s0).bind λy4=>
 (dQ w.aa y4).bind λy5=>
 cond (!y5)
 (YH (.inr (.inr YK)))
 ((bW (gg 0 s0 w.ah.length)).bind λ_=>
 (eR (cH w.ah 0 s0) y4).bind λy6=>
 cond y6
 (YH (.inr (.inr YK)))
 (YH (.inl (aI (s0+1))))))
 (YH (.inr (.inl ())))
instance (w:ax):bo (lz w):=⟨λs0=>(.un::.be 0 0 0::.un::.be 1 0 0::(U 55 (.sl (w.ah.map aW)::vi (w.ah.length:Int)::vi s0::(U 63 [])))),λs0=>[YH ⟨.of 33,10,[[.sl (w.aa.aA.map bn),.sl (w.aa.off.map aE),vi w.aa.change,.sl (w.ae.map ba),.sl (w.ar.map aC),.sl (w.ah.map aW),vi w.now,.sl (w.aH.map bt),.sl (w.skip.map aE),vi w.bd]]⟩,YH ⟨.of 27,3,[[.sl (w.aa.aA.map bn),.sl (w.aa.off.map aE),vi w.aa.change]]⟩]⟩
def lA(w:ax)(s1:Int):Option (Int⊕(Unit⊕Bool)):=
 cond (YL (s1<(w.aH.length:Int)))
 ((aB w.aH s1).bind λy7=>
 (pv w.aa y7).bind λy8=>
 cond (!y8)
 (YH (.inr (.inr YK)))
 (cond (YL (w.now<y7.aP))
 (YH (.inr (.inr YK)))
 (YH (.inl (aI (s1+1))))))
 (YH (.inr (.inl ())))
instance (w:ax):bo (lA w):=⟨λs1=>(.un::.be 0 0 0::.un::.be 1 0 0::(U 76 (.sl (w.aH.map bt)::vi (w.aH.length:Int)::vi s1::(U 42 [])))),λs1=>[YH ⟨.of 33,10,[[.sl (w.aa.aA.map bn),.sl (w.aa.off.map aE),vi w.aa.change,.sl (w.ae.map ba),.sl (w.ar.map aC),.sl (w.ah.map aW),vi w.now,.sl (w.aH.map bt),.sl (w.skip.map aE),vi w.bd]]⟩,YH ⟨.of 27,3,[[.sl (w.aa.aA.map bn),.sl (w.aa.off.map aE),vi w.aa.change]]⟩]⟩
def lB(w:ax)(y9:List ByteArray)(s2:Int×Int):Option ((Int×Int)⊕(Int⊕Bool)):=
 cond (YL (s2.2<(w.ae.length:Int)))
 ((aB w.ae s2.2).bind λdL=>
 (oj w (aI (s2.2+1)) y9).bind λji=>
 cond (!ji)
 (YH (.inr (.inr YK)))
 (YH (.inl ((aI (s2.1+(dL.aG.length:Int))),(aI (s2.2+1))))))
 (YH (.inr (.inl s2.1)))
instance (w:ax)(y9:List ByteArray):bo (lB w y9):=⟨λs2=>(.un::.be 0 0 0::(U 6 (.ms 1::vi s2.1::(U 91 (.sl (w.ae.map ba)::vi (w.ae.length:Int)::vi s2.2::(U 21 [])))))),λs2=>[YH ⟨.of 33,10,[[.sl (w.aa.aA.map bn),.sl (w.aa.off.map aE),vi w.aa.change,.sl (w.ae.map ba),.sl (w.ar.map aC),.sl (w.ah.map aW),vi w.now,.sl (w.aH.map bt),.sl (w.skip.map aE),vi w.bd]]⟩,YH ⟨.of 9,1,y9.map jK⟩]⟩
def gK(w:ax):Option Bool:=
 (iF w.aa w.ar).bind λy1=>
 cond (!y1)
 (YH YK)
 ((aZ w.now 0 100000).bind λy2=>
 cond (!y2)
 (YH YK)
 (cond (YL (30<(w.ae.length:Int)))
 (YH YK)
 (cond (YL (20<(w.ah.length:Int)))
 (YH YK)
 (cond (YL (200<(w.aH.length:Int)))
 (YH YK)
 (cond (YL (50<(w.skip.length:Int)))
 (YH YK)
 ((aZ w.bd (w.aH.length:Int) 1000000000).bind λy3=>
 cond (!y3)
 (YH YK)
 ((aD (lz w) NN 0).bind (bk (λo0=>
 (aD (lA w) NN 0).bind (bk (λo1=>
 (dm w.aa).bind λy9=>
 (aD (lB w y9) NN (0,0)).bind (bk (λo2=>
 YH (YL (o2=(w.ar.length:Int)))) (λr=>YH r))) (λr=>YH r))) (λr=>YH r)))))))))
instance (w:ax):CT prog (gK w):=⟨38,[.ag (fY w)],[],λr=>vb r,λr=>[],cw (gK.eq_1 ..) func38 ntmps38 results38⟩
def fH(w:ax)(y1:aj)(y2:(List aq))(y3:(List av))(s0:Int×(List az)):Option ((Int×(List az))⊕(List az)):=
 cond (YL (s0.1<(w.ae.length:Int)))
 ((aB w.ae s0.1).bind λy4=>
 (eX y4.aG).bind λy5=>
 (bW (bm ((s0.2:List az).length+([(⟨y4.au,y4.a8,y4.ay,y4.ab,y4.aP,y4.dW,y5,y4.aN,y4.state,y4.place,y4.bB⟩:az)]:List az).length) 128)).bind λ_=>
 YH (.inl ((aI (s0.1+1)),((s0.2:List az)++[(⟨y4.au,y4.a8,y4.ay,y4.ab,y4.aP,y4.dW,y5,y4.aN,y4.state,y4.place,y4.bB⟩:az)]))))
 (YH (.inr s0.2))
instance (w:ax)(y1:aj)(y2:(List aq))(y3:(List av)):bo (fH w y1 y2 y3):=⟨λs0=>(.un::.un::.be 0 0 0::.be 1 0 0::(U 25 (.sl (w.ae.map ba)::vi (w.ae.length:Int)::vi s0.1::(U 15 [])))),λs0=>[YH ⟨.of 33,10,[[.v (.slice YI 0 0),.v (.slice YI 0 0),vi 0,.v (.slice YI 0 0),.v (.slice YI 0 0),.v (.slice YI 0 0),vi 0,.v (.slice YI 0 0),.v (.slice YI 0 0),vi 0]]⟩,YH ⟨.of 33,10,[[.ms 2,.ms 3,vi y1.change,.ms 4,.ms 5,.ms 6,vi w.now,.ms 7,.ms 8,vi w.bd]]⟩,YH ⟨.of 144,6,y1.aA.map bn⟩,YH ⟨.of 3,1,y1.off.map aE⟩,YH ⟨⟨94,YH 46⟩,11,s0.2.map ba⟩,YH ⟨.of 147,4,y2.map aC⟩,YH ⟨.of 46,2,y3.map aW⟩,YH ⟨.of 151,6,((([]:List bq):List bq)++w.aH).map bt⟩,YH ⟨.of 3,1,((([]:List Int):List Int)++w.skip).map aE⟩]⟩
def dA(w:ax):Option ax:=
 (je w.aa).bind λy1=>
 (fP w.ar).bind λy2=>
 (eX w.ah).bind λy3=>
 (bW (bm ((([]:List bq):List bq).length+(w.aH:List bq).length) 56)).bind λ_=>
 (bW (bm ((([]:List Int):List Int).length+(w.skip:List Int).length) 8)).bind λ_=>
 (aD (fH w y1 y2 y3) NN (0,[])).bind (λo0=>
 YH (⟨y1,o0,y2,y3,w.now,((([]:List bq):List bq)++w.aH),((([]:List Int):List Int)++w.skip),w.bd⟩:ax))
instance (w:ax):CT prog (dA w):=⟨68,[.ag (fY w)],[],λr=>.ag [.ms 0,.ms 1,vi r.aa.change,.ms 2,.ms 3,.ms 4,vi r.now,.ms 5,.ms 6,vi r.bd],λr=>[YH ⟨.of 144,6,r.aa.aA.map bn⟩,YH ⟨.of 3,1,r.aa.off.map aE⟩,YH ⟨⟨94,YH 46⟩,11,r.ae.map ba⟩,YH ⟨.of 147,4,r.ar.map aC⟩,YH ⟨.of 46,2,r.ah.map aW⟩,YH ⟨.of 151,6,r.aH.map bt⟩,YH ⟨.of 3,1,r.skip.map aE⟩],ck (dA.eq_1 ..) func68 ntmps68 results68⟩
def ni(l:List aU)(order:Int)(kind:Int)(s0:Int×Int):Option ((Int×Int)⊕Int):=
 cond (YL (s0.2<(l.length:Int)))
 ((jn 5 4 (
 (aB l s0.2).bind λy1=>
 cond (YL (y1.order=order))
 ((aB l s0.2).bind λy2=>
 cond (YL (y2.kind=kind))
 (YH (.inl (aI (s0.1+1))))
 (YH (.inl s0.1)))
 (YH (.inl s0.1)):Option (Int⊕Empty)) (λz3=>(.sl (l.map bC)::vi order::vi kind::(U 4 (vi z3::vi s0.2::(U 25 []))))) (λz3=>[])).bind (bk (λz3=>
 YH (.inl (z3,(aI (s0.2+1))))) (λr=>r.elim)))
 (YH (.inr s0.1))
instance (l:List aU)(order:Int)(kind:Int):bo (ni l order kind):=⟨λs0=>(.sl (l.map bC)::vi order::vi kind::(U 4 (vi s0.1::vi s0.2::(U 25 [])))),λs0=>[]⟩
def lq(l:List aU)(order:Int)(kind:Int):Option Int:=
 (aD (ni l order kind) NN (0,0)).bind (λo0=>
 YH o0)
instance (l:List aU)(order:Int)(kind:Int):CT prog (lq l order kind):=⟨221,[.sl (l.map bC),vi order,vi kind],[],λr=>vi r,λr=>[],cw (lq.eq_1 ..) func221 ntmps221 results221⟩
def pU(l:List aq)(b:aq)(s0:Int):Option (Int⊕Int):=
 cond (YL (s0<(l.length:Int)))
 ((aB l s0).bind λy1=>
 (lr y1 b).bind λy2=>
 cond y2
 (YH (.inl (aI (s0+1))))
 (YH (.inr s0)))
 (YH (.inr s0))
instance (l:List aq)(b:aq):bo (pU l b):=⟨λs0=>(.sl (l.map aC)::.un::.un::.be 0 0 0::.un::vi s0::(U 25 [])),λs0=>[YH ⟨.of 147,4,[[vi b.bw,vi b.bj.bD,vi b.bj.day,vi b.ab]]⟩]⟩
def nk(l:List aq)(b:aq):Option (List aq):=
 (aD (pU l b) NN 0).bind (λo0=>
 (bW (gg 0 o0 l.length)).bind λ_=>
 (j2 (cH l 0 o0)).bind λy3=>
 (bW (bm ((y3:List aq).length+([b]:List aq).length) 32)).bind λ_=>
 (bW (gg o0 (l.length:Int) l.length)).bind λ_=>
 (bW (bm ((((y3:List aq)++[b]):List aq).length+((cH l o0 (l.length:Int)):List aq).length) 32)).bind λ_=>
 YH ((((y3:List aq)++[b]):List aq)++(cH l o0 (l.length:Int))))
instance (l:List aq)(b:aq):CT prog (nk l b):=⟨350,[.sl (l.map aC),.ag (aC b)],[],λr=>.ms 0,λr=>[YH ⟨.of 147,4,r.map aC⟩],cw (nk.eq_1 ..) func350 ntmps350 results350⟩
def qB(n:aj)(bD:Int)(mR:Int)(s0:Int):Option (Int⊕(Unit⊕(av×Bool))):=
 cond (YL (s0<=60))
 ((oq n bD s0).bind λy1=>
 cond y1
 ((df n (⟨bD,s0⟩:av)).bind λy2=>
 cond (YL (mR<=y2))
 (YH (.inr (.inr ((⟨bD,s0⟩:av),YJ))))
 (YH (.inl (aI (s0+1)))))
 (YH (.inl (aI (s0+1)))))
 (YH (.inr (.inl ())))
instance (n:aj)(bD:Int)(mR:Int):bo (qB n bD mR):=⟨λs0=>(.un::vi bD::vi mR::.be 0 0 0::.un::.un::.be 1 0 0::.un::vi s0::(U 21 [])),λs0=>[YH ⟨.of 27,3,[[.sl (n.aA.map bn),.sl (n.off.map aE),vi n.change]]⟩,YH ⟨.of 46,2,[[vi 0,vi 0]]⟩]⟩
def sY(n:aj)(bD:Int)(mR:Int):Option (av×Bool):=
 (aD (qB n bD mR) NN 0).bind (bk (λo0=>
 YH ((⟨0,0⟩:av),YK)) (λr=>YH r))
instance (n:aj)(bD:Int)(mR:Int):CT prog (sY n bD mR):=⟨367,[.ag (bA n),vi bD,vi mR],[],λr=>.tu [.ag [vi r.1.bD,vi r.1.day],vb r.2],λr=>[],cw (sY.eq_1 ..) func367 ntmps367 results367⟩
def nE(bD:Int)(ft:Int)(yL:aj):Option (av×Bool):=
 (sY yL bD ft).bind λy1=>
 YH (y1.1,y1.2)
instance (bD:Int)(ft:Int)(yL:aj):CT prog (nE bD ft yL):=⟨366,[vi bD,vi ft,.rp [.sl (yL.aA.map bn),.sl (yL.off.map aE),vi yL.change]],[],λr=>.tu [.ag [vi r.1.bD,vi r.1.day],vb r.2],λr=>[],cw (nE.eq_1 ..) func366 ntmps366 results366⟩
def oO(i:Int)(j:Int)(yL:List aq):Option Bool:=
 (aB yL i).bind λy1=>
 (aB yL j).bind λy2=>
 (fF y1 y2).bind λy3=>
 YH (YL (y3<0))
instance (i:Int)(j:Int)(yL:List aq):CT prog (oO i j yL):=⟨201,[vi i,vi j,.rp [.sl (yL.map aC)]],[],λr=>vb r,λr=>[],cw (oO.eq_1 ..) func201 ntmps201 results201⟩
def mc(a:List bK)(b:List bK)(s0:Int):Option (Int⊕(Unit⊕Bool)):=
 cond (YL (s0<(a.length:Int)))
 ((aB a s0).bind λy1=>
 (aB b s0).bind λy2=>
 cond (!decide (y1=y2))
 (YH (.inr (.inr YK)))
 (YH (.inl (aI (s0+1)))))
 (YH (.inr (.inl ())))
instance (a:List bK)(b:List bK):bo (mc a b):=⟨λs0=>(.sl (a.map bn)::.sl (b.map bn)::(U 10 (vi (a.length:Int)::vi s0::(U 12 [])))),λs0=>[]⟩
def iy(a:List bK)(b:List bK):Option Bool:=
 cond (!decide ((a.length:Int)=(b.length:Int)))
 (YH YK)
 ((aD (mc a b) NN 0).bind (bk (λo0=>
 YH YJ) (λr=>YH r)))
instance (a:List bK)(b:List bK):CT prog (iy a b):=⟨81,[.sl (a.map bn),.sl (b.map bn)],[],λr=>vb r,λr=>[],λH=>by replace H:=H0 H;unfold iy at H;exact ja func81 rfl ntmps81 results81 λQ hQ Ia=>JU⟩
def jw(a:List aq)(b:List aq)(s0:Int):Option (Int⊕(Unit⊕Bool)):=
 cond (YL (s0<(a.length:Int)))
 ((aB a s0).bind λy1=>
 (aB b s0).bind λy2=>
 cond (!decide (y1=y2))
 (YH (.inr (.inr YK)))
 (YH (.inl (aI (s0+1)))))
 (YH (.inr (.inl ())))
instance (a:List aq)(b:List aq):bo (jw a b):=⟨λs0=>(.sl (a.map aC)::.sl (b.map aC)::(U 10 (vi (a.length:Int)::vi s0::(U 12 [])))),λs0=>[]⟩
def fM(a:List aq)(b:List aq):Option Bool:=
 cond (!decide ((a.length:Int)=(b.length:Int)))
 (YH YK)
 ((aD (jw a b) NN 0).bind (bk (λo0=>
 YH YJ) (λr=>YH r)))
instance (a:List aq)(b:List aq):CT prog (fM a b):=⟨82,[.sl (a.map aC),.sl (b.map aC)],[],λr=>vb r,λr=>[],λH=>by replace H:=H0 H;unfold fM at H;exact ja func82 rfl ntmps82 results82 λQ hQ Ia=>JU⟩
end Go.Proofs.YtdilaemengjipaaGreatDoor
