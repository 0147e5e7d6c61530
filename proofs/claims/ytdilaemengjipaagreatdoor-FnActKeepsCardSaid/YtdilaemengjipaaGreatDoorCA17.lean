/- A part of the proof of the statement in the last file of this claim: texts on the language of the program and on its functions. No condition. -/
import Derived.Test.YtdilaemengjipaaGreatDoorCA4
import Derived.Test.YtdilaemengjipaaGreatDoorCA8
import Derived.Test.YtdilaemengjipaaGreatDoorCA13
import Derived.Test.YtdilaemengjipaaGreatDoorCA12
import Derived.Test.YtdilaemengjipaaGreatDoorCA9
import Derived.Test.YtdilaemengjipaaGreatDoorCA7
import Derived.Test.YtdilaemengjipaaGreatDoorCA5
import Derived.Test.YtdilaemengjipaaGreatDoorCA16
import Derived.Test.YtdilaemengjipaaGreatDoorCA10
import Derived.Test.YtdilaemengjipaaGreatDoorCA15
import Derived.Test.YtdilaemengjipaaGreatDoorCA14
import Derived.OpenShut
import Derived.Test.YtdilaemengjipaaGreatDoorCA1
set_option linter.unusedVariables false
set_option linter.unusedSimpArgs false
set_option linter.unusedSectionVars false
open Go.Value renaming int->YM
open Go.IntKind renaming i64->YN
open Go renaming undef->YO
open Option renaming some->YH,none->YI
open Bool renaming true->YJ,false->YK
open Decidable renaming decide->YL
open Go.Proofs.Tryz
set_option maxHeartbeats 40000000
open _root_.Int renaming toNat->Wd,tmod->Xs,tdiv->W3,reduceEq->Xi
open Nat renaming le_refl->VX,mul_le_mul_right->Wa,add_mul->Xf,lt_trichotomy->WJ
open List renaming append_assoc->Xm,mem_singleton->Wf,mem_append->Wl,length_append->V3,length_cons->VZ,length_nil->VY
open Option renaming bind_some->VS,getD_some->Xe
open _root_.Array renaming length_toList->Xd
open Bool renaming and_eq_true->V6,not_true->V5,not_false->Wr
namespace Go.Proofs.YtdilaemengjipaaGreatDoor
set_option maxRecDepth 10000
open Go.RowKit
def eB(n:aj)(l:List aq)(ah:List av)(ab:Int)(places:List ByteArray)(gG:List Int)(mY:Int)(s0:Int×(List Int)):Option ((Int×(List Int))⊕(List Int)):=
 cond (YL (s0.1<(n.aA.length:Int)))
 ((aB n.aA s0.1).bind λy2=>
 (ca places y2.au).bind λy3=>
 (aB n.aA s0.1).bind λy4=>
 (ca places y4.a8).bind λy5=>
 (aB gG y3).bind λy6=>
 cond (YL (y6<0))
 (YH (.inl ((aI (s0.1+1)),s0.2)))
 ((aB gG y3).bind λy7=>
 (cZ n y7 (YL (y3=mY))).bind λy8=>
 (cF n l ah s0.1 y8 ab).bind λy9=>
 cond (YL (y9<0))
 (YH (.inl ((aI (s0.1+1)),s0.2)))
 ((bl n (⟨s0.1,y9⟩:av)).bind λdL=>
 (aB s0.2 y5).bind λji=>
 cond (YL (ji<0))
 ((aB s0.2 y5).bind λoX=>
 YH (.inl ((aI (s0.1+1)),(s0.2.set (Wd y5) dL))))
 ((aB s0.2 y5).bind λmf=>
 cond (YL (dL<mf))
 ((aB s0.2 y5).bind λkX=>
 YH (.inl ((aI (s0.1+1)),(s0.2.set (Wd y5) dL))))
 (YH (.inl ((aI (s0.1+1)),s0.2)))))))
 (YH (.inr s0.2))
instance (n:aj)(l:List aq)(ah:List av)(ab:Int)(places:List ByteArray)(gG:List Int)(mY:Int):bo (eB n l ah ab places gG mY):=⟨λs0=>(.un::.sl (l.map aC)::.sl (ah.map aW)::vi ab::.sl (places.map jK)::.sl (gG.map aE)::vi mY::.be 0 0 0::(U 7 (.ms 1::vi s0.1::(U 74 [])))),λs0=>[YH ⟨.of 27,3,[[.sl (n.aA.map bn),.sl (n.off.map aE),vi n.change]]⟩,YH ⟨.of 3,1,s0.2.map aE⟩]⟩
def eu(n:aj)(l:List aq)(ah:List av)(ab:Int)(places:List ByteArray)(gG:List Int)(mY:Int):Option (List Int):=
 (eA gG).bind λy1=>
 (aD (eB n l ah ab places gG mY) NN (0,y1)).bind (λo0=>
 YH o0)
instance (n:aj)(l:List aq)(ah:List av)(ab:Int)(places:List ByteArray)(gG:List Int)(mY:Int):CT prog (eu n l ah ab places gG mY):=⟨377,[.ag (bA n),.sl (l.map aC),.sl (ah.map aW),vi ab,.sl (places.map jK),.sl (gG.map aE),vi mY],[],λr=>.ms 0,λr=>[YH ⟨.of 3,1,r.map aE⟩],cw (eu.eq_1 ..) func377 ntmps377 results377⟩
def iN(n:aj)(l:List aq)(ah:List av)(ab:Int)(aA:Int)(y1:(List ByteArray))(y2:Int)(s0:Int×(List Int)):Option ((Int×(List Int))⊕(List Int)):=
 cond (YL (s0.1<aA))
 (cond (YL (s0.1<(y1.length:Int)))
 ((eu n l ah ab y1 s0.2 y2).bind λy5=>
 YH (.inl ((aI (s0.1+1)),y5)))
 (YH (.inr s0.2)))
 (YH (.inr s0.2))
instance (n:aj)(l:List aq)(ah:List av)(ab:Int)(aA:Int)(y1:(List ByteArray))(y2:Int):bo (iN n l ah ab aA y1 y2):=⟨λs0=>(.un::.sl (l.map aC)::.sl (ah.map aW)::.un::.un::vi ab::vi aA::.be 0 0 0::(U 7 (.ms 1::vi y2::.ms 2::vi s0.1::(U 50 [])))),λs0=>[YH ⟨.of 27,3,[[.sl (n.aA.map bn),.sl (n.off.map aE),vi n.change]]⟩,YH ⟨.of 9,1,y1.map jK⟩,YH ⟨.of 3,1,s0.2.map aE⟩]⟩
def cV(n:aj)(l:List aq)(ah:List av)(fh:ByteArray)(kP:Int)(ab:Int)(aA:Int):Option (List Int):=
 (cW n).bind λy1=>
 (ca y1 fh).bind λy2=>
 (eI n l).bind λy3=>
 cond (!y3)
 (YH ([]:List Int))
 (cond (YL (y2<0))
 (YH ([]:List Int))
 (cond (YL (100000<kP))
 (YH ([]:List Int))
 (cond (YL (ab<1))
 (YH ([]:List Int))
 (cond (YL (aA<0))
 (YH ([]:List Int))
 ((gU y1 y2 kP).bind λy4=>
 (aD (iN n l ah ab aA y1 y2) NN (0,y4)).bind (λo0=>
 YH o0))))))
instance (n:aj)(l:List aq)(ah:List av)(fh:ByteArray)(kP:Int)(ab:Int)(aA:Int):CT prog (cV n l ah fh kP ab aA):=⟨348,[.ag (bA n),.sl (l.map aC),.sl (ah.map aW),vs fh,vi kP,vi ab,vi aA],[],λr=>.ms 0,λr=>[YH ⟨.of 3,1,r.map aE⟩],cw (cV.eq_1 ..) func348 ntmps348 results348⟩
def iS(n:aj)(l:List aq)(ah:List av)(ab:Int)(places:List ByteArray)(before:List Int)(mY:Int)(a8:Int)(ends:Int)(s0:Int):Option (Int⊕(Unit⊕av)):=
 cond (YL (s0<(n.aA.length:Int)))
 ((aB n.aA s0).bind λy1=>
 (ca places y1.au).bind λy2=>
 (aB n.aA s0).bind λy3=>
 (aB places a8).bind λy4=>
 cond (!decide (y3.a8=y4))
 (YH (.inl (aI (s0+1))))
 ((aB before y2).bind λy5=>
 cond (YL (y5<0))
 (YH (.inl (aI (s0+1))))
 ((aB before y2).bind λy6=>
 (cZ n y6 (YL (y2=mY))).bind λy7=>
 (cF n l ah s0 y7 ab).bind λy8=>
 cond (YL (0<=y8))
 ((bl n (⟨s0,y8⟩:av)).bind λy9=>
 cond (YL (y9=ends))
 (YH (.inr (.inr (⟨s0,y8⟩:av))))
 (YH (.inl (aI (s0+1)))))
 (YH (.inl (aI (s0+1)))))))
 (YH (.inr (.inl ())))
instance (n:aj)(l:List aq)(ah:List av)(ab:Int)(places:List ByteArray)(before:List Int)(mY:Int)(a8:Int)(ends:Int):bo (iS n l ah ab places before mY a8 ends):=⟨λs0=>(.un::.sl (l.map aC)::.sl (ah.map aW)::vi ab::.sl (places.map jK)::.sl (before.map aE)::vi mY::vi a8::vi ends::.be 0 0 0::(U 8 (.be 1 0 0::vi s0::(U 64 [])))),λs0=>[YH ⟨.of 27,3,[[.sl (n.aA.map bn),.sl (n.off.map aE),vi n.change]]⟩,YH ⟨.of 46,2,[[vi 0,vi 0]]⟩]⟩
def pD(n:aj)(l:List aq)(ah:List av)(ab:Int)(places:List ByteArray)(before:List Int)(mY:Int)(a8:Int)(ends:Int):Option av:=
 (aD (iS n l ah ab places before mY a8 ends) NN 0).bind (bk (λo0=>
 YH (⟨0,0⟩:av)) (λr=>YH r))
instance (n:aj)(l:List aq)(ah:List av)(ab:Int)(places:List ByteArray)(before:List Int)(mY:Int)(a8:Int)(ends:Int):CT prog (pD n l ah ab places before mY a8 ends):=⟨349,[.ag (bA n),.sl (l.map aC),.sl (ah.map aW),vi ab,.sl (places.map jK),.sl (before.map aE),vi mY,vi a8,vi ends],[],λr=>.ag [vi r.bD,vi r.day],λr=>[],cw (pD.eq_1 ..) func349 ntmps349 results349⟩
def fy(n:aj)(l:List aq)(ah:List av)(fh:ByteArray)(o7:Int)(ab:Int)(y1:(List ByteArray))(y2:Int)(y3:Int)(y6:Int)(s0:Int):Option (Int⊕Int):=
 (cV n l ah fh o7 ab s0).bind λy7=>
 (aB y7 y3).bind λy8=>
 cond (!decide (y8=y6))
 (YH (.inl (aI (s0+1))))
 (YH (.inr s0))
instance (n:aj)(l:List aq)(ah:List av)(fh:ByteArray)(o7:Int)(ab:Int)(y1:(List ByteArray))(y2:Int)(y3:Int)(y6:Int):bo (fy n l ah fh o7 ab y1 y2 y3 y6):=⟨λs0=>(.un::.sl (l.map aC)::.sl (ah.map aW)::vs fh::.un::vi o7::vi ab::.be 0 0 0::(U 8 (.ms 1::vi y2::vi y3::.un::.ms 2::vi y6::vi s0::(U 97 [])))),λs0=>[YH ⟨.of 27,3,[[.sl (n.aA.map bn),.sl (n.off.map aE),vi n.change]]⟩,YH ⟨.of 9,1,y1.map jK⟩,YH ⟨.of 46,2,([]:List av).map aW⟩]⟩
def fz(n:aj)(l:List aq)(ah:List av)(fh:ByteArray)(o7:Int)(ab:Int)(y1:(List ByteArray))(y2:Int)(s1:Int×Int×Int×(List av)):Option ((Int×Int×Int×(List av))⊕(List av)):=
 cond (YL (0<s1.2.2.1))
 ((cV n l ah fh o7 ab (aI (s1.2.2.1-1))).bind λy9=>
 (pD n l ah ab y1 y9 y2 s1.1 s1.2.1).bind λdL=>
 (bW (bm (([dL]:List av).length+(s1.2.2.2:List av).length) 16)).bind λ_=>
 (aB n.aA dL.bD).bind λji=>
 (ca y1 ji.au).bind λoX=>
 (aB y9 oX).bind λmf=>
 YH (.inl (oX,mf,(aI (s1.2.2.1-1)),(([dL]:List av)++s1.2.2.2))))
 (YH (.inr s1.2.2.2))
instance (n:aj)(l:List aq)(ah:List av)(fh:ByteArray)(o7:Int)(ab:Int)(y1:(List ByteArray))(y2:Int):bo (fz n l ah fh o7 ab y1 y2):=⟨λs1=>(.un::.sl (l.map aC)::.sl (ah.map aW)::vs fh::.un::vi o7::vi ab::.be 0 0 0::(U 8 (.ms 1::vi y2::vi s1.1::.un::.ms 2::vi s1.2.1::.un::vi s1.2.2.1::(U 96 [])))),λs1=>[YH ⟨.of 27,3,[[.sl (n.aA.map bn),.sl (n.off.map aE),vi n.change]]⟩,YH ⟨.of 9,1,y1.map jK⟩,YH ⟨.of 46,2,s1.2.2.2.map aW⟩]⟩
def bN(n:aj)(l:List aq)(ah:List av)(fh:ByteArray)(a8:ByteArray)(o7:Int)(ab:Int):Option ((List av)×Bool):=
 (cW n).bind λy1=>
 (ca y1 fh).bind λy2=>
 (ca y1 a8).bind λy3=>
 (cV n l ah fh o7 ab (y1.length:Int)).bind λy4=>
 cond (YL (y3<0))
 (YH (([]:List av),YK))
 (cond (YL ((y4.length:Int)=0))
 (YH (([]:List av),YK))
 ((aB y4 y3).bind λy5=>
 cond (YL (y5<0))
 (YH (([]:List av),YK))
 ((aB y4 y3).bind λy6=>
 (aD (fy n l ah fh o7 ab y1 y2 y3 y6) NN 0).bind (λo0=>
 (aD (fz n l ah fh o7 ab y1 y2) NN (y3,y6,o0,([]:List av))).bind (λo1=>
 YH (o1,YJ))))))
instance (n:aj)(l:List aq)(ah:List av)(fh:ByteArray)(a8:ByteArray)(o7:Int)(ab:Int):CT prog (bN n l ah fh a8 o7 ab):=⟨289,[.ag (bA n),.sl (l.map aC),.sl (ah.map aW),vs fh,vs a8,vi o7,vi ab],[],λr=>.tu [.ms 0,vb r.2],λr=>[YH ⟨.of 46,2,r.1.map aW⟩],cw (bN.eq_1 ..) func289 ntmps289 results289⟩
def n9(n:aj)(places:List ByteArray)(gG:List Int)(fh:Int)(s0:Int×(List Int)):Option ((Int×(List Int))⊕(List Int)):=
 cond (YL (s0.1<(n.aA.length:Int)))
 ((aB n.aA s0.1).bind λy2=>
 (ca places y2.au).bind λy3=>
 (aB n.aA s0.1).bind λy4=>
 (ca places y4.a8).bind λy5=>
 (aB gG y3).bind λy6=>
 cond (YL (y6<0))
 (YH (.inl ((aI (s0.1+1)),s0.2)))
 ((aB gG y3).bind λy7=>
 (cZ n y7 (YL (y3=fh))).bind λy8=>
 (iY n s0.1 y8).bind λy9=>
 cond (YL (y9<0))
 (YH (.inl ((aI (s0.1+1)),s0.2)))
 ((bl n (⟨s0.1,y9⟩:av)).bind λdL=>
 (aB s0.2 y5).bind λji=>
 cond (YL (ji<0))
 ((aB s0.2 y5).bind λoX=>
 YH (.inl ((aI (s0.1+1)),(s0.2.set (Wd y5) dL))))
 ((aB s0.2 y5).bind λmf=>
 cond (YL (dL<mf))
 ((aB s0.2 y5).bind λkX=>
 YH (.inl ((aI (s0.1+1)),(s0.2.set (Wd y5) dL))))
 (YH (.inl ((aI (s0.1+1)),s0.2)))))))
 (YH (.inr s0.2))
instance (n:aj)(places:List ByteArray)(gG:List Int)(fh:Int):bo (n9 n places gG fh):=⟨λs0=>(.un::.sl (places.map jK)::.sl (gG.map aE)::vi fh::.be 0 0 0::(U 4 (.ms 1::vi s0.1::(U 71 [])))),λs0=>[YH ⟨.of 27,3,[[.sl (n.aA.map bn),.sl (n.off.map aE),vi n.change]]⟩,YH ⟨.of 3,1,s0.2.map aE⟩]⟩
def oF(n:aj)(places:List ByteArray)(gG:List Int)(fh:Int):Option (List Int):=
 (eA gG).bind λy1=>
 (aD (n9 n places gG fh) NN (0,y1)).bind (λo0=>
 YH o0)
instance (n:aj)(places:List ByteArray)(gG:List Int)(fh:Int):CT prog (oF n places gG fh):=⟨390,[.ag (bA n),.sl (places.map jK),.sl (gG.map aE),vi fh],[],λr=>.ms 0,λr=>[YH ⟨.of 3,1,r.map aE⟩],cw (oF.eq_1 ..) func390 ntmps390 results390⟩
def fJ(n:aj)(aA:Int)(y1:(List ByteArray))(y2:Int)(s0:Int×(List Int)):Option ((Int×(List Int))⊕(List Int)):=
 cond (YL (s0.1<aA))
 (cond (YL (s0.1<(y1.length:Int)))
 ((oF n y1 s0.2 y2).bind λy5=>
 YH (.inl ((aI (s0.1+1)),y5)))
 (YH (.inr s0.2)))
 (YH (.inr s0.2))
instance (n:aj)(aA:Int)(y1:(List ByteArray))(y2:Int):bo (fJ n aA y1 y2):=⟨λs0=>(U 3 (vi aA::.be 0 0 0::(U 4 (.ms 1::vi y2::.ms 2::vi s0.1::(U 42 []))))),λs0=>[YH ⟨.of 27,3,[[.sl (n.aA.map bn),.sl (n.off.map aE),vi n.change]]⟩,YH ⟨.of 9,1,y1.map jK⟩,YH ⟨.of 3,1,s0.2.map aE⟩]⟩
def jI(n:aj)(cC:ByteArray)(mR:Int)(aA:Int):Option (List Int):=
 (cW n).bind λy1=>
 (ca y1 cC).bind λy2=>
 (aV n).bind λy3=>
 cond (!y3)
 (YH ([]:List Int))
 (cond (YL (y2<0))
 (YH ([]:List Int))
 (cond (YL (100000<mR))
 (YH ([]:List Int))
 (cond (YL (aA<0))
 (YH ([]:List Int))
 ((gU y1 y2 mR).bind λy4=>
 (aD (fJ n aA y1 y2) NN (0,y4)).bind (λo0=>
 YH o0)))))
instance (n:aj)(cC:ByteArray)(mR:Int)(aA:Int):CT prog (jI n cC mR aA):=⟨380,[.ag (bA n),vs cC,vi mR,vi aA],[],λr=>.ms 0,λr=>[YH ⟨.of 3,1,r.map aE⟩],cw (jI.eq_1 ..) func380 ntmps380 results380⟩
def jr(n:aj)(cC:ByteArray)(a8:ByteArray)(fO:Int):Option Int:=
 (cW n).bind λy1=>
 (ca y1 a8).bind λy2=>
 (jI n cC fO (y1.length:Int)).bind λy3=>
 cond (YL (y2<0))
 (YH (-1))
 (cond (YL ((y3.length:Int)=0))
 (YH (-1))
 ((aB y3 y2).bind λy4=>
 YH y4))
instance (n:aj)(cC:ByteArray)(a8:ByteArray)(fO:Int):CT prog (jr n cC a8 fO):=⟨351,[.ag (bA n),vs cC,vs a8,vi fO],[],λr=>vi r,λr=>[],cw (jr.eq_1 ..) func351 ntmps351 results351⟩
def kc(n:aj)(ay:Int)(cP:ByteArray)(a8:ByteArray)(kP:Int):Option Int:=
 (jr n cP a8 kP).bind λy1=>
 cond (YL (y1<0))
 (YH (-1))
 ((bc ay 1 3).bind λy2=>
 cond (!y2)
 (YH (-1))
 (cond (YL (1080<(Xs y1 1440)))
 (YH (aI ((aI ((aI ((aI ((IntKind.i64.wrap (W3 y1 1440))+1))+(aI ((aI (ay-1))*(aI (ay-1))))))*1440))+1080)))
 (YH (aI ((aI ((aI ((IntKind.i64.wrap (W3 y1 1440))+(aI ((aI (ay-1))*(aI (ay-1))))))*1440))+1080)))))
instance (n:aj)(ay:Int)(cP:ByteArray)(a8:ByteArray)(kP:Int):CT prog (kc n ay cP a8 kP):=⟨291,[.ag (bA n),vi ay,vs cP,vs a8,vi kP],[],λr=>vi r,λr=>[],cw (kc.eq_1 ..) func291 ntmps291 results291⟩
def nf(n:aj)(br:aj)(fO:Int)(aA:Int)(y1:List ByteArray)(y2:Int)(s0:Int×(List Int)):Option ((Int×(List Int))⊕(List Int)):=
 cond (YL (s0.1<(y1.length:Int)))
 ((bW (bm ((s0.2:List Int).length+([(-1)]:List Int).length) 8)).bind λ_=>
 YH (.inl ((aI (s0.1+1)),((s0.2:List Int)++[(-1)]))))
 (YH (.inr s0.2))
instance (n:aj)(br:aj)(fO:Int)(aA:Int)(y1:List ByteArray)(y2:Int):bo (nf n br fO aA y1 y2):=⟨λs0=>(.un::.fn 366 [.rp [.sl (br.aA.map bn),.sl (br.off.map aE),vi br.change]]::.un::vi fO::vi aA::.be 0 0 0::(U 5 (.ms 1::vi y2::.ms 2::(U 26 (vi (y1.length:Int)::vi s0.1::(U 83 [])))))),λs0=>[YH ⟨.of 27,3,[[.sl (n.aA.map bn),.sl (n.off.map aE),vi n.change]]⟩,YH ⟨.of 9,1,y1.map jK⟩,YH ⟨.of 3,1,s0.2.map aE⟩]⟩
def jP(n:aj)(br:aj)(aA:Int)(y1:List ByteArray)(y2:Int)(s1:Int×(List Int))(s2:Int×Bool×(List Int)):Option ((Int×Bool×(List Int))⊕(Bool×(List Int))):=
 cond (YL (s2.1<(n.aA.length:Int)))
 ((aB n.aA s2.1).bind λy4=>
 (bS y1 y4.au).bind λy5=>
 (bS y1 y4.a8).bind λy6=>
 (aB s1.2 y5).bind λy7=>
 cond (YL (y7<0))
 (YH (.inl ((aI (s2.1+1)),s2.2.1,s2.2.2)))
 ((aB s1.2 y5).bind λy8=>
 (kv n y8 (YL (y5=y2))).bind λy9=>
 (nE s2.1 y9 br).bind λdL=>
 cond dL.2
 ((aB s2.2.2 y6).bind λji=>
 cond (YL (ji<0))
 ((cX n dL.1).bind λoX=>
 (aB s2.2.2 y6).bind λmf=>
 YH (.inl ((aI (s2.1+1)),YJ,(s2.2.2.set (Wd y6) oX))))
 ((cX n dL.1).bind λkX=>
 (aB s2.2.2 y6).bind λpg=>
 cond (YL (kX<pg))
 ((cX n dL.1).bind λmu=>
 (aB s2.2.2 y6).bind λrn=>
 YH (.inl ((aI (s2.1+1)),YJ,(s2.2.2.set (Wd y6) mu))))
 (YH (.inl ((aI (s2.1+1)),s2.2.1,s2.2.2)))))
 (YH (.inl ((aI (s2.1+1)),s2.2.1,s2.2.2)))))
 (YH (.inr (s2.2.1,s2.2.2)))
instance (n:aj)(br:aj)(aA:Int)(y1:List ByteArray)(y2:Int)(s1:Int×(List Int)):bo (jP n br aA y1 y2 s1):=⟨λs2=>(.un::.fn 366 [.rp [.sl (br.aA.map bn),.sl (br.off.map aE),vi br.change]]::.un::.un::vi aA::.be 0 0 0::(U 5 (.ms 1::vi y2::.ms 2::vi s1.1::.ms 3::vb s2.2.1::(U 44 (.sl (n.aA.map bn)::vi (n.aA.length:Int)::vi s2.1::(U 61 [])))))),λs2=>[YH ⟨.of 27,3,[[.sl (n.aA.map bn),.sl (n.off.map aE),vi n.change]]⟩,YH ⟨.of 9,1,y1.map jK⟩,YH ⟨.of 3,1,s1.2.map aE⟩,YH ⟨.of 3,1,s2.2.2.map aE⟩]⟩
def jO(n:aj)(br:aj)(aA:Int)(y1:List ByteArray)(y2:Int)(s1:Int×(List Int)):Option ((Int×(List Int))⊕(List Int)):=
 cond (YL (s1.1<aA))
 ((bW (bm ((([]:List Int):List Int).length+(s1.2:List Int).length) 8)).bind λ_=>
 (aD (jP n br aA y1 y2 s1) NN (0,YK,((([]:List Int):List Int)++s1.2))).bind (λo2=>
 cond (!o2.1)
 (YH (.inr o2.2))
 (YH (.inl ((aI (s1.1+1)),o2.2)))))
 (YH (.inr s1.2))
instance (n:aj)(br:aj)(aA:Int)(y1:List ByteArray)(y2:Int):bo (jO n br aA y1 y2):=⟨λs1=>(.un::.fn 366 [.rp [.sl (br.aA.map bn),.sl (br.off.map aE),vi br.change]]::.un::.un::vi aA::.be 0 0 0::(U 5 (.ms 1::vi y2::.ms 2::vi s1.1::(U 110 [])))),λs1=>[YH ⟨.of 27,3,[[.sl (n.aA.map bn),.sl (n.off.map aE),vi n.change]]⟩,YH ⟨.of 9,1,y1.map jK⟩,YH ⟨.of 3,1,s1.2.map aE⟩]⟩
def jH(n:aj)(br:aj)(cP:ByteArray)(fO:Int)(aA:Int):Option (List Int):=
 (dm n).bind λy1=>
 (bS y1 cP).bind λy2=>
 cond (YL (y2<0))
 (YH ([]))
 (cond (YL (100000<fO))
 (YH ([]))
 (cond (YL (aA<0))
 (YH ([]))
 ((aD (nf n br fO aA y1 y2) NN (0,([]:List Int))).bind (λo0=>
 (aB o0 y2).bind λy3=>
 (aD (jO n br aA y1 y2) NN (0,(o0.set (Wd y2) (if 0 > fO then 0 else fO)))).bind (λo1=>
 YH o1)))))
instance (n:aj)(br:aj)(cP:ByteArray)(fO:Int)(aA:Int):CT prog (jH n br cP fO aA):=⟨248,[.ag (bA n),.fn 366 [.rp [.sl (br.aA.map bn),.sl (br.off.map aE),vi br.change]],vs cP,vi fO,vi aA],[],λr=>.ms 0,λr=>[YH ⟨.of 3,1,r.map aE⟩],cw (jH.eq_1 ..) func248 ntmps248 results248⟩
def mj(n:aj)(cC:ByteArray)(mR:Int)(aA:Int):Option (List Int):=
 (eW n).bind λy1=>
 cond (!y1)
 (YH ([]))
 ((rh n).bind λy2=>
 (jH n y2 cC mR aA).bind λy3=>
 YH y3)
instance (n:aj)(cC:ByteArray)(mR:Int)(aA:Int):CT prog (mj n cC mR aA):=⟨255,[.ag (bA n),vs cC,vi mR,vi aA],[],λr=>.ms 0,λr=>[YH ⟨.of 3,1,r.map aE⟩],cw (mj.eq_1 ..) func255 ntmps255 results255⟩
def jm(n:aj)(cC:ByteArray)(a8:ByteArray)(fO:Int):Option Int:=
 (dm n).bind λy1=>
 (mj n cC fO (y1.length:Int)).bind λy2=>
 (bS y1 a8).bind λy3=>
 cond (YL (y3<0))
 (YH (-1))
 (cond (YL ((y2.length:Int)=0))
 (YH (-1))
 ((aB y2 y3).bind λy4=>
 YH y4))
instance (n:aj)(cC:ByteArray)(a8:ByteArray)(fO:Int):CT prog (jm n cC a8 fO):=⟨202,[.ag (bA n),vs cC,vs a8,vi fO],[],λr=>vi r,λr=>[],cw (jm.eq_1 ..) func202 ntmps202 results202⟩
def fE(n:aj)(ay:Int)(cP:ByteArray)(a8:ByteArray)(kP:Int):Option Int:=
 (jm n cP a8 kP).bind λy1=>
 cond (YL (y1=(-1)))
 (YH (-1))
 ((aZ ay 1 3).bind λy2=>
 cond (!y2)
 (YH (-1))
 (cond (YL (1080<(Xs y1 1440)))
 ((aB ([0,1,4]:List Int) (aI (ay-1))).bind λy3=>
 YH (aI ((aI ((aI ((aI ((IntKind.i64.wrap (W3 y1 1440))+1))+y3))*1440))+1080)))
 ((aB ([0,1,4]:List Int) (aI (ay-1))).bind λy4=>
 YH (aI ((aI ((aI ((IntKind.i64.wrap (W3 y1 1440))+y4))*1440))+1080)))))
instance (n:aj)(ay:Int)(cP:ByteArray)(a8:ByteArray)(kP:Int):CT prog (fE n ay cP a8 kP):=⟨139,[.ag (bA n),vi ay,vs cP,vs a8,vi kP],[],λr=>vi r,λr=>[],cw (fE.eq_1 ..) func139 ntmps139 results139⟩
end Go.Proofs.YtdilaemengjipaaGreatDoor
namespace Go.Proofs.YtdilaemengjipaaGreatDoor
set_option maxRecDepth 10000
open Go.RowKit Go.Lib Go.Sort
set_option maxRecDepth 100000
section
variable {α:Type} [Inhabited α] {lt:α->α->Bool}
def MI(lt:α->α->Bool)(bs n q:Nat)(d:Array α):Prop:=(∀p,p<q->SortedIn lt (p*(2*bs)) (p*(2*bs)+2*bs) d)/\∀p,2*q<=p->SortedIn lt (p*bs) (min (p*bs+bs) n) d
theorem Zgr(q bs:Nat):(2*q)*bs=q*(2*bs):=by grind
theorem MI.zero{bs n:Nat}{d:Array α}(h:Qb lt bs n d):MI lt bs n 0 d:=⟨λp hp=>X9,λp _=>h p⟩
theorem MI.left{bs n q A:Nat}{d:Array α}(h:MI lt bs n q d)(hA:A=q*(2*bs))(hn:A+bs<=n):SortedIn lt A (A+bs) d:=by
 have:=h.2 (2*q) (VX _)
 grind
theorem MI.right{bs n q A:Nat}{d:Array α}(h:MI lt bs n q d)(hA:A=q*(2*bs)):SortedIn lt (A+bs) (min (A+2*bs) n) d:=by
 have:=h.2 (2*q+1) X9
 grind
theorem MI.last{bs n q A:Nat}{d:Array α}(h:MI lt bs n q d)(hA:A=q*(2*bs))(hn:n<=A+bs):SortedIn lt A n d:=by
 have:=h.2 (2*q) (VX _)
 grind
theorem MI.step{bs n q A:Nat}{d e:Array α}(h:MI lt bs n q d)(hA:A=q*(2*bs))(hp:PermIn A (A+2*bs) d e)(hs:SortedIn lt A (A+2*bs) e):MI lt bs n (q+1) e:=by
 refine⟨λp hpq=>?_,λp hpq=>?_⟩
 ·rcases Nat.lt_or_ge p q with h1|h1
  ·have h2:(p+1)*(2*bs)<=q*(2*bs):=Wa _ h1
   rw[Xf]at h2
   exact xn (h.1 p h1) λk _ hk=>hp.2.1 k (.inl X9)
  grind
 ·have h2:(2*(q+1))*bs<=p*bs:=Wa _ hpq
  rw[Zgr,Xf]at h2
  exact xn (h.2 p X9) λk hk _=>hp.2.1 k (.inr X9)
theorem MI.fin{bs n q A:Nat}{d e:Array α}(h:MI lt bs n q d)(hA:A=q*(2*bs))(hn:n<A+2*bs)(hp:PermIn A n d e)(hs:SortedIn lt A n e):Qb lt (2*bs) n e:=by
 intro p
 rcases WJ p q with h1|h1|h1
 ·have h2:(p+1)*(2*bs)<=q*(2*bs):=Wa _ h1
  rw[Xf]at h2
  exact xn (wg (h.1 p h1) (VX _) (Nat.min_le_left _ _)) λk _ hk=>hp.2.1 k (.inl X9)
 ·grind
 ·have h2:(q+1)*(2*bs)<=p*(2*bs):=Wa _ h1
  rw[Xf]at h2
  exact Nf X9
def BI(lt:α->α->Bool)(q:Nat)(d:Array α):Prop:=∀p,p<q->SortedIn lt (p*20) (p*20+20) d
theorem BI.step{q:Nat}{d e:Array α}(h:BI lt q d)(hp:PermIn (q*20) (q*20+20) d e)(hs:SortedIn lt (q*20) (q*20+20) e):BI lt (q+1) e:=λp hpq=>by
 by_cases h1:p=q
 ·grind
 ·exact xn (h p X9) λk _ hk=>hp.2.1 k (.inl X9)
theorem BI.fin{q n:Nat}{d e:Array α}(h:BI lt q d)(hn:n<q*20+20)(hp:PermIn (q*20) n d e)(hs:SortedIn lt (q*20) n e):Qb lt 20 n e:=λp=>by
 rcases WJ p q with h1|h1|h1
 ·exact xn (wg (h p h1) (VX _) (Nat.min_le_left _ _)) λk _ hk=>hp.2.1 k (.inl X9)
 ·grind
 ·exact Nf X9
variable {enc:α->List Value} {k:Nat} {g:Nat} {T:TypeId} {cs:Nat}
variable (hk:∀x,(enc x).length=k) (f:Nat) (lb:Array Value) (sf:Nat) (sb:Array Value) (n:Nat) (hn:n<1152921504606846976) (pq:SwapSwapsK prog sf sb enc k g 0 n)
include hk hn pq
theorem Th(hO:SWO lt)(eg:∀args w,(callFunc f args).run prog w=.ok (.enter f args) w){d:Array α}{W:World}(hd:d.size=n)(h0:SU enc k g T cs W d W)(hL:sQ f lb enc k lt g T cs n W):
 Calls prog 253 #[LS f lb sf sb,YM YN n] W λe w'=>e=.returned (.tuple #[])/\∃e,SU enc k g T cs W e w'/\PermIn 0 n d e/\SortedIn lt 0 n e:=by
 have hB:SU enc k g T cs W d (W.alloc (rZ f lb sf sb)):=h0.more (Up.al _ (Up.rfl' W));have HL:Hid (∀d' W',SU enc k g T cs (W.alloc (rZ f lb sf sb)) d' W'->sQ f lb enc k lt g T cs n W'):=λd' W' h'=>hL.on (hB.trans h')
 have HB:Hid (SU enc k g T cs W d (W.alloc (rZ f lb sf sb))):=hB;have hI:=fun(d':Array α) (W':World) (wV:d'.size=n) (h':SU enc k g T cs W' d' W') (hL':sQ f lb enc k lt g T cs n W') (a b:Nat) (B8:a<=b) (hb:b<=n)=>Ot hk f lb sf sb n hn pq eg wV h' hL' a b B8 hb
 have hM:=fun(d':Array α) (W':World) (wV:d'.size=n) (h':SU enc k g T cs W' d' W') (hL':sQ f lb enc k lt g T cs n W') (a m b:Nat)=>ZcP hk f lb sf sb n hn pq hO eg (b-a) d' W' wV h' hL' a m b (VX _)
 have HI:Hid _:=hI;have HM:Hid _:=hM;have hg:=h0.lt;clear h0 hL hI hM
 go_enter func253,ntmps253
 go_wp2
 go_loopw [5,6] (λv5 v6 wr=>∃(q:Nat) (dk:Array α),v5=YM YN ((q:Int)*20)/\v6=YM YN ((q:Int)*20+20)/\q*20<=n/\PermIn 0 n d dk/\BI lt q dk/\SU enc k g T cs (W.alloc (rZ f lb sf sb)) dk wr) (λv5 v6 _=>n-(intOf v5).toNat)
 case atStart=>exact⟨0,d,by rfl,by rfl,X9,permIn_refl _ _ _,λp hp=>X9,hB.self⟩
 case round=>
  obtain⟨q,dk,rfl,rfl,hq,hP,hBI,hS⟩:=hrel;have c0:wr.cell? ⟨W.heap.size,0,YI⟩=YH (.func (.func f) #[] lb):=by rw[hS.Ah Ye X9];simp
  have c1:wr.cell? ⟨W.heap.size,1,YI⟩=YH (.func (.func sf) #[] sb):=by rw[hS.Ah Ye X9];simp
  have hds:dk.size=n:=hP.1.trans hd;have HS:Hid (SU enc k g T cs (W.alloc (rZ f lb sf sb)) dk wr):=hS;have HP:Hid (PermIn 0 n d dk):=hP;have HBI:Hid (BI lt q dk):=hBI;clear hS hB hP hBI
  by_cases hle:q*20+20<=n
  ·have hc:=HI.out dk wr hds HS.out.self (HL.out dk wr HS.out) (q*20) (q*20+20) X9 hle
   rw[show((q*20:Nat):Int)=(q:Int)*20 by omega,show((q*20+20:Nat):Int)=(q:Int)*20+20 by omega]at hc
   go_wp2_with (go_at_call 320;refine hc.mono ?_;rintro e w' ⟨rfl,hE⟩)
   have x:=insertionSort_holds hO dk (q*20) (q*20+20) X9 X9;exact⟨⟨q+1,_,by grind,by grind,X9,permIn_trans _ _ _ _ _ HP.out (permIn_mono _ _ _ _ _ _ X9 X9 X9 x.1),HBI.out.step x.1 x.2,HS.out.trans hE⟩,by simp[intOf];omega⟩
  ·have Zd5:¬(q:Int)*20+20<=(n:Int):=X9
   have hc:=HI.out dk wr hds HS.out.self (HL.out dk wr HS.out) (q*20) n hq (VX _);rw[show((q*20:Nat):Int)=(q:Int)*20 by omega]at hc
   go_wp2_with (go_at_call 320;refine hc.mono ?_;rintro e w' ⟨rfl,hE⟩)
   have x:=insertionSort_holds hO dk (q*20) n X9 X9;have hR0:=HBI.out.fin X9 x.1 x.2;have hP0:=permIn_trans _ _ _ _ _ HP.out (permIn_mono _ _ _ _ _ _ X9 (VX _) X9 x.1);have hS0:=HS.out.trans hE;clear x c0 c1
   go_loopw [4,5,6,7] (λv4 v5 v6 v7 wr=>∃(bs:Nat) (dk:Array α),v4=YM YN (bs:Int)/\1<=bs/\bs<=2*n+20/\PermIn 0 n d dk/\Qb lt bs n dk/\SU enc k g T cs (W.alloc (rZ f lb sf sb)) dk wr) (λv4 _ _ _ _=>n-(intOf v4).toNat)
   case atStart=>grind
   case round=>
    obtain⟨bs,dk2,rfl,pk,uI,hP2,hR2,Ib⟩:=hrel;have HP2:Hid (PermIn 0 n d dk2):=hP2;have HR2:Hid (Qb lt bs n dk2):=hR2;have JX:Hid (SU enc k g T cs (W.alloc (rZ f lb sf sb)) dk2 wr):=Ib;clear hP2 hR2 Ib hP0 hR0 hS0 hE Zd5 hle hc HS HP HBI hq
    by_cases bU:bs<n
    ·go_wp2
     go_loopw [5,6] (λv5 v6 wr=>∃(A:Nat) (dk:Array α),v5=YM YN (A:Int)/\v6=YM YN ((A:Int)+2*(bs:Int))/\A<=n/\PermIn 0 n d dk/\(∃q,A=q*(2*bs)/\MI lt bs n q dk)/\SU enc k g T cs (W.alloc (rZ f lb sf sb)) dk wr) (λv5 v6 _=>n-(intOf v5).toNat)
     case atStart=>exact⟨0,dk2,by rfl,by go_num,X9,HP2.out,⟨0,X9,MI.zero HR2.out⟩,JX.out⟩
     case round=>
      obtain⟨A,Us,rfl,rfl,hA,hP3,hM3,hS3⟩:=hrel;have c0:wr.cell? ⟨W.heap.size,0,YI⟩=YH (.func (.func f) #[] lb):=by rw[hS3.Ah Ye X9];simp
      have c1:wr.cell? ⟨W.heap.size,1,YI⟩=YH (.func (.func sf) #[] sb):=by rw[hS3.Ah Ye X9];simp
      have ZdY:Us.size=n:=hP3.1.trans hd;have HP3:Hid (PermIn 0 n d Us):=hP3;have HM3:Hid (∃q,A=q*(2*bs)/\MI lt bs n q Us):=hM3;have HS3:Hid (SU enc k g T cs (W.alloc (rZ f lb sf sb)) Us wr):=hS3;clear hP3 hM3 hS3
      by_cases hle:A+2*bs<=n
      ·have hc:=HM.out Us wr ZdY HS3.out.self (HL.out Us wr HS3.out) A (A+bs) (A+2*bs) X9 X9 hle (by obtain⟨q,h1,h2⟩:=HM3.out;exact h2.left h1 X9) (by obtain⟨q,h1,h2⟩:=HM3.out;have:=h2.right h1;simp_all)
       rw[show((A+bs:Nat):Int)=(A:Int)+(bs:Int)by omega,show((A+2*bs:Nat):Int)=(A:Int)+2*(bs:Int)by omega]at hc
       go_wp2_with (go_at_call 321;refine hc.mono ?_;rintro e w' ⟨rfl,hE⟩)
       obtain⟨e,JY,GL,Mw⟩:=hE;exact⟨⟨A+2*bs,e,by rfl,by rfl,hle,permIn_trans _ _ _ _ _ HP3.out (permIn_mono _ _ _ _ _ _ X9 hle X9 GL),(by obtain⟨q,h1,h2⟩:=HM3.out;exact⟨q+1,by grind,h2.step h1 GL Mw⟩),HS3.out.trans JY⟩,by simp[intOf];omega⟩
      ·have Zd5:¬(A:Int)+2*(bs:Int)<=(n:Int):=X9
       by_cases hm:A+bs<n
       ·have hmz:(A:Int)+(bs:Int)<(n:Int):=X9
        have hc:=HM.out Us wr ZdY HS3.out.self (HL.out Us wr HS3.out) A (A+bs) n X9 X9 (VX _) (by obtain⟨q,h1,h2⟩:=HM3.out;exact h2.left h1 X9) (by obtain⟨q,h1,h2⟩:=HM3.out;have:=h2.right h1;grind)
        rw[show((A+bs:Nat):Int)=(A:Int)+(bs:Int)by omega]at hc
        go_wp2_with (go_at_call 321;refine hc.mono ?_;rintro e w' ⟨rfl,hE⟩)
        obtain⟨e,JY,GL,Mw⟩:=hE;exact⟨⟨2*bs,e,by grind,X9,X9,permIn_trans _ _ _ _ _ HP3.out (permIn_mono _ _ _ _ _ _ X9 (VX _) X9 GL),(by obtain⟨q,h1,h2⟩:=HM3.out;exact h2.fin h1 X9 GL Mw),HS3.out.trans JY⟩,by simp[intOf];omega⟩
       ·have hmz:¬(A:Int)+(bs:Int)<(n:Int):=X9
        go_wp2
        exact⟨⟨2*bs,Us,by grind,X9,X9,HP3.out,(by obtain⟨q,h1,h2⟩:=HM3.out;exact h2.fin h1 X9 (permIn_refl _ _ _) (h2.last h1 X9)),HS3.out⟩,by simp[intOf];omega⟩
    ·have yM:¬(bs:Int)<(n:Int):=X9
     go_wp2
     go_end0
     refine⟨rfl,dk2,HB.out.trans JX.out,HP2.out,?_⟩;have:=HR2.out 0
     simp_all
end
end Go.Proofs.YtdilaemengjipaaGreatDoor
namespace Go.Proofs.YtdilaemengjipaaGreatDoor
set_option maxRecDepth 10000
open Go.RowKit
def j9(c:aO)(n:aj):Option (av×aO):=
 (bh [0]).bind λ_=>
 (aw c (n.aA.length:Int)).bind λy1=>
 (bh [0]).bind λ_=>
 (aw y1.2 10).bind λy2=>
 (iY n y1.1 (aI (y2.1*1440))).bind λy3=>
 cond (YL (0<=y3))
 ((bh [0]).bind λ_=>
 (bP y2.2 4).bind λy4=>
 cond (!y4.1)
 (YH ((⟨y1.1,y3⟩:av),y4.2))
 (YH ((⟨y1.1,y2.1⟩:av),y4.2)))
 (YH ((⟨y1.1,y2.1⟩:av),y2.2))
instance (c:aO)(n:aj):CT prog (j9 c n):=⟨184,[.be 0 0 0,.ag (bA n)],[YH ⟨.of 119,3,[[.sl (c.b.map YQ),vi c.i,vi c.h]]⟩],λr=>.ag [vi r.1.bD,vi r.1.day],λr=>[YH ⟨.of 119,3,[[.sl (r.2.b.map YQ),vi r.2.i,vi r.2.h]]⟩],cw (j9.eq_1 ..) func184 ntmps184 results184⟩
def dO(c:aO)(w:ax):Option (av×aO):=
 cond (YL (0<(w.ar.length:Int)))
 ((bh [0]).bind λ_=>
 (bP c 4).bind λy1=>
 cond (!y1.1)
 ((kR 8 [6]).bind λ_=>
 (bh [0]).bind λ_=>
 (aw y1.2 (w.ar.length:Int)).bind λy2=>
 (aB w.ar y2.1).bind λy3=>
 YH (y3.bj,y2.2))
 ((bh [0]).bind λ_=>
 (j9 y1.2 w.aa).bind λy4=>
 YH (y4.1,y4.2)))
 ((bh [0]).bind λ_=>
 (j9 c w.aa).bind λy5=>
 YH (y5.1,y5.2))
instance (c:aO)(w:ax):CT prog (dO c w):=⟨115,[.be 0 0 0,.ag (fY w)],[YH ⟨.of 119,3,[[.sl (c.b.map YQ),vi c.i,vi c.h]]⟩],λr=>.ag [vi r.1.bD,vi r.1.day],λr=>[YH ⟨.of 119,3,[[.sl (r.2.b.map YQ),vi r.2.i,vi r.2.h]]⟩],cw (dO.eq_1 ..) func115 ntmps115 results115⟩
def kb(c:aO)(n:aj):Option (av×aO×aj):=
 (bh [0]).bind λ_=>
 (aw c (n.aA.length:Int)).bind λy1=>
 (bh [0]).bind λ_=>
 (aw y1.2 10).bind λy2=>
 (iY n y1.1 (aI (y2.1*1440))).bind λy3=>
 cond (YL (0<=y3))
 ((bh [0]).bind λ_=>
 (bP y2.2 4).bind λy4=>
 cond (!y4.1)
 (YH ((⟨y1.1,y3⟩:av),y4.2,n))
 (YH ((⟨y1.1,y2.1⟩:av),y4.2,n)))
 (YH ((⟨y1.1,y2.1⟩:av),y2.2,n))
instance (c:aO)(n:aj):CT prog (kb c n):=⟨184,[.be 0 0 0,.ag [.ms 1,.ms 2,vi n.change]],[YH ⟨.of 119,3,[[.sl (c.b.map YQ),vi c.i,vi c.h]]⟩,YH ⟨.of 144,6,n.aA.map bn⟩,YH ⟨.of 3,1,n.off.map aE⟩],λr=>.ag [vi r.1.bD,vi r.1.day],λr=>[YH ⟨.of 119,3,[[.sl (r.2.1.b.map YQ),vi r.2.1.i,vi r.2.1.h]]⟩,YH ⟨.of 144,6,r.2.2.aA.map bn⟩,YH ⟨.of 3,1,r.2.2.off.map aE⟩],cw (kb.eq_1 ..) func184 ntmps184 results184⟩
def lQ(c:aO)(w:ax):Option (av×aO×ax):=
 cond (YL (0<(w.ar.length:Int)))
 ((bh [0]).bind λ_=>
 (bP c 4).bind λy1=>
 cond (!y1.1)
 ((kR 8 [6]).bind λ_=>
 (bh [0]).bind λ_=>
 (aw y1.2 (w.ar.length:Int)).bind λy2=>
 (aB w.ar y2.1).bind λy3=>
 YH (y3.bj,y2.2,w))
 ((bh [0,1,2]).bind λ_=>
 (kb y1.2 w.aa).bind λy4=>
 YH (y4.1,y4.2.1,(⟨(⟨y4.2.2.aA,y4.2.2.off,w.aa.change⟩:aj),w.ae,w.ar,w.ah,w.now,w.aH,w.skip,w.bd⟩:ax))))
 ((bh [0,1,2]).bind λ_=>
 (kb c w.aa).bind λy5=>
 YH (y5.1,y5.2.1,(⟨(⟨y5.2.2.aA,y5.2.2.off,w.aa.change⟩:aj),w.ae,w.ar,w.ah,w.now,w.aH,w.skip,w.bd⟩:ax)))
instance (c:aO)(w:ax):CT prog (lQ c w):=⟨115,[.be 0 0 0,.ag [.ms 1,.ms 2,vi w.aa.change,.ms 3,.ms 4,.ms 5,vi w.now,.ms 6,.ms 7,vi w.bd]],[YH ⟨.of 119,3,[[.sl (c.b.map YQ),vi c.i,vi c.h]]⟩,YH ⟨.of 144,6,w.aa.aA.map bn⟩,YH ⟨.of 3,1,w.aa.off.map aE⟩,YH ⟨.of 94,11,w.ae.map ba⟩,YH ⟨.of 147,4,w.ar.map aC⟩,YH ⟨.of 46,2,w.ah.map aW⟩,YH ⟨.of 151,6,w.aH.map bt⟩,YH ⟨.of 3,1,w.skip.map aE⟩],λr=>.ag [vi r.1.bD,vi r.1.day],λr=>[YH ⟨.of 119,3,[[.sl (r.2.1.b.map YQ),vi r.2.1.i,vi r.2.1.h]]⟩,YH ⟨.of 144,6,r.2.2.aa.aA.map bn⟩,YH ⟨.of 3,1,r.2.2.aa.off.map aE⟩,YH ⟨.of 94,11,r.2.2.ae.map ba⟩,YH ⟨.of 147,4,r.2.2.ar.map aC⟩,YH ⟨.of 46,2,r.2.2.ah.map aW⟩,YH ⟨.of 151,6,r.2.2.aH.map bt⟩,YH ⟨.of 3,1,r.2.2.skip.map aE⟩],cw (lQ.eq_1 ..) func115 ntmps115 results115⟩
end Go.Proofs.YtdilaemengjipaaGreatDoor
namespace Go.Proofs.YtdilaemengjipaaGreatDoor
set_option maxRecDepth 10000
open Go.RowKit Go.Sort
variable {a b:ByteArray}{c:UInt8}{l:cq}{n:Int}{p:aT}
def KP(c:UInt8):Prop:=(48<=c.toNat/\c.toNat<=57)\/(65<=c.toNat/\c.toNat<=90)
theorem QT(h:KP c):∃a,zQ c=YH a:=by
 unfold zQ
 by_cases h1:48<=c.toNat/\c.toNat<=57
 ·exact⟨_,if_pos h1⟩
 ·rw[if_neg h1]
  rcases h with h|h
  ·exact absurd h h1
  ·exact⟨_,if_pos h⟩
theorem D0:∀{l:List UInt8},(∀c∈l,KP c)->∃a,nA l=YH a/\a.length<=21*l.length
 | [],_=>⟨[],rfl,by simp⟩
 |c::cs,h=>by
  obtain⟨a,ha⟩:=QT (h c Ye);obtain⟨b,hb,zi⟩:=D0 (l:=cs) λx hx=>h x (by simp[hx])
  have:=Fv ha;exact⟨a++b,by simp only[nA,ha,hb],by simp;omega⟩
theorem QU{l m a b:List UInt8}(h1:nA l=YH a)(h2:nA m=YH b):nA (l++m)=YH (a++b):=by
 induction l generalizing a with
 |nil=>simp[nA]at h1;subst h1;simpa using h2
 |cons c l ih=>
  simp only[nA]at h1
  cases hc:zQ c with
  |none=>rw[hc]at h1;cases h1
  |some x=>
   cases hl:nA l with
   |none=>rw[hc,hl]at h1;cases h1
   |some y=>
    rw[hc,hl]at h1
    cases h1
    simp only[List.cons_append,nA,hc,ih hl,Xm]
theorem Ur:∀(k u:Nat),u<=k->∀c∈Lib.decDigits u,KP c:=by
 intro k
 induction k with
 |zero=>
  intro u hu c hc;obtain rfl:u=0:=X9;rw[Lib.decDigits,dif_pos X9]at hc
  simp at hc
  subst hc;left;decide
 |succ k ih=>
  intro u hu c hc;rw[Lib.decDigits]at hc
  by_cases wm:u<10
  ·rw[dif_pos wm]at hc
   obtain rfl:=Wf.1 hc;left;rw[UInt8.toNat_ofNat'];omega
  ·rw[dif_neg wm]at hc
   rcases Wl.1 hc with h|h
   ·exact ih _ X9 c h
   ·obtain rfl:=Wf.1 h
    left;rw[UInt8.toNat_ofNat'];omega
theorem IC(h:0<=n):∀c∈Lib.itoa n,KP c:=by
 unfold Lib.itoa;rw[if_neg X9];exact Ur _ _ (VX _)
theorem Sp{d:Nat}(h:0<=n):∀c∈yr n d,KP c:=by
 intro c hc
 rcases Wl.1 hc with h1|h1
 ·rw[List.eq_of_mem_replicate h1];left;decide
 ·exact IC h c h1
theorem zC{l:List UInt8}{i:Nat}(h:l[i]?=YH c)(hi:i<3):js (j4 l) (i:Int)=YH (if 65<=c.toNat/\c.toNat<=90 then .inl ((i+1:Nat):Int)else .inr (.inr YK)):=by
 have tD:=c.toNat_lt;unfold js;rw[X1 (show(i:Int)<3 by omega),H3 h]
 simp only[X5,VS,GH (y:=(c.toNat:Int)) ⟨X9,X9⟩,cE,bE (n:=3) hi X9]
 by_cases h1:65<=c.toNat/\c.toNat<=90
 ·rw[if_pos h1,X1 (show(65:Int)<=c.toNat by omega),X1 (show(c.toNat:Int)<=90 by omega)];rfl
 ·rw[if_neg h1]
  have e:(YL ((65:Int)<=c.toNat)&&YL ((c.toNat:Int)<=90))=false:=by
   by_cases h:65<=c.toNat
   ·rw[X2 (show ¬(c.toNat:Int)<=90 by omega),Bool.and_false]
   ·rw[X2 (show ¬(65:Int)<=(c.toNat:Int)by omega),Bool.false_and]
  rw[e];rfl
theorem Df(s:ByteArray):j4 s.data.toList=s:=ByteArray.ext (by simp[j4])
theorem Jd{s:ByteArray}(h:bT s=YH YJ):s.size=3/\∀c∈s.data.toList,KP c:=by
 by_cases h3:s.size=3
 ·refine⟨h3,?_⟩
  have hl:s.data.toList.length=3:=by rw[Xd];exact h3
  obtain⟨n,hn⟩:∃n,NN=n+1+1+1:=⟨NN-3,by unfold NN;omega⟩
  unfold bT at h
  rw[h3,hn,<-Df s]at h
  revert h hl
  generalize s.data.toList=l;intro hl h
  match l,hl with
  | [a,b,c],_=>
   have ea:=zC (l:=[a,b,c]) (i:=0) rfl X9;have eb:=zC (l:=[a,b,c]) (i:=1) rfl X9;have ec:=zC (l:=[a,b,c]) (i:=2) rfl X9
   by_cases ha:65<=a.toNat/\a.toNat<=90
   ·rw[if_pos ha]at ea
    by_cases hb:65<=b.toNat/\b.toNat<=90
    ·rw[if_pos hb]at eb
     by_cases hc:65<=c.toNat/\c.toNat<=90
     ·intro x hx
      simp at hx
      rcases hx with rfl|rfl|rfl
      ·exact .inr ha
      ·exact .inr hb
      ·exact .inr hc
     ·rw[if_neg hc]at ec
      have e:=(AW (n:=n+1+1) ea).trans ((AW (n:=n+1) eb).trans (Oz (n:=n) ec));rw[show((0:Nat):Int)=0 from rfl]at e
      rw[e]at h
      cases h
    ·rw[if_neg hb]at eb
     have e:=(AW (n:=n+1+1) ea).trans (Oz (n:=n+1) eb);rw[show((0:Nat):Int)=0 from rfl]at e
     rw[e]at h
     cases h
   ·rw[if_neg ha]at ea
    have e:=Oz (n:=n+1+1) ea;rw[show((0:Nat):Int)=0 from rfl]at e
    rw[e]at h
    cases h
 ·unfold bT at h
  rw[X2 X9]at h
  cases h
def u0(l:cq):List UInt8:=Lib.itoa l.ay++yr l.da 9++l.a8.data.toList
theorem zn(h:dP l=YH YJ):l.a8.size=3/\∀c∈u0 l,KP c:=by
 unfold dP at h
 rw[cE,cE]at h
 simp only[VS]at h
 cases h1:(YL (1<=l.ay)&&YL (l.ay<=3))with
 |false=>rw[h1]at h;cases h
 |true=>
  cases h2:(YL (0<=l.da)&&YL (l.da<=999999999))with
  |false=>rw[h1,h2]at h;cases h
  |true=>
   rw[h1,h2]at h
   have h3:bT l.a8=YH true:=by
    cases hp:bT l.a8 with
    |none=>rw[hp]at h;cases h
    |some b=>rw[hp]at h;exact h
   obtain⟨hs,hp⟩:=Jd h3;simp only[V6,decide_eq_true_eq]at h1 h2
   refine⟨hs,λc hc=>?_⟩
   rcases Wl.1 hc with hc|hc
   ·rcases Wl.1 hc with hc|hc
    ·exact IC X9 c hc
    ·exact Sp X9 c hc
   ·exact hp c hc
theorem DP(h1:nR l.ay)(h2:nR l.da)(h3:l.a8.size<=3):(u0 l).length<=45:=by
 have a:=ly h1;have b:=Cz (d:=9) h2 X9;have c:l.a8.data.toList.length=l.a8.size:=by rw[Xd];rfl
 unfold u0;simp only[V3];omega
theorem fI(h:nR n):cu n=YH (j4 (Lib.itoa n)):=by unfold cu;rw[if_pos h]
theorem fS(h:nR n):bG n=YH (j4 (Lib.itoa n)):=by unfold bG;rw[if_pos h]
theorem sOk(ha:a.size<=100000)(hb:b.size<=100000):bW (cY a b)=YH ():=od (yE Yt)
theorem DQ(h1:nR l.ay)(h2:nR l.da)(h3:l.a8.size<=3):nO l=YH (j4 (u0 l))/\ri l=YH (j4 (u0 l)):=by
 have a:=ly h1;have b:=Cz (d:=9) h2 X9;have e:(j4 (Lib.itoa l.ay)++j4 (yr l.da 9))++l.a8=j4 (u0 l):=by
  rw[<-Df l.a8,oW,oW];rfl
 have c1:bW (cY (j4 (Lib.itoa l.ay)) (j4 (yr l.da 9)))=YH ():=sOk Yz Yz;have c2:bW (cY (j4 (Lib.itoa l.ay)++j4 (yr l.da 9)) l.a8)=YH ():=sOk (by rw[oW,dw,V3];omega) X9
 have p1:=EC (d:=9) h2 X9;have p2:=Aj (d:=9) h2 X9;rw[show((9:Nat):Int)=9 from rfl]at p1 p2
 refine⟨?_,?_⟩
 ·unfold nO
  simp only[fI h1,p1,VS,c1,c2,e]
 ·unfold ri
  simp only[fS h1,p2,VS,c1,c2,e]
theorem Vt(h:ZeD n):nR n:=bounds_i64 h
theorem Tt(n:Int):nR (aI n):=Vt (wf_wrap .i64 n)
theorem Ki(h1:nR l.ay)(h2:nR l.da)(h:dP l=YH YJ)(hi:gJ l=YH YJ):∃n,nR n/\oh l=YH n/\sC l=YH n:=by
 obtain⟨hs,hd⟩:=zn h;obtain⟨b1,b2⟩:=DQ h1 h2 X9;have hl:=DP h1 h2 X9;obtain⟨a,ha,hal⟩:=D0 hd;have h00:nA [48,48]=YH [48,48]:=rfl;have UF:=QU ha h00;have e48:(⟨#[48,48]⟩:ByteArray)=j4 [48,48]:=rfl;have c1:bW (cY (j4 a) (j4 [48,48]))=YH ():=sOk Yz (by rw[dw];simp)
 have c2:bW (cY (j4 (u0 l)) (j4 [48,48]))=YH ():=sOk Yz (by rw[dw];simp)
 obtain⟨m,hm⟩:=ON (s:=j4 (a++[48,48])) (by rw[dw,V3];unfold NN;simp;omega)
 refine⟨aI (98-m),Tt _,?_,?_⟩
 ·unfold oh
  have d1:=NW (l:=u0 l) X9;rw[ha]at d1
  simp only[Xe,Option.isSome_some]at d1
  simp only[hi,b1,d1,VS,V5,X6,e48,c1,oW,Sa,hm]
 ·unfold sC
  have d1:=Hy (l:=u0 l++[48,48]) (by rw[V3];simp;omega)
  rw[UF]at d1
  simp only[Xe,Option.isSome_some]at d1
  simp only[h,b2,d1,VS,V5,X6,e48,c2,oW,hm]
theorem KQ(h1:nR l.ay)(h2:nR l.da)(h3:l.a8.size<=rq):∃b:List UInt8,b.length<=100/\iH l=YH (j4 b)/\nh l=YH (j4 b):=by
 obtain⟨e,v,hv⟩:=yf h3;have hi:gJ l=YH v:=e.trans hv
 cases v with
 |false=>
  refine⟨[],by simp,?_,?_⟩
  ·unfold iH;simp only[hi,VS,Wr,X5];rfl
  ·unfold nh;simp only[hv,VS,Wr,X5];rfl
 |true=>
  obtain⟨hs,hd⟩:=zn hv;obtain⟨b1,b2⟩:=DQ h1 h2 X9;have hl:=DP h1 h2 X9;obtain⟨n,hn,c1,c2⟩:=Ki h1 h2 hv hi;have p1:=EC (d:=2) hn X9;have p2:=Aj (d:=2) hn X9;have pl:=Cz (d:=2) hn X9;rw[show((2:Nat):Int)=2 from rfl]at p1 p2
  have c3:bW (cY (j4 (u0 l)) (j4 (yr n 2)))=YH ():=sOk Yz Yz;refine⟨u0 l++yr n 2,by rw[V3];omega,?_,?_⟩
  ·unfold iH;simp only[hi,b1,c1,p1,c3,VS,V5,X6,oW]
  ·unfold nh;simp only[hv,b2,c2,p2,c3,VS,V5,X6,oW]
def AL(p:aT):Prop:=nR p.label.ay/\nR p.label.da/\p.label.a8.size<=2000000/\p.au.size<=2000000/\nR p.ab/\p.bH.length<=2000000/\(∀x∈p.bH,nR x)/\nR p.value
theorem bOk(ha:a.size+b.size<=100000000):bW (cY a b)=YH ():=od (yE Yt)
theorem I6(h:AL p):∃b:List UInt8,b.length<=3000000/\gY p=YH (j4 b)/\mq p=YH (j4 b):=by
 obtain⟨h1,h2,h3,h4,h5,h6,h7,h8⟩:=h;obtain⟨e,v,hv⟩:=tR (p:=p) Yt Yt Yc;have hi:gb p=YH v:=e.trans hv
 cases v with
 |false=>
  refine⟨[],by simp,?_,?_⟩
  ·unfold gY;simp only[hi,VS,Wr,X5];rfl
  ·unfold mq;simp only[hv,VS,Wr,X5];rfl
 |true=>
  have h3s:rL p.bH=true:=by
   cases ht:rL p.bH with
   |true=>rfl
   |false=>
    exfalso
    revert hv
    unfold dJ;obtain⟨_,b1,pk⟩:=yf (l:=p.label) Yt;obtain⟨_,b2,uI⟩:=l7 (s:=p.au) X9;rw[pk,uI,yJ Yc,ht,cE];simp only[VS]
    cases b1<;>cases b2<;>cases(!decide (p.au=p.label.a8))<;>cases(YL (1<=p.ab)&&YL (p.ab<=30000))<;>simp
  have TE:=wj h3s;obtain⟨x,y,z,hs⟩:∃x y z,p.bH=[x,y,z]:=by
   match hp:p.bH,TE with
   | [x,y,z],_=>exact⟨x,y,z,rfl⟩
  have i1:nR x:=h7 x (by rw[hs];simp)
  have i2:nR y:=h7 y (by rw[hs];simp)
  have i3:nR z:=h7 z (by rw[hs];simp)
  have l1:=ly i1;have l2:=ly i2;have l3:=ly i3;have l4:=ly h5;have l5:=ly h8;obtain⟨b,hb,f1,f2⟩:=KQ (l:=p.label) h1 h2 Yt;have g0:aB p.bH 0=YH x:=by rw[hs];rfl
  have g1:aB p.bH 1=YH y:=by rw[hs];rfl
  have g2:aB p.bH 2=YH z:=by rw[hs];rfl
  have ex:(⟨#[120]⟩:ByteArray)=j4 [120]:=rfl;have es:(⟨#[32]⟩:ByteArray)=j4 [32]:=rfl;have Og:p.au.data.toList.length=p.au.size:=by rw[Xd];rfl
  have hft:p.au=j4 p.au.data.toList:=(Df _).symm;generalize p.au.data.toList=fl at *
  refine⟨b++[32]++fl++[32]++Lib.itoa p.ab++[32]++Lib.itoa x++[120]++Lib.itoa y++[120]++Lib.itoa z++[32]++Lib.itoa p.value,by simp only[V3,VZ,VY];omega,?_,?_⟩
  ·unfold gY
   simp only[hi,g0,g1,g2,fI i1,fI i2,fI i3,fI h5,fI h8,f1,VS,V5,X6,ex,es,hft,oW]
   repeat rw[bOk YF,VS]
   simp only[Xm]
  ·unfold mq
   simp only[hv,g0,g1,g2,fS i1,fS i2,fS i3,fS h5,fS h8,f2,VS,V5,X6,ex,es,hft,oW]
   repeat rw[bOk YF,VS]
def Zc2(a:bV):Prop:=AL a.aQ/\nR a.order/\nR a.bz/\nR a.bM/\nR a.bj.bD/\nR a.bj.day
theorem Qi{a:bV}(h:Zc2 a):∃b:ByteArray,iG a=YH b/\tN a=YH b:=by
 obtain⟨hp,h1,h2,h3,h4,h5⟩:=h;have Ol:=hp;obtain⟨p1,p2,p3,p4,p5,p6,p7,p8⟩:=Ol;obtain⟨v,hi,hv⟩:=Bh (a:=a) Yt Yt Yc;obtain⟨b,hb,f1,f2⟩:=I6 hp;have l1:=ly h1;have l2:=ly h2;have l3:=ly h3;have l4:=ly h4;have l5:=ly h5;unfold iG tN pP;have lit:∀l:List UInt8,(⟨l.toArray⟩:ByteArray)=j4 l:=λl=>rfl
 have et:(⟨#[116,97,107,101,32]⟩:ByteArray)=j4 [116,97,107,101,32]:=rfl;have ep:(⟨#[112,97,121,32]⟩:ByteArray)=j4 [112,97,121,32]:=rfl;have es:(⟨#[32]⟩:ByteArray)=j4 [32]:=rfl;have er:(⟨#[114,117,110,32]⟩:ByteArray)=j4 [114,117,110,32]:=rfl;have eh:(⟨#[115,104,117,116,32]⟩:ByteArray)=j4 [115,104,117,116,32]:=rfl;have el:(⟨#[47]⟩:ByteArray)=j4 [47]:=rfl;have ef:(⟨#[114,101,102,117,110,100,32]⟩:ByteArray)=j4 [114,101,102,117,110,100,32]:=rfl;simp only[hi,hv,f1,f2,fI h1,fI h2,fI h3,fI h4,fI h5,fS h1,fS h2,fS h3,fS h4,fS h5,VS,et,ep,es,er,eh,el,ef,oW]
 repeat rw[bOk YF,VS]
 simp only[Xm]
 cases v<;>cases YL (a.kind=1)<;>cases YL (a.kind=2)<;>cases YL (a.kind=3)<;>cases YL (a.kind=4)<;>cases YL (a.kind=5)<;>exact⟨_,rfl,rfl⟩
abbrev zP:aT:=⟨⟨0,0,⟨#[]⟩⟩,⟨#[]⟩,0,[],0⟩
theorem OB(h:dP l=YH YJ):(1<=l.ay/\l.ay<=3)/\(0<=l.da/\l.da<=999999999):=by
 unfold dP at h
 simp only[cE,VS]at h
 cases h1:(YL (1<=l.ay)&&YL (l.ay<=3))with
 |false=>rw[h1]at h;cases h
 |true=>
  cases h2:(YL (0<=l.da)&&YL (l.da<=999999999))with
  |false=>rw[h1,h2]at h;cases h
  |true=>simpa only[V6,decide_eq_true_eq]using And.intro h1 h2
theorem Lf(h1:p.label.a8.size<=rq)(h2:p.au.size<=rq)(h3:p.bH.length<NN)(h:dJ p=YH YJ):dP p.label=YH YJ/\bT p.au=YH YJ/\(1<=p.ab/\p.ab<=30000)/\rL p.bH=YJ/\(0<=p.value/\p.value<=500000):=by
 obtain⟨_,b1,pk⟩:=yf h1;obtain⟨_,b2,uI⟩:=l7 h2;obtain⟨_,b3,hb3⟩:=H6 h3
 revert h
 unfold dJ;simp only[pk,uI,hb3,yJ h3,cE,VS]
 cases b1<;>cases b2<;>cases(!decide (p.au=p.label.a8))<;>cases hw:(YL (1<=p.ab)&&YL (p.ab<=30000))<;>cases rL p.bH<;>cases YL (b3<=3600)<;>simp_all
theorem Tq{l:List Int}(h:rL l=YJ):∃x y z,l=[x,y,z]/\(1<=x/\x<=2000)/\(1<=y/\y<=2000)/\(1<=z/\z<=2000):=by
 have hl:=wj h
 match l,hl with
 | [x,y,z],_=>exact⟨x,y,z,rfl,by simpa[rL]using h⟩
theorem qH(h:0<=n/\n<=1000000000):nR n:=⟨X9,X9⟩
theorem zPI:AL zP:=⟨by decide,by decide,by decide,by decide,by decide,by decide,by simp,by decide⟩
theorem z64:nR 0:=by decide
theorem Le(h1:p.label.a8.size<=rq)(h2:p.au.size<=rq)(h3:p.bH.length<NN)(h:dJ p=YH YJ):AL p:=by
 obtain⟨q1,q2,q3,q4,q5⟩:=Lf h1 h2 h3 h;obtain⟨r1,r2⟩:=OB q1;obtain⟨x,y,z,hs,hx,hy,hz⟩:=Tq q4;have t:=(zn q1).1;have u:=(Jd q2).1;refine⟨qH X9,qH X9,X9,X9,qH X9,by rw[hs];simp,λv hv=>?_,qH X9⟩
 rw[hs]at hv
 simp only[List.mem_cons,List.not_mem_nil,or_false]at hv
 rcases hv with rfl|rfl|rfl<;>exact qH X9
theorem TP{a:bV}(h1:a.aQ.label.a8.size<=rq)(h2:a.aQ.au.size<=rq)(h3:a.aQ.bH.length<NN)(h:eE a=YH YJ):Zc2 a:=by
 obtain⟨e1,b1,pk⟩:=tR h1 h2 h3;obtain⟨k,p,o,m,u,t⟩:=a;obtain⟨lg,d⟩:=t;obtain⟨lb,fr,w,sd,v⟩:=p;simp only at h1 h2 h3 e1 pk
 have sv:=λb=>xk (a:=⟨k,⟨lb,fr,w,sd,v⟩,o,m,u,⟨lg,d⟩⟩) (b:=b) h3
 unfold eE at h
 simp only[o4,gE,e1,pk,cE,VS]at h
 by_cases k1:k=1
 ·subst k1
  simp only[decide_true,X5,VS,bk,sv]at h
  cases b1 with
  |false=>cases h
  |true=>
   simp at h
   obtain⟨rfl,rfl,rfl,rfl,rfl⟩:=h;exact⟨Le h1 h2 h3 pk,z64,z64,z64,z64,z64⟩
 by_cases k2:k=2
 ·subst k2
  simp only[Xi,decide_true,decide_false,X5,X6,VS,bk,sv,Kd]at h
  cases ha:(YL (1<=o)&&YL (o<=9999))<;>rw[ha]at h
  ·cases h
  cases hb:(YL (1<=m)&&YL (m<=100000))<;>rw[hb]at h
  ·cases h
  simp at h ha hb
  obtain⟨⟨rfl,rfl,rfl,rfl,rfl⟩,rfl,rfl,rfl⟩:=h;exact⟨zPI,qH (n:=o) X9,qH (n:=m) X9,z64,z64,z64⟩
 by_cases k3:k=3
 ·subst k3
  simp only[Xi,decide_true,decide_false,X5,X6,VS,bk,sv,Kd]at h
  cases ha:(YL (0<=u)&&YL (u<=100000))<;>rw[ha]at h
  ·cases h
  simp at h ha
  obtain⟨⟨rfl,rfl,rfl,rfl,rfl⟩,rfl,rfl,rfl,rfl⟩:=h;exact⟨zPI,z64,z64,qH (n:=u) X9,z64,z64⟩
 by_cases k4:k=4
 ·subst k4
  simp only[Xi,decide_true,decide_false,X5,X6,VS,bk,sv,Kd]at h
  cases ha:(YL (0<=lg)&&YL (lg<=19))<;>rw[ha]at h
  ·cases h
  cases hb:(YL (0<=d)&&YL (d<=60))<;>rw[hb]at h
  ·cases h
  simp at h ha hb
  obtain⟨⟨rfl,rfl,rfl,rfl,rfl⟩,rfl,rfl,rfl⟩:=h;exact⟨zPI,z64,z64,z64,qH (n:=lg) X9,qH (n:=d) X9⟩
 by_cases k5:k=5
 ·subst k5
  simp only[Xi,decide_true,decide_false,X5,X6,VS,bk,sv,Kd]at h
  simp at h
  obtain⟨⟨rfl,rfl,rfl,rfl,rfl⟩,rfl,rfl,rfl,rfl,rfl⟩:=h;exact⟨zPI,z64,z64,z64,z64,z64⟩
 by_cases k6:k=6
 ·subst k6
  simp only[Xi,decide_true,decide_false,X5,X6,VS,bk,sv,Kd]at h
  cases ha:(YL (1<=o)&&YL (o<=9999))<;>rw[ha]at h
  ·cases h
  simp at h ha
  obtain⟨⟨rfl,rfl,rfl,rfl,rfl⟩,rfl,rfl,rfl,rfl⟩:=h;exact⟨zPI,qH (n:=o) X9,z64,z64,z64,z64⟩
 simp only[X2 k1,X2 k2,X2 k3,X2 k4,X2 k5,X2 k6,X6,VS,bk]at h
 cases h
theorem ZdH{a:bV}(h1:a.aQ.label.a8.size<=rq)(h2:a.aQ.au.size<=rq)(h3:a.aQ.bH.length<NN)(h:eE a=YH YJ):∃s,iG a=YH s:=by
 obtain⟨s,e,_⟩:=Qi (TP h1 h2 h3 h);exact⟨s,e⟩
end Go.Proofs.YtdilaemengjipaaGreatDoor
