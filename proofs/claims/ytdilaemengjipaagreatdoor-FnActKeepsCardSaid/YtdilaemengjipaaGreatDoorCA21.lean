/- A part of the proof of the statement in the last file of this claim: texts on the language of the program and on its functions. No condition. -/
import Derived.Test.YtdilaemengjipaaGreatDoorCA4
import Derived.Test.YtdilaemengjipaaGreatDoorCA8
import Derived.Test.YtdilaemengjipaaGreatDoorCA13
import Derived.Test.YtdilaemengjipaaGreatDoorCA10
import Derived.Test.YtdilaemengjipaaGreatDoorCA14
import Derived.Test.YtdilaemengjipaaGreatDoorCA12
import Derived.Test.YtdilaemengjipaaGreatDoorCA9
import Derived.Test.YtdilaemengjipaaGreatDoorCA16
import Derived.Test.YtdilaemengjipaaGreatDoorCA1
set_option linter.unusedVariables false
set_option linter.unusedSimpArgs false
set_option linter.unusedSectionVars false
open Option renaming some->YH,none->YI
open Bool renaming true->YJ,false->YK
open Decidable renaming decide->YL
open Go.Proofs.Tryz
set_option maxHeartbeats 40000000
namespace Go.Proofs.YtdilaemengjipaaGreatDoor
open _root_.Int renaming toNat->Wd
set_option maxRecDepth 10000
open Go.RowKit
def gr(l:List aU)(s0:Int):Option (Int⊕(Unit⊕Bool)):=
 cond (YL (s0<(l.length:Int)))
 ((jn 6 5 (
 (aB l s0).bind λy1=>
 (jn 7 9 (
 (nP y1).bind λy2=>
 cond (!y2)
 (YH (.inr YK))
 (cond (YL (0<s0))
 ((aB l (aI (s0-1))).bind λy3=>
 cond (YL (y1.aP<y3.aP))
 (YH (.inr YK))
 (YH (.inl ())))
 (YH (.inl ()))):Option (Unit⊕Bool)) (λz4=>(.sl (l.map bC)::.un::.un::vi s0::.be 0 0 0::(U 76 []))) (λz4=>[YH ⟨.of 85,4,[[vi y1.order,vi y1.kind,vi y1.bz,vi y1.aP]]⟩])).bind (bk (λz4=>
 (bW (gg 0 s0 l.length)).bind λ_=>
 (eM (cH l 0 s0) y1.order 1).bind λy5=>
 cond (YL (y1.kind=1))
 (cond (YL (0<y5))
 (YH (.inr YK))
 (YH (.inl ())))
 (cond (YL (y1.kind=2))
 ((eM (cH l 0 s0) y1.order 2).bind λy6=>
 cond (YL (y5<(aI (y6+y1.bz))))
 (YH (.inr YK))
 (YH (.inl ())))
 ((lq (cH l 0 s0) y1.order 3).bind λy7=>
 cond (YL (0<y7))
 (YH (.inr YK))
 (cond (YL (y5<y1.bz))
 (YH (.inr YK))
 ((eM (cH l 0 s0) y1.order 2).bind λy8=>
 cond (!decide (y8=y5))
 (YH (.inr YK))
 (YH (.inl ()))))))) (λr=>YH (.inr r))):Option (Unit⊕Bool)) (λz9=>(.sl (l.map bC)::.un::.un::vi s0::(U 77 []))) (λz9=>[])).bind (bk (λz9=>
 YH (.inl (aI (s0+1)))) (λr=>YH (.inr (.inr r)))))
 (YH (.inr (.inl ())))
instance (l:List aU):bo (gr l):=⟨λs0=>(.sl (l.map bC)::.un::.un::vi s0::(U 77 [])),λs0=>[]⟩
def dX(l:List aU):Option Bool:=
 cond (YL (200<(l.length:Int)))
 (YH YK)
 ((aD (gr l) NN 0).bind (bk (λo0=>
 YH YJ) (λr=>YH r)))
theorem zw(l:List aU){r:Bool}(H:dX l=YH r):fL prog 173 [.sl (l.map bC)] [] (vb r) []:=by
 replace H:=H0 H;unfold dX at H
 refine ja func173 rfl ntmps173 results173 λQ hQ Ia=>?_
 exact JU
instance (l:List aU):CT prog (dX l):=⟨173,[.sl (l.map bC)],[],λr=>vb r,λr=>[],zw l⟩
def kH(l:List aU)(x:aU):Option ((List aU)×Int):=
 (bZ l).bind λy1=>
 (bW (bm ((y1:List aU).length+([x]:List aU).length) 32)).bind λ_=>
 cond (YL (200<=(l.length:Int)))
 ((bZ l).bind λy2=>
 YH (y2,5))
 ((dX ((y1:List aU)++[x])).bind λy3=>
 cond (!y3)
 ((bZ l).bind λy4=>
 YH (y4,1))
 (YH (((y1:List aU)++[x]),0)))
instance (l:List aU)(x:aU):CT prog (kH l x):=⟨244,[.sl (l.map bC),.ag (bC x)],[],λr=>.tu [.ms 0,vi r.2],λr=>[YH ⟨.of 85,4,r.1.map bC⟩],cw (kH.eq_1 ..) func244 ntmps244 results244⟩
def fx(l:List aU)(order:Int)(bz:Int)(fO:Int):Option ((List aU)×Int):=
 (dX l).bind λy1=>
 cond (!y1)
 ((bZ l).bind λy2=>
 YH (y2,1))
 ((nP (⟨order,1,bz,fO⟩:aU)).bind λy3=>
 cond (!y3)
 ((bZ l).bind λy4=>
 YH (y4,1))
 ((eM l order 1).bind λy5=>
 cond (YL (0<y5))
 ((bZ l).bind λy6=>
 YH (y6,2))
 ((kH l (⟨order,1,bz,fO⟩:aU)).bind λy7=>
 YH (y7.1,y7.2))))
instance (l:List aU)(order:Int)(bz:Int)(fO:Int):CT prog (fx l order bz fO):=⟨194,[.sl (l.map bC),vi order,vi bz,vi fO],[],λr=>.tu [.ms 0,vi r.2],λr=>[YH ⟨.of 85,4,r.1.map bC⟩],cw (fx.eq_1 ..) func194 ntmps194 results194⟩
def eo(l:List aU)(order:Int):Option Int:=
 (dX l).bind λy1=>
 cond (!y1)
 (YH 0)
 ((eM l order 1).bind λy2=>
 (eM l order 2).bind λy3=>
 YH (aI (y2-y3)))
instance (l:List aU)(order:Int):CT prog (eo l order):=⟨114,[.sl (l.map bC),vi order],[],λr=>vi r,λr=>[],cw (eo.eq_1 ..) func114 ntmps114 results114⟩
def eT(l:List aU)(order:Int)(bz:Int)(fO:Int):Option ((List aU)×Int):=
 (dX l).bind λy1=>
 cond (!y1)
 ((bZ l).bind λy2=>
 YH (y2,1))
 ((nP (⟨order,2,bz,fO⟩:aU)).bind λy3=>
 cond (!y3)
 ((bZ l).bind λy4=>
 YH (y4,1))
 ((eM l order 1).bind λy5=>
 cond (YL (y5=0))
 ((bZ l).bind λy6=>
 YH (y6,3))
 ((eo l order).bind λy7=>
 cond (YL (y7<bz))
 ((bZ l).bind λy8=>
 YH (y8,4))
 ((kH l (⟨order,2,bz,fO⟩:aU)).bind λy9=>
 YH (y9.1,y9.2)))))
instance (l:List aU)(order:Int)(bz:Int)(fO:Int):CT prog (eT l order bz fO):=⟨195,[.sl (l.map bC),vi order,vi bz,vi fO],[],λr=>.tu [.ms 0,vi r.2],λr=>[YH ⟨.of 85,4,r.1.map bC⟩],cw (eT.eq_1 ..) func195 ntmps195 results195⟩
def fC(l:List aU)(order:Int)(dW:Int)(bB:Int)(aM:List Int)(o7:Int):Option ((List aU)×Int):=
 (eM l order 1).bind λy1=>
 (dX l).bind λy2=>
 cond (!y2)
 ((bZ l).bind λy3=>
 YH (y3,1))
 ((eJ aM).bind λy4=>
 cond (!y4)
 ((bZ l).bind λy5=>
 YH (y5,1))
 ((bc order 1 9999).bind λy6=>
 cond (!y6)
 ((bZ l).bind λy7=>
 YH (y7,1))
 ((bc o7 0 100000).bind λy8=>
 cond (!y8)
 ((bZ l).bind λy9=>
 YH (y9,1))
 (cond (YL (y1=0))
 ((bZ l).bind λdL=>
 YH (dL,3))
 ((eo l order).bind λji=>
 cond (YL (0<ji))
 ((bZ l).bind λoX=>
 YH (oX,3))
 ((lq l order 3).bind λmf=>
 cond (YL (0<mf))
 ((bZ l).bind λkX=>
 YH (kX,2))
 ((ke y1 dW bB aM).bind λpg=>
 cond (YL (pg=0))
 ((bZ l).bind λmu=>
 YH (mu,4))
 ((ke y1 dW bB aM).bind λrn=>
 (kH l (⟨order,3,rn,o7⟩:aU)).bind λsi=>
 YH (si.1,si.2)))))))))
instance (l:List aU)(order:Int)(dW:Int)(bB:Int)(aM:List Int)(o7:Int):CT prog (fC l order dW bB aM o7):=⟨196,[.sl (l.map bC),vi order,vi dW,vi bB,.sl (aM.map aE),vi o7],[],λr=>.tu [.ms 0,vi r.2],λr=>[YH ⟨.of 85,4,r.1.map bC⟩],cw (fC.eq_1 ..) func196 ntmps196 results196⟩
def lR(n:aj)(l:List aq)(bw:Int)(ab:Int)(aG:List av)(s0:Int×(List aq)):Option ((Int×(List aq))⊕(List aq)):=
 cond (YL (s0.1<(aG.length:Int)))
 ((aB aG s0.1).bind λy3=>
 (nk s0.2 (⟨bw,y3,ab⟩:aq)).bind λy4=>
 YH (.inl ((aI (s0.1+1)),y4)))
 (YH (.inr s0.2))
instance (n:aj)(l:List aq)(bw:Int)(ab:Int)(aG:List av):bo (lR n l bw ab aG):=⟨λs0=>(.un::.sl (l.map aC)::vi bw::vi ab::.sl (aG.map aW)::.be 0 0 0::(U 6 (.ms 1::vi s0.1::(U 34 [])))),λs0=>[YH ⟨.of 27,3,[[.sl (n.aA.map bn),.sl (n.off.map aE),vi n.change]]⟩,YH ⟨.of 147,4,s0.2.map aC⟩]⟩
def ct(n:aj)(l:List aq)(bw:Int)(ab:Int)(aG:List av):Option ((List aq)×Bool):=
 (j2 l).bind λy1=>
 (eI n l).bind λy2=>
 cond (!y2)
 (YH (y1,YK))
 (cond (YL (20<(aG.length:Int)))
 (YH (y1,YK))
 ((aD (lR n l bw ab aG) NN (0,y1)).bind (λo0=>
 (eI n o0).bind λy5=>
 cond (!y5)
 ((j2 l).bind λy6=>
 YH (y6,YK))
 (YH (o0,YJ)))))
instance (n:aj)(l:List aq)(bw:Int)(ab:Int)(aG:List av):CT prog (ct n l bw ab aG):=⟨290,[.ag (bA n),.sl (l.map aC),vi bw,vi ab,.sl (aG.map aW)],[],λr=>.tu [.ms 0,vb r.2],λr=>[YH ⟨.of 147,4,r.1.map aC⟩],cw (ct.eq_1 ..) func290 ntmps290 results290⟩
def eH(n:aj)(br:aj)(cS:List av)(cT:List aq)(cU:Int)(fO:Int)(aA:Int)(y1:List ByteArray)(y2:Int)(s0:Int×(List Int)):Option ((Int×(List Int))⊕(List Int)):=
 cond (YL (s0.1<(y1.length:Int)))
 ((bW (bm ((s0.2:List Int).length+([(-1)]:List Int).length) 8)).bind λ_=>
 YH (.inl ((aI (s0.1+1)),((s0.2:List Int)++[(-1)]))))
 (YH (.inr s0.2))
instance (n:aj)(br:aj)(cS:List av)(cT:List aq)(cU:Int)(fO:Int)(aA:Int)(y1:List ByteArray)(y2:Int):bo (eH n br cS cT cU fO aA y1 y2):=⟨λs0=>(.un::.fn 250 [.rp [.sl (br.aA.map bn),.sl (br.off.map aE),vi br.change],.rp [.sl (cS.map aW)],.rp [.sl (cT.map aC)],.rp [vi cU]]::.un::vi fO::vi aA::.be 0 0 0::(U 5 (.ms 1::vi y2::.ms 2::(U 26 (vi (y1.length:Int)::vi s0.1::(U 83 [])))))),λs0=>[YH ⟨.of 27,3,[[.sl (n.aA.map bn),.sl (n.off.map aE),vi n.change]]⟩,YH ⟨.of 9,1,y1.map jK⟩,YH ⟨.of 3,1,s0.2.map aE⟩]⟩
def de(n:aj)(br:aj)(cS:List av)(cT:List aq)(cU:Int)(aA:Int)(y1:List ByteArray)(y2:Int)(s1:Int×(List Int))(s2:Int×Bool×(List Int)):Option ((Int×Bool×(List Int))⊕(Bool×(List Int))):=
 cond (YL (s2.1<(n.aA.length:Int)))
 ((aB n.aA s2.1).bind λy4=>
 (bS y1 y4.au).bind λy5=>
 (bS y1 y4.a8).bind λy6=>
 (aB s1.2 y5).bind λy7=>
 cond (YL (y7<0))
 (YH (.inl ((aI (s2.1+1)),s2.2.1,s2.2.2)))
 ((aB s1.2 y5).bind λy8=>
 (kv n y8 (YL (y5=y2))).bind λy9=>
 (ig s2.1 y9 br cS cT cU).bind λdL=>
 cond dL.2
 ((aB s2.2.2 y6).bind λji=>
 cond (YL (ji<0))
 ((cX n dL.1).bind λoX=>
 (aB s2.2.2 y6).bind λmf=>
 YH (.inl ((aI (s2.1+1)),YJ,(s2.2.2.set (Wd y6) oX))))
 ((cX n dL.1).bind λkX=>
 (aB s2.2.2 y6).bind λpg=>
 cond (YL (kX<pg))
 ((cX n dL.1).bind λmu=>
 (aB s2.2.2 y6).bind λrn=>
 YH (.inl ((aI (s2.1+1)),YJ,(s2.2.2.set (Wd y6) mu))))
 (YH (.inl ((aI (s2.1+1)),s2.2.1,s2.2.2)))))
 (YH (.inl ((aI (s2.1+1)),s2.2.1,s2.2.2)))))
 (YH (.inr (s2.2.1,s2.2.2)))
instance (n:aj)(br:aj)(cS:List av)(cT:List aq)(cU:Int)(aA:Int)(y1:List ByteArray)(y2:Int)(s1:Int×(List Int)):bo (de n br cS cT cU aA y1 y2 s1):=⟨λs2=>(.un::.fn 250 [.rp [.sl (br.aA.map bn),.sl (br.off.map aE),vi br.change],.rp [.sl (cS.map aW)],.rp [.sl (cT.map aC)],.rp [vi cU]]::.un::.un::vi aA::.be 0 0 0::(U 5 (.ms 1::vi y2::.ms 2::vi s1.1::.ms 3::vb s2.2.1::(U 44 (.sl (n.aA.map bn)::vi (n.aA.length:Int)::vi s2.1::(U 61 [])))))),λs2=>[YH ⟨.of 27,3,[[.sl (n.aA.map bn),.sl (n.off.map aE),vi n.change]]⟩,YH ⟨.of 9,1,y1.map jK⟩,YH ⟨.of 3,1,s1.2.map aE⟩,YH ⟨.of 3,1,s2.2.2.map aE⟩]⟩
def dc(n:aj)(br:aj)(cS:List av)(cT:List aq)(cU:Int)(aA:Int)(y1:List ByteArray)(y2:Int)(s1:Int×(List Int)):Option ((Int×(List Int))⊕(List Int)):=
 cond (YL (s1.1<aA))
 ((bW (bm ((([]:List Int):List Int).length+(s1.2:List Int).length) 8)).bind λ_=>
 (aD (de n br cS cT cU aA y1 y2 s1) NN (0,YK,((([]:List Int):List Int)++s1.2))).bind (λo2=>
 cond (!o2.1)
 (YH (.inr o2.2))
 (YH (.inl ((aI (s1.1+1)),o2.2)))))
 (YH (.inr s1.2))
instance (n:aj)(br:aj)(cS:List av)(cT:List aq)(cU:Int)(aA:Int)(y1:List ByteArray)(y2:Int):bo (dc n br cS cT cU aA y1 y2):=⟨λs1=>(.un::.fn 250 [.rp [.sl (br.aA.map bn),.sl (br.off.map aE),vi br.change],.rp [.sl (cS.map aW)],.rp [.sl (cT.map aC)],.rp [vi cU]]::.un::.un::vi aA::.be 0 0 0::(U 5 (.ms 1::vi y2::.ms 2::vi s1.1::(U 110 [])))),λs1=>[YH ⟨.of 27,3,[[.sl (n.aA.map bn),.sl (n.off.map aE),vi n.change]]⟩,YH ⟨.of 9,1,y1.map jK⟩,YH ⟨.of 3,1,s1.2.map aE⟩]⟩
def dV(n:aj)(br:aj)(cS:List av)(cT:List aq)(cU:Int)(cP:ByteArray)(fO:Int)(aA:Int):Option (List Int):=
 (dm n).bind λy1=>
 (bS y1 cP).bind λy2=>
 cond (YL (y2<0))
 (YH ([]))
 (cond (YL (100000<fO))
 (YH ([]))
 (cond (YL (aA<0))
 (YH ([]))
 ((aD (eH n br cS cT cU fO aA y1 y2) NN (0,([]:List Int))).bind (λo0=>
 (aB o0 y2).bind λy3=>
 (aD (dc n br cS cT cU aA y1 y2) NN (0,(o0.set (Wd y2) (if 0 > fO then 0 else fO)))).bind (λo1=>
 YH o1)))))
instance (n:aj)(br:aj)(cS:List av)(cT:List aq)(cU:Int)(cP:ByteArray)(fO:Int)(aA:Int):CT prog (dV n br cS cT cU cP fO aA):=⟨248,[.ag (bA n),.fn 250 [.rp [.sl (br.aA.map bn),.sl (br.off.map aE),vi br.change],.rp [.sl (cS.map aW)],.rp [.sl (cT.map aC)],.rp [vi cU]],vs cP,vi fO,vi aA],[],λr=>.ms 0,λr=>[YH ⟨.of 3,1,r.map aE⟩],cw (dV.eq_1 ..) func248 ntmps248 results248⟩
def fo(n:aj)(br:aj)(cS:List av)(cT:List aq)(cU:Int)(places:List ByteArray)(before:List Int)(uj:ByteArray)(k:Int)(dW:Int)(s0:Int):Option (Int⊕(Unit⊕(av×Bool))):=
 cond (YL (s0<(n.aA.length:Int)))
 ((aB n.aA s0).bind λy1=>
 (bS places y1.au).bind λy2=>
 (aB places k).bind λy3=>
 cond (!decide (y1.a8=y3))
 (YH (.inl (aI (s0+1))))
 ((aB before y2).bind λy4=>
 cond (YL (y4<0))
 (YH (.inl (aI (s0+1))))
 ((aB before y2).bind λy5=>
 (kv n y5 (YL (y1.au=uj))).bind λy6=>
 (ig s0 y6 br cS cT cU).bind λy7=>
 cond y7.2
 ((cX n y7.1).bind λy8=>
 cond (YL (y8=dW))
 (YH (.inr (.inr (y7.1,YJ))))
 (YH (.inl (aI (s0+1)))))
 (YH (.inl (aI (s0+1)))))))
 (YH (.inr (.inl ())))
instance (n:aj)(br:aj)(cS:List av)(cT:List aq)(cU:Int)(places:List ByteArray)(before:List Int)(uj:ByteArray)(k:Int)(dW:Int):bo (fo n br cS cT cU places before uj k dW):=⟨λs0=>(.un::.fn 250 [.rp [.sl (br.aA.map bn),.sl (br.off.map aE),vi br.change],.rp [.sl (cS.map aW)],.rp [.sl (cT.map aC)],.rp [vi cU]]::.sl (places.map jK)::.sl (before.map aE)::vs uj::vi k::vi dW::.be 0 0 0::(U 6 (.be 1 0 0::(U 7 (.sl (n.aA.map bn)::vi (n.aA.length:Int)::vi s0::(U 49 [])))))),λs0=>[YH ⟨.of 27,3,[[.sl (n.aA.map bn),.sl (n.off.map aE),vi n.change]]⟩,YH ⟨.of 46,2,[[vi 0,vi 0]]⟩]⟩
def kz(n:aj)(br:aj)(cS:List av)(cT:List aq)(cU:Int)(places:List ByteArray)(before:List Int)(uj:ByteArray)(k:Int)(dW:Int):Option (av×Bool):=
 (aD (fo n br cS cT cU places before uj k dW) NN 0).bind (bk (λo0=>
 YH ((⟨0,0⟩:av),YK)) (λr=>YH r))
instance (n:aj)(br:aj)(cS:List av)(cT:List aq)(cU:Int)(places:List ByteArray)(before:List Int)(uj:ByteArray)(k:Int)(dW:Int):CT prog (kz n br cS cT cU places before uj k dW):=⟨249,[.ag (bA n),.fn 250 [.rp [.sl (br.aA.map bn),.sl (br.off.map aE),vi br.change],.rp [.sl (cS.map aW)],.rp [.sl (cT.map aC)],.rp [vi cU]],.sl (places.map jK),.sl (before.map aE),vs uj,vi k,vi dW],[],λr=>.tu [.ag [vi r.1.bD,vi r.1.day],vb r.2],λr=>[],cw (kz.eq_1 ..) func249 ntmps249 results249⟩
def dB(n:aj)(br:aj)(cS:List av)(cT:List aq)(cU:Int)(cP:ByteArray)(kP:Int)(y1:List ByteArray)(y2:Int)(s0:Int×(List (List Int))):Option ((Int×(List (List Int)))⊕((List (List Int))⊕((List av)×Bool))):=
 cond (YL (s0.1<=(y1.length:Int)))
 ((dV n br cS cT cU cP kP s0.1).bind λy3=>
 cond (YL ((y3.length:Int)=0))
 (YH (.inr (.inr ([],YK))))
 (cond (YL (y2<0))
 (YH (.inr (.inr ([],YK))))
 ((D9 (.un::.fn 250 [.rp [.sl (br.aA.map bn),.sl (br.off.map aE),vi br.change],.rp [.sl (cS.map aW)],.rp [.sl (cT.map aC)],.rp [vi cU]]::vs cP::.un::vi kP::.be 0 0 0::(U 6 (.ms 1::vi y2::.ms 2::vi s0.1::.sl (y3.map aE)::(U 116 [])))) [YH ⟨.of 27,3,[[.sl (n.aA.map bn),.sl (n.off.map aE),vi n.change]]⟩,YH ⟨.of 9,1,y1.map jK⟩,YH ⟨.of 25,1,s0.2.map zM⟩]).bind λ_=>
 (bW (bm ((s0.2:List (List Int)).length+([y3]:List (List Int)).length) 24)).bind λ_=>
 YH (.inl ((aI (s0.1+1)),((s0.2:List (List Int))++[y3]))))))
 (YH (.inr (.inl s0.2)))
instance (n:aj)(br:aj)(cS:List av)(cT:List aq)(cU:Int)(cP:ByteArray)(kP:Int)(y1:List ByteArray)(y2:Int):bo (dB n br cS cT cU cP kP y1 y2):=⟨λs0=>(.un::.fn 250 [.rp [.sl (br.aA.map bn),.sl (br.off.map aE),vi br.change],.rp [.sl (cS.map aW)],.rp [.sl (cT.map aC)],.rp [vi cU]]::vs cP::.un::vi kP::.be 0 0 0::(U 6 (.ms 1::vi y2::.ms 2::vi s0.1::(U 117 [])))),λs0=>[YH ⟨.of 27,3,[[.sl (n.aA.map bn),.sl (n.off.map aE),vi n.change]]⟩,YH ⟨.of 9,1,y1.map jK⟩,YH ⟨.of 25,1,s0.2.map zM⟩]⟩
def fe(n:aj)(br:aj)(cS:List av)(cT:List aq)(cU:Int)(cP:ByteArray)(y1:List ByteArray)(y2:Int)(o0:(List (List Int)))(y5:Int)(s1:Int):Option (Int⊕Int):=
 (aB o0 s1).bind λy6=>
 (aB y6 y2).bind λy7=>
 cond (!decide (y7=y5))
 (YH (.inl (aI (s1+1))))
 (YH (.inr s1))
instance (n:aj)(br:aj)(cS:List av)(cT:List aq)(cU:Int)(cP:ByteArray)(y1:List ByteArray)(y2:Int)(o0:(List (List Int)))(y5:Int):bo (fe n br cS cT cU cP y1 y2 o0 y5):=⟨λs1=>(.un::.fn 250 [.rp [.sl (br.aA.map bn),.sl (br.off.map aE),vi br.change],.rp [.sl (cS.map aW)],.rp [.sl (cT.map aC)],.rp [vi cU]]::vs cP::.un::.un::.be 0 0 0::(U 6 (.ms 1::vi y2::.ms 2::.un::.un::vi y5::vi s1::(U 114 [])))),λs1=>[YH ⟨.of 27,3,[[.sl (n.aA.map bn),.sl (n.off.map aE),vi n.change]]⟩,YH ⟨.of 9,1,y1.map jK⟩,YH ⟨.of 25,1,o0.map zM⟩]⟩
def jF(n:aj)(br:aj)(cS:List av)(cT:List aq)(cU:Int)(cP:ByteArray)(y1:List ByteArray)(o0:(List (List Int)))(s2:Int×Int×Int×(List av)):Option ((Int×Int×Int×(List av))⊕((List av)⊕((List av)×Bool))):=
 cond (YL (0<s2.2.2.1))
 ((aB o0 (aI (s2.2.2.1-1))).bind λy8=>
 (kz n br cS cT cU (y1:List ByteArray) y8 cP s2.1 s2.2.1).bind λy9=>
 cond (!y9.2)
 (YH (.inr (.inr ([],YK))))
 ((bW (bm ((s2.2.2.2:List av).length+([y9.1]:List av).length) 16)).bind λ_=>
 (aB n.aA y9.1.bD).bind λdL=>
 (bS (y1:List ByteArray) dL.au).bind λji=>
 (aB o0 (aI (s2.2.2.1-1))).bind λoX=>
 (aB oX ji).bind λmf=>
 YH (.inl (ji,mf,(aI (s2.2.2.1-1)),((s2.2.2.2:List av)++[y9.1])))))
 (YH (.inr (.inl s2.2.2.2)))
instance (n:aj)(br:aj)(cS:List av)(cT:List aq)(cU:Int)(cP:ByteArray)(y1:List ByteArray)(o0:(List (List Int))):bo (jF n br cS cT cU cP y1 o0):=⟨λs2=>(.un::.fn 250 [.rp [.sl (br.aA.map bn),.sl (br.off.map aE),vi br.change],.rp [.sl (cS.map aW)],.rp [.sl (cT.map aC)],.rp [vi cU]]::vs cP::.un::.un::.be 0 0 0::(U 6 (.sl ((y1:List ByteArray).map jK)::vi s2.1::.ms 1::.un::.un::vi s2.2.1::vi s2.2.2.1::.ms 2::(U 113 [])))),λs2=>[YH ⟨.of 27,3,[[.sl (n.aA.map bn),.sl (n.off.map aE),vi n.change]]⟩,YH ⟨.of 25,1,o0.map zM⟩,YH ⟨.of 46,2,s2.2.2.2.map aW⟩]⟩
def jG(o2:(List av))(s3:Int×(List av)):Option ((Int×(List av))⊕(List av)):=
 cond (YL (0<=s3.1))
 ((aB o2 s3.1).bind λkX=>
 (bW (bm ((s3.2:List av).length+([kX]:List av).length) 16)).bind λ_=>
 YH (.inl ((aI (s3.1-1)),((s3.2:List av)++[kX]))))
 (YH (.inr s3.2))
instance (o2:(List av)):bo (jG o2):=⟨λs3=>(U 19 (.ms 0::.un::.un::.ms 1::vi s3.1::(U 109 []))),λs3=>[YH ⟨.of 46,2,o2.map aW⟩,YH ⟨.of 46,2,s3.2.map aW⟩]⟩
def oT(n:aj)(br:aj)(cS:List av)(cT:List aq)(cU:Int)(cP:ByteArray)(a8:ByteArray)(kP:Int):Option ((List av)×Bool):=
 (dm n).bind λy1=>
 (bS y1 a8).bind λy2=>
 (aD (dB n br cS cT cU cP kP y1 y2) NN (0,([]:List (List Int)))).bind (bk (λo0=>
 (aB o0 (y1.length:Int)).bind λy4=>
 (aB y4 y2).bind λy5=>
 cond (YL (y5<0))
 (YH ([],YK))
 ((aD (fe n br cS cT cU cP y1 y2 o0 y5) NN 0).bind (λo1=>
 (aD (jF n br cS cT cU cP y1 o0) NN (y2,y5,o1,([]:List av))).bind (bk (λo2=>
 (aD (jG o2) NN ((aI ((o2.length:Int)-1)),([]:List av))).bind (λo3=>
 YH (o3,YJ))) (λr=>YH r))))) (λr=>YH r))
instance (n:aj)(br:aj)(cS:List av)(cT:List aq)(cU:Int)(cP:ByteArray)(a8:ByteArray)(kP:Int):CT prog (oT n br cS cT cU cP a8 kP):=⟨198,[.ag (bA n),.fn 250 [.rp [.sl (br.aA.map bn),.sl (br.off.map aE),vi br.change],.rp [.sl (cS.map aW)],.rp [.sl (cT.map aC)],.rp [vi cU]],vs cP,vs a8,vi kP],[],λr=>.tu [.ms 0,vb r.2],λr=>[YH ⟨.of 46,2,r.1.map aW⟩],cw (oT.eq_1 ..) func198 ntmps198 results198⟩
def ie(n:aj)(l:List aq)(ah:List av)(fh:ByteArray)(a8:ByteArray)(o7:Int)(ab:Int):Option ((List av)×Bool):=
 (iF n l).bind λy1=>
 cond (!y1)
 (YH ([],YK))
 (cond (YL (ab<1))
 (YH ([],YK))
 ((re n l ah ab).bind λy2=>
 (oT n y2.1 y2.2.1 y2.2.2.1 y2.2.2.2 fh a8 o7).bind λy3=>
 YH (y3.1,y3.2)))
instance (n:aj)(l:List aq)(ah:List av)(fh:ByteArray)(a8:ByteArray)(o7:Int)(ab:Int):CT prog (ie n l ah fh a8 o7 ab):=⟨137,[.ag (bA n),.sl (l.map aC),.sl (ah.map aW),vs fh,vs a8,vi o7,vi ab],[],λr=>.tu [.ms 0,vb r.2],λr=>[YH ⟨.of 46,2,r.1.map aW⟩],cw (ie.eq_1 ..) func137 ntmps137 results137⟩
def iM(o:aL)(a:bV):Option (Int×aL):=
 (bc a.order 1 (o.aK.length:Int)).bind λy1=>
 cond (!y1)
 (YH (4,o))
 ((eT o.lines a.order a.bz o.world.now).bind λy2=>
 cond (YL (a.kind=6))
 ((aB o.world.ae (aI (a.order-1))).bind λy3=>
 cond (!decide (y3.state=3))
 (YH (4,o))
 ((fC o.lines a.order y3.dW y3.bB o.aM o.world.now).bind λy4=>
 cond (!decide (y4.2=0))
 (YH (4,o))
 (YH (0,(⟨o.world,o.aY,o.aX,o.aM,o.aK,y4.1,o.aF⟩:aL)))))
 (cond (!decide (y2.2=0))
 (YH (4,o))
 (YH (0,(⟨o.world,o.aY,o.aX,o.aM,o.aK,y2.1,o.aF⟩:aL)))))
instance (o:aL)(a:bV):CT prog (iM o a):=⟨178,[.be 0 0 0,.ag (gF a)],[YH ⟨.of 40,16,[[.sl (o.world.aa.aA.map bn),.sl (o.world.aa.off.map aE),vi o.world.aa.change,.sl (o.world.ae.map ba),.sl (o.world.ar.map aC),.sl (o.world.ah.map aW),vi o.world.now,.sl (o.world.aH.map bt),.sl (o.world.skip.map aE),vi o.world.bd,.ms 1,.ms 2,.ms 3,.ms 4,.ms 5,.ms 6]]⟩,YH ⟨.of 78,2,o.aY.map cG⟩,YH ⟨.of 81,4,o.aX.map cI⟩,YH ⟨.of 3,1,o.aM.map aE⟩,YH ⟨.of 44,7,o.aK.map bJ⟩,YH ⟨.of 85,4,o.lines.map bC⟩,YH ⟨.of 48,13,o.aF.map gF⟩],λr=>vi r.1,λr=>[YH ⟨.of 40,16,[[.sl (r.2.world.aa.aA.map bn),.sl (r.2.world.aa.off.map aE),vi r.2.world.aa.change,.sl (r.2.world.ae.map ba),.sl (r.2.world.ar.map aC),.sl (r.2.world.ah.map aW),vi r.2.world.now,.sl (r.2.world.aH.map bt),.sl (r.2.world.skip.map aE),vi r.2.world.bd,.ms 1,.ms 2,.ms 3,.ms 4,.ms 7,.ms 6]]⟩,YH ⟨.of 78,2,r.2.aY.map cG⟩,YH ⟨.of 81,4,r.2.aX.map cI⟩,YH ⟨.of 3,1,r.2.aM.map aE⟩,YH ⟨.of 44,7,r.2.aK.map bJ⟩,YI,YH ⟨.of 48,13,r.2.aF.map gF⟩,YH ⟨.of 85,4,r.2.lines.map bC⟩],cw (iM.eq_1 ..) func178 ntmps178 results178⟩
def jC(o:aL)(y1:ax)(y2:(List Int))(y3:(List aU))(s0:Int×(List aT)):Option ((Int×(List aT))⊕(List aT)):=
 cond (YL (s0.1<(o.aK.length:Int)))
 ((aB o.aK s0.1).bind λy4=>
 (gC y4).bind λy5=>
 (bW (bm ((s0.2:List aT).length+([y5]:List aT).length) 88)).bind λ_=>
 YH (.inl ((aI (s0.1+1)),((s0.2:List aT)++[y5]))))
 (YH (.inr s0.2))
instance (o:aL)(y1:ax)(y2:(List Int))(y3:(List aU)):bo (jC o y1 y2 y3):=⟨λs0=>(.un::.be 0 0 0::.be 1 0 0::.be 2 0 0::vi s0.1::(U 61 [])),λs0=>[YH ⟨.of 40,16,[[.sl (o.world.aa.aA.map bn),.sl (o.world.aa.off.map aE),vi o.world.aa.change,.sl (o.world.ae.map ba),.sl (o.world.ar.map aC),.sl (o.world.ah.map aW),vi o.world.now,.sl (o.world.aH.map bt),.sl (o.world.skip.map aE),vi o.world.bd,.sl (o.aY.map cG),.sl (o.aX.map cI),.sl (o.aM.map aE),.sl (o.aK.map bJ),.sl (o.lines.map bC),.sl (o.aF.map gF)]]⟩,YH ⟨.of 40,16,[[.v (.slice YI 0 0),.v (.slice YI 0 0),vi 0,.v (.slice YI 0 0),.v (.slice YI 0 0),.v (.slice YI 0 0),vi 0,.v (.slice YI 0 0),.v (.slice YI 0 0),vi 0,.v (.slice YI 0 0),.v (.slice YI 0 0),.v (.slice YI 0 0),.v (.slice YI 0 0),.v (.slice YI 0 0),.v (.slice YI 0 0)]]⟩,YH ⟨.of 40,16,[[.ms 3,.ms 4,vi y1.aa.change,.ms 5,.ms 6,.ms 7,vi y1.now,.ms 8,.ms 9,vi y1.bd,.ms 10,.ms 11,.ms 12,.ms 13,.ms 14,.v (.slice YI 0 0)]]⟩,YH ⟨.of 144,6,y1.aa.aA.map bn⟩,YH ⟨.of 3,1,y1.aa.off.map aE⟩,YH ⟨.of 94,11,y1.ae.map ba⟩,YH ⟨.of 147,4,y1.ar.map aC⟩,YH ⟨.of 46,2,y1.ah.map aW⟩,YH ⟨.of 151,6,y1.aH.map bt⟩,YH ⟨.of 3,1,y1.skip.map aE⟩,YH ⟨.of 78,2,((([]:List bI):List bI)++o.aY).map cG⟩,YH ⟨.of 81,4,((([]:List bL):List bL)++o.aX).map cI⟩,YH ⟨.of 3,1,y2.map aE⟩,YH ⟨.of 44,7,s0.2.map bJ⟩,YH ⟨.of 85,4,y3.map bC⟩]⟩
def jD(o:aL)(y1:ax)(y2:(List Int))(y3:(List aU))(o0:(List aT))(s1:Int×(List bV)):Option ((Int×(List bV))⊕(List bV)):=
 cond (YL (s1.1<(o.aF.length:Int)))
 ((aB o.aF s1.1).bind λy6=>
 (gC y6.aQ).bind λy7=>
 (bW (bm ((s1.2:List bV).length+([(⟨y6.kind,y7,y6.order,y6.bz,y6.bM,y6.bj⟩:bV)]:List bV).length) 136)).bind λ_=>
 YH (.inl ((aI (s1.1+1)),((s1.2:List bV)++[(⟨y6.kind,y7,y6.order,y6.bz,y6.bM,y6.bj⟩:bV)]))))
 (YH (.inr s1.2))
instance (o:aL)(y1:ax)(y2:(List Int))(y3:(List aU))(o0:(List aT)):bo (jD o y1 y2 y3 o0):=⟨λs1=>(.un::.be 0 0 0::.be 1 0 0::.be 2 0 0::.un::vi s1.1::(U 60 [])),λs1=>[YH ⟨.of 40,16,[[.sl (o.world.aa.aA.map bn),.sl (o.world.aa.off.map aE),vi o.world.aa.change,.sl (o.world.ae.map ba),.sl (o.world.ar.map aC),.sl (o.world.ah.map aW),vi o.world.now,.sl (o.world.aH.map bt),.sl (o.world.skip.map aE),vi o.world.bd,.sl (o.aY.map cG),.sl (o.aX.map cI),.sl (o.aM.map aE),.sl (o.aK.map bJ),.sl (o.lines.map bC),.sl (o.aF.map gF)]]⟩,YH ⟨.of 40,16,[[.v (.slice YI 0 0),.v (.slice YI 0 0),vi 0,.v (.slice YI 0 0),.v (.slice YI 0 0),.v (.slice YI 0 0),vi 0,.v (.slice YI 0 0),.v (.slice YI 0 0),vi 0,.v (.slice YI 0 0),.v (.slice YI 0 0),.v (.slice YI 0 0),.v (.slice YI 0 0),.v (.slice YI 0 0),.v (.slice YI 0 0)]]⟩,YH ⟨.of 40,16,[[.ms 3,.ms 4,vi y1.aa.change,.ms 5,.ms 6,.ms 7,vi y1.now,.ms 8,.ms 9,vi y1.bd,.ms 10,.ms 11,.ms 12,.ms 13,.ms 14,.ms 15]]⟩,YH ⟨.of 144,6,y1.aa.aA.map bn⟩,YH ⟨.of 3,1,y1.aa.off.map aE⟩,YH ⟨.of 94,11,y1.ae.map ba⟩,YH ⟨.of 147,4,y1.ar.map aC⟩,YH ⟨.of 46,2,y1.ah.map aW⟩,YH ⟨.of 151,6,y1.aH.map bt⟩,YH ⟨.of 3,1,y1.skip.map aE⟩,YH ⟨.of 78,2,((([]:List bI):List bI)++o.aY).map cG⟩,YH ⟨.of 81,4,((([]:List bL):List bL)++o.aX).map cI⟩,YH ⟨.of 3,1,y2.map aE⟩,YH ⟨.of 44,7,o0.map bJ⟩,YH ⟨.of 85,4,y3.map bC⟩,YH ⟨.of 48,13,s1.2.map gF⟩]⟩
def iJ(o:aL):Option aL:=
 (kR 8 []).bind λ_=>
 (ee o.world).bind λy1=>
 (bW (bm ((([]:List bI):List bI).length+(o.aY:List bI).length) 32)).bind λ_=>
 (bW (bm ((([]:List bL):List bL).length+(o.aX:List bL).length) 32)).bind λ_=>
 (eA o.aM).bind λy2=>
 (bZ o.lines).bind λy3=>
 (aD (jC o y1 y2 y3) NN (0,[])).bind (λo0=>
 (aD (jD o y1 y2 y3 o0) NN (0,[])).bind (λo1=>
 YH (⟨y1,((([]:List bI):List bI)++o.aY),((([]:List bL):List bL)++o.aX),y2,o0,y3,o1⟩:aL)))
instance (o:aL):CT prog (iJ o):=⟨52,[.ag (lx o)],[],λr=>.ag [.sl (r.world.aa.aA.map bn),.sl (r.world.aa.off.map aE),vi r.world.aa.change,.sl (r.world.ae.map ba),.sl (r.world.ar.map aC),.sl (r.world.ah.map aW),vi r.world.now,.sl (r.world.aH.map bt),.sl (r.world.skip.map aE),vi r.world.bd,.ms 0,.ms 1,.ms 2,.ms 3,.ms 4,.ms 5],λr=>[YH ⟨.of 78,2,r.aY.map cG⟩,YH ⟨.of 81,4,r.aX.map cI⟩,YH ⟨.of 3,1,r.aM.map aE⟩,YH ⟨.of 44,7,r.aK.map bJ⟩,YH ⟨.of 85,4,r.lines.map bC⟩,YH ⟨.of 48,13,r.aF.map gF⟩],cw (iJ.eq_1 ..) func52 ntmps52 results52⟩
def oC(s0:Int×Int×(List YR)×Int×Int×(List aU)):Option ((Int×Int×(List YR)×Int×Int×(List aU))⊕((List YR)×Int×Int×(List aU))):=
 cond (YL (0<s0.2.1))
 ((bh [0]).bind λ_=>
 (aw (⟨s0.2.2.1,s0.2.2.2.1,s0.2.2.2.2.1⟩:aO) 30).bind λy2=>
 (bh [0]).bind λ_=>
 (aw y2.2 4).bind λy3=>
 (bh [0]).bind λ_=>
 (aw y3.2 4).bind λy4=>
 cond (YL (y4.1=0))
 (cond (YL (y4.1=0))
 ((bh [0]).bind λ_=>
 (aw y4.2 2000).bind λy5=>
 (fx s0.2.2.2.2.2 (aI (1+y3.1)) (aI (100+y5.1)) (aI (s0.1+(aI (100*y2.1))))).bind λy6=>
 (bh [0]).bind λ_=>
 (aw y5.2 30).bind λy7=>
 (eT y6.1 (aI (1+y3.1)) (aI (100+(aI (50*y7.1)))) (aI (s0.1+(aI (100*y2.1))))).bind λy8=>
 YH (.inl ((aI (s0.1+(aI (100*y2.1)))),(aI (s0.2.1-1)),y7.2.b,y7.2.i,y7.2.h,y8.1)))
 (cond (YL (y4.1=2))
 ((eo s0.2.2.2.2.2 (aI (1+y3.1))).bind λy9=>
 (bh [0,2]).bind λ_=>
 (bx y4.2 ([0,0,1])).bind λdL=>
 (fB 1 (aI (y9-dL.1))).bind λji=>
 (eT s0.2.2.2.2.2 (aI (1+y3.1)) ji (aI (s0.1+(aI (100*y2.1))))).bind λoX=>
 YH (.inl ((aI (s0.1+(aI (100*y2.1)))),(aI (s0.2.1-1)),dL.2.1.b,dL.2.1.i,dL.2.1.h,oX.1)))
 ((bh [0]).bind λ_=>
 (aw y4.2 4).bind λmf=>
 (bh [0]).bind λ_=>
 (dU mf.2).bind λkX=>
 (fC s0.2.2.2.2.2 (aI (1+y3.1)) 0 (aI (1440*mf.1)) kX.1 (aI (s0.1+(aI (100*y2.1))))).bind λpg=>
 YH (.inl ((aI (s0.1+(aI (100*y2.1)))),(aI (s0.2.1-1)),kX.2.b,kX.2.i,kX.2.h,pg.1)))))
 (cond (YL (y4.1=1))
 ((bh [0]).bind λ_=>
 (aw y4.2 2000).bind λmu=>
 (fx s0.2.2.2.2.2 (aI (1+y3.1)) (aI (100+mu.1)) (aI (s0.1+(aI (100*y2.1))))).bind λrn=>
 (bh [0]).bind λ_=>
 (aw mu.2 30).bind λsi=>
 (eT rn.1 (aI (1+y3.1)) (aI (100+(aI (50*si.1)))) (aI (s0.1+(aI (100*y2.1))))).bind λvH=>
 YH (.inl ((aI (s0.1+(aI (100*y2.1)))),(aI (s0.2.1-1)),si.2.b,si.2.i,si.2.h,vH.1)))
 (cond (YL (y4.1=2))
 ((eo s0.2.2.2.2.2 (aI (1+y3.1))).bind λAJ=>
 (bh [0,2]).bind λ_=>
 (bx y4.2 ([0,0,1])).bind λxp=>
 (fB 1 (aI (AJ-xp.1))).bind λAq=>
 (eT s0.2.2.2.2.2 (aI (1+y3.1)) Aq (aI (s0.1+(aI (100*y2.1))))).bind λFa=>
 YH (.inl ((aI (s0.1+(aI (100*y2.1)))),(aI (s0.2.1-1)),xp.2.1.b,xp.2.1.i,xp.2.1.h,Fa.1)))
 ((bh [0]).bind λ_=>
 (aw y4.2 4).bind λy24=>
 (bh [0]).bind λ_=>
 (dU y24.2).bind λTI=>
 (fC s0.2.2.2.2.2 (aI (1+y3.1)) 0 (aI (1440*y24.1)) TI.1 (aI (s0.1+(aI (100*y2.1))))).bind λy26=>
 YH (.inl ((aI (s0.1+(aI (100*y2.1)))),(aI (s0.2.1-1)),TI.2.b,TI.2.i,TI.2.h,y26.1))))))
 (YH (.inr (s0.2.2.1,s0.2.2.2.1,s0.2.2.2.2.1,s0.2.2.2.2.2)))
instance :bo (oC):=⟨λs0=>(.be 0 0 0::(U 4 (.ms 1::vi s0.1::vi s0.2.1::(U 82 [])))),λs0=>[YH ⟨.of 119,3,[[.sl (s0.2.2.1.map YQ),vi s0.2.2.2.1,vi s0.2.2.2.2.1]]⟩,YH ⟨.of 85,4,s0.2.2.2.2.2.map bC⟩]⟩
def lK(c:aO)(iC:Int):Option ((List aU)×aO):=
 (bh [0]).bind λ_=>
 (aw c iC).bind λy1=>
 (aD (oC) NN (0,y1.1,y1.2.b,y1.2.i,y1.2.h,([]:List aU))).bind (λo0=>
 YH (o0.2.2.2,(⟨o0.1,o0.2.1,o0.2.2.1⟩:aO)))
instance (c:aO)(iC:Int):CT prog (lK c iC):=⟨127,[.be 0 0 0,vi iC],[YH ⟨.of 119,3,[[.sl (c.b.map YQ),vi c.i,vi c.h]]⟩],λr=>.ms 1,λr=>[YH ⟨.of 119,3,[[.sl (r.2.b.map YQ),vi r.2.i,vi r.2.h]]⟩,YH ⟨.of 85,4,r.1.map bC⟩],cw (lK.eq_1 ..) func127 ntmps127 results127⟩
def mF(c:aO):Option ((List aU)×aO):=
 (bh [0]).bind λ_=>
 (lK c 12).bind λy1=>
 cond (YL ((y1.1.length:Int)=0))
 (YH (y1.1,y1.2))
 ((bh [0]).bind λ_=>
 (bP y1.2 2).bind λy2=>
 cond y2.1
 (YH (y1.1,y2.2))
 ((bh [0]).bind λ_=>
 (aw y2.2 (y1.1.length:Int)).bind λy3=>
 (bh [0]).bind λ_=>
 (aw y3.2 6).bind λy4=>
 cond (YL (y4.1=0))
 ((aB y1.1 y3.1).bind λy5=>
 (bh [0,2]).bind λ_=>
 (bx y4.2 ([0,1,100000,100001,(aI (y5.bz+1))])).bind λy6=>
 (aB y1.1 y3.1).bind λy7=>
 YH ((y1.1.set (Wd y3.1) (⟨y7.order,y7.kind,y6.1,y7.aP⟩:aU)),y6.2.1))
 (cond (YL (y4.1=1))
 ((bh [0,2]).bind λ_=>
 (bx y4.2 ([(-1),0,100000,100001])).bind λy8=>
 (aB y1.1 y3.1).bind λy9=>
 YH ((y1.1.set (Wd y3.1) (⟨y9.order,y9.kind,y9.bz,y8.1⟩:aU)),y8.2.1))
 (cond (YL (y4.1=2))
 ((bh [0]).bind λ_=>
 (aw y4.2 5).bind λdL=>
 (aB y1.1 y3.1).bind λji=>
 YH ((y1.1.set (Wd y3.1) (⟨ji.order,dL.1,ji.bz,ji.aP⟩:aU)),dL.2))
 (cond (YL (y4.1=3))
 ((bh [0,2]).bind λ_=>
 (bx y4.2 ([0,1,9999,10000])).bind λoX=>
 (aB y1.1 y3.1).bind λmf=>
 YH ((y1.1.set (Wd y3.1) (⟨oX.1,mf.kind,mf.bz,mf.aP⟩:aU)),oX.2.1))
 (cond (YL (y4.1=4))
 ((aB y1.1 y3.1).bind λkX=>
 (bW (bm ((y1.1:List aU).length+([kX]:List aU).length) 32)).bind λ_=>
 YH (((y1.1:List aU)++[kX]),y4.2))
 ((bW (gg 0 y3.1 y1.1.length)).bind λ_=>
 (bW (gg (aI (y3.1+1)) (y1.1.length:Int) y1.1.length)).bind λ_=>
 (bW (Md (y1.1:List aU).length y3.1 ((cH y1.1 (aI (y3.1+1)) (y1.1.length:Int)):List aU).length 32)).bind λ_=>
 YH ((cH (y1.1:List aU) 0 y3.1++(cH y1.1 (aI (y3.1+1)) (y1.1.length:Int))),y4.2))))))))
instance (c:aO):CT prog (mF c):=⟨65,[.be 0 0 0],[YH ⟨.of 119,3,[[.sl (c.b.map YQ),vi c.i,vi c.h]]⟩],λr=>.ms 1,λr=>[YH ⟨.of 119,3,[[.sl (r.2.b.map YQ),vi r.2.i,vi r.2.h]]⟩,YH ⟨.of 85,4,r.1.map bC⟩],cw (mF.eq_1 ..) func65 ntmps65 results65⟩
end Go.Proofs.YtdilaemengjipaaGreatDoor
