/- A part of the proof of the statement in the last file of this claim: texts on the language of the program and on its functions. No condition. -/
import Derived.Test.YtbalgkakkoocjaaGreatCJ6
import Derived.Test.YtbalgkakkoocjaaGreatCJ10
import Derived.Test.YtbalgkakkoocjaaGreatCJ8
import Derived.Test.YtbalgkakkoocjaaGreatCJ5
import Derived.Test.YtbalgkakkoocjaaGreatCJ9
import Derived.Test.YtbalgkakkoocjaaGreatCJ11
import Derived.Test.YtbalgkakkoocjaaGreatCJ7
import Derived.Test.YtbalgkakkoocjaaGreatCJ1
set_option linter.unusedVariables false
set_option linter.unusedSimpArgs false
set_option linter.unusedSectionVars false
open Option renaming some->ZA,none->ZB
open Bool renaming true->ZC,false->ZD
open Decidable renaming decide->ZE
open Go.Proofs.Tryz
set_option maxHeartbeats 40000000
namespace Go.Proofs.YtbalgkakkoocjaaGreat
open _root_.Int renaming toNat->V0,tdiv->Xb
set_option maxRecDepth 10000
open Go.RowKit
def fO(n:ak)(l:List aj)(s0:Int):Option (Int⊕(Unit⊕Bool)):=
 cond (ZE (s0<(l.length:Int)))
 ((aA l s0).bind λy2=>
 cond (ZE (0<s0))
 ((aA l (aH (s0-1))).bind λy3=>
 (fz y3 y2).bind λy4=>
 cond (ZE (0<=y4))
 (ZA (.inr (.inr ZD)))
 ((dK n y2.aV).bind λy5=>
 cond (!y5)
 (ZA (.inr (.inr ZD)))
 ((aZ y2.bo 1 9999).bind λy6=>
 cond (!y6)
 (ZA (.inr (.inr ZD)))
 ((aZ y2.ab 1 1000000).bind λy7=>
 cond (!y7)
 (ZA (.inr (.inr ZD)))
 ((kc l y2.aV).bind λy8=>
 (aA n.aB y2.aV.bG).bind λy9=>
 cond (ZE (y9.jl<y8))
 (ZA (.inr (.inr ZD)))
 (ZA (.inl (aH (s0+1)))))))))
 ((dK n y2.aV).bind λeE=>
 cond (!eE)
 (ZA (.inr (.inr ZD)))
 ((aZ y2.bo 1 9999).bind λoq=>
 cond (!oq)
 (ZA (.inr (.inr ZD)))
 ((aZ y2.ab 1 1000000).bind λsj=>
 cond (!sj)
 (ZA (.inr (.inr ZD)))
 ((kc l y2.aV).bind λre=>
 (aA n.aB y2.aV.bG).bind λpx=>
 cond (ZE (px.jl<re))
 (ZA (.inr (.inr ZD)))
 (ZA (.inl (aH (s0+1)))))))))
 (ZA (.inr (.inl ())))
instance (n:ak)(l:List aj):bj (fO n l):=⟨λs0=>(.un::.sl (l.map aC)::.be 0 0 0::(U 12 (.sl (l.map aC)::vi (l.length:Int)::vi s0::(U 51 [])))),λs0=>[ZA ⟨.of 27,3,[[.sl (n.aB.map br),.sl (n.off.map aI),vi n.change]]⟩]⟩
def iN(n:ak)(l:List aj):Option Bool:=
 (eP n).bind λy1=>
 cond (!y1)
 (ZA ZD)
 (cond (ZE (120<(l.length:Int)))
 (ZA ZD)
 ((aD (fO n l) NN 0).bind (bm (λo0=>
 ZA ZC) (λr=>ZA r))))
instance (n:ak)(l:List aj):CT prog (iN n l):=⟨186,[.ag (bE n),.sl (l.map aC)],[],λr=>vb r,λr=>[],cw (iN.eq_1 ..) func186 ntmps186 results186⟩
def l0(w:az)(id:Int)(y1:ay)(s0:ByteArray×Int):Option ((ByteArray×Int)⊕(ByteArray⊕Bool)):=
 cond (ZE (s0.2<(y1.aK.length:Int)))
 ((aA y1.aK s0.2).bind λy9=>
 (dK w.aa y9).bind λeE=>
 cond (!eE)
 (ZA (.inr (.inr ZD)))
 ((lZ w id y9).bind λoq=>
 cond (!oq)
 (ZA (.inr (.inr ZD)))
 ((gG y1).bind λsj=>
 cond (ZE (sj<=s0.2))
 ((eF w.ah y9).bind λre=>
 cond re
 (ZA (.inr (.inr ZD)))
 ((aA w.aa.aB y9.bG).bind λpx=>
 cond (ZE (px.aX=y1.aX))
 (cond (ZE (s0.2<(aH ((y1.aK.length:Int)-1))))
 (ZA (.inr (.inr ZD)))
 (ZA (.inl (px.aX,(aH (s0.2+1))))))
 (ZA (.inl (px.aX,(aH (s0.2+1)))))))
 ((aA w.aa.aB y9.bG).bind λtl=>
 cond (ZE (tl.aX=y1.aX))
 (cond (ZE (s0.2<(aH ((y1.aK.length:Int)-1))))
 (ZA (.inr (.inr ZD)))
 (ZA (.inl (tl.aX,(aH (s0.2+1))))))
 (ZA (.inl (tl.aX,(aH (s0.2+1)))))))))
 (ZA (.inr (.inl s0.1)))
instance (w:az)(id:Int)(y1:ay):bj (l0 w id y1):=⟨λs0=>(.un::vi id::.un::.be 0 0 0::(U 3 (.be 1 0 0::vs s0.1::(U 65 (.sl (y1.aK.map aS)::vi (y1.aK.length:Int)::vi s0.2::(U 65 [])))))),λs0=>[ZA ⟨.of 33,10,[[.sl (w.aa.aB.map br),.sl (w.aa.off.map aI),vi w.aa.change,.sl (w.ae.map aY),.sl (w.aq.map aC),.sl (w.ah.map aS),vi w.now,.sl (w.aJ.map bt),.sl (w.skip.map aI),vi w.aT]]⟩,ZA ⟨.of 155,11,[[vs y1.ar,vs y1.aX,vi y1.ax,vi y1.ab,vi y1.aO,vi y1.ec,.sl (y1.aK.map aS),vi y1.aN,vi y1.state,vs y1.place,vi y1.bK]]⟩]⟩
def pM(w:az)(id:Int)(places:List ByteArray):Option Bool:=
 (aA w.ae (aH (id-1))).bind λy1=>
 cond (ZE (y1.ar=y1.aX))
 (ZA ZD)
 ((bU places y1.ar).bind λy2=>
 cond (ZE (y2<0))
 (ZA ZD)
 ((bU places y1.aX).bind λy3=>
 cond (ZE (y3<0))
 (ZA ZD)
 ((aZ y1.ax 1 3).bind λy4=>
 cond (!y4)
 (ZA ZD)
 ((aZ y1.ab 1 30000).bind λy5=>
 cond (!y5)
 (ZA ZD)
 ((aZ y1.aO 0 w.now).bind λy6=>
 cond (!y6)
 (ZA ZD)
 ((aZ y1.ec 0 200000).bind λy7=>
 cond (!y7)
 (ZA ZD)
 ((aZ y1.aN 0 (y1.aK.length:Int)).bind λy8=>
 cond (!y8)
 (ZA ZD)
 ((aD (l0 w id y1) NN (y1.ar,0)).bind (bm (λo0=>
 (sK w.aa y1.aK y1.ar o0 (aH (y1.aO+1))).bind λsB=>
 cond sB
 ((pN w y1).bind λxr=>
 ZA xr)
 (ZA ZD)) (λr=>ZA r))))))))))
instance (w:az)(id:Int)(places:List ByteArray):CT prog (pM w id places):=⟨191,[.ag (fa w),vi id,.sl (places.map km)],[],λr=>vb r,λr=>[],cw (pM.eq_1 ..) func191 ntmps191 results191⟩
def lU(w:az)(s0:Int):Option (Int⊕(Unit⊕Bool)):=
 cond (ZE (s0<(w.ah.length:Int)))
 ((aA w.ah s0).bind λy4=>
 (dK w.aa y4).bind λy5=>
 cond (!y5)
 (ZA (.inr (.inr ZD)))
 ((dg (iC 0 s0 w.ah.length)).bind λ_=>
 (eF (cZ w.ah 0 s0) y4).bind λy6=>
 cond y6
 (ZA (.inr (.inr ZD)))
 (ZA (.inl (aH (s0+1))))))
 (ZA (.inr (.inl ())))
instance (w:az):bj (lU w):=⟨λs0=>(.un::.be 0 0 0::.un::.be 1 0 0::(U 55 (.sl (w.ah.map aS)::vi (w.ah.length:Int)::vi s0::(U 63 [])))),λs0=>[ZA ⟨.of 33,10,[[.sl (w.aa.aB.map br),.sl (w.aa.off.map aI),vi w.aa.change,.sl (w.ae.map aY),.sl (w.aq.map aC),.sl (w.ah.map aS),vi w.now,.sl (w.aJ.map bt),.sl (w.skip.map aI),vi w.aT]]⟩,ZA ⟨.of 27,3,[[.sl (w.aa.aB.map br),.sl (w.aa.off.map aI),vi w.aa.change]]⟩]⟩
def lV(w:az)(s1:Int):Option (Int⊕(Unit⊕Bool)):=
 cond (ZE (s1<(w.aJ.length:Int)))
 ((aA w.aJ s1).bind λy7=>
 (rk w.aa y7).bind λy8=>
 cond (!y8)
 (ZA (.inr (.inr ZD)))
 (cond (ZE (w.now<y7.aO))
 (ZA (.inr (.inr ZD)))
 (ZA (.inl (aH (s1+1))))))
 (ZA (.inr (.inl ())))
instance (w:az):bj (lV w):=⟨λs1=>(.un::.be 0 0 0::.un::.be 1 0 0::(U 76 (.sl (w.aJ.map bt)::vi (w.aJ.length:Int)::vi s1::(U 42 [])))),λs1=>[ZA ⟨.of 33,10,[[.sl (w.aa.aB.map br),.sl (w.aa.off.map aI),vi w.aa.change,.sl (w.ae.map aY),.sl (w.aq.map aC),.sl (w.ah.map aS),vi w.now,.sl (w.aJ.map bt),.sl (w.skip.map aI),vi w.aT]]⟩,ZA ⟨.of 27,3,[[.sl (w.aa.aB.map br),.sl (w.aa.off.map aI),vi w.aa.change]]⟩]⟩
def lW(w:az)(y9:List ByteArray)(s2:Int×Int):Option ((Int×Int)⊕(Int⊕Bool)):=
 cond (ZE (s2.2<(w.ae.length:Int)))
 ((aA w.ae s2.2).bind λeE=>
 (pM w (aH (s2.2+1)) y9).bind λoq=>
 cond (!oq)
 (ZA (.inr (.inr ZD)))
 (ZA (.inl ((aH (s2.1+(eE.aK.length:Int))),(aH (s2.2+1))))))
 (ZA (.inr (.inl s2.1)))
instance (w:az)(y9:List ByteArray):bj (lW w y9):=⟨λs2=>(.un::.be 0 0 0::(U 6 (.ms 1::vi s2.1::(U 91 (.sl (w.ae.map aY)::vi (w.ae.length:Int)::vi s2.2::(U 21 [])))))),λs2=>[ZA ⟨.of 33,10,[[.sl (w.aa.aB.map br),.sl (w.aa.off.map aI),vi w.aa.change,.sl (w.ae.map aY),.sl (w.aq.map aC),.sl (w.ah.map aS),vi w.now,.sl (w.aJ.map bt),.sl (w.skip.map aI),vi w.aT]]⟩,ZA ⟨.of 9,1,y9.map km⟩]⟩
def gN(w:az):Option Bool:=
 (iN w.aa w.aq).bind λy1=>
 cond (!y1)
 (ZA ZD)
 ((aZ w.now 0 100000).bind λy2=>
 cond (!y2)
 (ZA ZD)
 (cond (ZE (30<(w.ae.length:Int)))
 (ZA ZD)
 (cond (ZE (20<(w.ah.length:Int)))
 (ZA ZD)
 (cond (ZE (200<(w.aJ.length:Int)))
 (ZA ZD)
 (cond (ZE (50<(w.skip.length:Int)))
 (ZA ZD)
 ((aZ w.aT (w.aJ.length:Int) 1000000000).bind λy3=>
 cond (!y3)
 (ZA ZD)
 ((aD (lU w) NN 0).bind (bm (λo0=>
 (aD (lV w) NN 0).bind (bm (λo1=>
 (dq w.aa).bind λy9=>
 (aD (lW w y9) NN (0,0)).bind (bm (λo2=>
 ZA (ZE (o2=(w.aq.length:Int)))) (λr=>ZA r))) (λr=>ZA r))) (λr=>ZA r)))))))))
instance (w:az):CT prog (gN w):=⟨97,[.ag (fa w)],[],λr=>vb r,λr=>[],cw (gN.eq_1 ..) func97 ntmps97 results97⟩
def gM(a:ZJ):Option Bool:=
 (jn 3 22 (
 cond (ZE (a.kind=1))
 ((jH a.av).bind λy1=>
 ZA (.inl (y1,a.av.label.ax,a.av.label.bZ,a.av.label.aX,a.av.ar,a.av.ab,a.av.bb,a.av.value,0,0,0,0,0)))
 (cond (ZE (a.kind=2))
 ((aZ a.order 1 9999).bind λy2=>
 cond y2
 ((aZ a.bh 1 100000).bind λy3=>
 ZA (.inl (y3,0,0,⟨#[]⟩,⟨#[]⟩,0,[],0,a.order,a.bh,0,0,0)))
 (ZA (.inl (ZD,0,0,⟨#[]⟩,⟨#[]⟩,0,[],0,a.order,a.bh,0,0,0))))
 (cond (ZE (a.kind=3))
 ((aZ a.bn 0 100000).bind λy4=>
 ZA (.inl (y4,0,0,⟨#[]⟩,⟨#[]⟩,0,[],0,0,0,a.bn,0,0)))
 (cond (ZE (a.kind=4))
 ((aZ a.aV.bG 0 19).bind λy5=>
 cond y5
 ((aZ a.aV.day 0 60).bind λy6=>
 ZA (.inl (y6,0,0,⟨#[]⟩,⟨#[]⟩,0,[],0,0,0,0,a.aV.bG,a.aV.day)))
 (ZA (.inl (ZD,0,0,⟨#[]⟩,⟨#[]⟩,0,[],0,0,0,0,a.aV.bG,a.aV.day))))
 (cond (ZE (a.kind=5))
 (ZA (.inl (ZC,0,0,⟨#[]⟩,⟨#[]⟩,0,[],0,0,0,0,0,0)))
 (cond (ZE (a.kind=6))
 ((aZ a.order 1 9999).bind λy7=>
 ZA (.inl (y7,0,0,⟨#[]⟩,⟨#[]⟩,0,[],0,a.order,0,0,0,0)))
 (ZA (.inl (ZD,0,0,⟨#[]⟩,⟨#[]⟩,0,[],0,0,0,0,0,0)))))))):Option ((Bool×Int×Int×ByteArray×ByteArray×Int×(List Int)×Int×Int×Int×Int×Int×Int)⊕Empty)) (λz8=>(.un::.be 0 0 0::.un::.be 1 0 0::vb z8.1::(U 68 []))) (λz8=>[ZA ⟨.of 48,13,[[vi a.kind,vi a.av.label.ax,vi a.av.label.bZ,vs a.av.label.aX,vs a.av.ar,vi a.av.ab,.sl (a.av.bb.map aI),vi a.av.value,vi a.order,vi a.bh,vi a.bn,vi a.aV.bG,vi a.aV.day]]⟩,ZA ⟨.of 48,13,[[vi a.kind,vi z8.2.1,vi z8.2.2.1,vs z8.2.2.2.1,vs z8.2.2.2.2.1,vi z8.2.2.2.2.2.1,.sl (z8.2.2.2.2.2.2.1.map aI),vi z8.2.2.2.2.2.2.2.1,vi z8.2.2.2.2.2.2.2.2.1,vi z8.2.2.2.2.2.2.2.2.2.1,vi z8.2.2.2.2.2.2.2.2.2.2.1,vi z8.2.2.2.2.2.2.2.2.2.2.2.1,vi z8.2.2.2.2.2.2.2.2.2.2.2.2]]⟩])).bind (bm (λz8=>
 cond z8.1
 ((oE a (⟨a.kind,(⟨(⟨z8.2.1,z8.2.2.1,z8.2.2.2.1⟩:fF),z8.2.2.2.2.1,z8.2.2.2.2.2.1,z8.2.2.2.2.2.2.1,z8.2.2.2.2.2.2.2.1⟩:aM),z8.2.2.2.2.2.2.2.2.1,z8.2.2.2.2.2.2.2.2.2.1,z8.2.2.2.2.2.2.2.2.2.2.1,(⟨z8.2.2.2.2.2.2.2.2.2.2.2.1,z8.2.2.2.2.2.2.2.2.2.2.2.2⟩:aw)⟩:ZJ)).bind λy9=>
 ZA y9)
 (ZA ZD)) (λr=>nomatch r))
instance (a:ZJ):CT prog (gM a):=⟨31,[.ag (ZK a)],[],λr=>vb r,λr=>[],cw (gM.eq_1 ..) func31 ntmps31 results31⟩
def kX(l:List bH)(aP:Int)(s0:Int):Option (Int⊕(Unit⊕Bool)):=
 cond (ZE (s0<(l.length:Int)))
 ((jn 4 3 (
 (aA l s0).bind λy1=>
 cond (ZE (y1.nD<0))
 (ZA (.inr ZD))
 ((aA l s0).bind λy2=>
 cond (ZE (aP<=y2.nD))
 (ZA (.inr ZD))
 ((aA l s0).bind λy3=>
 (bf y3.ax 1 3).bind λy4=>
 cond (!y4)
 (ZA (.inr ZD))
 ((aA l s0).bind λy5=>
 (bf y5.lT 1 1000000000).bind λy6=>
 cond (!y6)
 (ZA (.inr ZD))
 ((aA l s0).bind λy7=>
 (bf y7.nK 0 100000).bind λy8=>
 cond (!y8)
 (ZA (.inr ZD))
 (cond (ZE (0<s0))
 ((aA l (aH (s0-1))).bind λy9=>
 (aA l s0).bind λeE=>
 (qg y9 eE).bind λoq=>
 cond (!oq)
 (ZA (.inr ZD))
 (ZA (.inl ())))
 (ZA (.inl ()))))))):Option (Unit⊕Bool)) (λz12=>(.sl (l.map b9)::vi aP::(U 3 (vi s0::(U 68 []))))) (λz12=>[])).bind (bm (λz12=>
 ZA (.inl (aH (s0+1)))) (λr=>ZA (.inr (.inr r)))))
 (ZA (.inr (.inl ())))
instance (l:List bH)(aP:Int):bj (kX l aP):=⟨λs0=>(.sl (l.map b9)::vi aP::(U 3 (vi s0::(U 68 [])))),λs0=>[]⟩
def lN(l:List bH)(aP:Int):Option Bool:=
 (aD (kX l aP) NN 0).bind (bm (λo0=>
 ZA (ZE ((l.length:Int)<=24))) (λr=>ZA r))
instance (l:List bH)(aP:Int):CT prog (lN l aP):=⟨130,[.sl (l.map b9),vi aP],[],λr=>vb r,λr=>[],cw (lN.eq_1 ..) func130 ntmps130 results130⟩
def gv(w:az)(fg:Int)(s0:Int×Int×Int×Int×(List bM)×(List Int)×(List ay)×(List aj)×(List aw)×(List Int)×(List bc)):Option ((Int×Int×Int×Int×(List bM)×(List Int)×(List ay)×(List aj)×(List aw)×(List Int)×(List bc))⊕(Int×Int×Int×(List bM)×(List Int)×(List ay)×(List aj)×(List aw)×(List Int)×(List bc))):=
 cond (ZE (s0.1<(w.ae.length:Int)))
 ((aA s0.2.2.2.2.2.2.1 s0.1).bind λy1=>
 cond (!decide (y1.state=2))
 (ZA (.inl ((aH (s0.1+1)),s0.2.1,s0.2.2.1,s0.2.2.2.1,s0.2.2.2.2.1,s0.2.2.2.2.2.1,s0.2.2.2.2.2.2.1,s0.2.2.2.2.2.2.2.1,s0.2.2.2.2.2.2.2.2.1,s0.2.2.2.2.2.2.2.2.2.1,s0.2.2.2.2.2.2.2.2.2.2)))
 ((aA y1.aK y1.aN).bind λy2=>
 (cY (⟨s0.2.2.2.2.1,s0.2.2.2.2.2.1,w.aa.change⟩:ak) y2).bind λy3=>
 cond (!decide (y3=fg))
 (ZA (.inl ((aH (s0.1+1)),s0.2.1,s0.2.2.1,s0.2.2.2.1,s0.2.2.2.2.1,s0.2.2.2.2.2.1,s0.2.2.2.2.2.2.1,s0.2.2.2.2.2.2.2.1,s0.2.2.2.2.2.2.2.2.1,s0.2.2.2.2.2.2.2.2.2.1,s0.2.2.2.2.2.2.2.2.2.2)))
 ((A9 s0.2.2.2.2.2.2.1 s0.1).bind λy4=>
 (aA y4.aK y4.aN).bind λy5=>
 (A9 s0.2.2.2.2.2.2.1 s0.1).bind λy6=>
 (aA s0.2.2.2.2.1 y5.bG).bind λy7=>
 (A9 s0.2.2.2.2.2.2.1 s0.1).bind λy8=>
 (zp (s0.2.2.2.2.2.2.1.set (V0 s0.1) (⟨y6.ar,y6.aX,y6.ax,y6.ab,y6.aO,y6.ec,y6.aK,(aH (y6.aN+1)),1,y7.aX,y6.bK⟩:ay)) (λy9=>(.be 0 0 0::vi fg::.un::.un::.be 9 0 0::vi s0.1::.be 3 (V0 s0.1) 0::.be 10 0 0::(U 10 (vi (w.ae.length:Int)::vi s0.1::(U 167 []))))) (λy9=>[ZA ⟨.of 33,10,[[.ms 1,.ms 2,vi s0.2.1,.ms 3,.ms 4,.ms 5,vi s0.2.2.1,.ms 8,.ms 7,vi s0.2.2.2.1]]⟩,ZA ⟨.of 174,6,s0.2.2.2.2.1.map br⟩,ZA ⟨.of 3,1,s0.2.2.2.2.2.1.map aI⟩,ZA ⟨⟨155,ZA 46⟩,11,y9.map aY⟩,ZA ⟨.of 177,4,s0.2.2.2.2.2.2.2.1.map aC⟩,ZA ⟨.of 46,2,s0.2.2.2.2.2.2.2.2.1.map aS⟩,ZB,ZA ⟨.of 3,1,s0.2.2.2.2.2.2.2.2.2.1.map aI⟩,ZA ⟨.of 181,6,s0.2.2.2.2.2.2.2.2.2.2.map bt⟩,ZA ⟨.of 27,3,[[.ms 1,.ms 2,vi w.aa.change]]⟩,ZA ⟨.of 46,2,[[vi y5.bG,vi y5.day]]⟩])).bind λy9=>
 (nG [0,1,2,3,4,5,8,7]).bind λ_=>
 (eY (⟨(⟨s0.2.2.2.2.1,s0.2.2.2.2.2.1,s0.2.1⟩:ak),y9,s0.2.2.2.2.2.2.2.1,s0.2.2.2.2.2.2.2.2.1,s0.2.2.1,s0.2.2.2.2.2.2.2.2.2.2,s0.2.2.2.2.2.2.2.2.2.1,s0.2.2.2.1⟩:az) (⟨(aH (s0.1+1)),fg,2,⟨#[]⟩,y5⟩:bc)).bind λeE=>
 (A9 eE.ae s0.1).bind λoq=>
 cond (ZE (oq.place=oq.aX))
 ((zp (eE.ae.set (V0 s0.1) (⟨oq.ar,oq.aX,oq.ax,oq.ab,oq.aO,oq.ec,oq.aK,oq.aN,3,oq.place,fg⟩:ay)) (λsj=>(.be 0 0 0::vi fg::.un::.un::.be 9 0 0::vi s0.1::.be 3 (V0 s0.1) 0::(U 11 (vi (w.ae.length:Int)::vi s0.1::(U 167 []))))) (λsj=>[ZA ⟨.of 33,10,[[.ms 1,.ms 2,vi eE.aa.change,.ms 3,.ms 4,.ms 5,vi eE.now,.ms 8,.ms 7,vi eE.aT]]⟩,ZA ⟨.of 174,6,eE.aa.aB.map br⟩,ZA ⟨.of 3,1,eE.aa.off.map aI⟩,ZA ⟨⟨155,ZA 46⟩,11,sj.map aY⟩,ZA ⟨.of 177,4,eE.aq.map aC⟩,ZA ⟨.of 46,2,eE.ah.map aS⟩,ZB,ZA ⟨.of 3,1,eE.skip.map aI⟩,ZA ⟨.of 181,6,eE.aJ.map bt⟩,ZA ⟨.of 27,3,[[.ms 1,.ms 2,vi w.aa.change]]⟩])).bind λsj=>
 (A9 sj s0.1).bind λre=>
 (nG [0,1,2,3,4,5,8,7]).bind λ_=>
 (eY (⟨eE.aa,sj,eE.aq,eE.ah,eE.now,eE.aJ,eE.skip,eE.aT⟩:az) (⟨(aH (s0.1+1)),fg,4,re.place,(⟨0,0⟩:aw)⟩:bc)).bind λpx=>
 ZA (.inl ((aH (s0.1+1)),px.aa.change,px.now,px.aT,px.aa.aB,px.aa.off,px.ae,px.aq,px.ah,px.skip,px.aJ)))
 (ZA (.inl ((aH (s0.1+1)),eE.aa.change,eE.now,eE.aT,eE.aa.aB,eE.aa.off,eE.ae,eE.aq,eE.ah,eE.skip,eE.aJ))))))
 (ZA (.inr (s0.2.1,s0.2.2.1,s0.2.2.2.1,s0.2.2.2.2.1,s0.2.2.2.2.2.1,s0.2.2.2.2.2.2.1,s0.2.2.2.2.2.2.2.1,s0.2.2.2.2.2.2.2.2.1,s0.2.2.2.2.2.2.2.2.2.1,s0.2.2.2.2.2.2.2.2.2.2)))
instance (w:az)(fg:Int):bj (gv w fg):=⟨λs0=>(.be 0 0 0::vi fg::.un::.un::.be 9 0 0::(U 13 (vi (w.ae.length:Int)::vi s0.1::(U 167 [])))),λs0=>[ZA ⟨.of 33,10,[[.ms 1,.ms 2,vi s0.2.1,.ms 3,.ms 4,.ms 5,vi s0.2.2.1,.ms 8,.ms 7,vi s0.2.2.2.1]]⟩,ZA ⟨.of 174,6,s0.2.2.2.2.1.map br⟩,ZA ⟨.of 3,1,s0.2.2.2.2.2.1.map aI⟩,ZA ⟨⟨155,ZA 46⟩,11,s0.2.2.2.2.2.2.1.map aY⟩,ZA ⟨.of 177,4,s0.2.2.2.2.2.2.2.1.map aC⟩,ZA ⟨.of 46,2,s0.2.2.2.2.2.2.2.2.1.map aS⟩,ZB,ZA ⟨.of 3,1,s0.2.2.2.2.2.2.2.2.2.1.map aI⟩,ZA ⟨.of 181,6,s0.2.2.2.2.2.2.2.2.2.2.map bt⟩,ZA ⟨.of 27,3,[[.ms 1,.ms 2,vi w.aa.change]]⟩]⟩
def gx(w:az)(fg:Int)(o0:Int×Int×Int×(List bM)×(List Int)×(List ay)×(List aj)×(List aw)×(List Int)×(List bc))(s1:Int×Int×Int×Int×(List bM)×(List Int)×(List ay)×(List aj)×(List aw)×(List Int)×(List bc)):Option ((Int×Int×Int×Int×(List bM)×(List Int)×(List ay)×(List aj)×(List aw)×(List Int)×(List bc))⊕(Int×Int×Int×(List bM)×(List Int)×(List ay)×(List aj)×(List aw)×(List Int)×(List bc))):=
 cond (ZE (s1.1<(o0.2.2.2.2.2.1.length:Int)))
 ((aA s1.2.2.2.2.2.2.1 s1.1).bind λtl=>
 cond (ZE (tl.state=1))
 (cond (ZE (tl.aN<(tl.aK.length:Int)))
 ((aA tl.aK tl.aN).bind λsB=>
 (de (⟨s1.2.2.2.2.1,s1.2.2.2.2.2.1,w.aa.change⟩:ak) sB).bind λxr=>
 cond (ZE (xr=fg))
 ((A9 s1.2.2.2.2.2.2.1 s1.1).bind λF1=>
 (zp (s1.2.2.2.2.2.2.1.set (V0 s1.1) (⟨F1.ar,F1.aX,F1.ax,F1.ab,F1.aO,F1.ec,F1.aK,F1.aN,2,⟨#[]⟩,F1.bK⟩:ay)) (λJ2=>(.be 0 0 0::vi fg::.un::.un::.be 9 0 0::(U 3 (vi s1.1::.be 3 (V0 s1.1) 0::(U 107 (vi (o0.2.2.2.2.2.1.length:Int)::vi s1.1::(U 68 []))))))) (λJ2=>[ZA ⟨.of 33,10,[[.ms 1,.ms 2,vi s1.2.1,.ms 3,.ms 4,.ms 5,vi s1.2.2.1,.ms 8,.ms 7,vi s1.2.2.2.1]]⟩,ZA ⟨.of 174,6,s1.2.2.2.2.1.map br⟩,ZA ⟨.of 3,1,s1.2.2.2.2.2.1.map aI⟩,ZA ⟨⟨155,ZA 46⟩,11,J2.map aY⟩,ZA ⟨.of 177,4,s1.2.2.2.2.2.2.2.1.map aC⟩,ZA ⟨.of 46,2,s1.2.2.2.2.2.2.2.2.1.map aS⟩,ZB,ZA ⟨.of 3,1,s1.2.2.2.2.2.2.2.2.2.1.map aI⟩,ZA ⟨.of 181,6,s1.2.2.2.2.2.2.2.2.2.2.map bt⟩,ZA ⟨.of 27,3,[[.ms 1,.ms 2,vi w.aa.change]]⟩])).bind λJ2=>
 (AX 8 [15]).bind λ_=>
 (A9 J2 s1.1).bind λy20=>
 (aA y20.aK y20.aN).bind λy21=>
 (nG [0,1,2,3,4,5,8,7]).bind λ_=>
 (eY (⟨(⟨s1.2.2.2.2.1,s1.2.2.2.2.2.1,s1.2.1⟩:ak),J2,s1.2.2.2.2.2.2.2.1,s1.2.2.2.2.2.2.2.2.1,s1.2.2.1,s1.2.2.2.2.2.2.2.2.2.2,s1.2.2.2.2.2.2.2.2.2.1,s1.2.2.2.1⟩:az) (⟨(aH (s1.1+1)),fg,3,⟨#[]⟩,y21⟩:bc)).bind λUI=>
 ZA (.inl ((aH (s1.1+1)),UI.aa.change,UI.now,UI.aT,UI.aa.aB,UI.aa.off,UI.ae,UI.aq,UI.ah,UI.skip,UI.aJ)))
 (ZA (.inl ((aH (s1.1+1)),s1.2.1,s1.2.2.1,s1.2.2.2.1,s1.2.2.2.2.1,s1.2.2.2.2.2.1,s1.2.2.2.2.2.2.1,s1.2.2.2.2.2.2.2.1,s1.2.2.2.2.2.2.2.2.1,s1.2.2.2.2.2.2.2.2.2.1,s1.2.2.2.2.2.2.2.2.2.2))))
 (ZA (.inl ((aH (s1.1+1)),s1.2.1,s1.2.2.1,s1.2.2.2.1,s1.2.2.2.2.1,s1.2.2.2.2.2.1,s1.2.2.2.2.2.2.1,s1.2.2.2.2.2.2.2.1,s1.2.2.2.2.2.2.2.2.1,s1.2.2.2.2.2.2.2.2.2.1,s1.2.2.2.2.2.2.2.2.2.2))))
 (ZA (.inl ((aH (s1.1+1)),s1.2.1,s1.2.2.1,s1.2.2.2.1,s1.2.2.2.2.1,s1.2.2.2.2.2.1,s1.2.2.2.2.2.2.1,s1.2.2.2.2.2.2.2.1,s1.2.2.2.2.2.2.2.2.1,s1.2.2.2.2.2.2.2.2.2.1,s1.2.2.2.2.2.2.2.2.2.2))))
 (ZA (.inr (s1.2.1,s1.2.2.1,s1.2.2.2.1,s1.2.2.2.2.1,s1.2.2.2.2.2.1,s1.2.2.2.2.2.2.1,s1.2.2.2.2.2.2.2.1,s1.2.2.2.2.2.2.2.2.1,s1.2.2.2.2.2.2.2.2.2.1,s1.2.2.2.2.2.2.2.2.2.2)))
instance (w:az)(fg:Int)(o0:Int×Int×Int×(List bM)×(List Int)×(List ay)×(List aj)×(List aw)×(List Int)×(List bc)):bj (gx w fg o0):=⟨λs1=>(.be 0 0 0::vi fg::.un::.un::.be 9 0 0::(U 112 (vi (o0.2.2.2.2.2.1.length:Int)::vi s1.1::(U 68 [])))),λs1=>[ZA ⟨.of 33,10,[[.ms 1,.ms 2,vi s1.2.1,.ms 3,.ms 4,.ms 5,vi s1.2.2.1,.ms 8,.ms 7,vi s1.2.2.2.1]]⟩,ZA ⟨.of 174,6,s1.2.2.2.2.1.map br⟩,ZA ⟨.of 3,1,s1.2.2.2.2.2.1.map aI⟩,ZA ⟨⟨155,ZA 46⟩,11,s1.2.2.2.2.2.2.1.map aY⟩,ZA ⟨.of 177,4,s1.2.2.2.2.2.2.2.1.map aC⟩,ZA ⟨.of 46,2,s1.2.2.2.2.2.2.2.2.1.map aS⟩,ZB,ZA ⟨.of 3,1,s1.2.2.2.2.2.2.2.2.2.1.map aI⟩,ZA ⟨.of 181,6,s1.2.2.2.2.2.2.2.2.2.2.map bt⟩,ZA ⟨.of 27,3,[[.ms 1,.ms 2,vi w.aa.change]]⟩]⟩
def l4(w:az)(fg:Int):Option az:=
 (aD (gv w fg) NN (0,w.aa.change,w.now,w.aT,w.aa.aB,w.aa.off,w.ae,w.aq,w.ah,w.skip,w.aJ)).bind (λo0=>
 (aD (gx w fg o0) NN (0,o0.1,o0.2.1,o0.2.2.1,o0.2.2.2.1,o0.2.2.2.2.1,o0.2.2.2.2.2.1,o0.2.2.2.2.2.2.1,o0.2.2.2.2.2.2.2.1,o0.2.2.2.2.2.2.2.2.1,o0.2.2.2.2.2.2.2.2.2)).bind (λo1=>
 ZA (⟨(⟨o1.2.2.2.1,o1.2.2.2.2.1,o1.1⟩:ak),o1.2.2.2.2.2.1,o1.2.2.2.2.2.2.1,o1.2.2.2.2.2.2.2.1,fg,o1.2.2.2.2.2.2.2.2.2,o1.2.2.2.2.2.2.2.2.1,o1.2.2.1⟩:az)))
instance (w:az)(fg:Int):CT prog (l4 w fg):=⟨209,[.be 0 0 0,vi fg],[ZA ⟨.of 33,10,[[.ms 1,.ms 2,vi w.aa.change,.ms 3,.ms 4,.ms 5,vi w.now,.ms 6,.ms 7,vi w.aT]]⟩,ZA ⟨.of 174,6,w.aa.aB.map br⟩,ZA ⟨.of 3,1,w.aa.off.map aI⟩,ZA ⟨⟨155,ZA 46⟩,11,w.ae.map aY⟩,ZA ⟨.of 177,4,w.aq.map aC⟩,ZA ⟨.of 46,2,w.ah.map aS⟩,ZA ⟨.of 181,6,w.aJ.map bt⟩,ZA ⟨.of 3,1,w.skip.map aI⟩],λr=>.tu [],λr=>[ZA ⟨.of 33,10,[[.ms 1,.ms 2,vi r.aa.change,.ms 3,.ms 4,.ms 5,vi r.now,.ms 8,.ms 7,vi r.aT]]⟩,ZA ⟨.of 174,6,r.aa.aB.map br⟩,ZA ⟨.of 3,1,r.aa.off.map aI⟩,ZA ⟨⟨155,ZA 46⟩,11,r.ae.map aY⟩,ZA ⟨.of 177,4,r.aq.map aC⟩,ZA ⟨.of 46,2,r.ah.map aS⟩,ZB,ZA ⟨.of 3,1,r.skip.map aI⟩,ZA ⟨.of 181,6,r.aJ.map bt⟩],ck (l4.eq_1 ..) func209 ntmps209 results209⟩
def pv(n:ak)(places:List ByteArray)(gF:List Int)(fb:Int)(s0:Int×(List Int)):Option ((Int×(List Int))⊕(List Int)):=
 cond (ZE (s0.1<(n.aB.length:Int)))
 ((aA n.aB s0.1).bind λy2=>
 (bY places y2.ar).bind λy3=>
 (aA n.aB s0.1).bind λy4=>
 (bY places y4.aX).bind λy5=>
 (aA gF y3).bind λy6=>
 cond (ZE (y6<0))
 (ZA (.inl ((aH (s0.1+1)),s0.2)))
 ((aA gF y3).bind λy7=>
 (da n y7 (ZE (y3=fb))).bind λy8=>
 (rv n s0.1 y8).bind λy9=>
 cond (ZE (y9<0))
 (ZA (.inl ((aH (s0.1+1)),s0.2)))
 ((bp n (⟨s0.1,y9⟩:aw)).bind λeE=>
 (aA s0.2 y5).bind λoq=>
 cond (ZE (oq<0))
 ((aA s0.2 y5).bind λsj=>
 ZA (.inl ((aH (s0.1+1)),(s0.2.set (V0 y5) eE))))
 ((aA s0.2 y5).bind λre=>
 cond (ZE (eE<re))
 ((aA s0.2 y5).bind λpx=>
 ZA (.inl ((aH (s0.1+1)),(s0.2.set (V0 y5) eE))))
 (ZA (.inl ((aH (s0.1+1)),s0.2)))))))
 (ZA (.inr s0.2))
instance (n:ak)(places:List ByteArray)(gF:List Int)(fb:Int):bj (pv n places gF fb):=⟨λs0=>(.un::.sl (places.map km)::.sl (gF.map aI)::vi fb::.be 0 0 0::(U 4 (.ms 1::vi s0.1::(U 71 [])))),λs0=>[ZA ⟨.of 27,3,[[.sl (n.aB.map br),.sl (n.off.map aI),vi n.change]]⟩,ZA ⟨.of 3,1,s0.2.map aI⟩]⟩
def qh(n:ak)(places:List ByteArray)(gF:List Int)(fb:Int):Option (List Int):=
 (dN gF).bind λy1=>
 (aD (pv n places gF fb) NN (0,y1)).bind (λo0=>
 ZA o0)
instance (n:ak)(places:List ByteArray)(gF:List Int)(fb:Int):CT prog (qh n places gF fb):=⟨369,[.ag (bE n),.sl (places.map km),.sl (gF.map aI),vi fb],[],λr=>.ms 0,λr=>[ZA ⟨.of 3,1,r.map aI⟩],cw (qh.eq_1 ..) func369 ntmps369 results369⟩
def fC(n:ak)(aB:Int)(y1:(List ByteArray))(y2:Int)(s0:Int×(List Int)):Option ((Int×(List Int))⊕(List Int)):=
 cond (ZE (s0.1<aB))
 (cond (ZE (s0.1<(y1.length:Int)))
 ((qh n y1 s0.2 y2).bind λy5=>
 ZA (.inl ((aH (s0.1+1)),y5)))
 (ZA (.inr s0.2)))
 (ZA (.inr s0.2))
instance (n:ak)(aB:Int)(y1:(List ByteArray))(y2:Int):bj (fC n aB y1 y2):=⟨λs0=>(U 3 (vi aB::.be 0 0 0::(U 4 (.ms 1::vi y2::.ms 2::vi s0.1::(U 42 []))))),λs0=>[ZA ⟨.of 27,3,[[.sl (n.aB.map br),.sl (n.off.map aI),vi n.change]]⟩,ZA ⟨.of 9,1,y1.map km⟩,ZA ⟨.of 3,1,s0.2.map aI⟩]⟩
def jZ(n:ak)(cz:ByteArray)(nE:Int)(aB:Int):Option (List Int):=
 (dv n).bind λy1=>
 (bY y1 cz).bind λy2=>
 (ba n).bind λy3=>
 cond (!y3)
 (ZA ([]:List Int))
 (cond (ZE (y2<0))
 (ZA ([]:List Int))
 (cond (ZE (100000<nE))
 (ZA ([]:List Int))
 (cond (ZE (aB<0))
 (ZA ([]:List Int))
 ((ia y1 y2 nE).bind λy4=>
 (aD (fC n aB y1 y2) NN (0,y4)).bind (λo0=>
 ZA o0)))))
instance (n:ak)(cz:ByteArray)(nE:Int)(aB:Int):CT prog (jZ n cz nE aB):=⟨346,[.ag (bE n),vs cz,vi nE,vi aB],[],λr=>.ms 0,λr=>[ZA ⟨.of 3,1,r.map aI⟩],cw (jZ.eq_1 ..) func346 ntmps346 results346⟩
def jE(n:ak)(cz:ByteArray)(aX:ByteArray)(fG:Int):Option Int:=
 (dv n).bind λy1=>
 (bY y1 aX).bind λy2=>
 (jZ n cz fG (y1.length:Int)).bind λy3=>
 cond (ZE (y2<0))
 (ZA (-1))
 (cond (ZE ((y3.length:Int)=0))
 (ZA (-1))
 ((aA y3 y2).bind λy4=>
 ZA y4))
instance (n:ak)(cz:ByteArray)(aX:ByteArray)(fG:Int):CT prog (jE n cz aX fG):=⟨325,[.ag (bE n),vs cz,vs aX,vi fG],[],λr=>vi r,λr=>[],cw (jE.eq_1 ..) func325 ntmps325 results325⟩
def kx(n:ak)(ax:Int)(cO:ByteArray)(aX:ByteArray)(lF:Int):Option Int:=
 (jE n cO aX lF).bind λy1=>
 cond (ZE (y1<0))
 (ZA (-1))
 ((bf ax 1 3).bind λy2=>
 cond (!y2)
 (ZA (-1))
 (cond (ZE (1080<(Int.tmod y1 1440)))
 (ZA (aH ((aH ((aH ((aH ((IntKind.i64.wrap (Xb y1 1440))+1))+(aH ((aH (ax-1))*(aH (ax-1))))))*1440))+1080)))
 (ZA (aH ((aH ((aH ((IntKind.i64.wrap (Xb y1 1440))+(aH ((aH (ax-1))*(aH (ax-1))))))*1440))+1080)))))
instance (n:ak)(ax:Int)(cO:ByteArray)(aX:ByteArray)(lF:Int):CT prog (kx n ax cO aX lF):=⟨295,[.ag (bE n),vi ax,vs cO,vs aX,vi lF],[],λr=>vi r,λr=>[],cw (kx.eq_1 ..) func295 ntmps295 results295⟩
end Go.Proofs.YtbalgkakkoocjaaGreat
