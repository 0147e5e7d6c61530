/- A part of the proof of the statement in the last file of this claim: texts on the language of the program and on its functions. No condition. -/
import Derived.Test.YtbalgkakkoocjaaGreatCJ6
import Derived.Test.YtbalgkakkoocjaaGreatCJ5
import Derived.Test.YtbalgkakkoocjaaGreatCJ7
import Derived.Test.YtbalgkakkoocjaaGreatCJ10
import Derived.Test.YtbalgkakkoocjaaGreatCJ8
import Derived.Test.YtbalgkakkoocjaaGreatCJ11
import Derived.Test.YtbalgkakkoocjaaGreatCJ1
set_option linter.unusedVariables false
set_option linter.unusedSimpArgs false
set_option linter.unusedSectionVars false
open Option renaming some->ZA,none->ZB
open Bool renaming true->ZC,false->ZD
open Decidable renaming decide->ZE
open Go.Proofs.Tryz
set_option maxHeartbeats 40000000
namespace Go.Proofs.YtbalgkakkoocjaaGreat
open _root_.Int renaming toNat->V0
set_option maxRecDepth 10000
open Go.RowKit
def fA(w:az)(y1:ak)(y2:(List aj))(y3:(List aw))(s0:Int×(List ay)):Option ((Int×(List ay))⊕(List ay)):=
 cond (ZE (s0.1<(w.ae.length:Int)))
 ((aA w.ae s0.1).bind λy4=>
 (eR y4.aK).bind λy5=>
 (dg (bB ((s0.2:List ay).length+([(⟨y4.ar,y4.aX,y4.ax,y4.ab,y4.aO,y4.ec,y5,y4.aN,y4.state,y4.place,y4.bK⟩:ay)]:List ay).length) 128)).bind λ_=>
 ZA (.inl ((aH (s0.1+1)),((s0.2:List ay)++[(⟨y4.ar,y4.aX,y4.ax,y4.ab,y4.aO,y4.ec,y5,y4.aN,y4.state,y4.place,y4.bK⟩:ay)]))))
 (ZA (.inr s0.2))
instance (w:az)(y1:ak)(y2:(List aj))(y3:(List aw)):bj (fA w y1 y2 y3):=⟨λs0=>(.un::.un::.be 0 0 0::.be 1 0 0::(U 25 (.sl (w.ae.map aY)::vi (w.ae.length:Int)::vi s0.1::(U 15 [])))),λs0=>[ZA ⟨.of 33,10,[[.v (.slice ZB 0 0),.v (.slice ZB 0 0),vi 0,.v (.slice ZB 0 0),.v (.slice ZB 0 0),.v (.slice ZB 0 0),vi 0,.v (.slice ZB 0 0),.v (.slice ZB 0 0),vi 0]]⟩,ZA ⟨.of 33,10,[[.ms 2,.ms 3,vi y1.change,.ms 4,.ms 5,.ms 6,vi w.now,.ms 7,.ms 8,vi w.aT]]⟩,ZA ⟨.of 174,6,y1.aB.map br⟩,ZA ⟨.of 3,1,y1.off.map aI⟩,ZA ⟨⟨155,ZA 46⟩,11,s0.2.map aY⟩,ZA ⟨.of 177,4,y2.map aC⟩,ZA ⟨.of 46,2,y3.map aS⟩,ZA ⟨.of 181,6,((([]:List bc):List bc)++w.aJ).map bt⟩,ZA ⟨.of 3,1,((([]:List Int):List Int)++w.skip).map aI⟩]⟩
def dC(w:az):Option az:=
 (jt w.aa).bind λy1=>
 (fH w.aq).bind λy2=>
 (eR w.ah).bind λy3=>
 (dg (bB ((([]:List bc):List bc).length+(w.aJ:List bc).length) 56)).bind λ_=>
 (dg (bB ((([]:List Int):List Int).length+(w.skip:List Int).length) 8)).bind λ_=>
 (aD (fA w y1 y2 y3) NN (0,[])).bind (λo0=>
 ZA (⟨y1,o0,y2,y3,w.now,((([]:List bc):List bc)++w.aJ),((([]:List Int):List Int)++w.skip),w.aT⟩:az))
instance (w:az):CT prog (dC w):=⟨94,[.ag (fa w)],[],λr=>.ag [.ms 0,.ms 1,vi r.aa.change,.ms 2,.ms 3,.ms 4,vi r.now,.ms 5,.ms 6,vi r.aT],λr=>[ZA ⟨.of 174,6,r.aa.aB.map br⟩,ZA ⟨.of 3,1,r.aa.off.map aI⟩,ZA ⟨⟨155,ZA 46⟩,11,r.ae.map aY⟩,ZA ⟨.of 177,4,r.aq.map aC⟩,ZA ⟨.of 46,2,r.ah.map aS⟩,ZA ⟨.of 181,6,r.aJ.map bt⟩,ZA ⟨.of 3,1,r.skip.map aI⟩],ck (dC.eq_1 ..) func94 ntmps94 results94⟩
def fY(l:List aU)(s0:Int):Option (Int⊕(Unit⊕Bool)):=
 cond (ZE (s0<(l.length:Int)))
 ((jn 5 20 (
 (aA l s0).bind λy1=>
 (jn 6 8 (
 (mo y1).bind λy2=>
 cond (!y2)
 (ZA (.inr ZD))
 (cond (ZE (0<s0))
 ((aA l (aH (s0-1))).bind λy3=>
 cond (ZE (y1.aO<y3.aO))
 (ZA (.inr ZD))
 (ZA (.inl ())))
 (ZA (.inl ()))):Option (Unit⊕Bool)) (λz4=>(.sl (l.map bD)::.un::.un::vi s0::.be 0 0 0::(U 5 (.sl (l.map bD)::vi (l.length:Int)::vi s0::(U 69 []))))) (λz4=>[ZA ⟨.of 111,4,[[vi y1.order,vi y1.kind,vi y1.bh,vi y1.aO]]⟩])).bind (bm (λz4=>
 (dg (iC 0 s0 l.length)).bind λ_=>
 (dQ (cZ l 0 s0) y1.order 1).bind λy5=>
 (dg (iC 0 s0 l.length)).bind λ_=>
 (dQ (cZ l 0 s0) y1.order 2).bind λy6=>
 cond (ZE (y1.kind=1))
 (cond (ZE (0<y5))
 (ZA (.inr ZD))
 (ZA (.inl ())))
 (cond (ZE (y1.kind=2))
 (cond (ZE (y5<(aH (y6+y1.bh))))
 (ZA (.inr ZD))
 (ZA (.inl ())))
 (cond (ZE (y1.kind=3))
 ((dg (iC 0 s0 l.length)).bind λ_=>
 (dQ (cZ l 0 s0) y1.order 3).bind λy7=>
 cond (ZE (0<y7))
 (ZA (.inr ZD))
 (cond (!decide (y6=y5))
 (ZA (.inr ZD))
 (cond (ZE (y5<y1.bh))
 (ZA (.inr ZD))
 (ZA (.inl ())))))
 (ZA (.inl ()))))) (λr=>ZA (.inr r))):Option (Unit⊕Bool)) (λz8=>(.sl (l.map bD)::(U 9 (.sl (l.map bD)::vi (l.length:Int)::vi s0::(U 69 []))))) (λz8=>[])).bind (bm (λz8=>
 ZA (.inl (aH (s0+1)))) (λr=>ZA (.inr (.inr r)))))
 (ZA (.inr (.inl ())))
instance (l:List aU):bj (fY l):=⟨λs0=>(.sl (l.map bD)::(U 9 (.sl (l.map bD)::vi (l.length:Int)::vi s0::(U 69 [])))),λs0=>[]⟩
def dS(l:List aU):Option Bool:=
 cond (ZE (200<(l.length:Int)))
 (ZA ZD)
 ((aD (fY l) NN 0).bind (bm (λo0=>
 ZA ZC) (λr=>ZA r)))
theorem EL(l:List aU){r:Bool}(H:dS l=ZA r):cq prog 101 [.sl (l.map bD)] [] (vb r) []:=by
 replace H:=H0 H;unfold dS at H
 refine jm func101 rfl ntmps101 results101 λQ hQ Pz=>?_
 exact RV
instance (l:List aU):CT prog (dS l):=⟨101,[.sl (l.map bD)],[],λr=>vb r,λr=>[],EL l⟩
def kM(l:List aU)(x:aU):Option ((List aU)×Int):=
 cond (ZE (200<=(l.length:Int)))
 ((bL l).bind λy1=>
 ZA (y1,5))
 ((bL l).bind λy2=>
 (dg (bB ((y2:List aU).length+([x]:List aU).length) 32)).bind λ_=>
 (dS ((y2:List aU)++[x])).bind λy3=>
 cond (!y3)
 ((bL l).bind λy4=>
 ZA (y4,1))
 (ZA (((y2:List aU)++[x]),0)))
instance (l:List aU)(x:aU):CT prog (kM l x):=⟨205,[.sl (l.map bD),.ag (bD x)],[],λr=>.tu [.ms 0,vi r.2],λr=>[ZA ⟨.of 111,4,r.1.map bD⟩],cw (kM.eq_1 ..) func205 ntmps205 results205⟩
def kH(l:List aU)(order:Int)(bh:Int)(fG:Int):Option ((List aU)×Int):=
 (dS l).bind λy1=>
 cond (!y1)
 ((bL l).bind λy2=>
 ZA (y2,1))
 ((mo (⟨order,1,bh,fG⟩:aU)).bind λy3=>
 cond (!y3)
 ((bL l).bind λy4=>
 ZA (y4,1))
 ((dQ l order 1).bind λy5=>
 cond (ZE (0<y5))
 ((bL l).bind λy6=>
 ZA (y6,2))
 ((kM l (⟨order,1,bh,fG⟩:aU)).bind λy7=>
 ZA (y7.1,y7.2))))
instance (l:List aU)(order:Int)(bh:Int)(fG:Int):CT prog (kH l order bh fG):=⟨107,[.sl (l.map bD),vi order,vi bh,vi fG],[],λr=>.tu [.ms 0,vi r.2],λr=>[ZA ⟨.of 111,4,r.1.map bD⟩],cw (kH.eq_1 ..) func107 ntmps107 results107⟩
def mR(l:List aU)(order:Int):Option Int:=
 (dS l).bind λy1=>
 cond (!y1)
 (ZA 0)
 ((dQ l order 1).bind λy2=>
 (dQ l order 2).bind λy3=>
 ZA (aH (y2-y3)))
instance (l:List aU)(order:Int):CT prog (mR l order):=⟨206,[.sl (l.map bD),vi order],[],λr=>vi r,λr=>[],cw (mR.eq_1 ..) func206 ntmps206 results206⟩
def oB(l:List aU)(order:Int)(bh:Int)(fG:Int):Option ((List aU)×Int):=
 (dS l).bind λy1=>
 cond (!y1)
 ((bL l).bind λy2=>
 ZA (y2,1))
 ((mo (⟨order,2,bh,fG⟩:aU)).bind λy3=>
 cond (!y3)
 ((bL l).bind λy4=>
 ZA (y4,1))
 ((dQ l order 1).bind λy5=>
 cond (ZE (y5=0))
 ((bL l).bind λy6=>
 ZA (y6,3))
 ((mR l order).bind λy7=>
 cond (ZE (y7<bh))
 ((bL l).bind λy8=>
 ZA (y8,4))
 ((kM l (⟨order,2,bh,fG⟩:aU)).bind λy9=>
 ZA (y9.1,y9.2)))))
instance (l:List aU)(order:Int)(bh:Int)(fG:Int):CT prog (oB l order bh fG):=⟨108,[.sl (l.map bD),vi order,vi bh,vi fG],[],λr=>.tu [.ms 0,vi r.2],λr=>[ZA ⟨.of 111,4,r.1.map bD⟩],cw (oB.eq_1 ..) func108 ntmps108 results108⟩
def kL(l:List aU)(order:Int)(ec:Int)(bK:Int)(aF:List Int)(qO:Int):Option ((List aU)×Int):=
 (dS l).bind λy1=>
 cond (!y1)
 ((bL l).bind λy2=>
 ZA (y2,1))
 ((eu aF).bind λy3=>
 cond (!y3)
 ((bL l).bind λy4=>
 ZA (y4,1))
 ((aZ order 1 9999).bind λy5=>
 cond (!y5)
 ((bL l).bind λy6=>
 ZA (y6,1))
 ((aZ qO 0 100000).bind λy7=>
 cond (!y7)
 ((bL l).bind λy8=>
 ZA (y8,1))
 ((dQ l order 1).bind λy9=>
 (mU y9 ec bK aF).bind λeE=>
 cond (ZE (y9=0))
 ((bL l).bind λoq=>
 ZA (oq,3))
 ((mR l order).bind λsj=>
 cond (ZE (0<sj))
 ((bL l).bind λre=>
 ZA (re,3))
 ((dQ l order 3).bind λpx=>
 cond (ZE (0<px))
 ((bL l).bind λtl=>
 ZA (tl,2))
 (cond (ZE (eE=0))
 ((bL l).bind λsB=>
 ZA (sB,4))
 ((kM l (⟨order,3,eE,qO⟩:aU)).bind λxr=>
 ZA (xr.1,xr.2)))))))))
instance (l:List aU)(order:Int)(ec:Int)(bK:Int)(aF:List Int)(qO:Int):CT prog (kL l order ec bK aF qO):=⟨109,[.sl (l.map bD),vi order,vi ec,vi bK,.sl (aF.map aI),vi qO],[],λr=>.tu [.ms 0,vi r.2],λr=>[ZA ⟨.of 111,4,r.1.map bD⟩],cw (kL.eq_1 ..) func109 ntmps109 results109⟩
def cH(n:ak)(l:List aj)(ah:List aw)(bG:Int)(lF:Int)(ab:Int)(s0:Int):Option (Int⊕(Unit⊕Int)):=
 cond (ZE (s0<=60))
 ((cy n bG s0).bind λy1=>
 cond y1
 ((bw n (⟨bG,s0⟩:aw)).bind λy2=>
 cond (ZE (lF<=y2))
 ((dw ah (⟨bG,s0⟩:aw)).bind λy3=>
 cond (!y3)
 ((aA n.aB bG).bind λy4=>
 (df l (⟨bG,s0⟩:aw)).bind λy5=>
 cond (ZE (ab<=(aH (y4.jl-y5))))
 (ZA (.inr (.inr s0)))
 (ZA (.inl (aH (s0+1)))))
 (ZA (.inl (aH (s0+1)))))
 (ZA (.inl (aH (s0+1)))))
 (ZA (.inl (aH (s0+1)))))
 (ZA (.inr (.inl ())))
instance (n:ak)(l:List aj)(ah:List aw)(bG:Int)(lF:Int)(ab:Int):bj (cH n l ah bG lF ab):=⟨λs0=>(.un::.sl (l.map aC)::.sl (ah.map aS)::vi bG::vi lF::vi ab::.be 0 0 0::(U 6 (vi s0::(U 40 [])))),λs0=>[ZA ⟨.of 27,3,[[.sl (n.aB.map br),.sl (n.off.map aI),vi n.change]]⟩]⟩
def cC(n:ak)(l:List aj)(ah:List aw)(bG:Int)(lF:Int)(ab:Int):Option Int:=
 (aD (cH n l ah bG lF ab) NN 0).bind (bm (λo0=>
 ZA (-1)) (λr=>ZA r))
instance (n:ak)(l:List aj)(ah:List aw)(bG:Int)(lF:Int)(ab:Int):CT prog (cC n l ah bG lF ab):=⟨344,[.ag (bE n),.sl (l.map aC),.sl (ah.map aS),vi bG,vi lF,vi ab],[],λr=>vi r,λr=>[],cw (cC.eq_1 ..) func344 ntmps344 results344⟩
def ek(n:ak)(l:List aj)(ah:List aw)(ab:Int)(places:List ByteArray)(gF:List Int)(nO:Int)(s0:Int×(List Int)):Option ((Int×(List Int))⊕(List Int)):=
 cond (ZE (s0.1<(n.aB.length:Int)))
 ((aA n.aB s0.1).bind λy2=>
 (bY places y2.ar).bind λy3=>
 (aA n.aB s0.1).bind λy4=>
 (bY places y4.aX).bind λy5=>
 (aA gF y3).bind λy6=>
 cond (ZE (y6<0))
 (ZA (.inl ((aH (s0.1+1)),s0.2)))
 ((aA gF y3).bind λy7=>
 (da n y7 (ZE (y3=nO))).bind λy8=>
 (cC n l ah s0.1 y8 ab).bind λy9=>
 cond (ZE (y9<0))
 (ZA (.inl ((aH (s0.1+1)),s0.2)))
 ((bp n (⟨s0.1,y9⟩:aw)).bind λeE=>
 (aA s0.2 y5).bind λoq=>
 cond (ZE (oq<0))
 ((aA s0.2 y5).bind λsj=>
 ZA (.inl ((aH (s0.1+1)),(s0.2.set (V0 y5) eE))))
 ((aA s0.2 y5).bind λre=>
 cond (ZE (eE<re))
 ((aA s0.2 y5).bind λpx=>
 ZA (.inl ((aH (s0.1+1)),(s0.2.set (V0 y5) eE))))
 (ZA (.inl ((aH (s0.1+1)),s0.2)))))))
 (ZA (.inr s0.2))
instance (n:ak)(l:List aj)(ah:List aw)(ab:Int)(places:List ByteArray)(gF:List Int)(nO:Int):bj (ek n l ah ab places gF nO):=⟨λs0=>(.un::.sl (l.map aC)::.sl (ah.map aS)::vi ab::.sl (places.map km)::.sl (gF.map aI)::vi nO::.be 0 0 0::(U 7 (.ms 1::vi s0.1::(U 74 [])))),λs0=>[ZA ⟨.of 27,3,[[.sl (n.aB.map br),.sl (n.off.map aI),vi n.change]]⟩,ZA ⟨.of 3,1,s0.2.map aI⟩]⟩
def dI(n:ak)(l:List aj)(ah:List aw)(ab:Int)(places:List ByteArray)(gF:List Int)(nO:Int):Option (List Int):=
 (dN gF).bind λy1=>
 (aD (ek n l ah ab places gF nO) NN (0,y1)).bind (λo0=>
 ZA o0)
instance (n:ak)(l:List aj)(ah:List aw)(ab:Int)(places:List ByteArray)(gF:List Int)(nO:Int):CT prog (dI n l ah ab places gF nO):=⟨343,[.ag (bE n),.sl (l.map aC),.sl (ah.map aS),vi ab,.sl (places.map km),.sl (gF.map aI),vi nO],[],λr=>.ms 0,λr=>[ZA ⟨.of 3,1,r.map aI⟩],cw (dI.eq_1 ..) func343 ntmps343 results343⟩
def iW(n:ak)(l:List aj)(ah:List aw)(ab:Int)(aB:Int)(y1:(List ByteArray))(y2:Int)(s0:Int×(List Int)):Option ((Int×(List Int))⊕(List Int)):=
 cond (ZE (s0.1<aB))
 (cond (ZE (s0.1<(y1.length:Int)))
 ((dI n l ah ab y1 s0.2 y2).bind λy5=>
 ZA (.inl ((aH (s0.1+1)),y5)))
 (ZA (.inr s0.2)))
 (ZA (.inr s0.2))
instance (n:ak)(l:List aj)(ah:List aw)(ab:Int)(aB:Int)(y1:(List ByteArray))(y2:Int):bj (iW n l ah ab aB y1 y2):=⟨λs0=>(.un::.sl (l.map aC)::.sl (ah.map aS)::.un::.un::vi ab::vi aB::.be 0 0 0::(U 7 (.ms 1::vi y2::.ms 2::vi s0.1::(U 50 [])))),λs0=>[ZA ⟨.of 27,3,[[.sl (n.aB.map br),.sl (n.off.map aI),vi n.change]]⟩,ZA ⟨.of 9,1,y1.map km⟩,ZA ⟨.of 3,1,s0.2.map aI⟩]⟩
def cX(n:ak)(l:List aj)(ah:List aw)(fb:ByteArray)(lF:Int)(ab:Int)(aB:Int):Option (List Int):=
 (dv n).bind λy1=>
 (bY y1 fb).bind λy2=>
 (eA n l).bind λy3=>
 cond (!y3)
 (ZA ([]:List Int))
 (cond (ZE (y2<0))
 (ZA ([]:List Int))
 (cond (ZE (100000<lF))
 (ZA ([]:List Int))
 (cond (ZE (ab<1))
 (ZA ([]:List Int))
 (cond (ZE (aB<0))
 (ZA ([]:List Int))
 ((ia y1 y2 lF).bind λy4=>
 (aD (iW n l ah ab aB y1 y2) NN (0,y4)).bind (λo0=>
 ZA o0))))))
instance (n:ak)(l:List aj)(ah:List aw)(fb:ByteArray)(lF:Int)(ab:Int)(aB:Int):CT prog (cX n l ah fb lF ab aB):=⟨322,[.ag (bE n),.sl (l.map aC),.sl (ah.map aS),vs fb,vi lF,vi ab,vi aB],[],λr=>.ms 0,λr=>[ZA ⟨.of 3,1,r.map aI⟩],cw (cX.eq_1 ..) func322 ntmps322 results322⟩
def jc(n:ak)(l:List aj)(ah:List aw)(ab:Int)(places:List ByteArray)(before:List Int)(nO:Int)(aX:Int)(ends:Int)(s0:Int):Option (Int⊕(Unit⊕aw)):=
 cond (ZE (s0<(n.aB.length:Int)))
 ((aA n.aB s0).bind λy1=>
 (bY places y1.ar).bind λy2=>
 (aA n.aB s0).bind λy3=>
 (aA places aX).bind λy4=>
 cond (!decide (y3.aX=y4))
 (ZA (.inl (aH (s0+1))))
 ((aA before y2).bind λy5=>
 cond (ZE (y5<0))
 (ZA (.inl (aH (s0+1))))
 ((aA before y2).bind λy6=>
 (da n y6 (ZE (y2=nO))).bind λy7=>
 (cC n l ah s0 y7 ab).bind λy8=>
 cond (ZE (0<=y8))
 ((bp n (⟨s0,y8⟩:aw)).bind λy9=>
 cond (ZE (y9=ends))
 (ZA (.inr (.inr (⟨s0,y8⟩:aw))))
 (ZA (.inl (aH (s0+1)))))
 (ZA (.inl (aH (s0+1)))))))
 (ZA (.inr (.inl ())))
instance (n:ak)(l:List aj)(ah:List aw)(ab:Int)(places:List ByteArray)(before:List Int)(nO:Int)(aX:Int)(ends:Int):bj (jc n l ah ab places before nO aX ends):=⟨λs0=>(.un::.sl (l.map aC)::.sl (ah.map aS)::vi ab::.sl (places.map km)::.sl (before.map aI)::vi nO::vi aX::vi ends::.be 0 0 0::(U 8 (.be 1 0 0::vi s0::(U 64 [])))),λs0=>[ZA ⟨.of 27,3,[[.sl (n.aB.map br),.sl (n.off.map aI),vi n.change]]⟩,ZA ⟨.of 46,2,[[vi 0,vi 0]]⟩]⟩
def ry(n:ak)(l:List aj)(ah:List aw)(ab:Int)(places:List ByteArray)(before:List Int)(nO:Int)(aX:Int)(ends:Int):Option aw:=
 (aD (jc n l ah ab places before nO aX ends) NN 0).bind (bm (λo0=>
 ZA (⟨0,0⟩:aw)) (λr=>ZA r))
instance (n:ak)(l:List aj)(ah:List aw)(ab:Int)(places:List ByteArray)(before:List Int)(nO:Int)(aX:Int)(ends:Int):CT prog (ry n l ah ab places before nO aX ends):=⟨323,[.ag (bE n),.sl (l.map aC),.sl (ah.map aS),vi ab,.sl (places.map km),.sl (before.map aI),vi nO,vi aX,vi ends],[],λr=>.ag [vi r.bG,vi r.day],λr=>[],cw (ry.eq_1 ..) func323 ntmps323 results323⟩
def fr(n:ak)(l:List aj)(ah:List aw)(fb:ByteArray)(qO:Int)(ab:Int)(y1:(List ByteArray))(y2:Int)(y3:Int)(y6:Int)(s0:Int):Option (Int⊕Int):=
 (cX n l ah fb qO ab s0).bind λy7=>
 (aA y7 y3).bind λy8=>
 cond (!decide (y8=y6))
 (ZA (.inl (aH (s0+1))))
 (ZA (.inr s0))
instance (n:ak)(l:List aj)(ah:List aw)(fb:ByteArray)(qO:Int)(ab:Int)(y1:(List ByteArray))(y2:Int)(y3:Int)(y6:Int):bj (fr n l ah fb qO ab y1 y2 y3 y6):=⟨λs0=>(.un::.sl (l.map aC)::.sl (ah.map aS)::vs fb::.un::vi qO::vi ab::.be 0 0 0::(U 8 (.ms 1::vi y2::vi y3::.un::.ms 2::vi y6::vi s0::(U 97 [])))),λs0=>[ZA ⟨.of 27,3,[[.sl (n.aB.map br),.sl (n.off.map aI),vi n.change]]⟩,ZA ⟨.of 9,1,y1.map km⟩,ZA ⟨.of 46,2,([]:List aw).map aS⟩]⟩
def ft(n:ak)(l:List aj)(ah:List aw)(fb:ByteArray)(qO:Int)(ab:Int)(y1:(List ByteArray))(y2:Int)(s1:Int×Int×Int×(List aw)):Option ((Int×Int×Int×(List aw))⊕(List aw)):=
 cond (ZE (0<s1.2.2.1))
 ((cX n l ah fb qO ab (aH (s1.2.2.1-1))).bind λy9=>
 (ry n l ah ab y1 y9 y2 s1.1 s1.2.1).bind λeE=>
 (dg (bB (([eE]:List aw).length+(s1.2.2.2:List aw).length) 16)).bind λ_=>
 (aA n.aB eE.bG).bind λoq=>
 (bY y1 oq.ar).bind λsj=>
 (aA y9 sj).bind λre=>
 ZA (.inl (sj,re,(aH (s1.2.2.1-1)),(([eE]:List aw)++s1.2.2.2))))
 (ZA (.inr s1.2.2.2))
instance (n:ak)(l:List aj)(ah:List aw)(fb:ByteArray)(qO:Int)(ab:Int)(y1:(List ByteArray))(y2:Int):bj (ft n l ah fb qO ab y1 y2):=⟨λs1=>(.un::.sl (l.map aC)::.sl (ah.map aS)::vs fb::.un::vi qO::vi ab::.be 0 0 0::(U 8 (.ms 1::vi y2::vi s1.1::.un::.ms 2::vi s1.2.1::.un::vi s1.2.2.1::(U 96 [])))),λs1=>[ZA ⟨.of 27,3,[[.sl (n.aB.map br),.sl (n.off.map aI),vi n.change]]⟩,ZA ⟨.of 9,1,y1.map km⟩,ZA ⟨.of 46,2,s1.2.2.2.map aS⟩]⟩
def bN(n:ak)(l:List aj)(ah:List aw)(fb:ByteArray)(aX:ByteArray)(qO:Int)(ab:Int):Option ((List aw)×Bool):=
 (dv n).bind λy1=>
 (bY y1 fb).bind λy2=>
 (bY y1 aX).bind λy3=>
 (cX n l ah fb qO ab (y1.length:Int)).bind λy4=>
 cond (ZE (y3<0))
 (ZA (([]:List aw),ZD))
 (cond (ZE ((y4.length:Int)=0))
 (ZA (([]:List aw),ZD))
 ((aA y4 y3).bind λy5=>
 cond (ZE (y5<0))
 (ZA (([]:List aw),ZD))
 ((aA y4 y3).bind λy6=>
 (aD (fr n l ah fb qO ab y1 y2 y3 y6) NN 0).bind (λo0=>
 (aD (ft n l ah fb qO ab y1 y2) NN (y3,y6,o0,([]:List aw))).bind (λo1=>
 ZA (o1,ZC))))))
instance (n:ak)(l:List aj)(ah:List aw)(fb:ByteArray)(aX:ByteArray)(qO:Int)(ab:Int):CT prog (bN n l ah fb aX qO ab):=⟨293,[.ag (bE n),.sl (l.map aC),.sl (ah.map aS),vs fb,vs aX,vi qO,vi ab],[],λr=>.tu [.ms 0,vb r.2],λr=>[ZA ⟨.of 46,2,r.1.map aS⟩],cw (bN.eq_1 ..) func293 ntmps293 results293⟩
def rO(l:List aj)(b:aj)(s0:Int):Option (Int⊕Int):=
 cond (ZE (s0<(l.length:Int)))
 ((aA l s0).bind λy1=>
 (lR y1 b).bind λy2=>
 cond y2
 (ZA (.inl (aH (s0+1))))
 (ZA (.inr s0)))
 (ZA (.inr s0))
instance (l:List aj)(b:aj):bj (rO l b):=⟨λs0=>(.sl (l.map aC)::.un::.un::.be 0 0 0::.un::vi s0::(U 25 [])),λs0=>[ZA ⟨.of 177,4,[[vi b.bo,vi b.aV.bG,vi b.aV.day,vi b.ab]]⟩]⟩
def nY(l:List aj)(b:aj):Option (List aj):=
 (aD (rO l b) NN 0).bind (λo0=>
 (dg (iC 0 o0 l.length)).bind λ_=>
 (ki (cZ l 0 o0)).bind λy3=>
 (dg (bB ((y3:List aj).length+([b]:List aj).length) 32)).bind λ_=>
 (dg (iC o0 (l.length:Int) l.length)).bind λ_=>
 (dg (bB ((((y3:List aj)++[b]):List aj).length+((cZ l o0 (l.length:Int)):List aj).length) 32)).bind λ_=>
 ZA ((((y3:List aj)++[b]):List aj)++(cZ l o0 (l.length:Int))))
instance (l:List aj)(b:aj):CT prog (nY l b):=⟨324,[.sl (l.map aC),.ag (aC b)],[],λr=>.ms 0,λr=>[ZA ⟨.of 177,4,r.map aC⟩],cw (nY.eq_1 ..) func324 ntmps324 results324⟩
def l8(n:ak)(l:List aj)(bo:Int)(ab:Int)(aK:List aw)(s0:Int×(List aj)):Option ((Int×(List aj))⊕(List aj)):=
 cond (ZE (s0.1<(aK.length:Int)))
 ((aA aK s0.1).bind λy3=>
 (nY s0.2 (⟨bo,y3,ab⟩:aj)).bind λy4=>
 ZA (.inl ((aH (s0.1+1)),y4)))
 (ZA (.inr s0.2))
instance (n:ak)(l:List aj)(bo:Int)(ab:Int)(aK:List aw):bj (l8 n l bo ab aK):=⟨λs0=>(.un::.sl (l.map aC)::vi bo::vi ab::.sl (aK.map aS)::.be 0 0 0::(U 6 (.ms 1::vi s0.1::(U 34 [])))),λs0=>[ZA ⟨.of 27,3,[[.sl (n.aB.map br),.sl (n.off.map aI),vi n.change]]⟩,ZA ⟨.of 177,4,s0.2.map aC⟩]⟩
def cg(n:ak)(l:List aj)(bo:Int)(ab:Int)(aK:List aw):Option ((List aj)×Bool):=
 (ki l).bind λy1=>
 (eA n l).bind λy2=>
 cond (!y2)
 (ZA (y1,ZD))
 (cond (ZE (20<(aK.length:Int)))
 (ZA (y1,ZD))
 ((aD (l8 n l bo ab aK) NN (0,y1)).bind (λo0=>
 (eA n o0).bind λy5=>
 cond (!y5)
 ((ki l).bind λy6=>
 ZA (y6,ZD))
 (ZA (o0,ZC)))))
instance (n:ak)(l:List aj)(bo:Int)(ab:Int)(aK:List aw):CT prog (cg n l bo ab aK):=⟨294,[.ag (bE n),.sl (l.map aC),vi bo,vi ab,.sl (aK.map aS)],[],λr=>.tu [.ms 0,vb r.2],λr=>[ZA ⟨.of 177,4,r.1.map aC⟩],cw (cg.eq_1 ..) func294 ntmps294 results294⟩
def fZ(bG:Int)(fg:Int)(DY:ak)(c1_:List aw)(c2_:List aj)(c3_:Int)(s0:Int):Option (Int⊕(Unit⊕(aw×Bool))):=
 cond (ZE (s0<=60))
 ((pO DY bG s0).bind λy1=>
 cond y1
 ((de DY (⟨bG,s0⟩:aw)).bind λy2=>
 cond (ZE (fg<=y2))
 ((eF c1_ (⟨bG,s0⟩:aw)).bind λy3=>
 cond (!y3)
 ((aA DY.aB bG).bind λy4=>
 (kc c2_ (⟨bG,s0⟩:aw)).bind λy5=>
 cond (ZE (c3_<=(aH (y4.jl-y5))))
 (ZA (.inr (.inr ((⟨bG,s0⟩:aw),ZC))))
 (ZA (.inl (aH (s0+1)))))
 (ZA (.inl (aH (s0+1)))))
 (ZA (.inl (aH (s0+1)))))
 (ZA (.inl (aH (s0+1)))))
 (ZA (.inr (.inl ())))
instance (bG:Int)(fg:Int)(DY:ak)(c1_:List aw)(c2_:List aj)(c3_:Int):bj (fZ bG fg DY c1_ c2_ c3_):=⟨λs0=>(vi bG::vi fg::.rp [.sl (DY.aB.map br),.sl (DY.off.map aI),vi DY.change]::.rp [.sl (c1_.map aS)]::.rp [.sl (c2_.map aC)]::.rp [vi c3_]::.un::.un::.be 0 0 0::.un::vi s0::(U 41 [])),λs0=>[ZA ⟨.of 46,2,[[vi 0,vi 0]]⟩]⟩
def ix(bG:Int)(fg:Int)(DY:ak)(c1_:List aw)(c2_:List aj)(c3_:Int):Option (aw×Bool):=
 (aD (fZ bG fg DY c1_ c2_ c3_) NN 0).bind (bm (λo0=>
 ZA ((⟨0,0⟩:aw),ZD)) (λr=>ZA r))
instance (bG:Int)(fg:Int)(DY:ak)(c1_:List aw)(c2_:List aj)(c3_:Int):CT prog (ix bG fg DY c1_ c2_ c3_):=⟨314,[vi bG,vi fg,.rp [.sl (DY.aB.map br),.sl (DY.off.map aI),vi DY.change],.rp [.sl (c1_.map aS)],.rp [.sl (c2_.map aC)],.rp [vi c3_]],[],λr=>.tu [.ag [vi r.1.bG,vi r.1.day],vb r.2],λr=>[],cw (ix.eq_1 ..) func314 ntmps314 results314⟩
def ey(n:ak)(bz:ak)(cU:List aw)(cV:List aj)(cW:Int)(fG:Int)(aB:Int)(y1:List ByteArray)(y2:Int)(s0:Int×(List Int)):Option ((Int×(List Int))⊕(List Int)):=
 cond (ZE (s0.1<(y1.length:Int)))
 ((dg (bB ((s0.2:List Int).length+([(-1)]:List Int).length) 8)).bind λ_=>
 ZA (.inl ((aH (s0.1+1)),((s0.2:List Int)++[(-1)]))))
 (ZA (.inr s0.2))
instance (n:ak)(bz:ak)(cU:List aw)(cV:List aj)(cW:Int)(fG:Int)(aB:Int)(y1:List ByteArray)(y2:Int):bj (ey n bz cU cV cW fG aB y1 y2):=⟨λs0=>(.un::.fn 314 [.rp [.sl (bz.aB.map br),.sl (bz.off.map aI),vi bz.change],.rp [.sl (cU.map aS)],.rp [.sl (cV.map aC)],.rp [vi cW]]::.un::vi fG::vi aB::.be 0 0 0::(U 5 (.ms 1::vi y2::.ms 2::(U 26 (vi (y1.length:Int)::vi s0.1::(U 83 [])))))),λs0=>[ZA ⟨.of 27,3,[[.sl (n.aB.map br),.sl (n.off.map aI),vi n.change]]⟩,ZA ⟨.of 9,1,y1.map km⟩,ZA ⟨.of 3,1,s0.2.map aI⟩]⟩
def dc(n:ak)(bz:ak)(cU:List aw)(cV:List aj)(cW:Int)(aB:Int)(y1:List ByteArray)(y2:Int)(s1:Int×(List Int))(s2:Int×Bool×(List Int)):Option ((Int×Bool×(List Int))⊕(Bool×(List Int))):=
 cond (ZE (s2.1<(n.aB.length:Int)))
 ((aA n.aB s2.1).bind λy4=>
 (bU y1 y4.ar).bind λy5=>
 (bU y1 y4.aX).bind λy6=>
 (aA s1.2 y5).bind λy7=>
 cond (ZE (y7<0))
 (ZA (.inl ((aH (s2.1+1)),s2.2.1,s2.2.2)))
 ((aA s1.2 y5).bind λy8=>
 (kN n y8 (ZE (y5=y2))).bind λy9=>
 (ix s2.1 y9 bz cU cV cW).bind λeE=>
 cond eE.2
 ((aA s2.2.2 y6).bind λoq=>
 cond (ZE (oq<0))
 ((cY n eE.1).bind λsj=>
 (aA s2.2.2 y6).bind λre=>
 ZA (.inl ((aH (s2.1+1)),ZC,(s2.2.2.set (V0 y6) sj))))
 ((cY n eE.1).bind λpx=>
 (aA s2.2.2 y6).bind λtl=>
 cond (ZE (px<tl))
 ((cY n eE.1).bind λsB=>
 (aA s2.2.2 y6).bind λxr=>
 ZA (.inl ((aH (s2.1+1)),ZC,(s2.2.2.set (V0 y6) sB))))
 (ZA (.inl ((aH (s2.1+1)),s2.2.1,s2.2.2)))))
 (ZA (.inl ((aH (s2.1+1)),s2.2.1,s2.2.2)))))
 (ZA (.inr (s2.2.1,s2.2.2)))
instance (n:ak)(bz:ak)(cU:List aw)(cV:List aj)(cW:Int)(aB:Int)(y1:List ByteArray)(y2:Int)(s1:Int×(List Int)):bj (dc n bz cU cV cW aB y1 y2 s1):=⟨λs2=>(.un::.fn 314 [.rp [.sl (bz.aB.map br),.sl (bz.off.map aI),vi bz.change],.rp [.sl (cU.map aS)],.rp [.sl (cV.map aC)],.rp [vi cW]]::.un::.un::vi aB::.be 0 0 0::(U 5 (.ms 1::vi y2::.ms 2::vi s1.1::.ms 3::vb s2.2.1::(U 44 (.sl (n.aB.map br)::vi (n.aB.length:Int)::vi s2.1::(U 61 [])))))),λs2=>[ZA ⟨.of 27,3,[[.sl (n.aB.map br),.sl (n.off.map aI),vi n.change]]⟩,ZA ⟨.of 9,1,y1.map km⟩,ZA ⟨.of 3,1,s1.2.map aI⟩,ZA ⟨.of 3,1,s2.2.2.map aI⟩]⟩
def db(n:ak)(bz:ak)(cU:List aw)(cV:List aj)(cW:Int)(aB:Int)(y1:List ByteArray)(y2:Int)(s1:Int×(List Int)):Option ((Int×(List Int))⊕(List Int)):=
 cond (ZE (s1.1<aB))
 ((dg (bB ((([]:List Int):List Int).length+(s1.2:List Int).length) 8)).bind λ_=>
 (aD (dc n bz cU cV cW aB y1 y2 s1) NN (0,ZD,((([]:List Int):List Int)++s1.2))).bind (λo2=>
 cond (!o2.1)
 (ZA (.inr o2.2))
 (ZA (.inl ((aH (s1.1+1)),o2.2)))))
 (ZA (.inr s1.2))
instance (n:ak)(bz:ak)(cU:List aw)(cV:List aj)(cW:Int)(aB:Int)(y1:List ByteArray)(y2:Int):bj (db n bz cU cV cW aB y1 y2):=⟨λs1=>(.un::.fn 314 [.rp [.sl (bz.aB.map br),.sl (bz.off.map aI),vi bz.change],.rp [.sl (cU.map aS)],.rp [.sl (cV.map aC)],.rp [vi cW]]::.un::.un::vi aB::.be 0 0 0::(U 5 (.ms 1::vi y2::.ms 2::vi s1.1::(U 110 [])))),λs1=>[ZA ⟨.of 27,3,[[.sl (n.aB.map br),.sl (n.off.map aI),vi n.change]]⟩,ZA ⟨.of 9,1,y1.map km⟩,ZA ⟨.of 3,1,s1.2.map aI⟩]⟩
def dR(n:ak)(bz:ak)(cU:List aw)(cV:List aj)(cW:Int)(cO:ByteArray)(fG:Int)(aB:Int):Option (List Int):=
 (dq n).bind λy1=>
 (bU y1 cO).bind λy2=>
 cond (ZE (y2<0))
 (ZA ([]))
 (cond (ZE (100000<fG))
 (ZA ([]))
 (cond (ZE (aB<0))
 (ZA ([]))
 ((aD (ey n bz cU cV cW fG aB y1 y2) NN (0,([]:List Int))).bind (λo0=>
 (aA o0 y2).bind λy3=>
 (aD (db n bz cU cV cW aB y1 y2) NN (0,(o0.set (V0 y2) (if 0 > fG then 0 else fG)))).bind (λo1=>
 ZA o1)))))
instance (n:ak)(bz:ak)(cU:List aw)(cV:List aj)(cW:Int)(cO:ByteArray)(fG:Int)(aB:Int):CT prog (dR n bz cU cV cW cO fG aB):=⟨312,[.ag (bE n),.fn 314 [.rp [.sl (bz.aB.map br),.sl (bz.off.map aI),vi bz.change],.rp [.sl (cU.map aS)],.rp [.sl (cV.map aC)],.rp [vi cW]],vs cO,vi fG,vi aB],[],λr=>.ms 0,λr=>[ZA ⟨.of 3,1,r.map aI⟩],cw (dR.eq_1 ..) func312 ntmps312 results312⟩
def ff(n:ak)(bz:ak)(cU:List aw)(cV:List aj)(cW:Int)(places:List ByteArray)(before:List Int)(yn:ByteArray)(k:Int)(ec:Int)(s0:Int):Option (Int⊕(Unit⊕(aw×Bool))):=
 cond (ZE (s0<(n.aB.length:Int)))
 ((aA n.aB s0).bind λy1=>
 (bU places y1.ar).bind λy2=>
 (aA places k).bind λy3=>
 cond (!decide (y1.aX=y3))
 (ZA (.inl (aH (s0+1))))
 ((aA before y2).bind λy4=>
 cond (ZE (y4<0))
 (ZA (.inl (aH (s0+1))))
 ((aA before y2).bind λy5=>
 (kN n y5 (ZE (y1.ar=yn))).bind λy6=>
 (ix s0 y6 bz cU cV cW).bind λy7=>
 cond y7.2
 ((cY n y7.1).bind λy8=>
 cond (ZE (y8=ec))
 (ZA (.inr (.inr (y7.1,ZC))))
 (ZA (.inl (aH (s0+1)))))
 (ZA (.inl (aH (s0+1)))))))
 (ZA (.inr (.inl ())))
instance (n:ak)(bz:ak)(cU:List aw)(cV:List aj)(cW:Int)(places:List ByteArray)(before:List Int)(yn:ByteArray)(k:Int)(ec:Int):bj (ff n bz cU cV cW places before yn k ec):=⟨λs0=>(.un::.fn 314 [.rp [.sl (bz.aB.map br),.sl (bz.off.map aI),vi bz.change],.rp [.sl (cU.map aS)],.rp [.sl (cV.map aC)],.rp [vi cW]]::.sl (places.map km)::.sl (before.map aI)::vs yn::vi k::vi ec::.be 0 0 0::(U 6 (.be 1 0 0::(U 7 (.sl (n.aB.map br)::vi (n.aB.length:Int)::vi s0::(U 49 [])))))),λs0=>[ZA ⟨.of 27,3,[[.sl (n.aB.map br),.sl (n.off.map aI),vi n.change]]⟩,ZA ⟨.of 46,2,[[vi 0,vi 0]]⟩]⟩
def kW(n:ak)(bz:ak)(cU:List aw)(cV:List aj)(cW:Int)(places:List ByteArray)(before:List Int)(yn:ByteArray)(k:Int)(ec:Int):Option (aw×Bool):=
 (aD (ff n bz cU cV cW places before yn k ec) NN 0).bind (bm (λo0=>
 ZA ((⟨0,0⟩:aw),ZD)) (λr=>ZA r))
instance (n:ak)(bz:ak)(cU:List aw)(cV:List aj)(cW:Int)(places:List ByteArray)(before:List Int)(yn:ByteArray)(k:Int)(ec:Int):CT prog (kW n bz cU cV cW places before yn k ec):=⟨313,[.ag (bE n),.fn 314 [.rp [.sl (bz.aB.map br),.sl (bz.off.map aI),vi bz.change],.rp [.sl (cU.map aS)],.rp [.sl (cV.map aC)],.rp [vi cW]],.sl (places.map km),.sl (before.map aI),vs yn,vi k,vi ec],[],λr=>.tu [.ag [vi r.1.bG,vi r.1.day],vb r.2],λr=>[],cw (kW.eq_1 ..) func313 ntmps313 results313⟩
def dD(n:ak)(bz:ak)(cU:List aw)(cV:List aj)(cW:Int)(cO:ByteArray)(lF:Int)(y1:List ByteArray)(y2:Int)(s0:Int×(List (List Int))):Option ((Int×(List (List Int)))⊕((List (List Int))⊕((List aw)×Bool))):=
 cond (ZE (s0.1<=(y1.length:Int)))
 ((dR n bz cU cV cW cO lF s0.1).bind λy3=>
 cond (ZE ((y3.length:Int)=0))
 (ZA (.inr (.inr ([],ZD))))
 (cond (ZE (y2<0))
 (ZA (.inr (.inr ([],ZD))))
 ((vD (.un::.fn 314 [.rp [.sl (bz.aB.map br),.sl (bz.off.map aI),vi bz.change],.rp [.sl (cU.map aS)],.rp [.sl (cV.map aC)],.rp [vi cW]]::vs cO::.un::vi lF::.be 0 0 0::(U 6 (.ms 1::vi y2::.ms 2::vi s0.1::.sl (y3.map aI)::(U 116 [])))) [ZA ⟨.of 27,3,[[.sl (n.aB.map br),.sl (n.off.map aI),vi n.change]]⟩,ZA ⟨.of 9,1,y1.map km⟩,ZA ⟨.of 25,1,s0.2.map Fc⟩]).bind λ_=>
 (dg (bB ((s0.2:List (List Int)).length+([y3]:List (List Int)).length) 24)).bind λ_=>
 ZA (.inl ((aH (s0.1+1)),((s0.2:List (List Int))++[y3]))))))
 (ZA (.inr (.inl s0.2)))
instance (n:ak)(bz:ak)(cU:List aw)(cV:List aj)(cW:Int)(cO:ByteArray)(lF:Int)(y1:List ByteArray)(y2:Int):bj (dD n bz cU cV cW cO lF y1 y2):=⟨λs0=>(.un::.fn 314 [.rp [.sl (bz.aB.map br),.sl (bz.off.map aI),vi bz.change],.rp [.sl (cU.map aS)],.rp [.sl (cV.map aC)],.rp [vi cW]]::vs cO::.un::vi lF::.be 0 0 0::(U 6 (.ms 1::vi y2::.ms 2::vi s0.1::(U 117 [])))),λs0=>[ZA ⟨.of 27,3,[[.sl (n.aB.map br),.sl (n.off.map aI),vi n.change]]⟩,ZA ⟨.of 9,1,y1.map km⟩,ZA ⟨.of 25,1,s0.2.map Fc⟩]⟩
def eZ(n:ak)(bz:ak)(cU:List aw)(cV:List aj)(cW:Int)(cO:ByteArray)(y1:List ByteArray)(y2:Int)(o0:(List (List Int)))(y5:Int)(s1:Int):Option (Int⊕Int):=
 (aA o0 s1).bind λy6=>
 (aA y6 y2).bind λy7=>
 cond (!decide (y7=y5))
 (ZA (.inl (aH (s1+1))))
 (ZA (.inr s1))
instance (n:ak)(bz:ak)(cU:List aw)(cV:List aj)(cW:Int)(cO:ByteArray)(y1:List ByteArray)(y2:Int)(o0:(List (List Int)))(y5:Int):bj (eZ n bz cU cV cW cO y1 y2 o0 y5):=⟨λs1=>(.un::.fn 314 [.rp [.sl (bz.aB.map br),.sl (bz.off.map aI),vi bz.change],.rp [.sl (cU.map aS)],.rp [.sl (cV.map aC)],.rp [vi cW]]::vs cO::.un::.un::.be 0 0 0::(U 6 (.ms 1::vi y2::.ms 2::.un::.un::vi y5::vi s1::(U 114 [])))),λs1=>[ZA ⟨.of 27,3,[[.sl (n.aB.map br),.sl (n.off.map aI),vi n.change]]⟩,ZA ⟨.of 9,1,y1.map km⟩,ZA ⟨.of 25,1,o0.map Fc⟩]⟩
def jW(n:ak)(bz:ak)(cU:List aw)(cV:List aj)(cW:Int)(cO:ByteArray)(y1:List ByteArray)(o0:(List (List Int)))(s2:Int×Int×Int×(List aw)):Option ((Int×Int×Int×(List aw))⊕((List aw)⊕((List aw)×Bool))):=
 cond (ZE (0<s2.2.2.1))
 ((aA o0 (aH (s2.2.2.1-1))).bind λy8=>
 (kW n bz cU cV cW (y1:List ByteArray) y8 cO s2.1 s2.2.1).bind λy9=>
 cond (!y9.2)
 (ZA (.inr (.inr ([],ZD))))
 ((dg (bB ((s2.2.2.2:List aw).length+([y9.1]:List aw).length) 16)).bind λ_=>
 (aA n.aB y9.1.bG).bind λeE=>
 (bU (y1:List ByteArray) eE.ar).bind λoq=>
 (aA o0 (aH (s2.2.2.1-1))).bind λsj=>
 (aA sj oq).bind λre=>
 ZA (.inl (oq,re,(aH (s2.2.2.1-1)),((s2.2.2.2:List aw)++[y9.1])))))
 (ZA (.inr (.inl s2.2.2.2)))
instance (n:ak)(bz:ak)(cU:List aw)(cV:List aj)(cW:Int)(cO:ByteArray)(y1:List ByteArray)(o0:(List (List Int))):bj (jW n bz cU cV cW cO y1 o0):=⟨λs2=>(.un::.fn 314 [.rp [.sl (bz.aB.map br),.sl (bz.off.map aI),vi bz.change],.rp [.sl (cU.map aS)],.rp [.sl (cV.map aC)],.rp [vi cW]]::vs cO::.un::.un::.be 0 0 0::(U 6 (.sl ((y1:List ByteArray).map km)::vi s2.1::.ms 1::.un::.un::vi s2.2.1::vi s2.2.2.1::.ms 2::(U 113 [])))),λs2=>[ZA ⟨.of 27,3,[[.sl (n.aB.map br),.sl (n.off.map aI),vi n.change]]⟩,ZA ⟨.of 25,1,o0.map Fc⟩,ZA ⟨.of 46,2,s2.2.2.2.map aS⟩]⟩
def jX(o2:(List aw))(s3:Int×(List aw)):Option ((Int×(List aw))⊕(List aw)):=
 cond (ZE (0<=s3.1))
 ((aA o2 s3.1).bind λpx=>
 (dg (bB ((s3.2:List aw).length+([px]:List aw).length) 16)).bind λ_=>
 ZA (.inl ((aH (s3.1-1)),((s3.2:List aw)++[px]))))
 (ZA (.inr s3.2))
instance (o2:(List aw)):bj (jX o2):=⟨λs3=>(U 19 (.ms 0::.un::.un::.ms 1::vi s3.1::(U 109 []))),λs3=>[ZA ⟨.of 46,2,o2.map aS⟩,ZA ⟨.of 46,2,s3.2.map aS⟩]⟩
def qF(n:ak)(bz:ak)(cU:List aw)(cV:List aj)(cW:Int)(cO:ByteArray)(aX:ByteArray)(lF:Int):Option ((List aw)×Bool):=
 (dq n).bind λy1=>
 (bU y1 aX).bind λy2=>
 (aD (dD n bz cU cV cW cO lF y1 y2) NN (0,([]:List (List Int)))).bind (bm (λo0=>
 (aA o0 (y1.length:Int)).bind λy4=>
 (aA y4 y2).bind λy5=>
 cond (ZE (y5<0))
 (ZA ([],ZD))
 ((aD (eZ n bz cU cV cW cO y1 y2 o0 y5) NN 0).bind (λo1=>
 (aD (jW n bz cU cV cW cO y1 o0) NN (y2,y5,o1,([]:List aw))).bind (bm (λo2=>
 (aD (jX o2) NN ((aH ((o2.length:Int)-1)),([]:List aw))).bind (λo3=>
 ZA (o3,ZC))) (λr=>ZA r))))) (λr=>ZA r))
instance (n:ak)(bz:ak)(cU:List aw)(cV:List aj)(cW:Int)(cO:ByteArray)(aX:ByteArray)(lF:Int):CT prog (qF n bz cU cV cW cO aX lF):=⟨273,[.ag (bE n),.fn 314 [.rp [.sl (bz.aB.map br),.sl (bz.off.map aI),vi bz.change],.rp [.sl (cU.map aS)],.rp [.sl (cV.map aC)],.rp [vi cW]],vs cO,vs aX,vi lF],[],λr=>.tu [.ms 0,vb r.2],λr=>[ZA ⟨.of 46,2,r.1.map aS⟩],cw (qF.eq_1 ..) func273 ntmps273 results273⟩
def ew(w:az)(i:Int):Option az:=
 (aA w.ae i).bind λy1=>
 (eW y1).bind λy2=>
 cond (ZE (0<y2))
 ((aA y1.aK (aH (y2-1))).bind λy3=>
 (bp w.aa y3).bind λy4=>
 (mv (aH (w.now+1)) (aH (y4+w.aa.change))).bind λy5=>
 (lO w.aa w.aq (aH (i+1)) (aH (w.now+1))).bind λy6=>
 (eH w.aa y1).bind λy7=>
 (bN w.aa y6 w.ah y7 y1.aX y5 y1.ab).bind λy8=>
 (cg w.aa y6 (aH (i+1)) y1.ab y8.1).bind λy9=>
 (dg (iC 0 y2 y1.aK.length)).bind λ_=>
 (dg (bB ((([]:List aw):List aw).length+((cZ y1.aK 0 y2):List aw).length) 16)).bind λ_=>
 (aA w.ae i).bind λeE=>
 cond y9.2
 ((aA w.ae i).bind λoq=>
 (dg (bB ((((([]:List aw):List aw)++(cZ y1.aK 0 y2)):List aw).length+(y8.1:List aw).length) 16)).bind λ_=>
 (aA w.ae i).bind λsj=>
 ZA (⟨w.aa,(w.ae.set (V0 i) (⟨eE.ar,eE.aX,eE.ax,eE.ab,eE.aO,eE.ec,((((([]:List aw):List aw)++(cZ y1.aK 0 y2)):List aw)++y8.1),eE.aN,eE.state,eE.place,eE.bK⟩:ay)),y9.1,w.ah,w.now,w.aJ,w.skip,w.aT⟩:az))
 (ZA (⟨w.aa,(w.ae.set (V0 i) (⟨eE.ar,eE.aX,eE.ax,eE.ab,eE.aO,eE.ec,((([]:List aw):List aw)++(cZ y1.aK 0 y2)),eE.aN,eE.state,eE.place,eE.bK⟩:ay)),y6,w.ah,w.now,w.aJ,w.skip,w.aT⟩:az)))
 ((lO w.aa w.aq (aH (i+1)) (aH (w.now+1))).bind λre=>
 (eH w.aa y1).bind λpx=>
 (bN w.aa re w.ah px y1.aX (aH (w.now+1)) y1.ab).bind λtl=>
 (cg w.aa re (aH (i+1)) y1.ab tl.1).bind λsB=>
 (dg (iC 0 y2 y1.aK.length)).bind λ_=>
 (dg (bB ((([]:List aw):List aw).length+((cZ y1.aK 0 y2):List aw).length) 16)).bind λ_=>
 (aA w.ae i).bind λxr=>
 cond sB.2
 ((aA w.ae i).bind λF1=>
 (dg (bB ((((([]:List aw):List aw)++(cZ y1.aK 0 y2)):List aw).length+(tl.1:List aw).length) 16)).bind λ_=>
 (aA w.ae i).bind λJ2=>
 ZA (⟨w.aa,(w.ae.set (V0 i) (⟨xr.ar,xr.aX,xr.ax,xr.ab,xr.aO,xr.ec,((((([]:List aw):List aw)++(cZ y1.aK 0 y2)):List aw)++tl.1),xr.aN,xr.state,xr.place,xr.bK⟩:ay)),sB.1,w.ah,w.now,w.aJ,w.skip,w.aT⟩:az))
 (ZA (⟨w.aa,(w.ae.set (V0 i) (⟨xr.ar,xr.aX,xr.ax,xr.ab,xr.aO,xr.ec,((([]:List aw):List aw)++(cZ y1.aK 0 y2)),xr.aN,xr.state,xr.place,xr.bK⟩:ay)),re,w.ah,w.now,w.aJ,w.skip,w.aT⟩:az)))
instance (w:az)(i:Int):CT prog (ew w i):=⟨242,[.be 0 0 0,vi i],[ZA ⟨.of 33,10,[[.ms 1,.ms 2,vi w.aa.change,.ms 3,.ms 4,.ms 5,vi w.now,.ms 6,.ms 7,vi w.aT]]⟩,ZA ⟨.of 174,6,w.aa.aB.map br⟩,ZA ⟨.of 3,1,w.aa.off.map aI⟩,ZA ⟨.of 155,11,w.ae.map aY⟩,ZA ⟨.of 177,4,w.aq.map aC⟩,ZA ⟨.of 46,2,w.ah.map aS⟩,ZA ⟨.of 181,6,w.aJ.map bt⟩,ZA ⟨.of 3,1,w.skip.map aI⟩],λr=>.tu [],λr=>[ZA ⟨.of 33,10,[[.ms 1,.ms 2,vi r.aa.change,.ms 3,.ms 8,.ms 5,vi r.now,.ms 6,.ms 7,vi r.aT]]⟩,ZA ⟨.of 174,6,r.aa.aB.map br⟩,ZA ⟨.of 3,1,r.aa.off.map aI⟩,ZA ⟨.of 155,11,r.ae.map aY⟩,ZB,ZA ⟨.of 46,2,r.ah.map aS⟩,ZA ⟨.of 181,6,r.aJ.map bt⟩,ZA ⟨.of 3,1,r.skip.map aI⟩,ZA ⟨.of 177,4,r.aq.map aC⟩],cw (ew.eq_1 ..) func242 ntmps242 results242⟩
def jU(o:ZI)(y1:az)(y2:(List Int))(y3:(List aU))(s0:Int×(List aM)):Option ((Int×(List aM))⊕(List aM)):=
 cond (ZE (s0.1<(o.aG.length:Int)))
 ((aA o.aG s0.1).bind λy4=>
 (gy y4).bind λy5=>
 (dg (bB ((s0.2:List aM).length+([y5]:List aM).length) 88)).bind λ_=>
 ZA (.inl ((aH (s0.1+1)),((s0.2:List aM)++[y5]))))
 (ZA (.inr s0.2))
instance (o:ZI)(y1:az)(y2:(List Int))(y3:(List aU)):bj (jU o y1 y2 y3):=⟨λs0=>(.un::.be 0 0 0::.be 1 0 0::.be 2 0 0::vi s0.1::(U 61 [])),λs0=>[ZA ⟨.of 40,16,[[.sl (o.world.aa.aB.map br),.sl (o.world.aa.off.map aI),vi o.world.aa.change,.sl (o.world.ae.map aY),.sl (o.world.aq.map aC),.sl (o.world.ah.map aS),vi o.world.now,.sl (o.world.aJ.map bt),.sl (o.world.skip.map aI),vi o.world.aT,.sl (o.aP.map b6),.sl (o.aR.map b9),.sl (o.aF.map aI),.sl (o.aG.map bq),.sl (o.lines.map bD),.sl (o.aE.map ZK)]]⟩,ZA ⟨.of 40,16,[[.v (.slice ZB 0 0),.v (.slice ZB 0 0),vi 0,.v (.slice ZB 0 0),.v (.slice ZB 0 0),.v (.slice ZB 0 0),vi 0,.v (.slice ZB 0 0),.v (.slice ZB 0 0),vi 0,.v (.slice ZB 0 0),.v (.slice ZB 0 0),.v (.slice ZB 0 0),.v (.slice ZB 0 0),.v (.slice ZB 0 0),.v (.slice ZB 0 0)]]⟩,ZA ⟨.of 40,16,[[.ms 3,.ms 4,vi y1.aa.change,.ms 5,.ms 6,.ms 7,vi y1.now,.ms 8,.ms 9,vi y1.aT,.ms 10,.ms 11,.ms 12,.ms 13,.ms 14,.v (.slice ZB 0 0)]]⟩,ZA ⟨.of 174,6,y1.aa.aB.map br⟩,ZA ⟨.of 3,1,y1.aa.off.map aI⟩,ZA ⟨.of 155,11,y1.ae.map aY⟩,ZA ⟨.of 177,4,y1.aq.map aC⟩,ZA ⟨.of 46,2,y1.ah.map aS⟩,ZA ⟨.of 181,6,y1.aJ.map bt⟩,ZA ⟨.of 3,1,y1.skip.map aI⟩,ZA ⟨.of 104,2,((([]:List bF):List bF)++o.aP).map b6⟩,ZA ⟨.of 107,4,((([]:List bH):List bH)++o.aR).map b9⟩,ZA ⟨.of 3,1,y2.map aI⟩,ZA ⟨.of 44,7,s0.2.map bq⟩,ZA ⟨.of 111,4,y3.map bD⟩]⟩
def jV(o:ZI)(y1:az)(y2:(List Int))(y3:(List aU))(o0:(List aM))(s1:Int×(List ZJ)):Option ((Int×(List ZJ))⊕(List ZJ)):=
 cond (ZE (s1.1<(o.aE.length:Int)))
 ((aA o.aE s1.1).bind λy6=>
 (gy y6.av).bind λy7=>
 (dg (bB ((s1.2:List ZJ).length+([(⟨y6.kind,y7,y6.order,y6.bh,y6.bn,y6.aV⟩:ZJ)]:List ZJ).length) 136)).bind λ_=>
 ZA (.inl ((aH (s1.1+1)),((s1.2:List ZJ)++[(⟨y6.kind,y7,y6.order,y6.bh,y6.bn,y6.aV⟩:ZJ)]))))
 (ZA (.inr s1.2))
instance (o:ZI)(y1:az)(y2:(List Int))(y3:(List aU))(o0:(List aM)):bj (jV o y1 y2 y3 o0):=⟨λs1=>(.un::.be 0 0 0::.be 1 0 0::.be 2 0 0::.un::vi s1.1::(U 60 [])),λs1=>[ZA ⟨.of 40,16,[[.sl (o.world.aa.aB.map br),.sl (o.world.aa.off.map aI),vi o.world.aa.change,.sl (o.world.ae.map aY),.sl (o.world.aq.map aC),.sl (o.world.ah.map aS),vi o.world.now,.sl (o.world.aJ.map bt),.sl (o.world.skip.map aI),vi o.world.aT,.sl (o.aP.map b6),.sl (o.aR.map b9),.sl (o.aF.map aI),.sl (o.aG.map bq),.sl (o.lines.map bD),.sl (o.aE.map ZK)]]⟩,ZA ⟨.of 40,16,[[.v (.slice ZB 0 0),.v (.slice ZB 0 0),vi 0,.v (.slice ZB 0 0),.v (.slice ZB 0 0),.v (.slice ZB 0 0),vi 0,.v (.slice ZB 0 0),.v (.slice ZB 0 0),vi 0,.v (.slice ZB 0 0),.v (.slice ZB 0 0),.v (.slice ZB 0 0),.v (.slice ZB 0 0),.v (.slice ZB 0 0),.v (.slice ZB 0 0)]]⟩,ZA ⟨.of 40,16,[[.ms 3,.ms 4,vi y1.aa.change,.ms 5,.ms 6,.ms 7,vi y1.now,.ms 8,.ms 9,vi y1.aT,.ms 10,.ms 11,.ms 12,.ms 13,.ms 14,.ms 15]]⟩,ZA ⟨.of 174,6,y1.aa.aB.map br⟩,ZA ⟨.of 3,1,y1.aa.off.map aI⟩,ZA ⟨.of 155,11,y1.ae.map aY⟩,ZA ⟨.of 177,4,y1.aq.map aC⟩,ZA ⟨.of 46,2,y1.ah.map aS⟩,ZA ⟨.of 181,6,y1.aJ.map bt⟩,ZA ⟨.of 3,1,y1.skip.map aI⟩,ZA ⟨.of 104,2,((([]:List bF):List bF)++o.aP).map b6⟩,ZA ⟨.of 107,4,((([]:List bH):List bH)++o.aR).map b9⟩,ZA ⟨.of 3,1,y2.map aI⟩,ZA ⟨.of 44,7,o0.map bq⟩,ZA ⟨.of 111,4,y3.map bD⟩,ZA ⟨.of 48,13,s1.2.map ZK⟩]⟩
def iS(o:ZI):Option ZI:=
 (AX 8 []).bind λ_=>
 (eV o.world).bind λy1=>
 (dg (bB ((([]:List bF):List bF).length+(o.aP:List bF).length) 32)).bind λ_=>
 (dg (bB ((([]:List bH):List bH).length+(o.aR:List bH).length) 32)).bind λ_=>
 (dN o.aF).bind λy2=>
 (bX o.lines).bind λy3=>
 (aD (jU o y1 y2 y3) NN (0,[])).bind (λo0=>
 (aD (jV o y1 y2 y3 o0) NN (0,[])).bind (λo1=>
 ZA (⟨y1,((([]:List bF):List bF)++o.aP),((([]:List bH):List bH)++o.aR),y2,o0,y3,o1⟩:ZI)))
instance (o:ZI):CT prog (iS o):=⟨50,[.ag (ZM o)],[],λr=>.ag [.sl (r.world.aa.aB.map br),.sl (r.world.aa.off.map aI),vi r.world.aa.change,.sl (r.world.ae.map aY),.sl (r.world.aq.map aC),.sl (r.world.ah.map aS),vi r.world.now,.sl (r.world.aJ.map bt),.sl (r.world.skip.map aI),vi r.world.aT,.ms 0,.ms 1,.ms 2,.ms 3,.ms 4,.ms 5],λr=>[ZA ⟨.of 104,2,r.aP.map b6⟩,ZA ⟨.of 107,4,r.aR.map b9⟩,ZA ⟨.of 3,1,r.aF.map aI⟩,ZA ⟨.of 44,7,r.aG.map bq⟩,ZA ⟨.of 111,4,r.lines.map bD⟩,ZA ⟨.of 48,13,r.aE.map ZK⟩],cw (iS.eq_1 ..) func50 ntmps50 results50⟩
end Go.Proofs.YtbalgkakkoocjaaGreat
