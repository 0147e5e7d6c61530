/- A part of the proof of the statement in the last file of this claim: texts on the language of the program and on its functions. No condition. -/
import Derived.Test.YtbalgkakkoocjaaGreatCJ6
import Derived.Test.YtbalgkakkoocjaaGreatCJ5
import Derived.Test.YtbalgkakkoocjaaGreatCJ1
set_option linter.unusedVariables false
set_option linter.unusedSimpArgs false
set_option linter.unusedSectionVars false
open Option renaming some->ZA,none->ZB
open Bool renaming true->ZC,false->ZD
open Decidable renaming decide->ZE
open Go.Proofs.Tryz
set_option maxHeartbeats 40000000
namespace Go.Proofs.YtbalgkakkoocjaaGreat
open _root_.Int renaming toNat->V0
open List renaming replicate->VW
set_option maxRecDepth 10000
open Go.RowKit
def gI(a:aw):Option aw:=
 ZA a
instance (a:aw):CT prog (gI a):=⟨62,[.ag (aS a)],[],λr=>.ag [vi r.bG,vi r.day],λr=>[],cw (gI.eq_1 ..) func62 ntmps62 results62⟩
def s7(a:List aw)(s0:Int×(List aw)):Option ((Int×(List aw))⊕(List aw)):=
 cond (ZE (s0.1<(a.length:Int)))
 ((aA a s0.1).bind λy1=>
 (gI y1).bind λy2=>
 (aA s0.2 s0.1).bind λy3=>
 ZA (.inl ((aH (s0.1+1)),(s0.2.set (V0 s0.1) y2))))
 (ZA (.inr s0.2))
instance (a:List aw):bj (s7 a):=⟨λs0=>(.sl (a.map aS)::.un::.un::.ms 0::vi s0.1::(U 18 [])),λs0=>[ZA ⟨.of 46,2,s0.2.map aS⟩]⟩
def gS(a:List aw):Option (List aw):=
 (dg (zF (a.length:Int) 16)).bind λ_=>
 (aD (s7 a) NN (0,(VW (V0 (a.length:Int)) (⟨0,0⟩:aw)))).bind (λo0=>
 ZA o0)
theorem Gx(a:List aw){r:(List aw)}(H:gS a=ZA r):cq prog 144 [.sl (a.map aS)] [] (.ms 0) [ZA ⟨.of 46,2,r.map aS⟩]:=by
 replace H:=H0 H;unfold gS at H
 refine jm func144 rfl ntmps144 results144 λQ hQ Pz=>?_
 exact RV
instance (a:List aw):CT prog (gS a):=⟨144,[.sl (a.map aS)],[],λr=>.ms 0,λr=>[ZA ⟨.of 46,2,r.map aS⟩],Gx a⟩
def qf(a:ay):Option ay:=
 (gS a.aK).bind λy1=>
 ZA (⟨a.ar,a.aX,a.ax,a.ab,a.aO,a.ec,y1,a.aN,a.state,a.place,a.bK⟩:ay)
def vT(a:List ay)(s0:Int×(List ay)):Option ((Int×(List ay))⊕(List ay)):=
 cond (ZE (s0.1<(a.length:Int)))
 ((aA a s0.1).bind λy1=>
 (qf y1).bind λy2=>
 (aA s0.2 s0.1).bind λy3=>
 ZA (.inl ((aH (s0.1+1)),(s0.2.set (V0 s0.1) y2))))
 (ZA (.inr s0.2))
def uS(a:List ay):Option (List ay):=
 (dg (zF (a.length:Int) 128)).bind λ_=>
 (aD (vT a) NN (0,(VW (V0 (a.length:Int)) (⟨⟨#[]⟩,⟨#[]⟩,0,0,0,0,[],0,0,⟨#[]⟩,0⟩:ay)))).bind (λo0=>
 ZA o0)
def kv(a:aj):Option aj:=
 (gI a.aV).bind λy1=>
 ZA (⟨a.bo,y1,a.ab⟩:aj)
instance (a:aj):CT prog (kv a):=⟨246,[.ag (aC a)],[],λr=>.ag [vi r.bo,vi r.aV.bG,vi r.aV.day,vi r.ab],λr=>[],cw (kv.eq_1 ..) func246 ntmps246 results246⟩
def qd(a:List aj)(s0:Int×(List aj)):Option ((Int×(List aj))⊕(List aj)):=
 cond (ZE (s0.1<(a.length:Int)))
 ((aA a s0.1).bind λy1=>
 (kv y1).bind λy2=>
 (aA s0.2 s0.1).bind λy3=>
 ZA (.inl ((aH (s0.1+1)),(s0.2.set (V0 s0.1) y2))))
 (ZA (.inr s0.2))
instance (a:List aj):bj (qd a):=⟨λs0=>(.sl (a.map aC)::.un::.un::.ms 0::vi s0.1::(U 18 [])),λs0=>[ZA ⟨.of 177,4,s0.2.map aC⟩]⟩
def gR(a:List aj):Option (List aj):=
 (dg (zF (a.length:Int) 32)).bind λ_=>
 (aD (qd a) NN (0,(VW (V0 (a.length:Int)) (⟨0,(⟨0,0⟩:aw),0⟩:aj)))).bind (λo0=>
 ZA o0)
theorem Cb(a:List aj){r:(List aj)}(H:gR a=ZA r):cq prog 143 [.sl (a.map aC)] [] (.ms 0) [ZA ⟨.of 177,4,r.map aC⟩]:=by
 replace H:=H0 H;unfold gR at H
 refine jm func143 rfl ntmps143 results143 λQ hQ Pz=>?_
 exact RV
instance (a:List aj):CT prog (gR a):=⟨143,[.sl (a.map aC)],[],λr=>.ms 0,λr=>[ZA ⟨.of 177,4,r.map aC⟩],Cb a⟩
def o7(a:bc):Option bc:=
 (gI a.aV).bind λy1=>
 ZA (⟨a.bo,a.aO,a.kind,a.place,y1⟩:bc)
instance (a:bc):CT prog (o7 a):=⟨247,[.ag (bt a)],[],λr=>.ag [vi r.bo,vi r.aO,vi r.kind,vs r.place,vi r.aV.bG,vi r.aV.day],λr=>[],cw (o7.eq_1 ..) func247 ntmps247 results247⟩
def sZ(a:List bc)(s0:Int×(List bc)):Option ((Int×(List bc))⊕(List bc)):=
 cond (ZE (s0.1<(a.length:Int)))
 ((aA a s0.1).bind λy1=>
 (o7 y1).bind λy2=>
 (aA s0.2 s0.1).bind λy3=>
 ZA (.inl ((aH (s0.1+1)),(s0.2.set (V0 s0.1) y2))))
 (ZA (.inr s0.2))
instance (a:List bc):bj (sZ a):=⟨λs0=>(.sl (a.map bt)::.un::.un::.ms 0::vi s0.1::(U 18 [])),λs0=>[ZA ⟨.of 181,6,s0.2.map bt⟩]⟩
def kV(a:List bc):Option (List bc):=
 (dg (zF (a.length:Int) 56)).bind λ_=>
 (aD (sZ a) NN (0,(VW (V0 (a.length:Int)) (⟨0,0,0,⟨#[]⟩,(⟨0,0⟩:aw)⟩:bc)))).bind (λo0=>
 ZA o0)
theorem Gw(a:List bc){r:(List bc)}(H:kV a=ZA r):cq prog 145 [.sl (a.map bt)] [] (.ms 0) [ZA ⟨.of 181,6,r.map bt⟩]:=by
 replace H:=H0 H;unfold kV at H
 refine jm func145 rfl ntmps145 results145 λQ hQ Pz=>?_
 exact RV
instance (a:List bc):CT prog (kV a):=⟨145,[.sl (a.map bt)],[],λr=>.ms 0,λr=>[ZA ⟨.of 181,6,r.map bt⟩],Gw a⟩
def o4(a:bF)(b:bF):Option Bool:=
 cond (!decide (a.first=b.first))
 (ZA ZD)
 (cond (!decide (a.last=b.last))
 (ZA ZD)
 (ZA ZC))
instance (a:bF)(b:bF):CT prog (o4 a b):=⟨155,[.ag (b6 a),.ag (b6 b)],[],λr=>vb r,λr=>[],cw (o4.eq_1 ..) func155 ntmps155 results155⟩
def o8(a:bF):Option bF:=
 ZA a
instance (a:bF):CT prog (o8 a):=⟨146,[.ag (b6 a)],[],λr=>.ag [vs r.first,vs r.last],λr=>[],cw (o8.eq_1 ..) func146 ntmps146 results146⟩
def sU(a:List bF)(b:List bF)(s0:Int):Option (Int⊕(Unit⊕Bool)):=
 cond (ZE (s0<(a.length:Int)))
 ((aA a s0).bind λy1=>
 (aA b s0).bind λy2=>
 (o4 y1 y2).bind λy3=>
 cond (!y3)
 (ZA (.inr (.inr ZD)))
 (ZA (.inl (aH (s0+1)))))
 (ZA (.inr (.inl ())))
instance (a:List bF)(b:List bF):bj (sU a b):=⟨λs0=>(.sl (a.map b6)::.sl (b.map b6)::(U 3 (vi s0::(U 21 [])))),λs0=>[]⟩
def pU(a:List bF)(b:List bF):Option Bool:=
 cond (!decide ((a.length:Int)=(b.length:Int)))
 (ZA ZD)
 ((aD (sU a b) NN 0).bind (bm (λo0=>
 ZA ZC) (λr=>ZA r)))
instance (a:List bF)(b:List bF):CT prog (pU a b):=⟨64,[.sl (a.map b6),.sl (b.map b6)],[],λr=>vb r,λr=>[],cw (pU.eq_1 ..) func64 ntmps64 results64⟩
def s8(a:List bF)(s0:Int×(List bF)):Option ((Int×(List bF))⊕(List bF)):=
 cond (ZE (s0.1<(a.length:Int)))
 ((aA a s0.1).bind λy1=>
 (o8 y1).bind λy2=>
 (aA s0.2 s0.1).bind λy3=>
 ZA (.inl ((aH (s0.1+1)),(s0.2.set (V0 s0.1) y2))))
 (ZA (.inr s0.2))
instance (a:List bF):bj (s8 a):=⟨λs0=>(.sl (a.map b6)::.un::.un::.ms 0::vi s0.1::(U 18 [])),λs0=>[ZA ⟨.of 104,2,s0.2.map b6⟩]⟩
def nr(a:List bF):Option (List bF):=
 (dg (zF (a.length:Int) 32)).bind λ_=>
 (aD (s8 a) NN (0,(VW (V0 (a.length:Int)) (⟨⟨#[]⟩,⟨#[]⟩⟩:bF)))).bind (λo0=>
 ZA o0)
instance (a:List bF):CT prog (nr a):=⟨56,[.sl (a.map b6)],[],λr=>.ms 0,λr=>[ZA ⟨.of 104,2,r.map b6⟩],cw (nr.eq_1 ..) func56 ntmps56 results56⟩
def oW(a:aU)(b:aU):Option Bool:=
 cond (!decide (a.order=b.order))
 (ZA ZD)
 (cond (!decide (a.kind=b.kind))
 (ZA ZD)
 (cond (!decide (a.bh=b.bh))
 (ZA ZD)
 (cond (!decide (a.aO=b.aO))
 (ZA ZD)
 (ZA ZC))))
instance (a:aU)(b:aU):CT prog (oW a b):=⟨157,[.ag (bD a),.ag (bD b)],[],λr=>vb r,λr=>[],cw (oW.eq_1 ..) func157 ntmps157 results157⟩
def o5(a:aU):Option aU:=
 ZA a
instance (a:aU):CT prog (o5 a):=⟨148,[.ag (bD a)],[],λr=>.ag [vi r.order,vi r.kind,vi r.bh,vi r.aO],λr=>[],cw (o5.eq_1 ..) func148 ntmps148 results148⟩
def sQ(a:List aU)(b:List aU)(s0:Int):Option (Int⊕(Unit⊕Bool)):=
 cond (ZE (s0<(a.length:Int)))
 ((aA a s0).bind λy1=>
 (aA b s0).bind λy2=>
 (oW y1 y2).bind λy3=>
 cond (!y3)
 (ZA (.inr (.inr ZD)))
 (ZA (.inl (aH (s0+1)))))
 (ZA (.inr (.inl ())))
instance (a:List aU)(b:List aU):bj (sQ a b):=⟨λs0=>(.sl (a.map bD)::.sl (b.map bD)::(U 3 (vi s0::(U 21 [])))),λs0=>[]⟩
def pR(a:List aU)(b:List aU):Option Bool:=
 cond (!decide ((a.length:Int)=(b.length:Int)))
 (ZA ZD)
 ((aD (sQ a b) NN 0).bind (bm (λo0=>
 ZA ZC) (λr=>ZA r)))
instance (a:List aU)(b:List aU):CT prog (pR a b):=⟨68,[.sl (a.map bD),.sl (b.map bD)],[],λr=>vb r,λr=>[],cw (pR.eq_1 ..) func68 ntmps68 results68⟩
def sX(a:List aU)(s0:Int×(List aU)):Option ((Int×(List aU))⊕(List aU)):=
 cond (ZE (s0.1<(a.length:Int)))
 ((aA a s0.1).bind λy1=>
 (o5 y1).bind λy2=>
 (aA s0.2 s0.1).bind λy3=>
 ZA (.inl ((aH (s0.1+1)),(s0.2.set (V0 s0.1) y2))))
 (ZA (.inr s0.2))
instance (a:List aU):bj (sX a):=⟨λs0=>(.sl (a.map bD)::.un::.un::.ms 0::vi s0.1::(U 18 [])),λs0=>[ZA ⟨.of 111,4,s0.2.map bD⟩]⟩
def nn(a:List aU):Option (List aU):=
 (dg (zF (a.length:Int) 32)).bind λ_=>
 (aD (sX a) NN (0,(VW (V0 (a.length:Int)) (⟨0,0,0,0⟩:aU)))).bind (λo0=>
 ZA o0)
instance (a:List aU):CT prog (nn a):=⟨60,[.sl (a.map bD)],[],λr=>.ms 0,λr=>[ZA ⟨.of 111,4,r.map bD⟩],cw (nn.eq_1 ..) func60 ntmps60 results60⟩
def jN(a:List Int)(b:List Int)(s0:Int):Option (Int⊕(Unit⊕Bool)):=
 cond (ZE (s0<(a.length:Int)))
 ((aA a s0).bind λy1=>
 (aA b s0).bind λy2=>
 cond (!decide (y1=y2))
 (ZA (.inr (.inr ZD)))
 (ZA (.inl (aH (s0+1)))))
 (ZA (.inr (.inl ())))
instance (a:List Int)(b:List Int):bj (jN a b):=⟨λs0=>(.sl (a.map aI)::.sl (b.map aI)::(U 10 (vi (a.length:Int)::vi s0::(U 12 [])))),λs0=>[]⟩
def mW(a:List Int)(b:List Int):Option Bool:=
 cond (!decide ((a.length:Int)=(b.length:Int)))
 (ZA ZD)
 ((aD (jN a b) NN 0).bind (bm (λo0=>
 ZA ZC) (λr=>ZA r)))
instance (a:List Int)(b:List Int):CT prog (mW a b):=⟨39,[.sl (a.map aI),.sl (b.map aI)],[],λr=>vb r,λr=>[],λH=>by replace H:=H0 H;unfold mW at H;exact jm func39 rfl ntmps39 results39 λQ hQ Pz=>RV⟩
def kO(a:aM)(b:aM):Option Bool:=
 cond (ZE (a.label=b.label))
 (cond (ZE (a.ar=b.ar))
 (cond (ZE (a.ab=b.ab))
 ((mW a.bb b.bb).bind λy1=>
 cond y1
 (ZA (ZE (a.value=b.value)))
 (ZA ZD))
 (ZA ZD))
 (ZA ZD))
 (ZA ZD)
instance (a:aM)(b:aM):CT prog (kO a b):=⟨41,[.ag (bq a),.ag (bq b)],[],λr=>vb r,λr=>[],cw (kO.eq_1 ..) func41 ntmps41 results41⟩
def oE(a:ZJ)(b:ZJ):Option Bool:=
 cond (ZE (a.kind=b.kind))
 ((kO a.av b.av).bind λy1=>
 cond y1
 (cond (ZE (a.order=b.order))
 (cond (ZE (a.bh=b.bh))
 (cond (ZE (a.bn=b.bn))
 (ZA (ZE (a.aV=b.aV)))
 (ZA ZD))
 (ZA ZD))
 (ZA ZD))
 (ZA ZD))
 (ZA ZD)
instance (a:ZJ)(b:ZJ):CT prog (oE a b):=⟨42,[.ag (ZK a),.ag (ZK b)],[],λr=>vb r,λr=>[],cw (oE.eq_1 ..) func42 ntmps42 results42⟩
def sN(a:ay):Option ay:=
 (gS a.aK).bind λy1=>
 ZA (⟨a.ar,a.aX,a.ax,a.ab,a.aO,a.ec,y1,a.aN,a.state,a.place,a.bK⟩:ay)
instance (a:ay):CT prog (sN a):=⟨245,[.ag (aY a)],[],λr=>.ag [vs r.ar,vs r.aX,vi r.ax,vi r.ab,vi r.aO,vi r.ec,.ms 0,vi r.aN,vi r.state,vs r.place,vi r.bK],λr=>[ZA ⟨.of 46,2,r.aK.map aS⟩],ck (sN.eq_1 ..) func245 ntmps245 results245⟩
def uY(a:List ay)(s0:Int×(List ay)):Option ((Int×(List ay))⊕(List ay)):=
 cond (ZE (s0.1<(a.length:Int)))
 ((aA a s0.1).bind λy1=>
 (sN y1).bind λy2=>
 (aA s0.2 s0.1).bind λy3=>
 ZA (.inl ((aH (s0.1+1)),(s0.2.set (V0 s0.1) y2))))
 (ZA (.inr s0.2))
instance (a:List ay):bj (uY a):=⟨λs0=>(.sl (a.map aY)::.un::.un::.ms 0::vi s0.1::(U 18 [])),λs0=>[ZA ⟨⟨155,ZA 46⟩,11,s0.2.map aY⟩]⟩
def tJ(a:List ay):Option (List ay):=
 (dg (zF (a.length:Int) 128)).bind λ_=>
 (aD (uY a) NN (0,(VW (V0 (a.length:Int)) (⟨⟨#[]⟩,⟨#[]⟩,0,0,0,0,[],0,0,⟨#[]⟩,0⟩:ay)))).bind (λo0=>
 ZA o0)
instance (a:List ay):CT prog (tJ a):=⟨142,[.sl (a.map aY)],[],λr=>.ms 0,λr=>[ZA ⟨⟨155,ZA 46⟩,11,r.map aY⟩],ck (tJ.eq_1 ..) func142 ntmps142 results142⟩
end Go.Proofs.YtbalgkakkoocjaaGreat
