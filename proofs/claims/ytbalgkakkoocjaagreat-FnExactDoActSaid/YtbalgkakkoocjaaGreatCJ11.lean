/- A part of the proof of the statement in the last file of this claim: texts on the language of the program and on its functions. No condition. -/
import Derived.Test.YtbalgkakkoocjaaGreatCJ6
import Derived.Test.YtbalgkakkoocjaaGreatCJ5
import Derived.Test.YtbalgkakkoocjaaGreatCJ7
import Derived.Test.YtbalgkakkoocjaaGreatCJ1
set_option linter.unusedVariables false
set_option linter.unusedSimpArgs false
set_option linter.unusedSectionVars false
open Option renaming some->ZA,none->ZB
open Bool renaming true->ZC,false->ZD
open Decidable renaming decide->ZE
open Go.Proofs.Tryz
set_option maxHeartbeats 40000000
namespace Go.Proofs.YtbalgkakkoocjaaGreat
open _root_.Int renaming toNat->V0
open List renaming replicate->VW
set_option maxRecDepth 10000
open Go.RowKit
def tO(a:List bM)(s0:Int×(List bM)):Option ((Int×(List bM))⊕(List bM)):=
 cond (ZE (s0.1<(a.length:Int)))
 ((aA a s0.1).bind λy1=>
 (qE y1).bind λy2=>
 (aA s0.2 s0.1).bind λy3=>
 ZA (.inl ((aH (s0.1+1)),(s0.2.set (V0 s0.1) y2))))
 (ZA (.inr s0.2))
instance (a:List bM):bj (tO a):=⟨λs0=>(.sl (a.map br)::.un::.un::.ms 0::vi s0.1::(U 18 [])),λs0=>[ZA ⟨.of 174,6,s0.2.map br⟩]⟩
def mu(a:List bM):Option (List bM):=
 (dg (zF (a.length:Int) 64)).bind λ_=>
 (aD (tO a) NN (0,(VW (V0 (a.length:Int)) (⟨⟨#[]⟩,⟨#[]⟩,0,0,0,0⟩:bM)))).bind (λo0=>
 ZA o0)
theorem Jl(a:List bM){r:(List bM)}(H:mu a=ZA r):cq prog 244 [.sl (a.map br)] [] (.ms 0) [ZA ⟨.of 174,6,r.map br⟩]:=by
 replace H:=H0 H;unfold mu at H
 refine jm func244 rfl ntmps244 results244 λQ hQ Pz=>?_
 exact RV
instance (a:List bM):CT prog (mu a):=⟨244,[.sl (a.map br)],[],λr=>.ms 0,λr=>[ZA ⟨.of 174,6,r.map br⟩],Jl a⟩
def mX(a:List Int)(b:List Int)(s0:Int):Option (Int⊕(Unit⊕Bool)):=
 cond (ZE (s0<(a.length:Int)))
 ((aA a s0).bind λy1=>
 (aA b s0).bind λy2=>
 cond (!decide (y1=y2))
 (ZA (.inr (.inr ZD)))
 (ZA (.inl (aH (s0+1)))))
 (ZA (.inr (.inl ())))
instance (a:List Int)(b:List Int):bj (mX a b):=⟨λs0=>(.sl (a.map aI)::.sl (b.map aI)::(U 3 (vi s0::(U 20 [])))),λs0=>[]⟩
def jj(a:List Int)(b:List Int):Option Bool:=
 cond (!decide ((a.length:Int)=(b.length:Int)))
 (ZA ZD)
 ((aD (mX a b) NN 0).bind (bm (λo0=>
 ZA ZC) (λr=>ZA r)))
theorem Jj(a:List Int)(b:List Int){r:Bool}(H:jj a b=ZA r):cq prog 66 [.sl (a.map aI),.sl (b.map aI)] [] (vb r) []:=by
 replace H:=H0 H;unfold jj at H
 refine jm func66 rfl ntmps66 results66 λQ hQ Pz=>?_
 exact RV
instance (a:List Int)(b:List Int):CT prog (jj a b):=⟨66,[.sl (a.map aI),.sl (b.map aI)],[],λr=>vb r,λr=>[],Jj a b⟩
def nk(a:List Int)(s0:Int×(List Int)):Option ((Int×(List Int))⊕(List Int)):=
 cond (ZE (s0.1<(a.length:Int)))
 ((aA a s0.1).bind λy1=>
 (aA s0.2 s0.1).bind λy2=>
 ZA (.inl ((aH (s0.1+1)),(s0.2.set (V0 s0.1) y1))))
 (ZA (.inr s0.2))
instance (a:List Int):bj (nk a):=⟨λs0=>(.sl (a.map aI)::.un::.un::.ms 0::vi s0.1::(U 17 [])),λs0=>[ZA ⟨.of 3,1,s0.2.map aI⟩]⟩
def eU(a:List Int):Option (List Int):=
 (dg (zF (a.length:Int) 8)).bind λ_=>
 (aD (nk a) NN (0,(VW (V0 (a.length:Int)) 0))).bind (λo0=>
 ZA o0)
theorem Jk(a:List Int){r:(List Int)}(H:eU a=ZA r):cq prog 58 [.sl (a.map aI)] [] (.ms 0) [ZA ⟨.of 3,1,r.map aI⟩]:=by
 replace H:=H0 H;unfold eU at H
 refine jm func58 rfl ntmps58 results58 λQ hQ Pz=>?_
 exact RV
instance (a:List Int):CT prog (eU a):=⟨58,[.sl (a.map aI)],[],λr=>.ms 0,λr=>[ZA ⟨.of 3,1,r.map aI⟩],Jk a⟩
def kg(a:List Int)(left:Int):Option Int:=
 cond (ZE ((aH (left-(a.length:Int)))<0))
 (ZA (-1))
 (ZA (aH (left-(a.length:Int))))
instance (a:List Int)(left:Int):CT prog (kg a left):=⟨46,[.sl (a.map aI),vi left],[],λr=>vi r,λr=>[],cw (kg.eq_1 ..) func46 ntmps46 results46⟩
def mY(a:ak)(b:ak):Option Bool:=
 (rn a.aB b.aB).bind λy1=>
 cond (!y1)
 (ZA ZD)
 ((jj a.off b.off).bind λy2=>
 cond (!y2)
 (ZA ZD)
 (cond (!decide (a.change=b.change))
 (ZA ZD)
 (ZA ZC)))
instance (a:ak)(b:ak):CT prog (mY a b):=⟨150,[.ag (bE a),.ag (bE b)],[],λr=>vb r,λr=>[],cw (mY.eq_1 ..) func150 ntmps150 results150⟩
def tP(a:ak):Option ak:=
 (mu a.aB).bind λy1=>
 (eU a.off).bind λy2=>
 ZA (⟨y1,y2,a.change⟩:ak)
def gH(a:aw)(b:aw):Option Bool:=
 cond (!decide (a.bG=b.bG))
 (ZA ZD)
 (cond (!decide (a.day=b.day))
 (ZA ZD)
 (ZA ZC))
instance (a:aw)(b:aw):CT prog (gH a b):=⟨70,[.ag (aS a),.ag (aS b)],[],λr=>vb r,λr=>[],cw (gH.eq_1 ..) func70 ntmps70 results70⟩
def sT(a:List aw)(b:List aw)(s0:Int):Option (Int⊕(Unit⊕Bool)):=
 cond (ZE (s0<(a.length:Int)))
 ((aA a s0).bind λy1=>
 (aA b s0).bind λy2=>
 (gH y1 y2).bind λy3=>
 cond (!y3)
 (ZA (.inr (.inr ZD)))
 (ZA (.inl (aH (s0+1)))))
 (ZA (.inr (.inl ())))
instance (a:List aw)(b:List aw):bj (sT a b):=⟨λs0=>(.sl (a.map aS)::.sl (b.map aS)::(U 3 (vi s0::(U 21 [])))),λs0=>[]⟩
def nb(a:List aw)(b:List aw):Option Bool:=
 cond (!decide ((a.length:Int)=(b.length:Int)))
 (ZA ZD)
 ((aD (sT a b) NN 0).bind (bm (λo0=>
 ZA ZC) (λr=>ZA r)))
instance (a:List aw)(b:List aw):CT prog (nb a b):=⟨153,[.sl (a.map aS),.sl (b.map aS)],[],λr=>vb r,λr=>[],cw (nb.eq_1 ..) func153 ntmps153 results153⟩
def mZ(a:ay)(b:ay):Option Bool:=
 cond (!decide (a.ar=b.ar))
 (ZA ZD)
 (cond (!decide (a.aX=b.aX))
 (ZA ZD)
 (cond (!decide (a.ax=b.ax))
 (ZA ZD)
 (cond (!decide (a.ab=b.ab))
 (ZA ZD)
 (cond (!decide (a.aO=b.aO))
 (ZA ZD)
 (cond (!decide (a.ec=b.ec))
 (ZA ZD)
 ((nb a.aK b.aK).bind λy1=>
 cond (!y1)
 (ZA ZD)
 (cond (!decide (a.aN=b.aN))
 (ZA ZD)
 (cond (!decide (a.state=b.state))
 (ZA ZD)
 (cond (!decide (a.place=b.place))
 (ZA ZD)
 (cond (!decide (a.bK=b.bK))
 (ZA ZD)
 (ZA ZC)))))))))))
instance (a:ay)(b:ay):CT prog (mZ a b):=⟨249,[.ag (aY a),.ag (aY b)],[],λr=>vb r,λr=>[],cw (mZ.eq_1 ..) func249 ntmps249 results249⟩
def rV(a:List ay)(b:List ay)(s0:Int):Option (Int⊕(Unit⊕Bool)):=
 cond (ZE (s0<(a.length:Int)))
 ((aA a s0).bind λy1=>
 (aA b s0).bind λy2=>
 (mZ y1 y2).bind λy3=>
 cond (!y3)
 (ZA (.inr (.inr ZD)))
 (ZA (.inl (aH (s0+1)))))
 (ZA (.inr (.inl ())))
instance (a:List ay)(b:List ay):bj (rV a b):=⟨λs0=>(.sl (a.map aY)::.sl (b.map aY)::(U 3 (vi s0::(U 21 [])))),λs0=>[]⟩
def oI(a:List ay)(b:List ay):Option Bool:=
 cond (!decide ((a.length:Int)=(b.length:Int)))
 (ZA ZD)
 ((aD (rV a b) NN 0).bind (bm (λo0=>
 ZA ZC) (λr=>ZA r)))
instance (a:List ay)(b:List ay):CT prog (oI a b):=⟨151,[.sl (a.map aY),.sl (b.map aY)],[],λr=>vb r,λr=>[],cw (oI.eq_1 ..) func151 ntmps151 results151⟩
def iO(a:aj)(b:aj):Option Bool:=
 cond (!decide (a.bo=b.bo))
 (ZA ZD)
 ((gH a.aV b.aV).bind λy1=>
 cond (!y1)
 (ZA ZD)
 (cond (!decide (a.ab=b.ab))
 (ZA ZD)
 (ZA ZC)))
instance (a:aj)(b:aj):CT prog (iO a b):=⟨250,[.ag (aC a),.ag (aC b)],[],λr=>vb r,λr=>[],cw (iO.eq_1 ..) func250 ntmps250 results250⟩
def pQ(a:List aj)(b:List aj)(s0:Int):Option (Int⊕(Unit⊕Bool)):=
 cond (ZE (s0<(a.length:Int)))
 ((aA a s0).bind λy1=>
 (aA b s0).bind λy2=>
 (iO y1 y2).bind λy3=>
 cond (!y3)
 (ZA (.inr (.inr ZD)))
 (ZA (.inl (aH (s0+1)))))
 (ZA (.inr (.inl ())))
instance (a:List aj)(b:List aj):bj (pQ a b):=⟨λs0=>(.sl (a.map aC)::.sl (b.map aC)::(U 3 (vi s0::(U 21 [])))),λs0=>[]⟩
def l5(a:List aj)(b:List aj):Option Bool:=
 cond (!decide ((a.length:Int)=(b.length:Int)))
 (ZA ZD)
 ((aD (pQ a b) NN 0).bind (bm (λo0=>
 ZA ZC) (λr=>ZA r)))
instance (a:List aj)(b:List aj):CT prog (l5 a b):=⟨152,[.sl (a.map aC),.sl (b.map aC)],[],λr=>vb r,λr=>[],cw (l5.eq_1 ..) func152 ntmps152 results152⟩
def oZ(a:bc)(b:bc):Option Bool:=
 cond (!decide (a.bo=b.bo))
 (ZA ZD)
 (cond (!decide (a.aO=b.aO))
 (ZA ZD)
 (cond (!decide (a.kind=b.kind))
 (ZA ZD)
 (cond (!decide (a.place=b.place))
 (ZA ZD)
 ((gH a.aV b.aV).bind λy1=>
 cond (!y1)
 (ZA ZD)
 (ZA ZC)))))
instance (a:bc)(b:bc):CT prog (oZ a b):=⟨251,[.ag (bt a),.ag (bt b)],[],λr=>vb r,λr=>[],cw (oZ.eq_1 ..) func251 ntmps251 results251⟩
def sS(a:List bc)(b:List bc)(s0:Int):Option (Int⊕(Unit⊕Bool)):=
 cond (ZE (s0<(a.length:Int)))
 ((aA a s0).bind λy1=>
 (aA b s0).bind λy2=>
 (oZ y1 y2).bind λy3=>
 cond (!y3)
 (ZA (.inr (.inr ZD)))
 (ZA (.inl (aH (s0+1)))))
 (ZA (.inr (.inl ())))
instance (a:List bc)(b:List bc):bj (sS a b):=⟨λs0=>(.sl (a.map bt)::.sl (b.map bt)::(U 3 (vi s0::(U 21 [])))),λs0=>[]⟩
def pT(a:List bc)(b:List bc):Option Bool:=
 cond (!decide ((a.length:Int)=(b.length:Int)))
 (ZA ZD)
 ((aD (sS a b) NN 0).bind (bm (λo0=>
 ZA ZC) (λr=>ZA r)))
instance (a:List bc)(b:List bc):CT prog (pT a b):=⟨154,[.sl (a.map bt),.sl (b.map bt)],[],λr=>vb r,λr=>[],cw (pT.eq_1 ..) func154 ntmps154 results154⟩
def nd(a:az)(b:az):Option Bool:=
 (mY a.aa b.aa).bind λy1=>
 cond (!y1)
 (ZA ZD)
 ((oI a.ae b.ae).bind λy2=>
 cond (!y2)
 (ZA ZD)
 ((l5 a.aq b.aq).bind λy3=>
 cond (!y3)
 (ZA ZD)
 ((nb a.ah b.ah).bind λy4=>
 cond (!y4)
 (ZA ZD)
 (cond (!decide (a.now=b.now))
 (ZA ZD)
 ((pT a.aJ b.aJ).bind λy5=>
 cond (!y5)
 (ZA ZD)
 ((jj a.skip b.skip).bind λy6=>
 cond (!y6)
 (ZA ZD)
 (cond (!decide (a.aT=b.aT))
 (ZA ZD)
 (ZA ZC))))))))
theorem Gu(a:az)(b:az){r:Bool}(H:nd a b=ZA r):cq prog 63 [.ag (fa a),.ag (fa b)] [] (vb r) []:=by
 replace H:=H0 H;unfold nd at H
 refine jm func63 rfl ntmps63 results63 λQ hQ Pz=>?_
 exact RV
instance (a:az)(b:az):CT prog (nd a b):=⟨63,[.ag (fa a),.ag (fa b)],[],λr=>vb r,λr=>[],Gu a b⟩
def mr(a:bF)(left:Int):Option Int:=
 cond (ZE ((aH (left-(a.first.size:Int)))<0))
 (ZA (-1))
 (cond (ZE ((aH ((aH (left-(a.first.size:Int)))-(a.last.size:Int)))<0))
 (ZA (-1))
 (ZA (aH ((aH (left-(a.first.size:Int)))-(a.last.size:Int)))))
instance (a:bF)(left:Int):CT prog (mr a left):=⟨123,[.ag (b6 a),vi left],[],λr=>vi r,λr=>[],cw (mr.eq_1 ..) func123 ntmps123 results123⟩
def sW(a:List bF)(s0:Int×Int):Option ((Int×Int)⊕(Int⊕Int)):=
 cond (ZE (s0.2<(a.length:Int)))
 ((aA a s0.2).bind λy1=>
 (mr y1 s0.1).bind λy2=>
 cond (ZE (y2<0))
 (ZA (.inr (.inr (-1))))
 (ZA (.inl (y2,(aH (s0.2+1))))))
 (ZA (.inr (.inl s0.1)))
instance (a:List bF):bj (sW a):=⟨λs0=>(.sl (a.map b6)::vi s0.1::(U 3 (vi s0.2::(U 21 [])))),λs0=>[]⟩
def qb(a:List bF)(left:Int):Option Int:=
 cond (ZE ((aH (left-(a.length:Int)))<0))
 (ZA (-1))
 ((aD (sW a) NN ((aH (left-(a.length:Int))),0)).bind (bm (λo0=>
 ZA o0) (λr=>ZA r)))
instance (a:List bF)(left:Int):CT prog (qb a left):=⟨44,[.sl (a.map b6),vi left],[],λr=>vi r,λr=>[],cw (qb.eq_1 ..) func44 ntmps44 results44⟩
def oY(a:bH)(b:bH):Option Bool:=
 cond (!decide (a.nD=b.nD))
 (ZA ZD)
 (cond (!decide (a.ax=b.ax))
 (ZA ZD)
 (cond (!decide (a.lT=b.lT))
 (ZA ZD)
 (cond (!decide (a.nK=b.nK))
 (ZA ZD)
 (ZA ZC))))
instance (a:bH)(b:bH):CT prog (oY a b):=⟨156,[.ag (b9 a),.ag (b9 b)],[],λr=>vb r,λr=>[],cw (oY.eq_1 ..) func156 ntmps156 results156⟩
def o6(a:bH):Option bH:=
 ZA a
instance (a:bH):CT prog (o6 a):=⟨147,[.ag (b9 a)],[],λr=>.ag [vi r.nD,vi r.ax,vi r.lT,vi r.nK],λr=>[],cw (o6.eq_1 ..) func147 ntmps147 results147⟩
def sR(a:List bH)(b:List bH)(s0:Int):Option (Int⊕(Unit⊕Bool)):=
 cond (ZE (s0<(a.length:Int)))
 ((aA a s0).bind λy1=>
 (aA b s0).bind λy2=>
 (oY y1 y2).bind λy3=>
 cond (!y3)
 (ZA (.inr (.inr ZD)))
 (ZA (.inl (aH (s0+1)))))
 (ZA (.inr (.inl ())))
instance (a:List bH)(b:List bH):bj (sR a b):=⟨λs0=>(.sl (a.map b9)::.sl (b.map b9)::(U 3 (vi s0::(U 21 [])))),λs0=>[]⟩
def pS(a:List bH)(b:List bH):Option Bool:=
 cond (!decide ((a.length:Int)=(b.length:Int)))
 (ZA ZD)
 ((aD (sR a b) NN 0).bind (bm (λo0=>
 ZA ZC) (λr=>ZA r)))
instance (a:List bH)(b:List bH):CT prog (pS a b):=⟨65,[.sl (a.map b9),.sl (b.map b9)],[],λr=>vb r,λr=>[],cw (pS.eq_1 ..) func65 ntmps65 results65⟩
def sY(a:List bH)(s0:Int×(List bH)):Option ((Int×(List bH))⊕(List bH)):=
 cond (ZE (s0.1<(a.length:Int)))
 ((aA a s0.1).bind λy1=>
 (o6 y1).bind λy2=>
 (aA s0.2 s0.1).bind λy3=>
 ZA (.inl ((aH (s0.1+1)),(s0.2.set (V0 s0.1) y2))))
 (ZA (.inr s0.2))
instance (a:List bH):bj (sY a):=⟨λs0=>(.sl (a.map b9)::.un::.un::.ms 0::vi s0.1::(U 18 [])),λs0=>[ZA ⟨.of 107,4,s0.2.map b9⟩]⟩
def np(a:List bH):Option (List bH):=
 (dg (zF (a.length:Int) 32)).bind λ_=>
 (aD (sY a) NN (0,(VW (V0 (a.length:Int)) (⟨0,0,0,0⟩:bH)))).bind (λo0=>
 ZA o0)
instance (a:List bH):CT prog (np a):=⟨57,[.sl (a.map b9)],[],λr=>.ms 0,λr=>[ZA ⟨.of 107,4,r.map b9⟩],cw (np.eq_1 ..) func57 ntmps57 results57⟩
def pZ(a:List bH)(left:Int):Option Int:=
 cond (ZE ((aH (left-(a.length:Int)))<0))
 (ZA (-1))
 (ZA (aH (left-(a.length:Int))))
instance (a:List bH)(left:Int):CT prog (pZ a left):=⟨45,[.sl (a.map b9),vi left],[],λr=>vi r,λr=>[],cw (pZ.eq_1 ..) func45 ntmps45 results45⟩
def pV(a:fF)(left:Int):Option Int:=
 cond (ZE ((aH (left-(a.aX.size:Int)))<0))
 (ZA (-1))
 (ZA (aH (left-(a.aX.size:Int))))
instance (a:fF)(left:Int):CT prog (pV a left):=⟨124,[.ag (sE a),vi left],[],λr=>vi r,λr=>[],cw (pV.eq_1 ..) func124 ntmps124 results124⟩
def iz(a:aM)(left:Int):Option Int:=
 (pV a.label left).bind λy1=>
 cond (ZE (y1<0))
 (ZA (-1))
 (cond (ZE ((aH (y1-(a.ar.size:Int)))<0))
 (ZA (-1))
 ((kg a.bb (aH (y1-(a.ar.size:Int)))).bind λy2=>
 cond (ZE (y2<0))
 (ZA (-1))
 (ZA y2)))
instance (a:aM)(left:Int):CT prog (iz a left):=⟨49,[.ag (bq a),vi left],[],λr=>vi r,λr=>[],cw (iz.eq_1 ..) func49 ntmps49 results49⟩
def qR(a:List aM)(s0:Int×Int):Option ((Int×Int)⊕(Int⊕Int)):=
 cond (ZE (s0.2<(a.length:Int)))
 ((aA a s0.2).bind λy1=>
 (iz y1 s0.1).bind λy2=>
 cond (ZE (y2<0))
 (ZA (.inr (.inr (-1))))
 (ZA (.inl (y2,(aH (s0.2+1))))))
 (ZA (.inr (.inl s0.1)))
instance (a:List aM):bj (qR a):=⟨λs0=>(.sl (a.map bq)::vi s0.1::(U 3 (vi s0.2::(U 21 [])))),λs0=>[]⟩
def nh(a:List aM)(left:Int):Option Int:=
 cond (ZE ((aH (left-(a.length:Int)))<0))
 (ZA (-1))
 ((aD (qR a) NN ((aH (left-(a.length:Int))),0)).bind (bm (λo0=>
 ZA o0) (λr=>ZA r)))
instance (a:List aM)(left:Int):CT prog (nh a left):=⟨47,[.sl (a.map bq),vi left],[],λr=>vi r,λr=>[],cw (nh.eq_1 ..) func47 ntmps47 results47⟩
def gQ(a:ZJ)(left:Int):Option Int:=
 (iz a.av left).bind λy1=>
 cond (ZE (y1<0))
 (ZA (-1))
 (ZA y1)
instance (a:ZJ)(left:Int):CT prog (gQ a left):=⟨11,[.ag (ZK a),vi left],[],λr=>vi r,λr=>[],cw (gQ.eq_1 ..) func11 ntmps11 results11⟩
def tM(a:List ZJ)(s0:Int×Int):Option ((Int×Int)⊕(Int⊕Int)):=
 cond (ZE (s0.2<(a.length:Int)))
 ((aA a s0.2).bind λy1=>
 (gQ y1 s0.1).bind λy2=>
 cond (ZE (y2<0))
 (ZA (.inr (.inr (-1))))
 (ZA (.inl (y2,(aH (s0.2+1))))))
 (ZA (.inr (.inl s0.1)))
instance (a:List ZJ):bj (tM a):=⟨λs0=>(.sl (a.map ZK)::vi s0.1::(U 3 (vi s0.2::(U 21 [])))),λs0=>[]⟩
def ke(a:List ZJ)(left:Int):Option Int:=
 cond (ZE ((aH (left-(a.length:Int)))<0))
 (ZA (-1))
 ((aD (tM a) NN ((aH (left-(a.length:Int))),0)).bind (bm (λo0=>
 ZA o0) (λr=>ZA r)))
instance (a:List ZJ)(left:Int):CT prog (ke a left):=⟨20,[.sl (a.map ZK),vi left],[],λr=>vi r,λr=>[],cw (ke.eq_1 ..) func20 ntmps20 results20⟩
def pt(l:List ByteArray)(p:ByteArray)(s0:Int):Option (Int⊕(Unit⊕Int)):=
 cond (ZE (s0<(l.length:Int)))
 ((aA l s0).bind λy1=>
 cond (ZE (y1=p))
 (ZA (.inr (.inr s0)))
 (ZA (.inl (aH (s0+1)))))
 (ZA (.inr (.inl ())))
instance (l:List ByteArray)(p:ByteArray):bj (pt l p):=⟨λs0=>(.sl (l.map km)::vs p::(U 3 (vi s0::(U 13 [])))),λs0=>[]⟩
def bY(l:List ByteArray)(p:ByteArray):Option Int:=
 (aD (pt l p) NN 0).bind (bm (λo0=>
 ZA (-1)) (λr=>ZA r))
instance (l:List ByteArray)(p:ByteArray):CT prog (bY l p):=⟨285,[.sl (l.map km),vs p],[],λr=>vi r,λr=>[],cw (bY.eq_1 ..) func285 ntmps285 results285⟩
def mK(l:List aj)(bo:Int)(t:aw)(ab:Int)(s0:Int):Option (Int⊕(Unit⊕Bool)):=
 cond (ZE (s0<(l.length:Int)))
 ((aA l s0).bind λy1=>
 cond (ZE (y1=(⟨bo,t,ab⟩:aj)))
 (ZA (.inr (.inr ZC)))
 (ZA (.inl (aH (s0+1)))))
 (ZA (.inr (.inl ())))
instance (l:List aj)(bo:Int)(t:aw)(ab:Int):bj (mK l bo t ab):=⟨λs0=>(.sl (l.map aC)::vi bo::.un::vi ab::.un::.un::.be 0 0 0::.un::.un::vi s0::(U 15 [])),λs0=>[ZA ⟨.of 46,2,[[vi t.bG,vi t.day]]⟩]⟩
def nC(l:List aj)(bo:Int)(t:aw)(ab:Int):Option Bool:=
 (aD (mK l bo t ab) NN 0).bind (bm (λo0=>
 ZA ZD) (λr=>ZA r))
instance (l:List aj)(bo:Int)(t:aw)(ab:Int):CT prog (nC l bo t ab):=⟨287,[.sl (l.map aC),vi bo,.ag (aS t),vi ab],[],λr=>vb r,λr=>[],cw (nC.eq_1 ..) func287 ntmps287 results287⟩
def dN(l:List Int):Option (List Int):=
 (dg (bB ((([]:List Int):List Int).length+(l:List Int).length) 8)).bind λ_=>
 ZA ((([]:List Int):List Int)++l)
instance (l:List Int):CT prog (dN l):=⟨126,[.sl (l.map aI)],[],λr=>.ms 0,λr=>[ZA ⟨.of 3,1,r.map aI⟩],cw (dN.eq_1 ..) func126 ntmps126 results126⟩
def cK(l:List Int)(s0:Int×(List Int))(s1:Int):Option (Int⊕Int):=
 cond (ZE (s1<(s0.2.length:Int)))
 ((aA s0.2 s1).bind λy1=>
 (aA l s0.1).bind λy2=>
 cond (ZE (y2<=y1))
 (ZA (.inl (aH (s1+1))))
 (ZA (.inr s1)))
 (ZA (.inr s1))
instance (l:List Int)(s0:Int×(List Int)):bj (cK l s0):=⟨λs1=>(.sl (l.map aI)::.un::.un::.ms 0::vi s0.1::vi s1::(U 39 [])),λs1=>[ZA ⟨.of 3,1,s0.2.map aI⟩]⟩
def iq(l:List Int)(s0:Int×(List Int)):Option ((Int×(List Int))⊕(List Int)):=
 cond (ZE (s0.1<(l.length:Int)))
 ((aD (cK l s0) NN 0).bind (λo1=>
 (dg (iC 0 o1 s0.2.length)).bind λ_=>
 (dN (cZ s0.2 0 o1)).bind λy3=>
 (aA l s0.1).bind λy4=>
 (dg (bB ((y3:List Int).length+([y4]:List Int).length) 8)).bind λ_=>
 (dg (iC o1 (s0.2.length:Int) s0.2.length)).bind λ_=>
 (dg (bB ((((y3:List Int)++[y4]):List Int).length+((cZ s0.2 o1 (s0.2.length:Int)):List Int).length) 8)).bind λ_=>
 ZA (.inl ((aH (s0.1+1)),((((y3:List Int)++[y4]):List Int)++(cZ s0.2 o1 (s0.2.length:Int)))))))
 (ZA (.inr s0.2))
instance (l:List Int):bj (iq l):=⟨λs0=>(.sl (l.map aI)::.un::.un::.ms 0::vi s0.1::(U 40 [])),λs0=>[ZA ⟨.of 3,1,s0.2.map aI⟩]⟩
def nB(l:List Int):Option (List Int):=
 (aD (iq l) NN (0,([]:List Int))).bind (λo0=>
 ZA o0)
instance (l:List Int):CT prog (nB l):=⟨292,[.sl (l.map aI)],[],λr=>.ms 0,λr=>[ZA ⟨.of 3,1,r.map aI⟩],cw (nB.eq_1 ..) func292 ntmps292 results292⟩
def qg(a:bH)(b:bH):Option Bool:=
 cond (ZE (a.nD<b.nD))
 (ZA ZC)
 (cond (ZE (b.nD=a.nD))
 (cond (ZE (a.ax<b.ax))
 (ZA ZC)
 (cond (ZE (b.ax=a.ax))
 (cond (ZE (a.lT<b.lT))
 (ZA (ZE (a.nK<=b.nK)))
 (ZA ZD))
 (ZA ZD)))
 (ZA ZD))
instance (a:bH)(b:bH):CT prog (qg a b):=⟨225,[.ag (b9 a),.ag (b9 b)],[],λr=>vb r,λr=>[],cw (qg.eq_1 ..) func225 ntmps225 results225⟩
def ki(l:List aj):Option (List aj):=
 (dg (bB ((([]:List aj):List aj).length+(l:List aj).length) 32)).bind λ_=>
 ZA ((([]:List aj):List aj)++l)
instance (l:List aj):CT prog (ki l):=⟨218,[.sl (l.map aC)],[],λr=>.ms 0,λr=>[ZA ⟨.of 177,4,r.map aC⟩],cw (ki.eq_1 ..) func218 ntmps218 results218⟩
def il(w:az)(y1:(List Int))(s0:Int×(List ay)):Option ((Int×(List ay))⊕(List ay)):=
 cond (ZE (s0.1<(w.ae.length:Int)))
 ((aA w.ae s0.1).bind λy2=>
 (dg (bB ((([]:List aw):List aw).length+(y2.aK:List aw).length) 16)).bind λ_=>
 (vD (.un::.be 0 0 0::.be 1 0 0::.be 2 0 0::vi s0.1::.be 6 0 0::(U 59 [])) [ZA ⟨.of 33,10,[[.sl (w.aa.aB.map br),.sl (w.aa.off.map aI),vi w.aa.change,.sl (w.ae.map aY),.sl (w.aq.map aC),.sl (w.ah.map aS),vi w.now,.sl (w.aJ.map bt),.sl (w.skip.map aI),vi w.aT]]⟩,ZA ⟨.of 33,10,[[.v (.slice ZB 0 0),.v (.slice ZB 0 0),vi 0,.v (.slice ZB 0 0),.v (.slice ZB 0 0),.v (.slice ZB 0 0),vi 0,.v (.slice ZB 0 0),.v (.slice ZB 0 0),vi 0]]⟩,ZA ⟨.of 33,10,[[.ms 3,.ms 4,vi w.aa.change,.ms 5,.sl (w.aq.map aC),.sl (w.ah.map aS),vi w.now,.sl (w.aJ.map bt),.sl (w.skip.map aI),vi w.aT]]⟩,ZA ⟨.of 174,6,((([]:List bM):List bM)++w.aa.aB).map br⟩,ZA ⟨.of 3,1,y1.map aI⟩,ZA ⟨.of 155,11,s0.2.map aY⟩,ZA ⟨.of 155,11,[[vs y2.ar,vs y2.aX,vi y2.ax,vi y2.ab,vi y2.aO,vi y2.ec,.sl (((([]:List aw):List aw)++y2.aK).map aS),vi y2.aN,vi y2.state,vs y2.place,vi y2.bK]]⟩]).bind λ_=>
 (dg (bB ((s0.2:List ay).length+([(⟨y2.ar,y2.aX,y2.ax,y2.ab,y2.aO,y2.ec,((([]:List aw):List aw)++y2.aK),y2.aN,y2.state,y2.place,y2.bK⟩:ay)]:List ay).length) 128)).bind λ_=>
 ZA (.inl ((aH (s0.1+1)),((s0.2:List ay)++[(⟨y2.ar,y2.aX,y2.ax,y2.ab,y2.aO,y2.ec,((([]:List aw):List aw)++y2.aK),y2.aN,y2.state,y2.place,y2.bK⟩:ay)]))))
 (ZA (.inr s0.2))
instance (w:az)(y1:(List Int)):bj (il w y1):=⟨λs0=>(.un::.be 0 0 0::.be 1 0 0::.be 2 0 0::vi s0.1::(U 60 [])),λs0=>[ZA ⟨.of 33,10,[[.sl (w.aa.aB.map br),.sl (w.aa.off.map aI),vi w.aa.change,.sl (w.ae.map aY),.sl (w.aq.map aC),.sl (w.ah.map aS),vi w.now,.sl (w.aJ.map bt),.sl (w.skip.map aI),vi w.aT]]⟩,ZA ⟨.of 33,10,[[.v (.slice ZB 0 0),.v (.slice ZB 0 0),vi 0,.v (.slice ZB 0 0),.v (.slice ZB 0 0),.v (.slice ZB 0 0),vi 0,.v (.slice ZB 0 0),.v (.slice ZB 0 0),vi 0]]⟩,ZA ⟨.of 33,10,[[.ms 3,.ms 4,vi w.aa.change,.ms 5,.sl (w.aq.map aC),.sl (w.ah.map aS),vi w.now,.sl (w.aJ.map bt),.sl (w.skip.map aI),vi w.aT]]⟩,ZA ⟨.of 174,6,((([]:List bM):List bM)++w.aa.aB).map br⟩,ZA ⟨.of 3,1,y1.map aI⟩,ZA ⟨.of 155,11,s0.2.map aY⟩]⟩
def eV(w:az):Option az:=
 (dg (bB ((([]:List bM):List bM).length+(w.aa.aB:List bM).length) 64)).bind λ_=>
 (dN w.aa.off).bind λy1=>
 (aD (il w y1) NN (0,([]:List ay))).bind (λo0=>
 (ki w.aq).bind λy3=>
 (dg (bB ((([]:List aw):List aw).length+(w.ah:List aw).length) 16)).bind λ_=>
 (dg (bB ((([]:List bc):List bc).length+(w.aJ:List bc).length) 56)).bind λ_=>
 (dN w.skip).bind λy4=>
 ZA (⟨(⟨((([]:List bM):List bM)++w.aa.aB),y1,w.aa.change⟩:ak),o0,y3,((([]:List aw):List aw)++w.ah),w.now,((([]:List bc):List bc)++w.aJ),y4,w.aT⟩:az))
instance (w:az):CT prog (eV w):=⟨125,[.ag (fa w)],[],λr=>.ag [.ms 0,.ms 1,vi r.aa.change,.ms 2,.ms 3,.ms 4,vi r.now,.ms 5,.ms 6,vi r.aT],λr=>[ZA ⟨.of 174,6,r.aa.aB.map br⟩,ZA ⟨.of 3,1,r.aa.off.map aI⟩,ZA ⟨.of 155,11,r.ae.map aY⟩,ZA ⟨.of 177,4,r.aq.map aC⟩,ZA ⟨.of 46,2,r.ah.map aS⟩,ZA ⟨.of 181,6,r.aJ.map bt⟩,ZA ⟨.of 3,1,r.skip.map aI⟩],cw (eV.eq_1 ..) func125 ntmps125 results125⟩
def uj(n:ak)(l:List aj)(ah:List aw)(ab:Int):Option (ak×(List aw)×(List aj)×Int):=
 ZA (n,ah,l,ab)
instance (n:ak)(l:List aj)(ah:List aw)(ab:Int):CT prog (uj n l ah ab):=⟨274,[.ag (bE n),.sl (l.map aC),.sl (ah.map aS),vi ab],[],λr=>.fn 314 [.rp [.sl (r.1.aB.map br),.sl (r.1.off.map aI),vi r.1.change],.rp [.sl (r.2.1.map aS)],.rp [.sl (r.2.2.1.map aC)],.rp [vi r.2.2.2]],λr=>[],cw (uj.eq_1 ..) func274 ntmps274 results274⟩
def fm(p:aM):Option aM:=
 (dg (bB ((([]:List Int):List Int).length+(p.bb:List Int).length) 8)).bind λ_=>
 ZA (⟨p.label,p.ar,p.ab,((([]:List Int):List Int)++p.bb),p.value⟩:aM)
instance (p:aM):CT prog (fm p):=⟨96,[.ag (bq p)],[],λr=>.ag [vi r.label.ax,vi r.label.bZ,vs r.label.aX,vs r.ar,vi r.ab,.ms 0,vi r.value],λr=>[ZA ⟨.of 3,1,r.bb.map aI⟩],ck (fm.eq_1 ..) func96 ntmps96 results96⟩
def ee(a:ZJ):Option ZJ:=
 (fm a.av).bind λy1=>
 ZA (⟨a.kind,y1,a.order,a.bh,a.bn,a.aV⟩:ZJ)
instance (a:ZJ):CT prog (ee a):=⟨35,[.ag (ZK a)],[],λr=>.ag [vi r.kind,vi r.av.label.ax,vi r.av.label.bZ,vs r.av.label.aX,vs r.av.ar,vi r.av.ab,.ms 0,vi r.av.value,vi r.order,vi r.bh,vi r.bn,vi r.aV.bG,vi r.aV.day],λr=>[ZA ⟨.of 3,1,r.av.bb.map aI⟩],ck (ee.eq_1 ..) func35 ntmps35 results35⟩
def gy(p:aM):Option aM:=
 (dN p.bb).bind λy1=>
 ZA (⟨p.label,p.ar,p.ab,y1,p.value⟩:aM)
instance (p:aM):CT prog (gy p):=⟨54,[.ag (bq p)],[],λr=>.ag [vi r.label.ax,vi r.label.bZ,vs r.label.aX,vs r.ar,vi r.ab,.sl (r.bb.map aI),vi r.value],λr=>[],cw (gy.eq_1 ..) func54 ntmps54 results54⟩
def rZ(a:ak):Option ak:=
 (mu a.aB).bind λy1=>
 (eU a.off).bind λy2=>
 ZA (⟨y1,y2,a.change⟩:ak)
instance (a:ak):CT prog (rZ a):=⟨141,[.ag (bE a)],[],λr=>.ag [.ms 0,.ms 1,vi r.change],λr=>[ZA ⟨.of 174,6,r.aB.map br⟩,ZA ⟨.of 3,1,r.off.map aI⟩],ck (rZ.eq_1 ..) func141 ntmps141 results141⟩
end Go.Proofs.YtbalgkakkoocjaaGreat
