/- A part of the proof of the statement in the last file of this claim: texts on the language of the program and on its functions. No condition. -/
import Derived.Test.YtbalgkakkoocjaaGreatCJ6
import Derived.Test.YtbalgkakkoocjaaGreatCJ5
import Derived.Test.YtbalgkakkoocjaaGreatCJ7
import Derived.Test.YtbalgkakkoocjaaGreatCJ12
import Derived.Test.YtbalgkakkoocjaaGreatCJ14
import Derived.Test.YtbalgkakkoocjaaGreatCJ10
import Derived.Test.YtbalgkakkoocjaaGreatCJ13
import Derived.Test.YtbalgkakkoocjaaGreatCJ8
import Derived.Test.YtbalgkakkoocjaaGreatCJ11
import Derived.Test.YtbalgkakkoocjaaGreatCJ1
set_option linter.unusedVariables false
set_option linter.unusedSimpArgs false
set_option linter.unusedSectionVars false
open Option renaming some->ZA,none->ZB
open Bool renaming true->ZC,false->ZD
open Decidable renaming decide->ZE
open Go.Proofs.Tryz
set_option maxHeartbeats 40000000
namespace Go.Proofs.YtbalgkakkoocjaaGreat
set_option maxRecDepth 10000
open Go.RowKit
def j5(bn:Int)(s0:Int×Int×Int×Int×(List bM)×(List Int)×(List ay)×(List aj)×(List aw)×(List bc)×(List Int)):Option ((Int×Int×Int×Int×(List bM)×(List Int)×(List ay)×(List aj)×(List aw)×(List bc)×(List Int))⊕(Int×Int×Int×(List bM)×(List Int)×(List ay)×(List aj)×(List aw)×(List bc)×(List Int))):=
 cond (ZE (0<=s0.1))
 (cond (ZE (s0.1<=bn))
 ((nG [1,2,3,4,5,6,7,8]).bind λ_=>
 (l4 (⟨(⟨s0.2.2.2.2.1,s0.2.2.2.2.2.1,s0.2.1⟩:ak),s0.2.2.2.2.2.2.1,s0.2.2.2.2.2.2.2.1,s0.2.2.2.2.2.2.2.2.1,s0.2.2.1,s0.2.2.2.2.2.2.2.2.2.1,s0.2.2.2.2.2.2.2.2.2.2,s0.2.2.2.1⟩:az) s0.1).bind λy5=>
 (gn y5).bind λy6=>
 ZA (.inl (y6,y5.aa.change,y5.now,y5.aT,y5.aa.aB,y5.aa.off,y5.ae,y5.aq,y5.ah,y5.aJ,y5.skip)))
 (ZA (.inr (s0.2.1,s0.2.2.1,s0.2.2.2.1,s0.2.2.2.2.1,s0.2.2.2.2.2.1,s0.2.2.2.2.2.2.1,s0.2.2.2.2.2.2.2.1,s0.2.2.2.2.2.2.2.2.1,s0.2.2.2.2.2.2.2.2.2.1,s0.2.2.2.2.2.2.2.2.2.2))))
 (ZA (.inr (s0.2.1,s0.2.2.1,s0.2.2.2.1,s0.2.2.2.2.1,s0.2.2.2.2.2.1,s0.2.2.2.2.2.2.1,s0.2.2.2.2.2.2.2.1,s0.2.2.2.2.2.2.2.2.1,s0.2.2.2.2.2.2.2.2.2.1,s0.2.2.2.2.2.2.2.2.2.2)))
instance (bn:Int):bj (j5 bn):=⟨λs0=>(.un::vi bn::.un::.un::.be 0 0 0::.be 1 0 0::vi s0.1::(U 29 [])),λs0=>[ZA ⟨.of 33,10,[[.v (.slice ZB 0 0),.v (.slice ZB 0 0),vi 0,.v (.slice ZB 0 0),.v (.slice ZB 0 0),.v (.slice ZB 0 0),vi 0,.v (.slice ZB 0 0),.v (.slice ZB 0 0),vi 0]]⟩,ZA ⟨.of 33,10,[[.ms 2,.ms 3,vi s0.2.1,.ms 4,.ms 5,.ms 6,vi s0.2.2.1,.ms 7,.ms 8,vi s0.2.2.2.1]]⟩,ZA ⟨.of 174,6,s0.2.2.2.2.1.map br⟩,ZA ⟨.of 3,1,s0.2.2.2.2.2.1.map aI⟩,ZA ⟨⟨155,ZA 46⟩,11,s0.2.2.2.2.2.2.1.map aY⟩,ZA ⟨.of 177,4,s0.2.2.2.2.2.2.2.1.map aC⟩,ZA ⟨.of 46,2,s0.2.2.2.2.2.2.2.2.1.map aS⟩,ZA ⟨.of 181,6,s0.2.2.2.2.2.2.2.2.2.1.map bt⟩,ZA ⟨.of 3,1,s0.2.2.2.2.2.2.2.2.2.2.map aI⟩]⟩
def jO(w:az)(bn:Int):Option az:=
 (dC w).bind λy1=>
 (gN w).bind λy2=>
 cond (!y2)
 (ZA y1)
 ((aZ bn w.now 100000).bind λy3=>
 cond (!y3)
 (ZA y1)
 ((gn y1).bind λy4=>
 (aD (j5 bn) NN (y4,y1.aa.change,y1.now,y1.aT,y1.aa.aB,y1.aa.off,y1.ae,y1.aq,y1.ah,y1.aJ,y1.skip)).bind (λo0=>
 ZA (⟨(⟨o0.2.2.2.1,o0.2.2.2.2.1,o0.1⟩:ak),o0.2.2.2.2.2.1,o0.2.2.2.2.2.2.1,o0.2.2.2.2.2.2.2.1,bn,o0.2.2.2.2.2.2.2.2.1,o0.2.2.2.2.2.2.2.2.2,o0.2.2.1⟩:az))))
instance (w:az)(bn:Int):CT prog (jO w bn):=⟨110,[.ag (fa w),vi bn],[],λr=>.ag [.ms 0,.ms 1,vi r.aa.change,.ms 2,.ms 3,.ms 4,vi r.now,.ms 5,.ms 6,vi r.aT],λr=>[ZA ⟨.of 174,6,r.aa.aB.map br⟩,ZA ⟨.of 3,1,r.aa.off.map aI⟩,ZA ⟨⟨155,ZA 46⟩,11,r.ae.map aY⟩,ZA ⟨.of 177,4,r.aq.map aC⟩,ZA ⟨.of 46,2,r.ah.map aS⟩,ZA ⟨.of 181,6,r.aJ.map bt⟩,ZA ⟨.of 3,1,r.skip.map aI⟩],ck (jO.eq_1 ..) func110 ntmps110 results110⟩
def kI(o:ZI)(s0:Int):Option (Int⊕(Unit⊕Bool)):=
 cond (ZE (s0<(o.aG.length:Int)))
 ((aA o.aG s0).bind λy6=>
 (aA o.world.ae s0).bind λy7=>
 (mT o.aP o.aR y6).bind λy8=>
 cond (!y8.2)
 (ZA (.inr (.inr ZD)))
 (cond (!decide (y7.ar=y6.ar))
 (ZA (.inr (.inr ZD)))
 (cond (!decide (y7.aX=y6.label.aX))
 (ZA (.inr (.inr ZD)))
 (cond (!decide (y7.ax=y6.label.ax))
 (ZA (.inr (.inr ZD)))
 (cond (!decide (y7.ab=y6.ab))
 (ZA (.inr (.inr ZD)))
 ((dQ o.lines (aH (s0+1)) 1).bind λy9=>
 cond (!decide (y9=y8.1))
 (ZA (.inr (.inr ZD)))
 (ZA (.inl (aH (s0+1))))))))))
 (ZA (.inr (.inl ())))
instance (o:ZI):bj (kI o):=⟨λs0=>(.un::.be 0 0 0::.un::.be 1 0 0::(U 57 (.sl (o.aG.map bq)::vi (o.aG.length:Int)::vi s0::(U 92 [])))),λs0=>[ZA ⟨.of 40,16,[[.sl (o.world.aa.aB.map br),.sl (o.world.aa.off.map aI),vi o.world.aa.change,.sl (o.world.ae.map aY),.sl (o.world.aq.map aC),.sl (o.world.ah.map aS),vi o.world.now,.sl (o.world.aJ.map bt),.sl (o.world.skip.map aI),vi o.world.aT,.sl (o.aP.map b6),.sl (o.aR.map b9),.sl (o.aF.map aI),.sl (o.aG.map bq),.sl (o.lines.map bD),.sl (o.aE.map ZK)]]⟩,ZA ⟨.of 33,10,[[.sl (o.world.aa.aB.map br),.sl (o.world.aa.off.map aI),vi o.world.aa.change,.sl (o.world.ae.map aY),.sl (o.world.aq.map aC),.sl (o.world.ah.map aS),vi o.world.now,.sl (o.world.aJ.map bt),.sl (o.world.skip.map aI),vi o.world.aT]]⟩]⟩
def kJ(o:ZI)(s1:Int):Option (Int⊕(Unit⊕Bool)):=
 cond (ZE (s1<(o.lines.length:Int)))
 ((aA o.lines s1).bind λeE=>
 cond (ZE ((o.world.ae.length:Int)<eE.order))
 (ZA (.inr (.inr ZD)))
 (cond (ZE (o.world.now<eE.aO))
 (ZA (.inr (.inr ZD)))
 (ZA (.inl (aH (s1+1))))))
 (ZA (.inr (.inl ())))
instance (o:ZI):bj (kJ o):=⟨λs1=>(.un::.be 0 0 0::.un::.be 1 0 0::(U 121 (.sl (o.lines.map bD)::vi (o.lines.length:Int)::vi s1::(U 28 [])))),λs1=>[ZA ⟨.of 40,16,[[.sl (o.world.aa.aB.map br),.sl (o.world.aa.off.map aI),vi o.world.aa.change,.sl (o.world.ae.map aY),.sl (o.world.aq.map aC),.sl (o.world.ah.map aS),vi o.world.now,.sl (o.world.aJ.map bt),.sl (o.world.skip.map aI),vi o.world.aT,.sl (o.aP.map b6),.sl (o.aR.map b9),.sl (o.aF.map aI),.sl (o.aG.map bq),.sl (o.lines.map bD),.sl (o.aE.map ZK)]]⟩,ZA ⟨.of 33,10,[[.sl (o.world.aa.aB.map br),.sl (o.world.aa.off.map aI),vi o.world.aa.change,.sl (o.world.ae.map aY),.sl (o.world.aq.map aC),.sl (o.world.ah.map aS),vi o.world.now,.sl (o.world.aJ.map bt),.sl (o.world.skip.map aI),vi o.world.aT]]⟩]⟩
def kK(o:ZI)(s2:Int):Option (Int⊕(Unit⊕Bool)):=
 cond (ZE (s2<(o.aE.length:Int)))
 ((aA o.aE s2).bind λoq=>
 (gM oq).bind λsj=>
 cond (!sj)
 (ZA (.inr (.inr ZD)))
 (ZA (.inl (aH (s2+1)))))
 (ZA (.inr (.inl ())))
instance (o:ZI):bj (kK o):=⟨λs2=>(U 146 (.sl (o.aE.map ZK)::vi (o.aE.length:Int)::vi s2::(U 7 []))),λs2=>[]⟩
def oA(o:ZI):Option Bool:=
 (gN o.world).bind λy1=>
 cond (!y1)
 (ZA ZD)
 ((jG o.aP).bind λy2=>
 cond (!y2)
 (ZA ZD)
 ((lH o.aR (o.aP.length:Int)).bind λy3=>
 cond (!y3)
 (ZA ZD)
 ((eu o.aF).bind λy4=>
 cond (!y4)
 (ZA ZD)
 ((dS o.lines).bind λy5=>
 cond (!y5)
 (ZA ZD)
 (cond (!decide ((o.aG.length:Int)=(o.world.ae.length:Int)))
 (ZA ZD)
 (cond (ZE (150<(o.aE.length:Int)))
 (ZA ZD)
 ((aD (kI o) NN 0).bind (bm (λo0=>
 (aD (kJ o) NN 0).bind (bm (λo1=>
 (aD (kK o) NN 0).bind (bm (λo2=>
 ZA ZC) (λr=>ZA r))) (λr=>ZA r))) (λr=>ZA r)))))))))
instance (o:ZI):CT prog (oA o):=⟨30,[.ag (ZM o)],[],λr=>vb r,λr=>[],cw (oA.eq_1 ..) func30 ntmps30 results30⟩
def iw(n:ak)(l:List aj)(ah:List aw)(fb:ByteArray)(aX:ByteArray)(qO:Int)(ab:Int):Option ((List aw)×Bool):=
 (iN n l).bind λy1=>
 cond (!y1)
 (ZA ([],ZD))
 (cond (ZE (ab<1))
 (ZA ([],ZD))
 ((uj n l ah ab).bind λy2=>
 (qF n y2.1 y2.2.1 y2.2.2.1 y2.2.2.2 fb aX qO).bind λy3=>
 ZA (y3.1,y3.2)))
instance (n:ak)(l:List aj)(ah:List aw)(fb:ByteArray)(aX:ByteArray)(qO:Int)(ab:Int):CT prog (iw n l ah fb aX qO ab):=⟨201,[.ag (bE n),.sl (l.map aC),.sl (ah.map aS),vs fb,vs aX,vi qO,vi ab],[],λr=>.tu [.ms 0,vb r.2],λr=>[ZA ⟨.of 46,2,r.1.map aS⟩],cw (iw.eq_1 ..) func201 ntmps201 results201⟩
def fo(w:az)(cz:ByteArray)(aX:ByteArray)(ax:Int)(ab:Int):Option (az×Int×Bool):=
 (eV w).bind λy1=>
 (fQ w).bind λy2=>
 cond (!y2)
 (ZA (y1,0,ZD))
 (cond (ZE (30<=(w.ae.length:Int)))
 (ZA (y1,0,ZD))
 (cond (ZE (cz=aX))
 (ZA (y1,0,ZD))
 ((bf ax 1 3).bind λy3=>
 cond (!y3)
 (ZA (y1,0,ZD))
 ((bf ab 1 30000).bind λy4=>
 cond (!y4)
 (ZA (y1,0,ZD))
 ((bN w.aa w.aq w.ah cz aX (aH (w.now+1)) ab).bind λy5=>
 (cg w.aa w.aq (aH ((w.ae.length:Int)+1)) ab y5.1).bind λy6=>
 cond (!y5.2)
 (ZA (y1,0,ZD))
 (cond (!y6.2)
 (ZA (y1,0,ZD))
 ((kx w.aa ax cz aX (aH (w.now+1))).bind λy7=>
 (vD (.un::vs cz::(U 3 (.be 0 0 0::(U 4 (.be 1 0 0::.un::.un::.be 2 0 0::.un::.un::vi (aH ((w.ae.length:Int)+1))::.un::.un::.be 10 0 0::(U 99 [])))))) [ZA ⟨.of 33,10,[[.sl (w.aa.aB.map br),.sl (w.aa.off.map aI),vi w.aa.change,.sl (w.ae.map aY),.sl (w.aq.map aC),.sl (w.ah.map aS),vi w.now,.sl (w.aJ.map bt),.sl (w.skip.map aI),vi w.aT]]⟩,ZA ⟨.of 33,10,[[.v (.slice ZB 0 0),.v (.slice ZB 0 0),vi 0,.v (.slice ZB 0 0),.v (.slice ZB 0 0),.v (.slice ZB 0 0),vi 0,.v (.slice ZB 0 0),.v (.slice ZB 0 0),vi 0]]⟩,ZA ⟨.of 33,10,[[.ms 3,.ms 4,vi y1.aa.change,.ms 5,.ms 6,.ms 7,vi y1.now,.ms 8,.ms 9,vi y1.aT]]⟩,ZA ⟨.of 174,6,y1.aa.aB.map br⟩,ZA ⟨.of 3,1,y1.aa.off.map aI⟩,ZA ⟨.of 155,11,y1.ae.map aY⟩,ZA ⟨.of 177,4,y6.1.map aC⟩,ZA ⟨.of 46,2,y1.ah.map aS⟩,ZA ⟨.of 181,6,y1.aJ.map bt⟩,ZA ⟨.of 3,1,y1.skip.map aI⟩,ZA ⟨.of 155,11,[[vs cz,vs aX,vi ax,vi ab,vi w.now,vi y7,.sl (y5.1.map aS),vi 0,vi 1,vs cz,vi 0]]⟩]).bind λ_=>
 (dg (bB ((y1.ae:List ay).length+([(⟨cz,aX,ax,ab,w.now,y7,y5.1,0,1,cz,0⟩:ay)]:List ay).length) 128)).bind λ_=>
 (nG [2,3,4,12,6,7,8,9]).bind λ_=>
 (fM (⟨y1.aa,((y1.ae:List ay)++[(⟨cz,aX,ax,ab,w.now,y7,y5.1,0,1,cz,0⟩:ay)]),y6.1,y1.ah,y1.now,y1.aJ,y1.skip,y1.aT⟩:az) (⟨(aH ((w.ae.length:Int)+1)),w.now,1,cz,(⟨0,0⟩:aw)⟩:bc)).bind λy8=>
 ZA (y8,(aH ((w.ae.length:Int)+1)),ZC))))))))
instance (w:az)(cz:ByteArray)(aX:ByteArray)(ax:Int)(ab:Int):CT prog (fo w cz aX ax ab):=⟨233,[.ag (fa w),vs cz,vs aX,vi ax,vi ab],[],λr=>.tu [.ag [.ms 0,.ms 1,vi r.1.aa.change,.ms 2,.ms 3,.ms 4,vi r.1.now,.ms 5,.ms 6,vi r.1.aT],vi r.2.1,vb r.2.2],λr=>[ZA ⟨.of 174,6,r.1.aa.aB.map br⟩,ZA ⟨.of 3,1,r.1.aa.off.map aI⟩,ZA ⟨.of 155,11,r.1.ae.map aY⟩,ZA ⟨.of 177,4,r.1.aq.map aC⟩,ZA ⟨.of 46,2,r.1.ah.map aS⟩,ZA ⟨.of 181,6,r.1.aJ.map bt⟩,ZA ⟨.of 3,1,r.1.skip.map aI⟩],cw (fo.eq_1 ..) func233 ntmps233 results233⟩
def fq(t:aw)(s0:Int×Int×Int×Int×(List bM)×(List Int)×(List ay)×(List aj)×(List aw)×(List bc)×(List Int)):Option ((Int×Int×Int×Int×(List bM)×(List Int)×(List ay)×(List aj)×(List aw)×(List bc)×(List Int))⊕(Int×Int×Int×(List bM)×(List Int)×(List ay)×(List aj)×(List aw)×(List bc)×(List Int))):=
 cond (ZE (s0.1<(s0.2.2.2.2.2.2.1.length:Int)))
 ((aA s0.2.2.2.2.2.2.1 s0.1).bind λy6=>
 (eW y6).bind λy7=>
 (dg (iC y7 (y6.aK.length:Int) y6.aK.length)).bind λ_=>
 (dw (cZ y6.aK y7 (y6.aK.length:Int)) t).bind λy8=>
 cond y8
 ((nG [2,3,4,5,6,7,8,9]).bind λ_=>
 (ew (⟨(⟨s0.2.2.2.2.1,s0.2.2.2.2.2.1,s0.2.1⟩:ak),s0.2.2.2.2.2.2.1,s0.2.2.2.2.2.2.2.1,s0.2.2.2.2.2.2.2.2.1,s0.2.2.1,s0.2.2.2.2.2.2.2.2.2.1,s0.2.2.2.2.2.2.2.2.2.2,s0.2.2.2.1⟩:az) s0.1).bind λy9=>
 ZA (.inl ((aH (s0.1+1)),y9.aa.change,y9.now,y9.aT,y9.aa.aB,y9.aa.off,y9.ae,y9.aq,y9.ah,y9.aJ,y9.skip)))
 (ZA (.inl ((aH (s0.1+1)),s0.2.1,s0.2.2.1,s0.2.2.2.1,s0.2.2.2.2.1,s0.2.2.2.2.2.1,s0.2.2.2.2.2.2.1,s0.2.2.2.2.2.2.2.1,s0.2.2.2.2.2.2.2.2.1,s0.2.2.2.2.2.2.2.2.2.1,s0.2.2.2.2.2.2.2.2.2.2))))
 (ZA (.inr (s0.2.1,s0.2.2.1,s0.2.2.2.1,s0.2.2.2.2.1,s0.2.2.2.2.2.1,s0.2.2.2.2.2.2.1,s0.2.2.2.2.2.2.2.1,s0.2.2.2.2.2.2.2.2.1,s0.2.2.2.2.2.2.2.2.2.1,s0.2.2.2.2.2.2.2.2.2.2)))
instance (t:aw):bj (fq t):=⟨λs0=>(U 3 (.be 0 0 0::.be 1 0 0::.un::.be 2 0 0::vi s0.1::(U 63 []))),λs0=>[ZA ⟨.of 46,2,[[vi t.bG,vi t.day]]⟩,ZA ⟨.of 33,10,[[.v (.slice ZB 0 0),.v (.slice ZB 0 0),vi 0,.v (.slice ZB 0 0),.v (.slice ZB 0 0),.v (.slice ZB 0 0),vi 0,.v (.slice ZB 0 0),.v (.slice ZB 0 0),vi 0]]⟩,ZA ⟨.of 33,10,[[.ms 3,.ms 4,vi s0.2.1,.ms 5,.ms 6,.ms 7,vi s0.2.2.1,.ms 8,.ms 9,vi s0.2.2.2.1]]⟩,ZA ⟨.of 174,6,s0.2.2.2.2.1.map br⟩,ZA ⟨.of 3,1,s0.2.2.2.2.2.1.map aI⟩,ZA ⟨.of 155,11,s0.2.2.2.2.2.2.1.map aY⟩,ZA ⟨.of 177,4,s0.2.2.2.2.2.2.2.1.map aC⟩,ZA ⟨.of 46,2,s0.2.2.2.2.2.2.2.2.1.map aS⟩,ZA ⟨.of 181,6,s0.2.2.2.2.2.2.2.2.2.1.map bt⟩,ZA ⟨.of 3,1,s0.2.2.2.2.2.2.2.2.2.2.map aI⟩]⟩
def eh(w:az)(t:aw):Option (az×Bool):=
 (eV w).bind λy1=>
 (fQ w).bind λy2=>
 cond (!y2)
 (ZA (y1,ZD))
 ((dE w.aa t).bind λy3=>
 cond (!y3)
 (ZA (y1,ZD))
 ((bw w.aa t).bind λy4=>
 cond (ZE (y4<=w.now))
 (ZA (y1,ZD))
 ((dw w.ah t).bind λy5=>
 cond y5
 (ZA (y1,ZD))
 (cond (ZE (20<=(w.ah.length:Int)))
 (ZA (y1,ZD))
 ((dg (bB ((y1.ah:List aw).length+([t]:List aw).length) 16)).bind λ_=>
 (aD (fq t) NN (0,y1.aa.change,y1.now,y1.aT,y1.aa.aB,y1.aa.off,y1.ae,y1.aq,((y1.ah:List aw)++[t]),y1.aJ,y1.skip)).bind (λo0=>
 ZA ((⟨(⟨o0.2.2.2.1,o0.2.2.2.2.1,o0.1⟩:ak),o0.2.2.2.2.2.1,o0.2.2.2.2.2.2.1,o0.2.2.2.2.2.2.2.1,o0.2.1,o0.2.2.2.2.2.2.2.2.1,o0.2.2.2.2.2.2.2.2.2,o0.2.2.1⟩:az),ZC)))))))
instance (w:az)(t:aw):CT prog (eh w t):=⟨139,[.ag (fa w),.ag (aS t)],[],λr=>.tu [.ag [.ms 0,.ms 1,vi r.1.aa.change,.ms 2,.ms 3,.ms 4,vi r.1.now,.ms 5,.ms 6,vi r.1.aT],vb r.2],λr=>[ZA ⟨.of 174,6,r.1.aa.aB.map br⟩,ZA ⟨.of 3,1,r.1.aa.off.map aI⟩,ZA ⟨.of 155,11,r.1.ae.map aY⟩,ZA ⟨.of 177,4,r.1.aq.map aC⟩,ZA ⟨.of 46,2,r.1.ah.map aS⟩,ZA ⟨.of 181,6,r.1.aJ.map bt⟩,ZA ⟨.of 3,1,r.1.skip.map aI⟩],cw (eh.eq_1 ..) func139 ntmps139 results139⟩
def dY(y2:(List Int))(s0:Int×Int×Int×Int×(List bM)×(List Int)×(List ay)×(List aj)×(List aw)×(List bc)×(List Int)):Option ((Int×Int×Int×Int×(List bM)×(List Int)×(List ay)×(List aj)×(List aw)×(List bc)×(List Int))⊕(Int×Int×Int×(List bM)×(List Int)×(List ay)×(List aj)×(List aw)×(List bc)×(List Int))):=
 cond (ZE (s0.1<(y2.length:Int)))
 ((aA y2 s0.1).bind λy3=>
 (nG [1,2,3,4,5,6,7,8]).bind λ_=>
 (ew (⟨(⟨s0.2.2.2.2.1,s0.2.2.2.2.2.1,s0.2.1⟩:ak),s0.2.2.2.2.2.2.1,s0.2.2.2.2.2.2.2.1,s0.2.2.2.2.2.2.2.2.1,s0.2.2.1,s0.2.2.2.2.2.2.2.2.2.1,s0.2.2.2.2.2.2.2.2.2.2,s0.2.2.2.1⟩:az) (aH (y3-1))).bind λy4=>
 ZA (.inl ((aH (s0.1+1)),y4.aa.change,y4.now,y4.aT,y4.aa.aB,y4.aa.off,y4.ae,y4.aq,y4.ah,y4.aJ,y4.skip)))
 (ZA (.inr (s0.2.1,s0.2.2.1,s0.2.2.2.1,s0.2.2.2.2.1,s0.2.2.2.2.2.1,s0.2.2.2.2.2.2.1,s0.2.2.2.2.2.2.2.1,s0.2.2.2.2.2.2.2.2.1,s0.2.2.2.2.2.2.2.2.2.1,s0.2.2.2.2.2.2.2.2.2.2)))
instance (y2:(List Int)):bj (dY y2):=⟨λs0=>(.un::.un::.be 0 0 0::.un::.be 1 0 0::.ms 9::vi s0.1::(U 23 [])),λs0=>[ZA ⟨.of 33,10,[[.v (.slice ZB 0 0),.v (.slice ZB 0 0),vi 0,.v (.slice ZB 0 0),.v (.slice ZB 0 0),.v (.slice ZB 0 0),vi 0,.v (.slice ZB 0 0),.v (.slice ZB 0 0),vi 0]]⟩,ZA ⟨.of 33,10,[[.ms 2,.ms 3,vi s0.2.1,.ms 4,.ms 5,.ms 6,vi s0.2.2.1,.ms 7,.ms 8,vi s0.2.2.2.1]]⟩,ZA ⟨.of 174,6,s0.2.2.2.2.1.map br⟩,ZA ⟨.of 3,1,s0.2.2.2.2.2.1.map aI⟩,ZA ⟨.of 155,11,s0.2.2.2.2.2.2.1.map aY⟩,ZA ⟨.of 177,4,s0.2.2.2.2.2.2.2.1.map aC⟩,ZA ⟨.of 46,2,s0.2.2.2.2.2.2.2.2.1.map aS⟩,ZA ⟨.of 181,6,s0.2.2.2.2.2.2.2.2.2.1.map bt⟩,ZA ⟨.of 3,1,s0.2.2.2.2.2.2.2.2.2.2.map aI⟩,ZA ⟨.of 3,1,y2.map aI⟩]⟩
def et(w:az):Option (az×Int):=
 (eV w).bind λy1=>
 (hZ w).bind λy2=>
 (aD (dY y2) NN (0,y1.aa.change,y1.now,y1.aT,y1.aa.aB,y1.aa.off,y1.ae,y1.aq,y1.ah,y1.aJ,y1.skip)).bind (λo0=>
 (hZ (⟨(⟨o0.2.2.2.1,o0.2.2.2.2.1,o0.1⟩:ak),o0.2.2.2.2.2.1,o0.2.2.2.2.2.2.1,o0.2.2.2.2.2.2.2.1,o0.2.1,o0.2.2.2.2.2.2.2.2.1,o0.2.2.2.2.2.2.2.2.2,o0.2.2.1⟩:az)).bind λy5=>
 ZA ((⟨(⟨o0.2.2.2.1,o0.2.2.2.2.1,o0.1⟩:ak),o0.2.2.2.2.2.1,o0.2.2.2.2.2.2.1,o0.2.2.2.2.2.2.2.1,o0.2.1,o0.2.2.2.2.2.2.2.2.1,o0.2.2.2.2.2.2.2.2.2,o0.2.2.1⟩:az),(aH ((y2.length:Int)-(y5.length:Int)))))
instance (w:az):CT prog (et w):=⟨140,[.ag (fa w)],[],λr=>.tu [.ag [.ms 0,.ms 1,vi r.1.aa.change,.ms 2,.ms 3,.ms 4,vi r.1.now,.ms 5,.ms 6,vi r.1.aT],vi r.2],λr=>[ZA ⟨.of 174,6,r.1.aa.aB.map br⟩,ZA ⟨.of 3,1,r.1.aa.off.map aI⟩,ZA ⟨.of 155,11,r.1.ae.map aY⟩,ZA ⟨.of 177,4,r.1.aq.map aC⟩,ZA ⟨.of 46,2,r.1.ah.map aS⟩,ZA ⟨.of 181,6,r.1.aJ.map bt⟩,ZA ⟨.of 3,1,r.1.skip.map aI⟩],cw (et.eq_1 ..) func140 ntmps140 results140⟩
end Go.Proofs.YtbalgkakkoocjaaGreat
