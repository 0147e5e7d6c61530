/- A part of the proof of the statement in the last file of this claim: texts on the language of the program and on its functions. No condition. -/
import Derived.Test.YtdilaemengjipaaGreatDoorCA4
import Derived.Test.YtdilaemengjipaaGreatDoorCA8
import Derived.Test.YtdilaemengjipaaGreatDoorCA24
import Derived.Test.YtdilaemengjipaaGreatDoorCA21
import Derived.Test.YtdilaemengjipaaGreatDoorCA25
import Derived.Test.YtdilaemengjipaaGreatDoorCA22
import Derived.Test.YtdilaemengjipaaGreatDoorCA14
import Derived.Test.YtdilaemengjipaaGreatDoorCA12
import Derived.Test.YtdilaemengjipaaGreatDoorCA17
import Derived.Test.YtdilaemengjipaaGreatDoorCA23
import Derived.Test.YtdilaemengjipaaGreatDoorCA1
set_option linter.unusedVariables false
set_option linter.unusedSimpArgs false
set_option linter.unusedSectionVars false
open Option renaming some->YH,none->YI
open Bool renaming true->YJ,false->YK
open Decidable renaming decide->YL
open Go.Proofs.Tryz
set_option maxHeartbeats 40000000
namespace Go.Proofs.YtdilaemengjipaaGreatDoor
open _root_.Int renaming toNat->Wd
set_option maxRecDepth 10000
open Go.RowKit
def lh(o:aL)(a:bV):Option (Int×aL):=
 cond (YL (a.kind=1))
 ((bh [0,1,2,3,4,5,6]).bind λ_=>
 (lM o a.aQ).bind λy1=>
 YH (y1.1,y1.2))
 (cond (YL (a.kind=2))
 (cond (YL (a.kind=2))
 ((bh [0,1,2,3,4,5,6]).bind λ_=>
 (iM o a).bind λy2=>
 YH (y2.1,y2.2))
 (cond (YL (a.kind=3))
 (cond (YL (a.bM<=o.world.now))
 (YH (6,o))
 ((kR 8 []).bind λ_=>
 (dv o.world a.bM).bind λy3=>
 YH (0,(⟨y3,o.aY,o.aX,o.aM,o.aK,o.lines,o.aF⟩:aL))))
 (cond (YL (a.kind=4))
 ((kR 8 []).bind λ_=>
 (cJ o.world a.bj).bind λy4=>
 cond (!y4.2)
 (YH (6,o))
 (YH (0,(⟨y4.1,o.aY,o.aX,o.aM,o.aK,o.lines,o.aF⟩:aL))))
 ((cD o.world).bind λy5=>
 cond (YL (y5.2=0))
 (YH (6,o))
 (YH (0,(⟨y5.1,o.aY,o.aX,o.aM,o.aK,o.lines,o.aF⟩:aL)))))))
 (cond (YL (a.kind=6))
 ((bh [0,1,2,3,4,5,6]).bind λ_=>
 (iM o a).bind λy6=>
 YH (y6.1,y6.2))
 (cond (YL (a.kind=3))
 (cond (YL (a.bM<=o.world.now))
 (YH (6,o))
 ((kR 8 []).bind λ_=>
 (dv o.world a.bM).bind λy7=>
 YH (0,(⟨y7,o.aY,o.aX,o.aM,o.aK,o.lines,o.aF⟩:aL))))
 (cond (YL (a.kind=4))
 ((kR 8 []).bind λ_=>
 (cJ o.world a.bj).bind λy8=>
 cond (!y8.2)
 (YH (6,o))
 (YH (0,(⟨y8.1,o.aY,o.aX,o.aM,o.aK,o.lines,o.aF⟩:aL))))
 ((cD o.world).bind λy9=>
 cond (YL (y9.2=0))
 (YH (6,o))
 (YH (0,(⟨y9.1,o.aY,o.aX,o.aM,o.aK,o.lines,o.aF⟩:aL))))))))
instance (o:aL)(a:bV):CT prog (lh o a):=⟨111,[.be 0 0 0,.ag (gF a)],[YH ⟨.of 40,16,[[.sl (o.world.aa.aA.map bn),.sl (o.world.aa.off.map aE),vi o.world.aa.change,.sl (o.world.ae.map ba),.sl (o.world.ar.map aC),.sl (o.world.ah.map aW),vi o.world.now,.sl (o.world.aH.map bt),.sl (o.world.skip.map aE),vi o.world.bd,.ms 1,.ms 2,.ms 3,.ms 4,.ms 5,.ms 6]]⟩,YH ⟨.of 78,2,o.aY.map cG⟩,YH ⟨.of 81,4,o.aX.map cI⟩,YH ⟨.of 3,1,o.aM.map aE⟩,YH ⟨.of 44,7,o.aK.map bJ⟩,YH ⟨.of 85,4,o.lines.map bC⟩,YH ⟨.of 48,13,o.aF.map gF⟩],λr=>vi r.1,λr=>[YH ⟨.of 40,16,[[.sl (r.2.world.aa.aA.map bn),.sl (r.2.world.aa.off.map aE),vi r.2.world.aa.change,.sl (r.2.world.ae.map ba),.sl (r.2.world.ar.map aC),.sl (r.2.world.ah.map aW),vi r.2.world.now,.sl (r.2.world.aH.map bt),.sl (r.2.world.skip.map aE),vi r.2.world.bd,.ms 1,.ms 2,.ms 3,.ms 7,.ms 8,.ms 6]]⟩,YH ⟨.of 78,2,r.2.aY.map cG⟩,YH ⟨.of 81,4,r.2.aX.map cI⟩,YH ⟨.of 3,1,r.2.aM.map aE⟩,YI,YI,YH ⟨.of 48,13,r.2.aF.map gF⟩,YH ⟨.of 44,7,r.2.aK.map bJ⟩,YH ⟨.of 85,4,r.2.lines.map bC⟩],cw (lh.eq_1 ..) func111 ntmps111 results111⟩
def mC(o:aL)(a:bV):Option (aL×Int):=
 (iJ o).bind λy1=>
 (ll o).bind λy2=>
 cond (!y2)
 (YH (y1,1))
 ((lS a).bind λy3=>
 cond (!y3)
 (YH (y1,1))
 (cond (YL (150<=(o.aF.length:Int)))
 (YH (y1,5))
 ((bh [9,3,4,5,6,7,8]).bind λ_=>
 (lh y1 a).bind λy4=>
 cond (!decide (y4.1=0))
 ((iJ o).bind λy5=>
 YH (y5,y4.1))
 ((gC a.aQ).bind λy6=>
 (bW (bm ((y4.2.aF:List bV).length+([(⟨a.kind,y6,a.order,a.bz,a.bM,a.bj⟩:bV)]:List bV).length) 136)).bind λ_=>
 YH ((⟨y4.2.world,y4.2.aY,y4.2.aX,y4.2.aM,y4.2.aK,y4.2.lines,((y4.2.aF:List bV)++[(⟨a.kind,y6,a.order,a.bz,a.bM,a.bj⟩:bV)])⟩:aL),y4.1)))))
instance (o:aL)(a:bV):CT prog (mC o a):=⟨54,[.ag (lx o),.ag (gF a)],[],λr=>.tu [.ag [.sl (r.1.world.aa.aA.map bn),.sl (r.1.world.aa.off.map aE),vi r.1.world.aa.change,.sl (r.1.world.ae.map ba),.sl (r.1.world.ar.map aC),.sl (r.1.world.ah.map aW),vi r.1.world.now,.sl (r.1.world.aH.map bt),.sl (r.1.world.skip.map aE),vi r.1.world.bd,.sl (r.1.aY.map cG),.sl (r.1.aX.map cI),.sl (r.1.aM.map aE),.ms 0,.sl (r.1.lines.map bC),.ms 1],vi r.2],λr=>[YH ⟨.of 44,7,r.1.aK.map bJ⟩,YH ⟨.of 48,13,r.1.aF.map gF⟩],cw (mC.eq_1 ..) func54 ntmps54 results54⟩
def mD(c:aO)(w:ax):Option (ax×aO):=
 (bh [0]).bind λ_=>
 (aw c 6).bind λy1=>
 cond (YL (y1.1=0))
 (cond (YL (y1.1=0))
 ((kR 8 [4,8,10,13]).bind λ_=>
 (bh [0]).bind λ_=>
 (cx y1.2 w.aa).bind λy2=>
 (bh [0]).bind λ_=>
 (cx y2.2 w.aa).bind λy3=>
 (bh [0]).bind λ_=>
 (aw y3.2 3).bind λy4=>
 (bh [0]).bind λ_=>
 (aw y4.2 4000).bind λy5=>
 (cQ w y2.1 y3.1 (aI (1+y4.1)) (aI (500+y5.1))).bind λy6=>
 YH (y6.1,y5.2))
 (cond (YL (y1.1=3))
 ((kR 8 [3]).bind λ_=>
 (bh [0]).bind λ_=>
 (dO y1.2 w).bind λy7=>
 (cJ w y7.1).bind λy8=>
 YH (y8.1,y7.2))
 (cond (YL (y1.1=4))
 ((cD w).bind λy9=>
 YH (y9.1,y1.2))
 ((kR 8 [4]).bind λ_=>
 (bh [0]).bind λ_=>
 (aw y1.2 40).bind λdL=>
 (dv w (aI (w.now+(aI (30*dL.1))))).bind λji=>
 YH (ji,dL.2)))))
 (cond (YL (y1.1=1))
 (cond (YL (y1.1=1))
 ((kR 8 [4,8,10,13]).bind λ_=>
 (bh [0]).bind λ_=>
 (cx y1.2 w.aa).bind λoX=>
 (bh [0]).bind λ_=>
 (cx oX.2 w.aa).bind λmf=>
 (bh [0]).bind λ_=>
 (aw mf.2 3).bind λkX=>
 (bh [0]).bind λ_=>
 (aw kX.2 4000).bind λpg=>
 (cQ w oX.1 mf.1 (aI (1+kX.1)) (aI (500+pg.1))).bind λmu=>
 YH (mu.1,pg.2))
 (cond (YL (y1.1=3))
 ((kR 8 [3]).bind λ_=>
 (bh [0]).bind λ_=>
 (dO y1.2 w).bind λrn=>
 (cJ w rn.1).bind λsi=>
 YH (si.1,rn.2))
 (cond (YL (y1.1=4))
 ((cD w).bind λvH=>
 YH (vH.1,y1.2))
 ((kR 8 [4]).bind λ_=>
 (bh [0]).bind λ_=>
 (aw y1.2 40).bind λAJ=>
 (dv w (aI (w.now+(aI (30*AJ.1))))).bind λxp=>
 YH (xp,AJ.2)))))
 (cond (YL (y1.1=2))
 ((kR 8 [4,8,10,13]).bind λ_=>
 (bh [0]).bind λ_=>
 (cx y1.2 w.aa).bind λAq=>
 (bh [0]).bind λ_=>
 (cx Aq.2 w.aa).bind λFa=>
 (bh [0]).bind λ_=>
 (aw Fa.2 3).bind λy24=>
 (bh [0]).bind λ_=>
 (aw y24.2 4000).bind λTI=>
 (cQ w Aq.1 Fa.1 (aI (1+y24.1)) (aI (500+TI.1))).bind λy26=>
 YH (y26.1,TI.2))
 (cond (YL (y1.1=3))
 ((kR 8 [3]).bind λ_=>
 (bh [0]).bind λ_=>
 (dO y1.2 w).bind λy27=>
 (cJ w y27.1).bind λy28=>
 YH (y28.1,y27.2))
 (cond (YL (y1.1=4))
 ((cD w).bind λy29=>
 YH (y29.1,y1.2))
 ((kR 8 [4]).bind λ_=>
 (bh [0]).bind λ_=>
 (aw y1.2 40).bind λTJ=>
 (dv w (aI (w.now+(aI (30*TJ.1))))).bind λy31=>
 YH (y31,TJ.2))))))
instance (c:aO)(w:ax):CT prog (mD c w):=⟨193,[.be 0 0 0,.ag (fY w)],[YH ⟨.of 119,3,[[.sl (c.b.map YQ),vi c.i,vi c.h]]⟩],λr=>.ag [.ms 1,.ms 2,vi r.1.aa.change,.ms 3,.ms 4,.ms 5,vi r.1.now,.ms 6,.ms 7,vi r.1.bd],λr=>[YH ⟨.of 119,3,[[.sl (r.2.b.map YQ),vi r.2.i,vi r.2.h]]⟩,YH ⟨.of 144,6,r.1.aa.aA.map bn⟩,YH ⟨.of 3,1,r.1.aa.off.map aE⟩,YH ⟨.of 94,11,r.1.ae.map ba⟩,YH ⟨.of 147,4,r.1.ar.map aC⟩,YH ⟨.of 46,2,r.1.ah.map aW⟩,YH ⟨.of 151,6,r.1.aH.map bt⟩,YH ⟨.of 3,1,r.1.skip.map aE⟩],cw (mD.eq_1 ..) func193 ntmps193 results193⟩
def oz(iC:Int)(y1:aj×aO)(s0:Int×(List YR)×Int×Int×(List bK)):Option ((Int×(List YR)×Int×Int×(List bK))⊕((List YR)×Int×Int×(List bK))):=
 cond (YL (s0.1<(s0.2.2.2.2.length:Int)))
 ((bh [0]).bind λ_=>
 (bP (⟨s0.2.1,s0.2.2.1,s0.2.2.2.1⟩:aO) 2).bind λy2=>
 cond y2.1
 ((kR 8 [4]).bind λ_=>
 (bh [0]).bind λ_=>
 (aw y2.2 9).bind λy3=>
 (aB s0.2.2.2.2 s0.1).bind λy4=>
 YH (.inl ((aI (s0.1+1)),y3.2.b,y3.2.i,y3.2.h,(s0.2.2.2.2.set (Wd s0.1) (⟨y4.au,y4.a8,y4.start,y4.mP,y4.uK,(aI (2000+(aI (1000*y3.1))))⟩:bK)))))
 (YH (.inl ((aI (s0.1+1)),y2.2.b,y2.2.i,y2.2.h,s0.2.2.2.2))))
 (YH (.inr (s0.2.1,s0.2.2.1,s0.2.2.2.1,s0.2.2.2.2)))
instance (iC:Int)(y1:aj×aO):bo (oz iC y1):=⟨λs0=>(.be 0 0 0::vi iC::.un::.un::.be 1 0 0::.be 2 0 0::vi s0.1::(U 55 [])),λs0=>[YH ⟨.of 119,3,[[.sl (s0.2.1.map YQ),vi s0.2.2.1,vi s0.2.2.2.1]]⟩,YH ⟨.of 33,10,[[.v (.slice YI 0 0),.v (.slice YI 0 0),vi 0,.v (.slice YI 0 0),.v (.slice YI 0 0),.v (.slice YI 0 0),vi 0,.v (.slice YI 0 0),.v (.slice YI 0 0),vi 0]]⟩,YH ⟨.of 27,3,[[.ms 3,.ms 4,vi y1.1.change]]⟩,YH ⟨.of 144,6,s0.2.2.2.2.map bn⟩,YH ⟨.of 3,1,y1.1.off.map aE⟩]⟩
def oA(iC:Int)(y1:aj×aO)(o0:(List YR)×Int×Int×(List bK))(s1:Int×(List YR)×Int×Int×(List Int)):Option ((Int×(List YR)×Int×Int×(List Int))⊕((List YR)×Int×Int×(List Int))):=
 cond (YL (0<s1.1))
 ((bh [0]).bind λ_=>
 (aw (⟨s1.2.1,s1.2.2.1,s1.2.2.2.1⟩:aO) 25).bind λy6=>
 (bW (bm ((s1.2.2.2.2:List Int).length+([(aI (1+y6.1))]:List Int).length) 8)).bind λ_=>
 YH (.inl ((aI (s1.1-1)),y6.2.b,y6.2.i,y6.2.h,((s1.2.2.2.2:List Int)++[(aI (1+y6.1))]))))
 (YH (.inr (s1.2.1,s1.2.2.1,s1.2.2.2.1,s1.2.2.2.2)))
instance (iC:Int)(y1:aj×aO)(o0:(List YR)×Int×Int×(List bK)):bo (oA iC y1 o0):=⟨λs1=>(.be 0 0 0::vi iC::.un::.un::.be 1 0 0::.be 2 0 0::.un::.ms 5::vi s1.1::(U 53 [])),λs1=>[YH ⟨.of 119,3,[[.sl (s1.2.1.map YQ),vi s1.2.2.1,vi s1.2.2.2.1]]⟩,YH ⟨.of 33,10,[[.v (.slice YI 0 0),.v (.slice YI 0 0),vi 0,.v (.slice YI 0 0),.v (.slice YI 0 0),.v (.slice YI 0 0),vi 0,.v (.slice YI 0 0),.v (.slice YI 0 0),vi 0]]⟩,YH ⟨.of 27,3,[[.ms 3,.ms 4,vi y1.1.change]]⟩,YH ⟨.of 144,6,o0.2.2.2.map bn⟩,YH ⟨.of 3,1,y1.1.off.map aE⟩,YH ⟨.of 3,1,s1.2.2.2.2.map aE⟩]⟩
def oB(s2:Int×(List YR)×Int×Int×Int×Int×Int×(List bK)×(List Int)×(List az)×(List aq)×(List av)×(List bq)×(List Int)):Option ((Int×(List YR)×Int×Int×Int×Int×Int×(List bK)×(List Int)×(List az)×(List aq)×(List av)×(List bq)×(List Int))⊕((List YR)×Int×Int×Int×Int×Int×(List bK)×(List Int)×(List az)×(List aq)×(List av)×(List bq)×(List Int))):=
 cond (YL (0<s2.1))
 ((D9 (.be 0 0 0::(U 3 (.be 1 0 0::(U 4 (.be 2 0 0::.un::vi s2.1::(U 50 [])))))) [YH ⟨.of 119,3,[[.sl (s2.2.1.map YQ),vi s2.2.2.1,vi s2.2.2.2.1]]⟩,YH ⟨.of 33,10,[[.v (.slice YI 0 0),.v (.slice YI 0 0),vi 0,.v (.slice YI 0 0),.v (.slice YI 0 0),.v (.slice YI 0 0),vi 0,.v (.slice YI 0 0),.v (.slice YI 0 0),vi 0]]⟩,YH ⟨.of 33,10,[[.sl (s2.2.2.2.2.2.2.2.1.map bn),.sl (s2.2.2.2.2.2.2.2.2.1.map aE),vi s2.2.2.2.2.1,.sl (s2.2.2.2.2.2.2.2.2.2.1.map ba),.sl (s2.2.2.2.2.2.2.2.2.2.2.1.map aC),.sl (s2.2.2.2.2.2.2.2.2.2.2.2.1.map aW),vi s2.2.2.2.2.2.1,.sl (s2.2.2.2.2.2.2.2.2.2.2.2.2.1.map bt),.sl (s2.2.2.2.2.2.2.2.2.2.2.2.2.2.map aE),vi s2.2.2.2.2.2.2.1]]⟩]).bind λ_=>
 (bh [0]).bind λ_=>
 (mD (⟨s2.2.1,s2.2.2.1,s2.2.2.2.1⟩:aO) (⟨(⟨s2.2.2.2.2.2.2.2.1,s2.2.2.2.2.2.2.2.2.1,s2.2.2.2.2.1⟩:aj),s2.2.2.2.2.2.2.2.2.2.1,s2.2.2.2.2.2.2.2.2.2.2.1,s2.2.2.2.2.2.2.2.2.2.2.2.1,s2.2.2.2.2.2.1,s2.2.2.2.2.2.2.2.2.2.2.2.2.1,s2.2.2.2.2.2.2.2.2.2.2.2.2.2,s2.2.2.2.2.2.2.1⟩:ax)).bind λy9=>
 YH (.inl ((aI (s2.1-1)),y9.2.b,y9.2.i,y9.2.h,y9.1.aa.change,y9.1.now,y9.1.bd,y9.1.aa.aA,y9.1.aa.off,y9.1.ae,y9.1.ar,y9.1.ah,y9.1.aH,y9.1.skip)))
 (YH (.inr (s2.2.1,s2.2.2.1,s2.2.2.2.1,s2.2.2.2.2.1,s2.2.2.2.2.2.1,s2.2.2.2.2.2.2.1,s2.2.2.2.2.2.2.2.1,s2.2.2.2.2.2.2.2.2.1,s2.2.2.2.2.2.2.2.2.2.1,s2.2.2.2.2.2.2.2.2.2.2.1,s2.2.2.2.2.2.2.2.2.2.2.2.1,s2.2.2.2.2.2.2.2.2.2.2.2.2.1,s2.2.2.2.2.2.2.2.2.2.2.2.2.2)))
instance :bo (oB):=⟨λs2=>(.be 0 0 0::(U 3 (.be 1 0 0::(U 4 (.be 2 0 0::.un::vi s2.1::(U 50 [])))))),λs2=>[YH ⟨.of 119,3,[[.sl (s2.2.1.map YQ),vi s2.2.2.1,vi s2.2.2.2.1]]⟩,YH ⟨.of 33,10,[[.v (.slice YI 0 0),.v (.slice YI 0 0),vi 0,.v (.slice YI 0 0),.v (.slice YI 0 0),.v (.slice YI 0 0),vi 0,.v (.slice YI 0 0),.v (.slice YI 0 0),vi 0]]⟩,YH ⟨.of 33,10,[[.ms 3,.ms 4,vi s2.2.2.2.2.1,.ms 5,.ms 6,.ms 7,vi s2.2.2.2.2.2.1,.ms 8,.ms 9,vi s2.2.2.2.2.2.2.1]]⟩,YH ⟨.of 144,6,s2.2.2.2.2.2.2.2.1.map bn⟩,YH ⟨.of 3,1,s2.2.2.2.2.2.2.2.2.1.map aE⟩,YH ⟨.of 94,11,s2.2.2.2.2.2.2.2.2.2.1.map ba⟩,YH ⟨.of 147,4,s2.2.2.2.2.2.2.2.2.2.2.1.map aC⟩,YH ⟨.of 46,2,s2.2.2.2.2.2.2.2.2.2.2.2.1.map aW⟩,YH ⟨.of 151,6,s2.2.2.2.2.2.2.2.2.2.2.2.2.1.map bt⟩,YH ⟨.of 3,1,s2.2.2.2.2.2.2.2.2.2.2.2.2.2.map aE⟩]⟩
def lJ(c:aO)(iC:Int):Option (ax×aO):=
 (bh [0]).bind λ_=>
 (j8 c 7).bind λy1=>
 (aD (oz iC y1) NN (0,y1.2.b,y1.2.i,y1.2.h,y1.1.aA)).bind (λo0=>
 (bh [0]).bind λ_=>
 (aw (⟨o0.1,o0.2.1,o0.2.2.1⟩:aO) 6).bind λy5=>
 (aD (oA iC y1 o0) NN (y5.1,y5.2.b,y5.2.i,y5.2.h,([]:List Int))).bind (λo1=>
 (D9 (.be 0 0 0::vi iC::.un::.un::.be 1 0 0::.be 2 0 0::.un::.sl (o1.2.2.2.map aE)::(U 54 [])) [YH ⟨.of 119,3,[[.sl (o1.1.map YQ),vi o1.2.1,vi o1.2.2.1]]⟩,YH ⟨.of 33,10,[[.v (.slice YI 0 0),.v (.slice YI 0 0),vi 0,.v (.slice YI 0 0),.v (.slice YI 0 0),.v (.slice YI 0 0),vi 0,.v (.slice YI 0 0),.v (.slice YI 0 0),vi 0]]⟩,YH ⟨.of 27,3,[[.sl (o0.2.2.2.map bn),.sl (y1.1.off.map aE),vi y1.1.change]]⟩]).bind λ_=>
 (gQ (⟨o0.2.2.2,y1.1.off,y1.1.change⟩:aj) o1.2.2.2).bind λy7=>
 (bh [0]).bind λ_=>
 (aw (⟨o1.1,o1.2.1,o1.2.2.1⟩:aO) iC).bind λy8=>
 (aD (oB) NN (y8.1,y8.2.b,y8.2.i,y8.2.h,y7.1.aa.change,y7.1.now,y7.1.bd,y7.1.aa.aA,y7.1.aa.off,y7.1.ae,y7.1.ar,y7.1.ah,y7.1.aH,y7.1.skip)).bind (λo2=>
 YH ((⟨(⟨o2.2.2.2.2.2.2.1,o2.2.2.2.2.2.2.2.1,o2.2.2.2.1⟩:aj),o2.2.2.2.2.2.2.2.2.1,o2.2.2.2.2.2.2.2.2.2.1,o2.2.2.2.2.2.2.2.2.2.2.1,o2.2.2.2.2.1,o2.2.2.2.2.2.2.2.2.2.2.2.1,o2.2.2.2.2.2.2.2.2.2.2.2.2,o2.2.2.2.2.2.1⟩:ax),(⟨o2.1,o2.2.1,o2.2.2.1⟩:aO)))))
instance (c:aO)(iC:Int):CT prog (lJ c iC):=⟨124,[.be 0 0 0,vi iC],[YH ⟨.of 119,3,[[.sl (c.b.map YQ),vi c.i,vi c.h]]⟩],λr=>.ag [.ms 1,.ms 2,vi r.1.aa.change,.ms 3,.ms 4,.ms 5,vi r.1.now,.ms 6,.ms 7,vi r.1.bd],λr=>[YH ⟨.of 119,3,[[.sl (r.2.b.map YQ),vi r.2.i,vi r.2.h]]⟩,YH ⟨.of 144,6,r.1.aa.aA.map bn⟩,YH ⟨.of 3,1,r.1.aa.off.map aE⟩,YH ⟨.of 94,11,r.1.ae.map ba⟩,YH ⟨.of 147,4,r.1.ar.map aC⟩,YH ⟨.of 46,2,r.1.ah.map aW⟩,YH ⟨.of 151,6,r.1.aH.map bt⟩,YH ⟨.of 3,1,r.1.skip.map aE⟩],cw (lJ.eq_1 ..) func124 ntmps124 results124⟩
def mE(c:aO):Option (ax×aO):=
 (bh [0]).bind λ_=>
 (lJ c 9).bind λy1=>
 (bh [0]).bind λ_=>
 (bP y1.2 2).bind λy2=>
 cond y2.1
 (YH (y1.1,y2.2))
 (cond (YL ((y1.1.ae.length:Int)=0))
 (YH (y1.1,y2.2))
 ((bh [0]).bind λ_=>
 (aw y2.2 (y1.1.ae.length:Int)).bind λy3=>
 (bh [0]).bind λ_=>
 (aw y3.2 13).bind λy4=>
 cond (YL (y4.1=0))
 ((kR 8 [4]).bind λ_=>
 (bh [0]).bind λ_=>
 (aw y4.2 5).bind λy5=>
 (aB y1.1.ae y3.1).bind λy6=>
 YH ((⟨y1.1.aa,(y1.1.ae.set (Wd y3.1) (⟨y6.au,y6.a8,y6.ay,y6.ab,y6.aP,y6.dW,y6.aG,y6.aN,y5.1,y6.place,y6.bB⟩:az)),y1.1.ar,y1.1.ah,y1.1.now,y1.1.aH,y1.1.skip,y1.1.bd⟩:ax),y5.2))
 (cond (YL (y4.1=1))
 ((aB y1.1.ae y3.1).bind λy7=>
 (aB y1.1.ae y3.1).bind λy8=>
 YH ((⟨y1.1.aa,(y1.1.ae.set (Wd y3.1) (⟨y8.au,y8.a8,y8.ay,y8.ab,y8.aP,y8.dW,y8.aG,(aI (y7.aN+1)),y8.state,y8.place,y8.bB⟩:az)),y1.1.ar,y1.1.ah,y1.1.now,y1.1.aH,y1.1.skip,y1.1.bd⟩:ax),y4.2))
 (cond (YL (y4.1=2))
 ((kR 8 [11]).bind λ_=>
 (aB y1.1.ae y3.1).bind λy9=>
 (bh [0,90]).bind λ_=>
 (ik y4.2 ([⟨#[]⟩,⟨#[65,77,83]⟩,y9.a8])).bind λdL=>
 (aB y1.1.ae y3.1).bind λji=>
 YH ((⟨y1.1.aa,(y1.1.ae.set (Wd y3.1) (⟨ji.au,ji.a8,ji.ay,ji.ab,ji.aP,ji.dW,ji.aG,ji.aN,ji.state,dL.1,ji.bB⟩:az)),y1.1.ar,y1.1.ah,y1.1.now,y1.1.aH,y1.1.skip,y1.1.bd⟩:ax),dL.2.1))
 (cond (YL (y4.1=3))
 ((aB y1.1.ae y3.1).bind λoX=>
 (aB y1.1.ae y3.1).bind λmf=>
 YH ((⟨y1.1.aa,(y1.1.ae.set (Wd y3.1) (⟨mf.au,mf.a8,mf.ay,(aI (oX.ab+1)),mf.aP,mf.dW,mf.aG,mf.aN,mf.state,mf.place,mf.bB⟩:az)),y1.1.ar,y1.1.ah,y1.1.now,y1.1.aH,y1.1.skip,y1.1.bd⟩:ax),y4.2))
 (cond (YL (y4.1=4))
 ((kR 8 [4]).bind λ_=>
 (bh [0,34]).bind λ_=>
 (bx y4.2 ([1,300,(-1),5000])).bind λkX=>
 YH ((⟨y1.1.aa,y1.1.ae,y1.1.ar,y1.1.ah,(aI (y1.1.now+kX.1)),y1.1.aH,y1.1.skip,y1.1.bd⟩:ax),kX.2.1))
 (cond (YL (y4.1=5))
 ((kR 8 [7]).bind λ_=>
 (bh [0]).bind λ_=>
 (aw y4.2 (aI ((y1.1.ar.length:Int)+1))).bind λpg=>
 (bW (gg 0 pg.1 y1.1.ar.length)).bind λ_=>
 YH ((⟨y1.1.aa,y1.1.ae,(cH y1.1.ar 0 pg.1),y1.1.ah,y1.1.now,y1.1.aH,y1.1.skip,y1.1.bd⟩:ax),pg.2))
 (cond (YL (y4.1=6))
 ((kR 8 [4]).bind λ_=>
 (bh [0,2,3,4,5,6,7,8]).bind λ_=>
 (lQ y4.2 y1.1).bind λmu=>
 (bW (bm ((mu.2.2.ah:List av).length+([mu.1]:List av).length) 16)).bind λ_=>
 YH ((⟨(⟨mu.2.2.aa.aA,mu.2.2.aa.off,y1.1.aa.change⟩:aj),mu.2.2.ae,mu.2.2.ar,((mu.2.2.ah:List av)++[mu.1]),y1.1.now,mu.2.2.aH,mu.2.2.skip,y1.1.bd⟩:ax),mu.2.1))
 (cond (YL (y4.1=7))
 ((aB y1.1.ae y3.1).bind λrn=>
 (aB y1.1.ae y3.1).bind λsi=>
 YH ((⟨y1.1.aa,(y1.1.ae.set (Wd y3.1) (⟨si.au,si.a8,si.ay,si.ab,si.aP,si.dW,si.aG,si.aN,si.state,si.place,(aI (rn.bB+1))⟩:az)),y1.1.ar,y1.1.ah,y1.1.now,y1.1.aH,y1.1.skip,y1.1.bd⟩:ax),y4.2))
 (cond (YL (y4.1=8))
 ((bh [0,10]).bind λ_=>
 (bx y4.2 ([0,1000000000,1000000001])).bind λvH=>
 YH ((⟨y1.1.aa,y1.1.ae,y1.1.ar,y1.1.ah,y1.1.now,y1.1.aH,y1.1.skip,vH.1⟩:ax),vH.2.1))
 (cond (YL (y4.1=9))
 ((kR 8 [5]).bind λ_=>
 (bh [0,42]).bind λ_=>
 (bx y4.2 ([0,(-1),200000,200001])).bind λAJ=>
 (aB y1.1.ae y3.1).bind λxp=>
 YH ((⟨y1.1.aa,(y1.1.ae.set (Wd y3.1) (⟨xp.au,xp.a8,xp.ay,xp.ab,xp.aP,AJ.1,xp.aG,xp.aN,xp.state,xp.place,xp.bB⟩:az)),y1.1.ar,y1.1.ah,y1.1.now,y1.1.aH,y1.1.skip,y1.1.bd⟩:ax),AJ.2.1))
 (YH (y1.1,y4.2)))))))))))))
instance (c:aO):CT prog (mE c):=⟨63,[.be 0 0 0],[YH ⟨.of 119,3,[[.sl (c.b.map YQ),vi c.i,vi c.h]]⟩],λr=>.ag [.sl (r.1.aa.aA.map bn),.sl (r.1.aa.off.map aE),vi r.1.aa.change,.sl (r.1.ae.map ba),.sl (r.1.ar.map aC),.sl (r.1.ah.map aW),vi r.1.now,.sl (r.1.aH.map bt),.sl (r.1.skip.map aE),vi r.1.bd],λr=>[YH ⟨.of 119,3,[[.sl (r.2.b.map YQ),vi r.2.i,vi r.2.h]]⟩],cw (mE.eq_1 ..) func63 ntmps63 results63⟩
def oD(s0:Int×(List YR)×Int×Int×(List bK)×(List Int)×Int×(List az)×(List aq)×(List av)×Int×(List bq)×(List Int)×Int×(List bI)×(List bL)×(List Int)×(List aU)×(List aT)×(List bV)):Option ((Int×(List YR)×Int×Int×(List bK)×(List Int)×Int×(List az)×(List aq)×(List av)×Int×(List bq)×(List Int)×Int×(List bI)×(List bL)×(List Int)×(List aU)×(List aT)×(List bV))⊕((List YR)×Int×Int×(List bK)×(List Int)×Int×(List az)×(List aq)×(List av)×Int×(List bq)×(List Int)×Int×(List bI)×(List bL)×(List Int)×(List aU)×(List aT)×(List bV))):=
 cond (YL (0<s0.1))
 ((D9 (.be 0 0 0::(U 3 (.be 1 0 0::.be 2 0 0::vi s0.1::(U 21 [])))) [YH ⟨.of 119,3,[[.sl (s0.2.1.map YQ),vi s0.2.2.1,vi s0.2.2.2.1]]⟩,YH ⟨.of 40,16,[[.v (.slice YI 0 0),.v (.slice YI 0 0),vi 0,.v (.slice YI 0 0),.v (.slice YI 0 0),.v (.slice YI 0 0),vi 0,.v (.slice YI 0 0),.v (.slice YI 0 0),vi 0,.v (.slice YI 0 0),.v (.slice YI 0 0),.v (.slice YI 0 0),.v (.slice YI 0 0),.v (.slice YI 0 0),.v (.slice YI 0 0)]]⟩,YH ⟨.of 40,16,[[.sl (s0.2.2.2.2.1.map bn),.sl (s0.2.2.2.2.2.1.map aE),vi s0.2.2.2.2.2.2.1,.sl (s0.2.2.2.2.2.2.2.1.map ba),.sl (s0.2.2.2.2.2.2.2.2.1.map aC),.sl (s0.2.2.2.2.2.2.2.2.2.1.map aW),vi s0.2.2.2.2.2.2.2.2.2.2.1,.sl (s0.2.2.2.2.2.2.2.2.2.2.2.1.map bt),.sl (s0.2.2.2.2.2.2.2.2.2.2.2.2.1.map aE),vi s0.2.2.2.2.2.2.2.2.2.2.2.2.2.1,.sl (s0.2.2.2.2.2.2.2.2.2.2.2.2.2.2.1.map cG),.sl (s0.2.2.2.2.2.2.2.2.2.2.2.2.2.2.2.1.map cI),.sl (s0.2.2.2.2.2.2.2.2.2.2.2.2.2.2.2.2.1.map aE),.sl (s0.2.2.2.2.2.2.2.2.2.2.2.2.2.2.2.2.2.2.1.map bJ),.sl (s0.2.2.2.2.2.2.2.2.2.2.2.2.2.2.2.2.2.1.map bC),.sl (s0.2.2.2.2.2.2.2.2.2.2.2.2.2.2.2.2.2.2.2.map gF)]]⟩]).bind λ_=>
 (kR 8 [3]).bind λ_=>
 (bh [0]).bind λ_=>
 (ka (⟨s0.2.1,s0.2.2.1,s0.2.2.2.1⟩:aO) (⟨(⟨(⟨s0.2.2.2.2.1,s0.2.2.2.2.2.1,s0.2.2.2.2.2.2.1⟩:aj),s0.2.2.2.2.2.2.2.1,s0.2.2.2.2.2.2.2.2.1,s0.2.2.2.2.2.2.2.2.2.1,s0.2.2.2.2.2.2.2.2.2.2.1,s0.2.2.2.2.2.2.2.2.2.2.2.1,s0.2.2.2.2.2.2.2.2.2.2.2.2.1,s0.2.2.2.2.2.2.2.2.2.2.2.2.2.1⟩:ax),s0.2.2.2.2.2.2.2.2.2.2.2.2.2.2.1,s0.2.2.2.2.2.2.2.2.2.2.2.2.2.2.2.1,s0.2.2.2.2.2.2.2.2.2.2.2.2.2.2.2.2.1,s0.2.2.2.2.2.2.2.2.2.2.2.2.2.2.2.2.2.2.1,s0.2.2.2.2.2.2.2.2.2.2.2.2.2.2.2.2.2.1,s0.2.2.2.2.2.2.2.2.2.2.2.2.2.2.2.2.2.2.2⟩:aL)).bind λy3=>
 (mC (⟨(⟨(⟨s0.2.2.2.2.1,s0.2.2.2.2.2.1,s0.2.2.2.2.2.2.1⟩:aj),s0.2.2.2.2.2.2.2.1,s0.2.2.2.2.2.2.2.2.1,s0.2.2.2.2.2.2.2.2.2.1,s0.2.2.2.2.2.2.2.2.2.2.1,s0.2.2.2.2.2.2.2.2.2.2.2.1,s0.2.2.2.2.2.2.2.2.2.2.2.2.1,s0.2.2.2.2.2.2.2.2.2.2.2.2.2.1⟩:ax),s0.2.2.2.2.2.2.2.2.2.2.2.2.2.2.1,s0.2.2.2.2.2.2.2.2.2.2.2.2.2.2.2.1,s0.2.2.2.2.2.2.2.2.2.2.2.2.2.2.2.2.1,s0.2.2.2.2.2.2.2.2.2.2.2.2.2.2.2.2.2.2.1,s0.2.2.2.2.2.2.2.2.2.2.2.2.2.2.2.2.2.1,s0.2.2.2.2.2.2.2.2.2.2.2.2.2.2.2.2.2.2.2⟩:aL) y3.1).bind λy4=>
 YH (.inl ((aI (s0.1-1)),y3.2.b,y3.2.i,y3.2.h,y4.1.world.aa.aA,y4.1.world.aa.off,y4.1.world.aa.change,y4.1.world.ae,y4.1.world.ar,y4.1.world.ah,y4.1.world.now,y4.1.world.aH,y4.1.world.skip,y4.1.world.bd,y4.1.aY,y4.1.aX,y4.1.aM,y4.1.lines,y4.1.aK,y4.1.aF)))
 (YH (.inr (s0.2.1,s0.2.2.1,s0.2.2.2.1,s0.2.2.2.2.1,s0.2.2.2.2.2.1,s0.2.2.2.2.2.2.1,s0.2.2.2.2.2.2.2.1,s0.2.2.2.2.2.2.2.2.1,s0.2.2.2.2.2.2.2.2.2.1,s0.2.2.2.2.2.2.2.2.2.2.1,s0.2.2.2.2.2.2.2.2.2.2.2.1,s0.2.2.2.2.2.2.2.2.2.2.2.2.1,s0.2.2.2.2.2.2.2.2.2.2.2.2.2.1,s0.2.2.2.2.2.2.2.2.2.2.2.2.2.2.1,s0.2.2.2.2.2.2.2.2.2.2.2.2.2.2.2.1,s0.2.2.2.2.2.2.2.2.2.2.2.2.2.2.2.2.1,s0.2.2.2.2.2.2.2.2.2.2.2.2.2.2.2.2.2.1,s0.2.2.2.2.2.2.2.2.2.2.2.2.2.2.2.2.2.2.1,s0.2.2.2.2.2.2.2.2.2.2.2.2.2.2.2.2.2.2.2)))
instance :bo (oD):=⟨λs0=>(.be 0 0 0::(U 3 (.be 1 0 0::.be 2 0 0::vi s0.1::(U 21 [])))),λs0=>[YH ⟨.of 119,3,[[.sl (s0.2.1.map YQ),vi s0.2.2.1,vi s0.2.2.2.1]]⟩,YH ⟨.of 40,16,[[.v (.slice YI 0 0),.v (.slice YI 0 0),vi 0,.v (.slice YI 0 0),.v (.slice YI 0 0),.v (.slice YI 0 0),vi 0,.v (.slice YI 0 0),.v (.slice YI 0 0),vi 0,.v (.slice YI 0 0),.v (.slice YI 0 0),.v (.slice YI 0 0),.v (.slice YI 0 0),.v (.slice YI 0 0),.v (.slice YI 0 0)]]⟩,YH ⟨.of 40,16,[[.sl (s0.2.2.2.2.1.map bn),.sl (s0.2.2.2.2.2.1.map aE),vi s0.2.2.2.2.2.2.1,.sl (s0.2.2.2.2.2.2.2.1.map ba),.sl (s0.2.2.2.2.2.2.2.2.1.map aC),.sl (s0.2.2.2.2.2.2.2.2.2.1.map aW),vi s0.2.2.2.2.2.2.2.2.2.2.1,.sl (s0.2.2.2.2.2.2.2.2.2.2.2.1.map bt),.sl (s0.2.2.2.2.2.2.2.2.2.2.2.2.1.map aE),vi s0.2.2.2.2.2.2.2.2.2.2.2.2.2.1,.sl (s0.2.2.2.2.2.2.2.2.2.2.2.2.2.2.1.map cG),.sl (s0.2.2.2.2.2.2.2.2.2.2.2.2.2.2.2.1.map cI),.sl (s0.2.2.2.2.2.2.2.2.2.2.2.2.2.2.2.2.1.map aE),.ms 3,.sl (s0.2.2.2.2.2.2.2.2.2.2.2.2.2.2.2.2.2.1.map bC),.ms 4]]⟩,YH ⟨.of 44,7,s0.2.2.2.2.2.2.2.2.2.2.2.2.2.2.2.2.2.2.1.map bJ⟩,YH ⟨.of 48,13,s0.2.2.2.2.2.2.2.2.2.2.2.2.2.2.2.2.2.2.2.map gF⟩]⟩
def lL(c:aO)(iC:Int):Option (aL×aO):=
 (bh [0]).bind λ_=>
 (j7 c).bind λy1=>
 (bh [0]).bind λ_=>
 (aw y1.2 iC).bind λy2=>
 (aD (oD) NN (y2.1,y2.2.b,y2.2.i,y2.2.h,y1.1.world.aa.aA,y1.1.world.aa.off,y1.1.world.aa.change,y1.1.world.ae,y1.1.world.ar,y1.1.world.ah,y1.1.world.now,y1.1.world.aH,y1.1.world.skip,y1.1.world.bd,y1.1.aY,y1.1.aX,y1.1.aM,y1.1.lines,y1.1.aK,y1.1.aF)).bind (λo0=>
 YH ((⟨(⟨(⟨o0.2.2.2.1,o0.2.2.2.2.1,o0.2.2.2.2.2.1⟩:aj),o0.2.2.2.2.2.2.1,o0.2.2.2.2.2.2.2.1,o0.2.2.2.2.2.2.2.2.1,o0.2.2.2.2.2.2.2.2.2.1,o0.2.2.2.2.2.2.2.2.2.2.1,o0.2.2.2.2.2.2.2.2.2.2.2.1,o0.2.2.2.2.2.2.2.2.2.2.2.2.1⟩:ax),o0.2.2.2.2.2.2.2.2.2.2.2.2.2.1,o0.2.2.2.2.2.2.2.2.2.2.2.2.2.2.1,o0.2.2.2.2.2.2.2.2.2.2.2.2.2.2.2.1,o0.2.2.2.2.2.2.2.2.2.2.2.2.2.2.2.2.2.1,o0.2.2.2.2.2.2.2.2.2.2.2.2.2.2.2.2.1,o0.2.2.2.2.2.2.2.2.2.2.2.2.2.2.2.2.2.2⟩:aL),(⟨o0.1,o0.2.1,o0.2.2.1⟩:aO)))
instance (c:aO)(iC:Int):CT prog (lL c iC):=⟨62,[.be 0 0 0,vi iC],[YH ⟨.of 119,3,[[.sl (c.b.map YQ),vi c.i,vi c.h]]⟩],λr=>.ag [.sl (r.1.world.aa.aA.map bn),.sl (r.1.world.aa.off.map aE),vi r.1.world.aa.change,.sl (r.1.world.ae.map ba),.sl (r.1.world.ar.map aC),.sl (r.1.world.ah.map aW),vi r.1.world.now,.sl (r.1.world.aH.map bt),.sl (r.1.world.skip.map aE),vi r.1.world.bd,.sl (r.1.aY.map cG),.sl (r.1.aX.map cI),.sl (r.1.aM.map aE),.ms 1,.sl (r.1.lines.map bC),.ms 2],λr=>[YH ⟨.of 119,3,[[.sl (r.2.b.map YQ),vi r.2.i,vi r.2.h]]⟩,YH ⟨.of 44,7,r.1.aK.map bJ⟩,YH ⟨.of 48,13,r.1.aF.map gF⟩],cw (lL.eq_1 ..) func62 ntmps62 results62⟩
def mG(c:aO):Option (aL×aO):=
 (bh [0]).bind λ_=>
 (lL c 9).bind λy1=>
 (bh [0]).bind λ_=>
 (aw y1.2 16).bind λy2=>
 cond (YL (y2.1=0))
 ((bh [0]).bind λ_=>
 (mE y2.2).bind λy3=>
 YH ((⟨y3.1,y1.1.aY,y1.1.aX,y1.1.aM,y1.1.aK,y1.1.lines,y1.1.aF⟩:aL),y3.2))
 (cond (YL (y2.1=1))
 ((bh [0]).bind λ_=>
 (jf y2.2).bind λy4=>
 YH ((⟨y1.1.world,y4.1,y1.1.aX,y1.1.aM,y1.1.aK,y1.1.lines,y1.1.aF⟩:aL),y4.2))
 (cond (YL (y2.1=2))
 ((bh [0]).bind λ_=>
 (mF y2.2).bind λy5=>
 YH ((⟨y1.1.world,y1.1.aY,y1.1.aX,y1.1.aM,y1.1.aK,y5.1,y1.1.aF⟩:aL),y5.2))
 (cond (YL (y2.1=3))
 (YH ((⟨y1.1.world,y1.1.aY,y1.1.aX,([]:List Int),y1.1.aK,y1.1.lines,y1.1.aF⟩:aL),y2.2))
 (cond (YL (y2.1=4))
 ((kR 8 [3]).bind λ_=>
 (bh [0]).bind λ_=>
 (eG y2.2).bind λy6=>
 (bW (bm ((y1.1.aK:List aT).length+([y6.1]:List aT).length) 88)).bind λ_=>
 YH ((⟨y1.1.world,y1.1.aY,y1.1.aX,y1.1.aM,((y1.1.aK:List aT)++[y6.1]),y1.1.lines,y1.1.aF⟩:aL),y6.2))
 (cond (YL (y2.1=5))
 ((kR 8 [3]).bind λ_=>
 (bh [0]).bind λ_=>
 (aw y2.2 8).bind λy7=>
 (bW (bm ((y1.1.aF:List bV).length+([(⟨y7.1,(⟨(⟨0,0,⟨#[]⟩⟩:cq),⟨#[]⟩,0,[],0⟩:aT),0,0,0,(⟨0,0⟩:av)⟩:bV)]:List bV).length) 136)).bind λ_=>
 (D9 (.un::.un::.be 1 0 0::.be 2 0 0::(U 49 [])) [YH ⟨.of 119,3,[[.sl (y7.2.b.map YQ),vi y7.2.i,vi y7.2.h]]⟩,YH ⟨.of 40,16,[[.v (.slice YI 0 0),.v (.slice YI 0 0),vi 0,.v (.slice YI 0 0),.v (.slice YI 0 0),.v (.slice YI 0 0),vi 0,.v (.slice YI 0 0),.v (.slice YI 0 0),vi 0,.v (.slice YI 0 0),.v (.slice YI 0 0),.v (.slice YI 0 0),.v (.slice YI 0 0),.v (.slice YI 0 0),.v (.slice YI 0 0)]]⟩,YH ⟨.of 40,16,[[.sl (y1.1.world.aa.aA.map bn),.sl (y1.1.world.aa.off.map aE),vi y1.1.world.aa.change,.sl (y1.1.world.ae.map ba),.sl (y1.1.world.ar.map aC),.sl (y1.1.world.ah.map aW),vi y1.1.world.now,.sl (y1.1.world.aH.map bt),.sl (y1.1.world.skip.map aE),vi y1.1.world.bd,.sl (y1.1.aY.map cG),.sl (y1.1.aX.map cI),.sl (y1.1.aM.map aE),.ms 3,.sl (y1.1.lines.map bC),.ms 4]]⟩,YH ⟨.of 44,7,y1.1.aK.map bJ⟩,YH ⟨.of 48,13,((y1.1.aF:List bV)++[(⟨y7.1,(⟨(⟨0,0,⟨#[]⟩⟩:cq),⟨#[]⟩,0,[],0⟩:aT),0,0,0,(⟨0,0⟩:av)⟩:bV)]).map gF⟩]).bind λ_=>
 YH ((⟨y1.1.world,y1.1.aY,y1.1.aX,y1.1.aM,y1.1.aK,y1.1.lines,((y1.1.aF:List bV)++[(⟨y7.1,(⟨(⟨0,0,⟨#[]⟩⟩:cq),⟨#[]⟩,0,[],0⟩:aT),0,0,0,(⟨0,0⟩:av)⟩:bV)])⟩:aL),y7.2))
 (cond (YL (y2.1=6))
 ((bW (gg 1 (y1.1.aX.length:Int) y1.1.aX.length)).bind λ_=>
 YH ((⟨y1.1.world,y1.1.aY,(cH y1.1.aX 1 (y1.1.aX.length:Int)),y1.1.aM,y1.1.aK,y1.1.lines,y1.1.aF⟩:aL),y2.2))
 (YH (y1.1,y2.2))))))))
instance (c:aO):CT prog (mG c):=⟨23,[.be 0 0 0],[YH ⟨.of 119,3,[[.sl (c.b.map YQ),vi c.i,vi c.h]]⟩],λr=>.ag [.sl (r.1.world.aa.aA.map bn),.sl (r.1.world.aa.off.map aE),vi r.1.world.aa.change,.sl (r.1.world.ae.map ba),.sl (r.1.world.ar.map aC),.sl (r.1.world.ah.map aW),vi r.1.world.now,.sl (r.1.world.aH.map bt),.sl (r.1.world.skip.map aE),vi r.1.world.bd,.sl (r.1.aY.map cG),.sl (r.1.aX.map cI),.sl (r.1.aM.map aE),.sl (r.1.aK.map bJ),.sl (r.1.lines.map bC),.sl (r.1.aF.map gF)],λr=>[YH ⟨.of 119,3,[[.sl (r.2.b.map YQ),vi r.2.i,vi r.2.h]]⟩],cw (mG.eq_1 ..) func23 ntmps23 results23⟩
def mI(code:List YR):Option (aL×bV):=
 (ou code).bind λy1=>
 (bh [2]).bind λ_=>
 (mG y1).bind λy2=>
 (kR 8 [3]).bind λ_=>
 (bh [2]).bind λ_=>
 (jE y2.2 y2.1).bind λy3=>
 YH (y2.1,y3.1)
instance (code:List YR):CT prog (mI code):=⟨7,[.sl (code.map YQ)],[],λr=>.tu [.ag [.sl (r.1.world.aa.aA.map bn),.sl (r.1.world.aa.off.map aE),vi r.1.world.aa.change,.sl (r.1.world.ae.map ba),.sl (r.1.world.ar.map aC),.sl (r.1.world.ah.map aW),vi r.1.world.now,.sl (r.1.world.aH.map bt),.sl (r.1.world.skip.map aE),vi r.1.world.bd,.sl (r.1.aY.map cG),.sl (r.1.aX.map cI),.sl (r.1.aM.map aE),.sl (r.1.aK.map bJ),.sl (r.1.lines.map bC),.sl (r.1.aF.map gF)],.ag [vi r.2.kind,vi r.2.aQ.label.ay,vi r.2.aQ.label.da,vs r.2.aQ.label.a8,vs r.2.aQ.au,vi r.2.aQ.ab,.sl (r.2.aQ.bH.map aE),vi r.2.aQ.value,vi r.2.order,vi r.2.bz,vi r.2.bM,vi r.2.bj.bD,vi r.2.bj.day]],λr=>[],cw (mI.eq_1 ..) func7 ntmps7 results7⟩
end Go.Proofs.YtdilaemengjipaaGreatDoor
