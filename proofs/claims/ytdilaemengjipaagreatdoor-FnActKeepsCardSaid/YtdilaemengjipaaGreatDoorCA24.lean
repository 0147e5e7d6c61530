/- A part of the proof of the statement in the last file of this claim: texts on the language of the program and on its functions. No condition. -/
import Derived.Test.YtdilaemengjipaaGreatDoorCA4
import Derived.Test.YtdilaemengjipaaGreatDoorCA8
import Derived.Test.YtdilaemengjipaaGreatDoorCA21
import Derived.Test.YtdilaemengjipaaGreatDoorCA14
import Derived.Test.YtdilaemengjipaaGreatDoorCA19
import Derived.Test.YtdilaemengjipaaGreatDoorCA20
import Derived.Test.YtdilaemengjipaaGreatDoorCA13
import Derived.Test.YtdilaemengjipaaGreatDoorCA17
import Derived.Test.YtdilaemengjipaaGreatDoorCA12
import Derived.Test.YtdilaemengjipaaGreatDoorCA1
set_option linter.unusedVariables false
set_option linter.unusedSimpArgs false
set_option linter.unusedSectionVars false
open Option renaming some->YH,none->YI
open Bool renaming true->YJ,false->YK
open Decidable renaming decide->YL
open Go.Proofs.Tryz
set_option maxHeartbeats 40000000
namespace Go.Proofs.YtdilaemengjipaaGreatDoor
set_option maxRecDepth 10000
open Go.RowKit
def kC(o:aL)(s0:Int):Option (Int⊕(Unit⊕Bool)):=
 cond (YL (s0<(o.aK.length:Int)))
 ((nZ o s0).bind λy6=>
 cond (!y6)
 (YH (.inr (.inr YK)))
 (YH (.inl (aI (s0+1)))))
 (YH (.inr (.inl ())))
instance (o:aL):bo (kC o):=⟨λs0=>(.un::.be 0 0 0::.un::vi s0::(U 103 [])),λs0=>[YH ⟨.of 40,16,[[.sl (o.world.aa.aA.map bn),.sl (o.world.aa.off.map aE),vi o.world.aa.change,.sl (o.world.ae.map ba),.sl (o.world.ar.map aC),.sl (o.world.ah.map aW),vi o.world.now,.sl (o.world.aH.map bt),.sl (o.world.skip.map aE),vi o.world.bd,.sl (o.aY.map cG),.sl (o.aX.map cI),.sl (o.aM.map aE),.sl (o.aK.map bJ),.sl (o.lines.map bC),.sl (o.aF.map gF)]]⟩]⟩
def kD(o:aL)(s1:Int):Option (Int⊕(Unit⊕Bool)):=
 cond (YL (s1<(o.lines.length:Int)))
 ((aB o.lines s1).bind λy7=>
 cond (YL ((o.aK.length:Int)<y7.order))
 (YH (.inr (.inr YK)))
 ((aB o.lines s1).bind λy8=>
 cond (YL (o.world.now<y8.aP))
 (YH (.inr (.inr YK)))
 (YH (.inl (aI (s1+1))))))
 (YH (.inr (.inl ())))
instance (o:aL):bo (kD o):=⟨λs1=>(.un::.be 0 0 0::.un::.un::vi s1::(U 102 [])),λs1=>[YH ⟨.of 40,16,[[.sl (o.world.aa.aA.map bn),.sl (o.world.aa.off.map aE),vi o.world.aa.change,.sl (o.world.ae.map ba),.sl (o.world.ar.map aC),.sl (o.world.ah.map aW),vi o.world.now,.sl (o.world.aH.map bt),.sl (o.world.skip.map aE),vi o.world.bd,.sl (o.aY.map cG),.sl (o.aX.map cI),.sl (o.aM.map aE),.sl (o.aK.map bJ),.sl (o.lines.map bC),.sl (o.aF.map gF)]]⟩]⟩
def kE(o:aL)(s2:Int):Option (Int⊕(Unit⊕Bool)):=
 cond (YL (s2<(o.aF.length:Int)))
 ((aB o.aF s2).bind λy9=>
 (lS y9).bind λdL=>
 cond (!dL)
 (YH (.inr (.inr YK)))
 (YH (.inl (aI (s2+1)))))
 (YH (.inr (.inl ())))
instance (o:aL):bo (kE o):=⟨λs2=>(.un::.be 0 0 0::(U 3 (vi s2::(U 101 [])))),λs2=>[YH ⟨.of 40,16,[[.sl (o.world.aa.aA.map bn),.sl (o.world.aa.off.map aE),vi o.world.aa.change,.sl (o.world.ae.map ba),.sl (o.world.ar.map aC),.sl (o.world.ah.map aW),vi o.world.now,.sl (o.world.aH.map bt),.sl (o.world.skip.map aE),vi o.world.bd,.sl (o.aY.map cG),.sl (o.aX.map cI),.sl (o.aM.map aE),.sl (o.aK.map bJ),.sl (o.lines.map bC),.sl (o.aF.map gF)]]⟩]⟩
def ll(o:aL):Option Bool:=
 (fA o.world).bind λy1=>
 cond (!y1)
 (YH YK)
 ((jx o.aY).bind λy2=>
 cond (!y2)
 (YH YK)
 ((lj o.aX (o.aY.length:Int)).bind λy3=>
 cond (!y3)
 (YH YK)
 ((eJ o.aM).bind λy4=>
 cond (!y4)
 (YH YK)
 ((dX o.lines).bind λy5=>
 cond (!y5)
 (YH YK)
 (cond (!decide ((o.aK.length:Int)=(o.world.ae.length:Int)))
 (YH YK)
 (cond (YL (150<(o.aF.length:Int)))
 (YH YK)
 ((aD (kC o) NN 0).bind (bk (λo0=>
 (aD (kD o) NN 0).bind (bk (λo1=>
 (aD (kE o) NN 0).bind (bk (λo2=>
 YH YJ) (λr=>YH r))) (λr=>YH r))) (λr=>YH r)))))))))
instance (o:aL):CT prog (ll o):=⟨109,[.ag (lx o)],[],λr=>vb r,λr=>[],cw (ll.eq_1 ..) func109 ntmps109 results109⟩
def cQ(w:ax)(cC:ByteArray)(a8:ByteArray)(ay:Int)(ab:Int):Option (ax×Int×Bool):=
 (ee w).bind λy1=>
 (fA w).bind λy2=>
 cond (!y2)
 (YH (y1,0,YK))
 (cond (YL (30<=(w.ae.length:Int)))
 (YH (y1,0,YK))
 (cond (YL (cC=a8))
 (YH (y1,0,YK))
 ((bc ay 1 3).bind λy3=>
 cond (!y3)
 (YH (y1,0,YK))
 ((bc ab 1 30000).bind λy4=>
 cond (!y4)
 (YH (y1,0,YK))
 ((bN w.aa w.ar w.ah cC a8 (aI (w.now+1)) ab).bind λy5=>
 (ct w.aa w.ar (aI ((w.ae.length:Int)+1)) ab y5.1).bind λy6=>
 cond (!y5.2)
 (YH (y1,0,YK))
 (cond (!y6.2)
 (YH (y1,0,YK))
 ((kc w.aa ay cC a8 (aI (w.now+1))).bind λy7=>
 (D9 (.un::vs cC::(U 3 (.be 0 0 0::(U 4 (.be 1 0 0::.un::.un::.be 2 0 0::.un::.un::vi (aI ((w.ae.length:Int)+1))::.un::.un::.be 10 0 0::(U 99 [])))))) [YH ⟨.of 33,10,[[.sl (w.aa.aA.map bn),.sl (w.aa.off.map aE),vi w.aa.change,.sl (w.ae.map ba),.sl (w.ar.map aC),.sl (w.ah.map aW),vi w.now,.sl (w.aH.map bt),.sl (w.skip.map aE),vi w.bd]]⟩,YH ⟨.of 33,10,[[.v (.slice YI 0 0),.v (.slice YI 0 0),vi 0,.v (.slice YI 0 0),.v (.slice YI 0 0),.v (.slice YI 0 0),vi 0,.v (.slice YI 0 0),.v (.slice YI 0 0),vi 0]]⟩,YH ⟨.of 33,10,[[.ms 3,.ms 4,vi y1.aa.change,.ms 5,.ms 6,.ms 7,vi y1.now,.ms 8,.ms 9,vi y1.bd]]⟩,YH ⟨.of 144,6,y1.aa.aA.map bn⟩,YH ⟨.of 3,1,y1.aa.off.map aE⟩,YH ⟨.of 94,11,y1.ae.map ba⟩,YH ⟨.of 147,4,y6.1.map aC⟩,YH ⟨.of 46,2,y1.ah.map aW⟩,YH ⟨.of 151,6,y1.aH.map bt⟩,YH ⟨.of 3,1,y1.skip.map aE⟩,YH ⟨.of 94,11,[[vs cC,vs a8,vi ay,vi ab,vi w.now,vi y7,.sl (y5.1.map aW),vi 0,vi 1,vs cC,vi 0]]⟩]).bind λ_=>
 (bW (bm ((y1.ae:List az).length+([(⟨cC,a8,ay,ab,w.now,y7,y5.1,0,1,cC,0⟩:az)]:List az).length) 128)).bind λ_=>
 (bh [2,3,4,12,6,7,8,9]).bind λ_=>
 (fU (⟨y1.aa,((y1.ae:List az)++[(⟨cC,a8,ay,ab,w.now,y7,y5.1,0,1,cC,0⟩:az)]),y6.1,y1.ah,y1.now,y1.aH,y1.skip,y1.bd⟩:ax) (⟨(aI ((w.ae.length:Int)+1)),w.now,1,cC,(⟨0,0⟩:av)⟩:bq)).bind λy8=>
 YH (y8,(aI ((w.ae.length:Int)+1)),YJ))))))))
instance (w:ax)(cC:ByteArray)(a8:ByteArray)(ay:Int)(ab:Int):CT prog (cQ w cC a8 ay ab):=⟨226,[.ag (fY w),vs cC,vs a8,vi ay,vi ab],[],λr=>.tu [.ag [.ms 0,.ms 1,vi r.1.aa.change,.ms 2,.ms 3,.ms 4,vi r.1.now,.ms 5,.ms 6,vi r.1.bd],vi r.2.1,vb r.2.2],λr=>[YH ⟨.of 144,6,r.1.aa.aA.map bn⟩,YH ⟨.of 3,1,r.1.aa.off.map aE⟩,YH ⟨.of 94,11,r.1.ae.map ba⟩,YH ⟨.of 147,4,r.1.ar.map aC⟩,YH ⟨.of 46,2,r.1.ah.map aW⟩,YH ⟨.of 151,6,r.1.aH.map bt⟩,YH ⟨.of 3,1,r.1.skip.map aE⟩],cw (cQ.eq_1 ..) func226 ntmps226 results226⟩
def lM(o:aL)(p:aT):Option (Int×aL):=
 (gR o.aY o.aX p).bind λy1=>
 cond (!y1.2)
 (YH (2,o))
 (cond (YL (y1.1=0))
 (YH (2,o))
 ((kR 8 []).bind λ_=>
 (cQ o.world p.au p.label.a8 p.label.ay p.ab).bind λy2=>
 cond (!y2.2.2)
 (YH (3,o))
 ((fx o.lines y2.2.1 y1.1 y2.1.now).bind λy3=>
 cond (!decide (y3.2=0))
 (YH (4,o))
 ((gC p).bind λy4=>
 (bW (bm ((o.aK:List aT).length+([y4]:List aT).length) 88)).bind λ_=>
 YH (0,(⟨y2.1,o.aY,o.aX,o.aM,((o.aK:List aT)++[y4]),y3.1,o.aF⟩:aL))))))
instance (o:aL)(p:aT):CT prog (lM o p):=⟨177,[.be 0 0 0,.ag (bJ p)],[YH ⟨.of 40,16,[[.sl (o.world.aa.aA.map bn),.sl (o.world.aa.off.map aE),vi o.world.aa.change,.sl (o.world.ae.map ba),.sl (o.world.ar.map aC),.sl (o.world.ah.map aW),vi o.world.now,.sl (o.world.aH.map bt),.sl (o.world.skip.map aE),vi o.world.bd,.ms 1,.ms 2,.ms 3,.ms 4,.ms 5,.ms 6]]⟩,YH ⟨.of 78,2,o.aY.map cG⟩,YH ⟨.of 81,4,o.aX.map cI⟩,YH ⟨.of 3,1,o.aM.map aE⟩,YH ⟨.of 44,7,o.aK.map bJ⟩,YH ⟨.of 85,4,o.lines.map bC⟩,YH ⟨.of 48,13,o.aF.map gF⟩],λr=>vi r.1,λr=>[YH ⟨.of 40,16,[[.sl (r.2.world.aa.aA.map bn),.sl (r.2.world.aa.off.map aE),vi r.2.world.aa.change,.sl (r.2.world.ae.map ba),.sl (r.2.world.ar.map aC),.sl (r.2.world.ah.map aW),vi r.2.world.now,.sl (r.2.world.aH.map bt),.sl (r.2.world.skip.map aE),vi r.2.world.bd,.ms 1,.ms 2,.ms 3,.ms 7,.ms 8,.ms 6]]⟩,YH ⟨.of 78,2,r.2.aY.map cG⟩,YH ⟨.of 81,4,r.2.aX.map cI⟩,YH ⟨.of 3,1,r.2.aM.map aE⟩,YI,YI,YH ⟨.of 48,13,r.2.aF.map gF⟩,YH ⟨.of 44,7,r.2.aK.map bJ⟩,YH ⟨.of 85,4,r.2.lines.map bC⟩],cw (lM.eq_1 ..) func177 ntmps177 results177⟩
def gQ(n:aj)(skip:List Int):Option (ax×Bool):=
 (ee (⟨n,[],[],[],0,[],skip,0⟩:ax)).bind λy1=>
 (fA y1).bind λy2=>
 cond (!y2)
 (YH ((⟨(⟨[],[],0⟩:aj),[],[],[],0,[],[],0⟩:ax),YK))
 (YH (y1,YJ))
theorem xc(n:aj)(skip:List Int){r:ax×Bool}(H:gQ n skip=YH r):fL prog 167 [.ag (bA n),.sl (skip.map aE)] [] (.tu [.ag [.ms 0,.ms 1,vi r.1.aa.change,.ms 2,.ms 3,.ms 4,vi r.1.now,.ms 5,.ms 6,vi r.1.bd],vb r.2]) [YH ⟨.of 144,6,r.1.aa.aA.map bn⟩,YH ⟨.of 3,1,r.1.aa.off.map aE⟩,YH ⟨.of 94,11,r.1.ae.map ba⟩,YH ⟨.of 147,4,r.1.ar.map aC⟩,YH ⟨.of 46,2,r.1.ah.map aW⟩,YH ⟨.of 151,6,r.1.aH.map bt⟩,YH ⟨.of 3,1,r.1.skip.map aE⟩]:=by
 replace H:=H0 H;unfold gQ at H
 refine ja func167 rfl ntmps167 results167 λQ hQ Ia=>?_
 exact JU
instance (n:aj)(skip:List Int):CT prog (gQ n skip):=⟨167,[.ag (bA n),.sl (skip.map aE)],[],λr=>.tu [.ag [.ms 0,.ms 1,vi r.1.aa.change,.ms 2,.ms 3,.ms 4,vi r.1.now,.ms 5,.ms 6,vi r.1.bd],vb r.2],λr=>[YH ⟨.of 144,6,r.1.aa.aA.map bn⟩,YH ⟨.of 3,1,r.1.aa.off.map aE⟩,YH ⟨.of 94,11,r.1.ae.map ba⟩,YH ⟨.of 147,4,r.1.ar.map aC⟩,YH ⟨.of 46,2,r.1.ah.map aW⟩,YH ⟨.of 151,6,r.1.aH.map bt⟩,YH ⟨.of 3,1,r.1.skip.map aE⟩],xc n skip⟩
def ky(n:aj)(skip:List Int)(aY:List bI)(aX:List bL)(aM:List Int):Option (aL×Bool):=
 (gQ n skip).bind λy1=>
 (D9 (.un::.un::.sl (aY.map cG)::.sl (aX.map cI)::.sl (aM.map aE)::(U 5 (.be 0 0 0::.un::.be 1 0 0::vb y1.2::(U 22 [])))) [YH ⟨.of 40,16,[[.v (.slice YI 0 0),.v (.slice YI 0 0),vi 0,.v (.slice YI 0 0),.v (.slice YI 0 0),.v (.slice YI 0 0),vi 0,.v (.slice YI 0 0),.v (.slice YI 0 0),vi 0,.v (.slice YI 0 0),.v (.slice YI 0 0),.v (.slice YI 0 0),.v (.slice YI 0 0),.v (.slice YI 0 0),.v (.slice YI 0 0)]]⟩,YH ⟨.of 33,10,[[.sl (y1.1.aa.aA.map bn),.sl (y1.1.aa.off.map aE),vi y1.1.aa.change,.sl (y1.1.ae.map ba),.sl (y1.1.ar.map aC),.sl (y1.1.ah.map aW),vi y1.1.now,.sl (y1.1.aH.map bt),.sl (y1.1.skip.map aE),vi y1.1.bd]]⟩]).bind λ_=>
 (iJ (⟨y1.1,aY,aX,aM,[],[],[]⟩:aL)).bind λy2=>
 cond (!y1.2)
 (YH ((⟨(⟨(⟨[],[],0⟩:aj),[],[],[],0,[],[],0⟩:ax),[],[],[],[],[],[]⟩:aL),YK))
 ((ll y2).bind λy3=>
 cond (!y3)
 (YH ((⟨(⟨(⟨[],[],0⟩:aj),[],[],[],0,[],[],0⟩:ax),[],[],[],[],[],[]⟩:aL),YK))
 (YH (y2,YJ)))
instance (n:aj)(skip:List Int)(aY:List bI)(aX:List bL)(aM:List Int):CT prog (ky n skip aY aX aM):=⟨102,[.ag (bA n),.sl (skip.map aE),.sl (aY.map cG),.sl (aX.map cI),.sl (aM.map aE)],[],λr=>.tu [.ag [.sl (r.1.world.aa.aA.map bn),.sl (r.1.world.aa.off.map aE),vi r.1.world.aa.change,.sl (r.1.world.ae.map ba),.sl (r.1.world.ar.map aC),.sl (r.1.world.ah.map aW),vi r.1.world.now,.sl (r.1.world.aH.map bt),.sl (r.1.world.skip.map aE),vi r.1.world.bd,.sl (r.1.aY.map cG),.sl (r.1.aX.map cI),.sl (r.1.aM.map aE),.ms 0,.sl (r.1.lines.map bC),.ms 1],vb r.2],λr=>[YH ⟨.of 44,7,r.1.aK.map bJ⟩,YH ⟨.of 48,13,r.1.aF.map gF⟩],cw (ky.eq_1 ..) func102 ntmps102 results102⟩
def o9(y1:aj×aO)(s0:Int×(List YR)×Int×Int×(List bK)):Option ((Int×(List YR)×Int×Int×(List bK))⊕((List YR)×Int×Int×(List bK))):=
 cond (YL (s0.1<(s0.2.2.2.2.length:Int)))
 ((bh [0]).bind λ_=>
 (bP (⟨s0.2.1,s0.2.2.1,s0.2.2.2.1⟩:aO) 3).bind λy2=>
 cond y2.1
 ((kR 8 [4]).bind λ_=>
 (bh [0]).bind λ_=>
 (aw y2.2 20).bind λy3=>
 (aB s0.2.2.2.2 s0.1).bind λy4=>
 YH (.inl ((aI (s0.1+1)),y3.2.b,y3.2.i,y3.2.h,(s0.2.2.2.2.set (Int.toNat s0.1) (⟨y4.au,y4.a8,y4.start,y4.mP,y4.uK,(aI (3000+(aI (1000*y3.1))))⟩:bK)))))
 (YH (.inl ((aI (s0.1+1)),y2.2.b,y2.2.i,y2.2.h,s0.2.2.2.2))))
 (YH (.inr (s0.2.1,s0.2.2.1,s0.2.2.2.1,s0.2.2.2.2)))
instance (y1:aj×aO):bo (o9 y1):=⟨λs0=>(.be 0 0 0::.un::.be 1 0 0::.be 2 0 0::vi s0.1::(U 84 [])),λs0=>[YH ⟨.of 119,3,[[.sl (s0.2.1.map YQ),vi s0.2.2.1,vi s0.2.2.2.1]]⟩,YH ⟨.of 40,16,[[.v (.slice YI 0 0),.v (.slice YI 0 0),vi 0,.v (.slice YI 0 0),.v (.slice YI 0 0),.v (.slice YI 0 0),vi 0,.v (.slice YI 0 0),.v (.slice YI 0 0),vi 0,.v (.slice YI 0 0),.v (.slice YI 0 0),.v (.slice YI 0 0),.v (.slice YI 0 0),.v (.slice YI 0 0),.v (.slice YI 0 0)]]⟩,YH ⟨.of 27,3,[[.ms 3,.ms 4,vi y1.1.change]]⟩,YH ⟨.of 144,6,s0.2.2.2.2.map bn⟩,YH ⟨.of 3,1,y1.1.off.map aE⟩]⟩
def pa(y1:aj×aO)(o0:(List YR)×Int×Int×(List bK))(s1:Int×(List YR)×Int×Int×(List Int)):Option ((Int×(List YR)×Int×Int×(List Int))⊕((List YR)×Int×Int×(List Int))):=
 cond (YL (0<s1.1))
 ((bh [0]).bind λ_=>
 (aw (⟨s1.2.1,s1.2.2.1,s1.2.2.2.1⟩:aO) 20).bind λy6=>
 (bW (bm ((s1.2.2.2.2:List Int).length+([(aI (1+y6.1))]:List Int).length) 8)).bind λ_=>
 YH (.inl ((aI (s1.1-1)),y6.2.b,y6.2.i,y6.2.h,((s1.2.2.2.2:List Int)++[(aI (1+y6.1))]))))
 (YH (.inr (s1.2.1,s1.2.2.1,s1.2.2.2.1,s1.2.2.2.2)))
instance (y1:aj×aO)(o0:(List YR)×Int×Int×(List bK)):bo (pa y1 o0):=⟨λs1=>(.be 0 0 0::.un::.be 1 0 0::.be 2 0 0::.un::.ms 5::vi s1.1::(U 82 [])),λs1=>[YH ⟨.of 119,3,[[.sl (s1.2.1.map YQ),vi s1.2.2.1,vi s1.2.2.2.1]]⟩,YH ⟨.of 40,16,[[.v (.slice YI 0 0),.v (.slice YI 0 0),vi 0,.v (.slice YI 0 0),.v (.slice YI 0 0),.v (.slice YI 0 0),vi 0,.v (.slice YI 0 0),.v (.slice YI 0 0),vi 0,.v (.slice YI 0 0),.v (.slice YI 0 0),.v (.slice YI 0 0),.v (.slice YI 0 0),.v (.slice YI 0 0),.v (.slice YI 0 0)]]⟩,YH ⟨.of 27,3,[[.ms 3,.ms 4,vi y1.1.change]]⟩,YH ⟨.of 144,6,o0.2.2.2.map bn⟩,YH ⟨.of 3,1,y1.1.off.map aE⟩,YH ⟨.of 3,1,s1.2.2.2.2.map aE⟩]⟩
def pd(y1:aj×aO)(o0:(List YR)×Int×Int×(List bK))(o1:(List YR)×Int×Int×(List Int))(s2:Int×(List YR)×Int×Int×(List bL))(s3:Int×(List YR)×Int×Int×(List bL)):Option ((Int×(List YR)×Int×Int×(List bL))⊕((List YR)×Int×Int×(List bL))):=
 cond (YL (s3.1<=3))
 ((bh [0]).bind λ_=>
 (aw (⟨s3.2.1,s3.2.2.1,s3.2.2.2.1⟩:aO) 5).bind λy7=>
 (bW (bm ((s3.2.2.2.2:List bL).length+([(⟨s2.1,s3.1,5000,(aI (500+(aI (100*y7.1))))⟩:bL)]:List bL).length) 32)).bind λ_=>
 (bh [0]).bind λ_=>
 (aw y7.2 9).bind λy8=>
 (bW (bm ((((s3.2.2.2.2:List bL)++[(⟨s2.1,s3.1,5000,(aI (500+(aI (100*y7.1))))⟩:bL)]):List bL).length+([(⟨s2.1,s3.1,40000,(aI (1000+(aI (100*y8.1))))⟩:bL)]:List bL).length) 32)).bind λ_=>
 YH (.inl ((aI (s3.1+1)),y8.2.b,y8.2.i,y8.2.h,((((s3.2.2.2.2:List bL)++[(⟨s2.1,s3.1,5000,(aI (500+(aI (100*y7.1))))⟩:bL)]):List bL)++[(⟨s2.1,s3.1,40000,(aI (1000+(aI (100*y8.1))))⟩:bL)]))))
 (YH (.inr (s3.2.1,s3.2.2.1,s3.2.2.2.1,s3.2.2.2.2)))
instance (y1:aj×aO)(o0:(List YR)×Int×Int×(List bK))(o1:(List YR)×Int×Int×(List Int))(s2:Int×(List YR)×Int×Int×(List bL)):bo (pd y1 o0 o1 s2):=⟨λs3=>(.be 0 0 0::.un::.be 1 0 0::.be 2 0 0::.un::.ms 5::.un::.ms 6::.ms 7::vi s2.1::vi s3.1::(U 78 [])),λs3=>[YH ⟨.of 119,3,[[.sl (s3.2.1.map YQ),vi s3.2.2.1,vi s3.2.2.2.1]]⟩,YH ⟨.of 40,16,[[.v (.slice YI 0 0),.v (.slice YI 0 0),vi 0,.v (.slice YI 0 0),.v (.slice YI 0 0),.v (.slice YI 0 0),vi 0,.v (.slice YI 0 0),.v (.slice YI 0 0),vi 0,.v (.slice YI 0 0),.v (.slice YI 0 0),.v (.slice YI 0 0),.v (.slice YI 0 0),.v (.slice YI 0 0),.v (.slice YI 0 0)]]⟩,YH ⟨.of 27,3,[[.ms 3,.ms 4,vi y1.1.change]]⟩,YH ⟨.of 144,6,o0.2.2.2.map bn⟩,YH ⟨.of 3,1,y1.1.off.map aE⟩,YH ⟨.of 3,1,o1.2.2.2.map aE⟩,YH ⟨.of 78,2,[[vs (⟨#[65,65,65]⟩),vs (⟨#[67,90,90]⟩)],[vs (⟨#[68,65,65]⟩),vs (⟨#[90,90,90]⟩)]]⟩,YH ⟨.of 81,4,s3.2.2.2.2.map cI⟩]⟩
def pb(y1:aj×aO)(o0:(List YR)×Int×Int×(List bK))(o1:(List YR)×Int×Int×(List Int))(s2:Int×(List YR)×Int×Int×(List bL)):Option ((Int×(List YR)×Int×Int×(List bL))⊕((List YR)×Int×Int×(List bL))):=
 cond (YL (s2.1<2))
 ((aD (pd y1 o0 o1 s2) NN (1,s2.2.1,s2.2.2.1,s2.2.2.2.1,s2.2.2.2.2)).bind (λo3=>
 YH (.inl ((aI (s2.1+1)),o3.1,o3.2.1,o3.2.2.1,o3.2.2.2))))
 (YH (.inr (s2.2.1,s2.2.2.1,s2.2.2.2.1,s2.2.2.2.2)))
instance (y1:aj×aO)(o0:(List YR)×Int×Int×(List bK))(o1:(List YR)×Int×Int×(List Int)):bo (pb y1 o0 o1):=⟨λs2=>(.be 0 0 0::.un::.be 1 0 0::.be 2 0 0::.un::.ms 5::.un::.ms 6::.ms 7::vi s2.1::(U 79 [])),λs2=>[YH ⟨.of 119,3,[[.sl (s2.2.1.map YQ),vi s2.2.2.1,vi s2.2.2.2.1]]⟩,YH ⟨.of 40,16,[[.v (.slice YI 0 0),.v (.slice YI 0 0),vi 0,.v (.slice YI 0 0),.v (.slice YI 0 0),.v (.slice YI 0 0),vi 0,.v (.slice YI 0 0),.v (.slice YI 0 0),vi 0,.v (.slice YI 0 0),.v (.slice YI 0 0),.v (.slice YI 0 0),.v (.slice YI 0 0),.v (.slice YI 0 0),.v (.slice YI 0 0)]]⟩,YH ⟨.of 27,3,[[.ms 3,.ms 4,vi y1.1.change]]⟩,YH ⟨.of 144,6,o0.2.2.2.map bn⟩,YH ⟨.of 3,1,y1.1.off.map aE⟩,YH ⟨.of 3,1,o1.2.2.2.map aE⟩,YH ⟨.of 78,2,[[vs (⟨#[65,65,65]⟩),vs (⟨#[67,90,90]⟩)],[vs (⟨#[68,65,65]⟩),vs (⟨#[90,90,90]⟩)]]⟩,YH ⟨.of 81,4,s2.2.2.2.2.map cI⟩]⟩
def j7(c:aO):Option (aL×aO):=
 (bh [0]).bind λ_=>
 (j8 c 7).bind λy1=>
 (aD (o9 y1) NN (0,y1.2.b,y1.2.i,y1.2.h,y1.1.aA)).bind (λo0=>
 (bh [0]).bind λ_=>
 (aw (⟨o0.1,o0.2.1,o0.2.2.1⟩:aO) 5).bind λy5=>
 (aD (pa y1 o0) NN (y5.1,y5.2.b,y5.2.i,y5.2.h,([]:List Int))).bind (λo1=>
 (aD (pb y1 o0 o1) NN (0,o1.1,o1.2.1,o1.2.2.1,([]:List bL))).bind (λo2=>
 (D9 (.be 0 0 0::.un::.be 1 0 0::.be 2 0 0::.un::.sl (o1.2.2.2.map aE)::.un::.sl (([(⟨⟨#[65,65,65]⟩,⟨#[67,90,90]⟩⟩:bI),(⟨⟨#[68,65,65]⟩,⟨#[90,90,90]⟩⟩:bI)]).map cG)::.sl (o2.2.2.2.map cI)::(U 80 [])) [YH ⟨.of 119,3,[[.sl (o2.1.map YQ),vi o2.2.1,vi o2.2.2.1]]⟩,YH ⟨.of 40,16,[[.v (.slice YI 0 0),.v (.slice YI 0 0),vi 0,.v (.slice YI 0 0),.v (.slice YI 0 0),.v (.slice YI 0 0),vi 0,.v (.slice YI 0 0),.v (.slice YI 0 0),vi 0,.v (.slice YI 0 0),.v (.slice YI 0 0),.v (.slice YI 0 0),.v (.slice YI 0 0),.v (.slice YI 0 0),.v (.slice YI 0 0)]]⟩,YH ⟨.of 27,3,[[.sl (o0.2.2.2.map bn),.sl (y1.1.off.map aE),vi y1.1.change]]⟩]).bind λ_=>
 (kR 8 [5]).bind λ_=>
 (bh [0]).bind λ_=>
 (dU (⟨o2.1,o2.2.1,o2.2.2.1⟩:aO)).bind λy9=>
 (ky (⟨o0.2.2.2,y1.1.off,y1.1.change⟩:aj) o1.2.2.2 ([(⟨⟨#[65,65,65]⟩,⟨#[67,90,90]⟩⟩:bI),(⟨⟨#[68,65,65]⟩,⟨#[90,90,90]⟩⟩:bI)]) o2.2.2.2 y9.1).bind λdL=>
 YH (dL.1,y9.2))))
instance (c:aO):CT prog (j7 c):=⟨51,[.be 0 0 0],[YH ⟨.of 119,3,[[.sl (c.b.map YQ),vi c.i,vi c.h]]⟩],λr=>.ag [.sl (r.1.world.aa.aA.map bn),.sl (r.1.world.aa.off.map aE),vi r.1.world.aa.change,.sl (r.1.world.ae.map ba),.sl (r.1.world.ar.map aC),.sl (r.1.world.ah.map aW),vi r.1.world.now,.sl (r.1.world.aH.map bt),.sl (r.1.world.skip.map aE),vi r.1.world.bd,.sl (r.1.aY.map cG),.sl (r.1.aX.map cI),.sl (r.1.aM.map aE),.ms 1,.sl (r.1.lines.map bC),.ms 2],λr=>[YH ⟨.of 119,3,[[.sl (r.2.b.map YQ),vi r.2.i,vi r.2.h]]⟩,YH ⟨.of 44,7,r.1.aK.map bJ⟩,YH ⟨.of 48,13,r.1.aF.map gF⟩],cw (j7.eq_1 ..) func51 ntmps51 results51⟩
end Go.Proofs.YtdilaemengjipaaGreatDoor
