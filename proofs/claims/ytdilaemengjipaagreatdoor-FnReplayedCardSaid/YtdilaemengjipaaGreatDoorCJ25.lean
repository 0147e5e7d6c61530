/- A part of the proof of the statement in the last file of this claim: texts on the language of the program and on its functions. No condition. -/
import Derived.Test.YtdilaemengjipaaGreatDoorCJ4
import Derived.Test.YtdilaemengjipaaGreatDoorCJ7
import Derived.Test.YtdilaemengjipaaGreatDoorCJ23
import Derived.Test.YtdilaemengjipaaGreatDoorCJ13
import Derived.Test.YtdilaemengjipaaGreatDoorCJ14
import Derived.Test.YtdilaemengjipaaGreatDoorCJ20
import Derived.Test.YtdilaemengjipaaGreatDoorCJ11
import Derived.Test.YtdilaemengjipaaGreatDoorCJ16
import Derived.Test.YtdilaemengjipaaGreatDoorCJ1
set_option linter.unusedVariables false
set_option linter.unusedSimpArgs false
set_option linter.unusedSectionVars false
open Option renaming some->YW,none->YX
open Bool renaming true->YY,false->YZ
open Decidable renaming decide->Y0
open Go.Proofs.Tryz
set_option maxHeartbeats 40000000
namespace Go.Proofs.YtdilaemengjipaaGreatDoor
set_option maxRecDepth 10000
open Go.RowKit
def kO(o:aF)(s0:Int):Option (Int⊕(Unit⊕Bool)):=
 cond (Y0 (s0<(o.aH.length:Int)))
 ((ou o s0).bind λy6=>
 cond (!y6)
 (YW (.inr (.inr YZ)))
 (YW (.inl (aM (s0+1)))))
 (YW (.inr (.inl ())))
instance (o:aF):bp (kO o):=⟨λs0=>(.un::.be 0 0 0::.un::vi s0::(U 103 [])),λs0=>[YW ⟨.of 40,16,[[.sl (o.world.aa.aA.map bo),.sl (o.world.aa.off.map aG),vi o.world.aa.change,.sl (o.world.aj.map aZ),.sl (o.world.au.map aC),.sl (o.world.ae.map aU),vi o.world.now,.sl (o.world.aN.map bw),.sl (o.world.skip.map aG),vi o.world.bg,.sl (o.aS.map cG),.sl (o.aT.map cy),.sl (o.aI.map aG),.sl (o.aH.map bA),.sl (o.lines.map bK),.sl (o.aD.map cX)]]⟩]⟩
def kP(o:aF)(s1:Int):Option (Int⊕(Unit⊕Bool)):=
 cond (Y0 (s1<(o.lines.length:Int)))
 ((aB o.lines s1).bind λy7=>
 cond (Y0 ((o.aH.length:Int)<y7.order))
 (YW (.inr (.inr YZ)))
 ((aB o.lines s1).bind λy8=>
 cond (Y0 (o.world.now<y8.aQ))
 (YW (.inr (.inr YZ)))
 (YW (.inl (aM (s1+1))))))
 (YW (.inr (.inl ())))
instance (o:aF):bp (kP o):=⟨λs1=>(.un::.be 0 0 0::.un::.un::vi s1::(U 102 [])),λs1=>[YW ⟨.of 40,16,[[.sl (o.world.aa.aA.map bo),.sl (o.world.aa.off.map aG),vi o.world.aa.change,.sl (o.world.aj.map aZ),.sl (o.world.au.map aC),.sl (o.world.ae.map aU),vi o.world.now,.sl (o.world.aN.map bw),.sl (o.world.skip.map aG),vi o.world.bg,.sl (o.aS.map cG),.sl (o.aT.map cy),.sl (o.aI.map aG),.sl (o.aH.map bA),.sl (o.lines.map bK),.sl (o.aD.map cX)]]⟩]⟩
def kQ(o:aF)(s2:Int):Option (Int⊕(Unit⊕Bool)):=
 cond (Y0 (s2<(o.aD.length:Int)))
 ((aB o.aD s2).bind λy9=>
 (eV y9).bind λeh=>
 cond (!eh)
 (YW (.inr (.inr YZ)))
 (YW (.inl (aM (s2+1)))))
 (YW (.inr (.inl ())))
instance (o:aF):bp (kQ o):=⟨λs2=>(.un::.be 0 0 0::(U 3 (vi s2::(U 101 [])))),λs2=>[YW ⟨.of 40,16,[[.sl (o.world.aa.aA.map bo),.sl (o.world.aa.off.map aG),vi o.world.aa.change,.sl (o.world.aj.map aZ),.sl (o.world.au.map aC),.sl (o.world.ae.map aU),vi o.world.now,.sl (o.world.aN.map bw),.sl (o.world.skip.map aG),vi o.world.bg,.sl (o.aS.map cG),.sl (o.aT.map cy),.sl (o.aI.map aG),.sl (o.aH.map bA),.sl (o.lines.map bK),.sl (o.aD.map cX)]]⟩]⟩
def lF(o:aF):Option Bool:=
 (fT o.world).bind λy1=>
 cond (!y1)
 (YW YZ)
 ((jO o.aS).bind λy2=>
 cond (!y2)
 (YW YZ)
 ((lD o.aT (o.aS.length:Int)).bind λy3=>
 cond (!y3)
 (YW YZ)
 ((eU o.aI).bind λy4=>
 cond (!y4)
 (YW YZ)
 ((ew o.lines).bind λy5=>
 cond (!y5)
 (YW YZ)
 (cond (!decide ((o.aH.length:Int)=(o.world.aj.length:Int)))
 (YW YZ)
 (cond (Y0 (150<(o.aD.length:Int)))
 (YW YZ)
 ((aE (kO o) NN 0).bind (bh (λo0=>
 (aE (kP o) NN 0).bind (bh (λo1=>
 (aE (kQ o) NN 0).bind (bh (λo2=>
 YW YY) (λr=>YW r))) (λr=>YW r))) (λr=>YW r)))))))))
instance (o:aF):CT prog (lF o):=⟨109,[.ag (lM o)],[],λr=>vb r,λr=>[],cw (lF.eq_1 ..) func109 ntmps109 results109⟩
def jJ(n:ah)(skip:List Int):Option (ax×Bool):=
 (eC (⟨n,[],[],[],0,[],skip,0⟩:ax)).bind λy1=>
 (fT y1).bind λy2=>
 cond (!y2)
 (YW ((⟨(⟨[],[],0⟩:ah),[],[],[],0,[],[],0⟩:ax),YZ))
 (YW (y1,YY))
theorem xu(n:ah)(skip:List Int){r:ax×Bool}(H:jJ n skip=YW r):fa prog 167 [.ag (bB n),.sl (skip.map aG)] [] (.tu [.ag [.ms 0,.ms 1,vi r.1.aa.change,.ms 2,.ms 3,.ms 4,vi r.1.now,.ms 5,.ms 6,vi r.1.bg],vb r.2]) [YW ⟨.of 144,6,r.1.aa.aA.map bo⟩,YW ⟨.of 3,1,r.1.aa.off.map aG⟩,YW ⟨.of 94,11,r.1.aj.map aZ⟩,YW ⟨.of 147,4,r.1.au.map aC⟩,YW ⟨.of 46,2,r.1.ae.map aU⟩,YW ⟨.of 151,6,r.1.aN.map bw⟩,YW ⟨.of 3,1,r.1.skip.map aG⟩]:=by
 replace H:=H0 H;unfold jJ at H
 refine js func167 rfl ntmps167 results167 λQ hQ IP=>?_
 exact KJ
instance (n:ah)(skip:List Int):CT prog (jJ n skip):=⟨167,[.ag (bB n),.sl (skip.map aG)],[],λr=>.tu [.ag [.ms 0,.ms 1,vi r.1.aa.change,.ms 2,.ms 3,.ms 4,vi r.1.now,.ms 5,.ms 6,vi r.1.bg],vb r.2],λr=>[YW ⟨.of 144,6,r.1.aa.aA.map bo⟩,YW ⟨.of 3,1,r.1.aa.off.map aG⟩,YW ⟨.of 94,11,r.1.aj.map aZ⟩,YW ⟨.of 147,4,r.1.au.map aC⟩,YW ⟨.of 46,2,r.1.ae.map aU⟩,YW ⟨.of 151,6,r.1.aN.map bw⟩,YW ⟨.of 3,1,r.1.skip.map aG⟩],xu n skip⟩
def kI(n:ah)(skip:List Int)(aS:List ct)(aT:List bF)(aI:List Int):Option (aF×Bool):=
 (jJ n skip).bind λy1=>
 (A8 (.un::.un::.sl (aS.map cG)::.sl (aT.map cy)::.sl (aI.map aG)::(U 5 (.be 0 0 0::.un::.be 1 0 0::vb y1.2::(U 22 [])))) [YW ⟨.of 40,16,[[.v (.slice YX 0 0),.v (.slice YX 0 0),vi 0,.v (.slice YX 0 0),.v (.slice YX 0 0),.v (.slice YX 0 0),vi 0,.v (.slice YX 0 0),.v (.slice YX 0 0),vi 0,.v (.slice YX 0 0),.v (.slice YX 0 0),.v (.slice YX 0 0),.v (.slice YX 0 0),.v (.slice YX 0 0),.v (.slice YX 0 0)]]⟩,YW ⟨.of 33,10,[[.sl (y1.1.aa.aA.map bo),.sl (y1.1.aa.off.map aG),vi y1.1.aa.change,.sl (y1.1.aj.map aZ),.sl (y1.1.au.map aC),.sl (y1.1.ae.map aU),vi y1.1.now,.sl (y1.1.aN.map bw),.sl (y1.1.skip.map aG),vi y1.1.bg]]⟩]).bind λ_=>
 (gf (⟨y1.1,aS,aT,aI,[],[],[]⟩:aF)).bind λy2=>
 cond (!y1.2)
 (YW ((⟨(⟨(⟨[],[],0⟩:ah),[],[],[],0,[],[],0⟩:ax),[],[],[],[],[],[]⟩:aF),YZ))
 ((lF y2).bind λy3=>
 cond (!y3)
 (YW ((⟨(⟨(⟨[],[],0⟩:ah),[],[],[],0,[],[],0⟩:ax),[],[],[],[],[],[]⟩:aF),YZ))
 (YW (y2,YY)))
instance (n:ah)(skip:List Int)(aS:List ct)(aT:List bF)(aI:List Int):CT prog (kI n skip aS aT aI):=⟨102,[.ag (bB n),.sl (skip.map aG),.sl (aS.map cG),.sl (aT.map cy),.sl (aI.map aG)],[],λr=>.tu [.ag [.sl (r.1.world.aa.aA.map bo),.sl (r.1.world.aa.off.map aG),vi r.1.world.aa.change,.sl (r.1.world.aj.map aZ),.sl (r.1.world.au.map aC),.sl (r.1.world.ae.map aU),vi r.1.world.now,.sl (r.1.world.aN.map bw),.sl (r.1.world.skip.map aG),vi r.1.world.bg,.sl (r.1.aS.map cG),.sl (r.1.aT.map cy),.sl (r.1.aI.map aG),.ms 0,.sl (r.1.lines.map bK),.ms 1],vb r.2],λr=>[YW ⟨.of 44,7,r.1.aH.map bA⟩,YW ⟨.of 48,13,r.1.aD.map cX⟩],cw (kI.eq_1 ..) func102 ntmps102 results102⟩
def pr(y1:ah×bj)(s0:Int×(List Y6)×Int×Int×(List bP)):Option ((Int×(List Y6)×Int×Int×(List bP))⊕((List Y6)×Int×Int×(List bP))):=
 cond (Y0 (s0.1<(s0.2.2.2.2.length:Int)))
 ((bq [0]).bind λ_=>
 (cA (⟨s0.2.1,s0.2.2.1,s0.2.2.2.1⟩:bj) 3).bind λy2=>
 cond y2.1
 ((oe 8 [4]).bind λ_=>
 (bq [0]).bind λ_=>
 (ay y2.2 20).bind λy3=>
 (aB s0.2.2.2.2 s0.1).bind λy4=>
 YW (.inl ((aM (s0.1+1)),y3.2.b,y3.2.i,y3.2.h,(s0.2.2.2.2.set (Int.toNat s0.1) (⟨y4.ar,y4.aY,y4.start,y4.nd,y4.vt,(aM (3000+(aM (1000*y3.1))))⟩:bP)))))
 (YW (.inl ((aM (s0.1+1)),y2.2.b,y2.2.i,y2.2.h,s0.2.2.2.2))))
 (YW (.inr (s0.2.1,s0.2.2.1,s0.2.2.2.1,s0.2.2.2.2)))
instance (y1:ah×bj):bp (pr y1):=⟨λs0=>(.be 0 0 0::.un::.be 1 0 0::.be 2 0 0::vi s0.1::(U 84 [])),λs0=>[YW ⟨.of 119,3,[[.sl (s0.2.1.map Y5),vi s0.2.2.1,vi s0.2.2.2.1]]⟩,YW ⟨.of 40,16,[[.v (.slice YX 0 0),.v (.slice YX 0 0),vi 0,.v (.slice YX 0 0),.v (.slice YX 0 0),.v (.slice YX 0 0),vi 0,.v (.slice YX 0 0),.v (.slice YX 0 0),vi 0,.v (.slice YX 0 0),.v (.slice YX 0 0),.v (.slice YX 0 0),.v (.slice YX 0 0),.v (.slice YX 0 0),.v (.slice YX 0 0)]]⟩,YW ⟨.of 27,3,[[.ms 3,.ms 4,vi y1.1.change]]⟩,YW ⟨.of 144,6,s0.2.2.2.2.map bo⟩,YW ⟨.of 3,1,y1.1.off.map aG⟩]⟩
def pt(y1:ah×bj)(o0:(List Y6)×Int×Int×(List bP))(s1:Int×(List Y6)×Int×Int×(List Int)):Option ((Int×(List Y6)×Int×Int×(List Int))⊕((List Y6)×Int×Int×(List Int))):=
 cond (Y0 (0<s1.1))
 ((bq [0]).bind λ_=>
 (ay (⟨s1.2.1,s1.2.2.1,s1.2.2.2.1⟩:bj) 20).bind λy6=>
 (cr (bn ((s1.2.2.2.2:List Int).length+([(aM (1+y6.1))]:List Int).length) 8)).bind λ_=>
 YW (.inl ((aM (s1.1-1)),y6.2.b,y6.2.i,y6.2.h,((s1.2.2.2.2:List Int)++[(aM (1+y6.1))]))))
 (YW (.inr (s1.2.1,s1.2.2.1,s1.2.2.2.1,s1.2.2.2.2)))
instance (y1:ah×bj)(o0:(List Y6)×Int×Int×(List bP)):bp (pt y1 o0):=⟨λs1=>(.be 0 0 0::.un::.be 1 0 0::.be 2 0 0::.un::.ms 5::vi s1.1::(U 82 [])),λs1=>[YW ⟨.of 119,3,[[.sl (s1.2.1.map Y5),vi s1.2.2.1,vi s1.2.2.2.1]]⟩,YW ⟨.of 40,16,[[.v (.slice YX 0 0),.v (.slice YX 0 0),vi 0,.v (.slice YX 0 0),.v (.slice YX 0 0),.v (.slice YX 0 0),vi 0,.v (.slice YX 0 0),.v (.slice YX 0 0),vi 0,.v (.slice YX 0 0),.v (.slice YX 0 0),.v (.slice YX 0 0),.v (.slice YX 0 0),.v (.slice YX 0 0),.v (.slice YX 0 0)]]⟩,YW ⟨.of 27,3,[[.ms 3,.ms 4,vi y1.1.change]]⟩,YW ⟨.of 144,6,o0.2.2.2.map bo⟩,YW ⟨.of 3,1,y1.1.off.map aG⟩,YW ⟨.of 3,1,s1.2.2.2.2.map aG⟩]⟩
def pw(y1:ah×bj)(o0:(List Y6)×Int×Int×(List bP))(o1:(List Y6)×Int×Int×(List Int))(s2:Int×(List Y6)×Int×Int×(List bF))(s3:Int×(List Y6)×Int×Int×(List bF)):Option ((Int×(List Y6)×Int×Int×(List bF))⊕((List Y6)×Int×Int×(List bF))):=
 cond (Y0 (s3.1<=3))
 ((bq [0]).bind λ_=>
 (ay (⟨s3.2.1,s3.2.2.1,s3.2.2.2.1⟩:bj) 5).bind λy7=>
 (cr (bn ((s3.2.2.2.2:List bF).length+([(⟨s2.1,s3.1,5000,(aM (500+(aM (100*y7.1))))⟩:bF)]:List bF).length) 32)).bind λ_=>
 (bq [0]).bind λ_=>
 (ay y7.2 9).bind λy8=>
 (cr (bn ((((s3.2.2.2.2:List bF)++[(⟨s2.1,s3.1,5000,(aM (500+(aM (100*y7.1))))⟩:bF)]):List bF).length+([(⟨s2.1,s3.1,40000,(aM (1000+(aM (100*y8.1))))⟩:bF)]:List bF).length) 32)).bind λ_=>
 YW (.inl ((aM (s3.1+1)),y8.2.b,y8.2.i,y8.2.h,((((s3.2.2.2.2:List bF)++[(⟨s2.1,s3.1,5000,(aM (500+(aM (100*y7.1))))⟩:bF)]):List bF)++[(⟨s2.1,s3.1,40000,(aM (1000+(aM (100*y8.1))))⟩:bF)]))))
 (YW (.inr (s3.2.1,s3.2.2.1,s3.2.2.2.1,s3.2.2.2.2)))
instance (y1:ah×bj)(o0:(List Y6)×Int×Int×(List bP))(o1:(List Y6)×Int×Int×(List Int))(s2:Int×(List Y6)×Int×Int×(List bF)):bp (pw y1 o0 o1 s2):=⟨λs3=>(.be 0 0 0::.un::.be 1 0 0::.be 2 0 0::.un::.ms 5::.un::.ms 6::.ms 7::vi s2.1::vi s3.1::(U 78 [])),λs3=>[YW ⟨.of 119,3,[[.sl (s3.2.1.map Y5),vi s3.2.2.1,vi s3.2.2.2.1]]⟩,YW ⟨.of 40,16,[[.v (.slice YX 0 0),.v (.slice YX 0 0),vi 0,.v (.slice YX 0 0),.v (.slice YX 0 0),.v (.slice YX 0 0),vi 0,.v (.slice YX 0 0),.v (.slice YX 0 0),vi 0,.v (.slice YX 0 0),.v (.slice YX 0 0),.v (.slice YX 0 0),.v (.slice YX 0 0),.v (.slice YX 0 0),.v (.slice YX 0 0)]]⟩,YW ⟨.of 27,3,[[.ms 3,.ms 4,vi y1.1.change]]⟩,YW ⟨.of 144,6,o0.2.2.2.map bo⟩,YW ⟨.of 3,1,y1.1.off.map aG⟩,YW ⟨.of 3,1,o1.2.2.2.map aG⟩,YW ⟨.of 78,2,[[vs (⟨#[65,65,65]⟩),vs (⟨#[67,90,90]⟩)],[vs (⟨#[68,65,65]⟩),vs (⟨#[90,90,90]⟩)]]⟩,YW ⟨.of 81,4,s3.2.2.2.2.map cy⟩]⟩
def pv(y1:ah×bj)(o0:(List Y6)×Int×Int×(List bP))(o1:(List Y6)×Int×Int×(List Int))(s2:Int×(List Y6)×Int×Int×(List bF)):Option ((Int×(List Y6)×Int×Int×(List bF))⊕((List Y6)×Int×Int×(List bF))):=
 cond (Y0 (s2.1<2))
 ((aE (pw y1 o0 o1 s2) NN (1,s2.2.1,s2.2.2.1,s2.2.2.2.1,s2.2.2.2.2)).bind (λo3=>
 YW (.inl ((aM (s2.1+1)),o3.1,o3.2.1,o3.2.2.1,o3.2.2.2))))
 (YW (.inr (s2.2.1,s2.2.2.1,s2.2.2.2.1,s2.2.2.2.2)))
instance (y1:ah×bj)(o0:(List Y6)×Int×Int×(List bP))(o1:(List Y6)×Int×Int×(List Int)):bp (pv y1 o0 o1):=⟨λs2=>(.be 0 0 0::.un::.be 1 0 0::.be 2 0 0::.un::.ms 5::.un::.ms 6::.ms 7::vi s2.1::(U 79 [])),λs2=>[YW ⟨.of 119,3,[[.sl (s2.2.1.map Y5),vi s2.2.2.1,vi s2.2.2.2.1]]⟩,YW ⟨.of 40,16,[[.v (.slice YX 0 0),.v (.slice YX 0 0),vi 0,.v (.slice YX 0 0),.v (.slice YX 0 0),.v (.slice YX 0 0),vi 0,.v (.slice YX 0 0),.v (.slice YX 0 0),vi 0,.v (.slice YX 0 0),.v (.slice YX 0 0),.v (.slice YX 0 0),.v (.slice YX 0 0),.v (.slice YX 0 0),.v (.slice YX 0 0)]]⟩,YW ⟨.of 27,3,[[.ms 3,.ms 4,vi y1.1.change]]⟩,YW ⟨.of 144,6,o0.2.2.2.map bo⟩,YW ⟨.of 3,1,y1.1.off.map aG⟩,YW ⟨.of 3,1,o1.2.2.2.map aG⟩,YW ⟨.of 78,2,[[vs (⟨#[65,65,65]⟩),vs (⟨#[67,90,90]⟩)],[vs (⟨#[68,65,65]⟩),vs (⟨#[90,90,90]⟩)]]⟩,YW ⟨.of 81,4,s2.2.2.2.2.map cy⟩]⟩
def mM(c:bj):Option (aF×bj):=
 (bq [0]).bind λ_=>
 (mO c 7).bind λy1=>
 (aE (pr y1) NN (0,y1.2.b,y1.2.i,y1.2.h,y1.1.aA)).bind (λo0=>
 (bq [0]).bind λ_=>
 (ay (⟨o0.1,o0.2.1,o0.2.2.1⟩:bj) 5).bind λy5=>
 (aE (pt y1 o0) NN (y5.1,y5.2.b,y5.2.i,y5.2.h,([]:List Int))).bind (λo1=>
 (aE (pv y1 o0 o1) NN (0,o1.1,o1.2.1,o1.2.2.1,([]:List bF))).bind (λo2=>
 (A8 (.be 0 0 0::.un::.be 1 0 0::.be 2 0 0::.un::.sl (o1.2.2.2.map aG)::.un::.sl (([(⟨⟨#[65,65,65]⟩,⟨#[67,90,90]⟩⟩:ct),(⟨⟨#[68,65,65]⟩,⟨#[90,90,90]⟩⟩:ct)]).map cG)::.sl (o2.2.2.2.map cy)::(U 80 [])) [YW ⟨.of 119,3,[[.sl (o2.1.map Y5),vi o2.2.1,vi o2.2.2.1]]⟩,YW ⟨.of 40,16,[[.v (.slice YX 0 0),.v (.slice YX 0 0),vi 0,.v (.slice YX 0 0),.v (.slice YX 0 0),.v (.slice YX 0 0),vi 0,.v (.slice YX 0 0),.v (.slice YX 0 0),vi 0,.v (.slice YX 0 0),.v (.slice YX 0 0),.v (.slice YX 0 0),.v (.slice YX 0 0),.v (.slice YX 0 0),.v (.slice YX 0 0)]]⟩,YW ⟨.of 27,3,[[.sl (o0.2.2.2.map bo),.sl (y1.1.off.map aG),vi y1.1.change]]⟩]).bind λ_=>
 (oe 8 [5]).bind λ_=>
 (bq [0]).bind λ_=>
 (iR (⟨o2.1,o2.2.1,o2.2.2.1⟩:bj)).bind λy9=>
 (kI (⟨o0.2.2.2,y1.1.off,y1.1.change⟩:ah) o1.2.2.2 ([(⟨⟨#[65,65,65]⟩,⟨#[67,90,90]⟩⟩:ct),(⟨⟨#[68,65,65]⟩,⟨#[90,90,90]⟩⟩:ct)]) o2.2.2.2 y9.1).bind λeh=>
 YW (eh.1,y9.2))))
instance (c:bj):CT prog (mM c):=⟨51,[.be 0 0 0],[YW ⟨.of 119,3,[[.sl (c.b.map Y5),vi c.i,vi c.h]]⟩],λr=>.ag [.sl (r.1.world.aa.aA.map bo),.sl (r.1.world.aa.off.map aG),vi r.1.world.aa.change,.sl (r.1.world.aj.map aZ),.sl (r.1.world.au.map aC),.sl (r.1.world.ae.map aU),vi r.1.world.now,.sl (r.1.world.aN.map bw),.sl (r.1.world.skip.map aG),vi r.1.world.bg,.sl (r.1.aS.map cG),.sl (r.1.aT.map cy),.sl (r.1.aI.map aG),.ms 1,.sl (r.1.lines.map bK),.ms 2],λr=>[YW ⟨.of 119,3,[[.sl (r.2.b.map Y5),vi r.2.i,vi r.2.h]]⟩,YW ⟨.of 44,7,r.1.aH.map bA⟩,YW ⟨.of 48,13,r.1.aD.map cX⟩],cw (mM.eq_1 ..) func51 ntmps51 results51⟩
end Go.Proofs.YtdilaemengjipaaGreatDoor
