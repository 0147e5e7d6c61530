/- A part of the proof of the statement in the last file of this claim: texts on the language of the program and on its functions. No condition. -/
import Derived.Test.YtdilaemengjipaaGreatDoorCJ4
import Derived.Test.YtdilaemengjipaaGreatDoorCJ7
import Derived.Test.YtdilaemengjipaaGreatDoorCJ16
import Derived.Test.YtdilaemengjipaaGreatDoorCJ11
import Derived.Test.YtdilaemengjipaaGreatDoorCJ23
import Derived.Test.YtdilaemengjipaaGreatDoorCJ19
import Derived.Test.YtdilaemengjipaaGreatDoorCJ20
import Derived.Test.YtdilaemengjipaaGreatDoorCJ14
import Derived.Test.YtdilaemengjipaaGreatDoorCJ1
set_option linter.unusedVariables false
set_option linter.unusedSimpArgs false
set_option linter.unusedSectionVars false
open Option renaming some->YW,none->YX
open Bool renaming true->YY,false->YZ
open Decidable renaming decide->Y0
open Go.Proofs.Tryz
set_option maxHeartbeats 40000000
namespace Go.Proofs.YtdilaemengjipaaGreatDoor
set_option maxRecDepth 10000
open Go.RowKit
def eO(w:ax)(cK:ByteArray)(aY:ByteArray)(aw:Int)(ab:Int):Option (ax×Int×Bool):=
 (eC w).bind λy1=>
 (fT w).bind λy2=>
 cond (!y2)
 (YW (y1,0,YZ))
 (cond (Y0 (30<=(w.aj.length:Int)))
 (YW (y1,0,YZ))
 (cond (Y0 (cK=aY))
 (YW (y1,0,YZ))
 ((bb aw 1 3).bind λy3=>
 cond (!y3)
 (YW (y1,0,YZ))
 ((bb ab 1 30000).bind λy4=>
 cond (!y4)
 (YW (y1,0,YZ))
 ((bS w.aa w.au w.ae cK aY (aM (w.now+1)) ab).bind λy5=>
 (cx w.aa w.au (aM ((w.aj.length:Int)+1)) ab y5.1).bind λy6=>
 cond (!y5.2)
 (YW (y1,0,YZ))
 (cond (!y6.2)
 (YW (y1,0,YZ))
 ((kq w.aa aw cK aY (aM (w.now+1))).bind λy7=>
 (A8 (.un::vs cK::(U 3 (.be 0 0 0::(U 4 (.be 1 0 0::.un::.un::.be 2 0 0::.un::.un::vi (aM ((w.aj.length:Int)+1))::.un::.un::.be 10 0 0::(U 99 [])))))) [YW ⟨.of 33,10,[[.sl (w.aa.aA.map bo),.sl (w.aa.off.map aG),vi w.aa.change,.sl (w.aj.map aZ),.sl (w.au.map aC),.sl (w.ae.map aU),vi w.now,.sl (w.aN.map bw),.sl (w.skip.map aG),vi w.bg]]⟩,YW ⟨.of 33,10,[[.v (.slice YX 0 0),.v (.slice YX 0 0),vi 0,.v (.slice YX 0 0),.v (.slice YX 0 0),.v (.slice YX 0 0),vi 0,.v (.slice YX 0 0),.v (.slice YX 0 0),vi 0]]⟩,YW ⟨.of 33,10,[[.ms 3,.ms 4,vi y1.aa.change,.ms 5,.ms 6,.ms 7,vi y1.now,.ms 8,.ms 9,vi y1.bg]]⟩,YW ⟨.of 144,6,y1.aa.aA.map bo⟩,YW ⟨.of 3,1,y1.aa.off.map aG⟩,YW ⟨.of 94,11,y1.aj.map aZ⟩,YW ⟨.of 147,4,y6.1.map aC⟩,YW ⟨.of 46,2,y1.ae.map aU⟩,YW ⟨.of 151,6,y1.aN.map bw⟩,YW ⟨.of 3,1,y1.skip.map aG⟩,YW ⟨.of 94,11,[[vs cK,vs aY,vi aw,vi ab,vi w.now,vi y7,.sl (y5.1.map aU),vi 0,vi 1,vs cK,vi 0]]⟩]).bind λ_=>
 (cr (bn ((y1.aj:List az).length+([(⟨cK,aY,aw,ab,w.now,y7,y5.1,0,1,cK,0⟩:az)]:List az).length) 128)).bind λ_=>
 (bq [2,3,4,12,6,7,8,9]).bind λ_=>
 (gx (⟨y1.aa,((y1.aj:List az)++[(⟨cK,aY,aw,ab,w.now,y7,y5.1,0,1,cK,0⟩:az)]),y6.1,y1.ae,y1.now,y1.aN,y1.skip,y1.bg⟩:ax) (⟨(aM ((w.aj.length:Int)+1)),w.now,1,cK,(⟨0,0⟩:av)⟩:br)).bind λy8=>
 YW (y8,(aM ((w.aj.length:Int)+1)),YY))))))))
instance (w:ax)(cK:ByteArray)(aY:ByteArray)(aw:Int)(ab:Int):CT prog (eO w cK aY aw ab):=⟨226,[.ag (gK w),vs cK,vs aY,vi aw,vi ab],[],λr=>.tu [.ag [.ms 0,.ms 1,vi r.1.aa.change,.ms 2,.ms 3,.ms 4,vi r.1.now,.ms 5,.ms 6,vi r.1.bg],vi r.2.1,vb r.2.2],λr=>[YW ⟨.of 144,6,r.1.aa.aA.map bo⟩,YW ⟨.of 3,1,r.1.aa.off.map aG⟩,YW ⟨.of 94,11,r.1.aj.map aZ⟩,YW ⟨.of 147,4,r.1.au.map aC⟩,YW ⟨.of 46,2,r.1.ae.map aU⟩,YW ⟨.of 151,6,r.1.aN.map bw⟩,YW ⟨.of 3,1,r.1.skip.map aG⟩],cw (eO.eq_1 ..) func226 ntmps226 results226⟩
def lX(o:aF)(p:aL):Option (Int×aF):=
 (iu o.aS o.aT p).bind λy1=>
 cond (!y1.2)
 (YW (2,o))
 (cond (Y0 (y1.1=0))
 (YW (2,o))
 ((oe 8 []).bind λ_=>
 (eO o.world p.ar p.label.aY p.label.aw p.ab).bind λy2=>
 cond (!y2.2.2)
 (YW (3,o))
 ((kM o.lines y2.2.1 y1.1 y2.1.now).bind λy3=>
 cond (!decide (y3.2=0))
 (YW (4,o))
 ((gW p).bind λy4=>
 (cr (bn ((o.aH:List aL).length+([y4]:List aL).length) 88)).bind λ_=>
 YW (0,(⟨y2.1,o.aS,o.aT,o.aI,((o.aH:List aL)++[y4]),y3.1,o.aD⟩:aF))))))
instance (o:aF)(p:aL):CT prog (lX o p):=⟨177,[.be 0 0 0,.ag (bA p)],[YW ⟨.of 40,16,[[.sl (o.world.aa.aA.map bo),.sl (o.world.aa.off.map aG),vi o.world.aa.change,.sl (o.world.aj.map aZ),.sl (o.world.au.map aC),.sl (o.world.ae.map aU),vi o.world.now,.sl (o.world.aN.map bw),.sl (o.world.skip.map aG),vi o.world.bg,.ms 1,.ms 2,.ms 3,.ms 4,.ms 5,.ms 6]]⟩,YW ⟨.of 78,2,o.aS.map cG⟩,YW ⟨.of 81,4,o.aT.map cy⟩,YW ⟨.of 3,1,o.aI.map aG⟩,YW ⟨.of 44,7,o.aH.map bA⟩,YW ⟨.of 85,4,o.lines.map bK⟩,YW ⟨.of 48,13,o.aD.map cX⟩],λr=>vi r.1,λr=>[YW ⟨.of 40,16,[[.sl (r.2.world.aa.aA.map bo),.sl (r.2.world.aa.off.map aG),vi r.2.world.aa.change,.sl (r.2.world.aj.map aZ),.sl (r.2.world.au.map aC),.sl (r.2.world.ae.map aU),vi r.2.world.now,.sl (r.2.world.aN.map bw),.sl (r.2.world.skip.map aG),vi r.2.world.bg,.ms 1,.ms 2,.ms 3,.ms 7,.ms 8,.ms 6]]⟩,YW ⟨.of 78,2,r.2.aS.map cG⟩,YW ⟨.of 81,4,r.2.aT.map cy⟩,YW ⟨.of 3,1,r.2.aI.map aG⟩,YX,YX,YW ⟨.of 48,13,r.2.aD.map cX⟩,YW ⟨.of 44,7,r.2.aH.map bA⟩,YW ⟨.of 85,4,r.2.lines.map bK⟩],cw (lX.eq_1 ..) func177 ntmps177 results177⟩
end Go.Proofs.YtdilaemengjipaaGreatDoor
