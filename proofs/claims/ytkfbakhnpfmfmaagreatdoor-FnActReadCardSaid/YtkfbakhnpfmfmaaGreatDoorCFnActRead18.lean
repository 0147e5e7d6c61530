/- A part of the proof of the statement in the last file of this claim: texts on the language of the program and on its functions. No condition. -/
import Derived.Test.YtkfbakhnpfmfmaaGreatDoorCFnActRead4
import Derived.Test.YtkfbakhnpfmfmaaGreatDoorCFnActRead6
import Derived.Test.YtkfbakhnpfmfmaaGreatDoorCFnActRead15
import Derived.Test.YtkfbakhnpfmfmaaGreatDoorCFnActRead13
import Derived.Test.YtkfbakhnpfmfmaaGreatDoorCFnActRead16
import Derived.Test.YtkfbakhnpfmfmaaGreatDoorCFnActRead17
import Derived.Test.YtkfbakhnpfmfmaaGreatDoorCFnActRead7
import Derived.Test.YtkfbakhnpfmfmaaGreatDoorCFnActRead12
import Derived.Test.YtkfbakhnpfmfmaaGreatDoorCFnActRead5
import Derived.Test.YtkfbakhnpfmfmaaGreatDoorCFnActRead8
set_option linter.unusedVariables false
set_option linter.unusedSimpArgs false
set_option linter.unusedSectionVars false
namespace Go.Proofs.YtkfbakhnpfmfmaaGreatDoor
set_option maxRecDepth 10000
open Go.RowKit
set_option linter.unusedVariables false
set_option maxHeartbeats 16000000
def ZbL (n:Za) (skip:List Int):Option (Ze × Bool):=
 (Zam (⟨n,[],[],[],0,[],skip,0⟩:Ze)).bind fun y1=>
 (ZaI y1).bind fun y2=>
 cond (!y2)
 (some ((⟨(⟨[],[],0⟩:Za),[],[],[],0,[],[],0⟩:Ze),false))
 (some (y1,true))
theorem ZhN (n:Za) (skip:List Int) {r:Ze × Bool} (H:ZbL n skip=some r):Zd1 Tryz.prog 145 [.ag (Z2 n),.sl (skip.map cInt)] [] (.tu [.ag [.ms 0,.ms 1,vi r.1.network.change,.ms 2,.ms 3,.ms 4,vi r.1.now,.ms 5,.ms 6,vi r.1.made],vb r.2]) [some ⟨.of 133,6,r.1.network.legs.map cLeg⟩,some ⟨.of 3,1,r.1.network.off.map cInt⟩,some ⟨.of 226,11,r.1.orders.map ZV⟩,some ⟨.of 175,4,r.1.bookings.map Zk⟩,some ⟨.of 28,2,r.1.closed.map ZS⟩,some ⟨.of 233,6,r.1.scans.map Zax⟩,some ⟨.of 3,1,r.1.skip.map cInt⟩]:=by
 replace H:=H0 H
 unfold ZbL at H
 refine Zd Tryz.func145 rfl Tryz.ntmps145 Tryz.results145 fun Q hQ hQn=>?_
 exact wk3
instance (n:Za) (skip:List Int):CT Tryz.prog (ZbL n skip):=⟨145,[.ag (Z2 n),.sl (skip.map cInt)],[],fun r=>.tu [.ag [.ms 0,.ms 1,vi r.1.network.change,.ms 2,.ms 3,.ms 4,vi r.1.now,.ms 5,.ms 6,vi r.1.made],vb r.2],fun r=>[some ⟨.of 133,6,r.1.network.legs.map cLeg⟩,some ⟨.of 3,1,r.1.network.off.map cInt⟩,some ⟨.of 226,11,r.1.orders.map ZV⟩,some ⟨.of 175,4,r.1.bookings.map Zk⟩,some ⟨.of 28,2,r.1.closed.map ZS⟩,some ⟨.of 233,6,r.1.scans.map Zax⟩,some ⟨.of 3,1,r.1.skip.map cInt⟩],ZhN n skip⟩
def ZcG (o:Zr) (p:Zi):Option (Int × Zr):=
 (ZbJ o.zones o.rates p).bind fun y1=>
 cond (!y1.2)
 (some (2,o))
 (cond (decide (y1.1=0))
 (some (2,o))
 ((drwL 8 []).bind fun _=>
 (ZbD o.world p.from_ p.label.to_ p.label.service p.weight).bind fun y2=>
 cond (!y2.2.2)
 (some (3,o))
 ((Zce o.lines y2.2.1 y1.1 y2.1.now).bind fun y3=>
 cond (!decide (y3.2=0))
 (some (4,o))
 ((Za4 p).bind fun y4=>
 (chk (Z9 ((o.parcels:List Zi).length+([y4]:List Zi).length) 88)).bind fun _=>
 some (0,(⟨y2.1,o.zones,o.rates,o.percents,((o.parcels:List Zi)++[y4]),y3.1,o.journal⟩:Zr))))))
instance (o:Zr) (p:Zi):CT Tryz.prog (ZcG o p):=⟨153,[.be 0 0 0,.ag (Zar p)],[some ⟨.of 92,16,[[.sl (o.world.network.legs.map cLeg),.sl (o.world.network.off.map cInt),vi o.world.network.change,.sl (o.world.orders.map ZV),.sl (o.world.bookings.map Zk),.sl (o.world.closed.map ZS),vi o.world.now,.sl (o.world.scans.map Zax),.sl (o.world.skip.map cInt),vi o.world.made,.ms 1,.ms 2,.ms 3,.ms 4,.ms 5,.ms 6]]⟩,some ⟨.of 135,2,o.zones.map ZcB⟩,some ⟨.of 137,4,o.rates.map Zb5⟩,some ⟨.of 3,1,o.percents.map cInt⟩,some ⟨.of 26,7,o.parcels.map Zar⟩,some ⟨.of 188,4,o.lines.map Zbi⟩,some ⟨.of 30,13,o.journal.map cAct⟩],fun r=>vi r.1,fun r=>[some ⟨.of 92,16,[[.sl (r.2.world.network.legs.map cLeg),.sl (r.2.world.network.off.map cInt),vi r.2.world.network.change,.sl (r.2.world.orders.map ZV),.sl (r.2.world.bookings.map Zk),.sl (r.2.world.closed.map ZS),vi r.2.world.now,.sl (r.2.world.scans.map Zax),.sl (r.2.world.skip.map cInt),vi r.2.world.made,.ms 1,.ms 2,.ms 3,.ms 7,.ms 8,.ms 6]]⟩,some ⟨.of 135,2,r.2.zones.map ZcB⟩,some ⟨.of 137,4,r.2.rates.map Zb5⟩,some ⟨.of 3,1,r.2.percents.map cInt⟩,none,none,some ⟨.of 30,13,r.2.journal.map cAct⟩,some ⟨.of 26,7,r.2.parcels.map Zar⟩,some ⟨.of 188,4,r.2.lines.map Zbi⟩],fun H=>by replace H:=H0 H; unfold ZcG at H; exact Zd Tryz.func153 rfl Tryz.ntmps153 Tryz.results153 fun Q hQ hQn=>wk7⟩
def ZdE (o:Zr) (a:YAct):Option (Int × Zr):=
 cond (decide (a.kind=1))
 ((rhoM [0,1,2,3,4,5,6]).bind fun _=>
 (ZcG o a.parcel).bind fun y1=>
 some (y1.1,y1.2))
 (cond (decide (a.kind=2))
 (cond (decide (a.kind=2))
 ((rhoM [0,1,2,3,4,5,6]).bind fun _=>
 (Zbw o a).bind fun y2=>
 some (y2.1,y2.2))
 (cond (decide (a.kind=3))
 (cond (decide (a.until_≤o.world.now))
 (some (6,o))
 ((drwL 8 []).bind fun _=>
 (ZaB o.world a.until_).bind fun y3=>
 some (0,(⟨y3,o.zones,o.rates,o.percents,o.parcels,o.lines,o.journal⟩:Zr))))
 (cond (decide (a.kind=4))
 ((drwL 8 []).bind fun _=>
 (Za8 o.world a.trip).bind fun y4=>
 cond (!y4.2)
 (some (6,o))
 (some (0,(⟨y4.1,o.zones,o.rates,o.percents,o.parcels,o.lines,o.journal⟩:Zr))))
 ((Zaz o.world).bind fun y5=>
 cond (decide (y5.2=0))
 (some (6,o))
 (some (0,(⟨y5.1,o.zones,o.rates,o.percents,o.parcels,o.lines,o.journal⟩:Zr)))))))
 (cond (decide (a.kind=6))
 ((rhoM [0,1,2,3,4,5,6]).bind fun _=>
 (Zbw o a).bind fun y6=>
 some (y6.1,y6.2))
 (cond (decide (a.kind=3))
 (cond (decide (a.until_≤o.world.now))
 (some (6,o))
 ((drwL 8 []).bind fun _=>
 (ZaB o.world a.until_).bind fun y7=>
 some (0,(⟨y7,o.zones,o.rates,o.percents,o.parcels,o.lines,o.journal⟩:Zr))))
 (cond (decide (a.kind=4))
 ((drwL 8 []).bind fun _=>
 (Za8 o.world a.trip).bind fun y8=>
 cond (!y8.2)
 (some (6,o))
 (some (0,(⟨y8.1,o.zones,o.rates,o.percents,o.parcels,o.lines,o.journal⟩:Zr))))
 ((Zaz o.world).bind fun y9=>
 cond (decide (y9.2=0))
 (some (6,o))
 (some (0,(⟨y9.1,o.zones,o.rates,o.percents,o.parcels,o.lines,o.journal⟩:Zr))))))))
instance (o:Zr) (a:YAct):CT Tryz.prog (ZdE o a):=⟨117,[.be 0 0 0,.ag (cAct a)],[some ⟨.of 92,16,[[.sl (o.world.network.legs.map cLeg),.sl (o.world.network.off.map cInt),vi o.world.network.change,.sl (o.world.orders.map ZV),.sl (o.world.bookings.map Zk),.sl (o.world.closed.map ZS),vi o.world.now,.sl (o.world.scans.map Zax),.sl (o.world.skip.map cInt),vi o.world.made,.ms 1,.ms 2,.ms 3,.ms 4,.ms 5,.ms 6]]⟩,some ⟨.of 135,2,o.zones.map ZcB⟩,some ⟨.of 137,4,o.rates.map Zb5⟩,some ⟨.of 3,1,o.percents.map cInt⟩,some ⟨.of 26,7,o.parcels.map Zar⟩,some ⟨.of 188,4,o.lines.map Zbi⟩,some ⟨.of 30,13,o.journal.map cAct⟩],fun r=>vi r.1,fun r=>[some ⟨.of 92,16,[[.sl (r.2.world.network.legs.map cLeg),.sl (r.2.world.network.off.map cInt),vi r.2.world.network.change,.sl (r.2.world.orders.map ZV),.sl (r.2.world.bookings.map Zk),.sl (r.2.world.closed.map ZS),vi r.2.world.now,.sl (r.2.world.scans.map Zax),.sl (r.2.world.skip.map cInt),vi r.2.world.made,.ms 1,.ms 2,.ms 3,.ms 7,.ms 8,.ms 6]]⟩,some ⟨.of 135,2,r.2.zones.map ZcB⟩,some ⟨.of 137,4,r.2.rates.map Zb5⟩,some ⟨.of 3,1,r.2.percents.map cInt⟩,none,none,some ⟨.of 30,13,r.2.journal.map cAct⟩,some ⟨.of 26,7,r.2.parcels.map Zar⟩,some ⟨.of 188,4,r.2.lines.map Zbi⟩],fun H=>by replace H:=H0 H; unfold ZdE at H; exact Zd Tryz.func117 rfl Tryz.ntmps117 Tryz.results117 fun Q hQ hQn=>wk7⟩
def Zcf (o:Zr) (s0:Int):Option (Int ⊕ (Unit ⊕ Bool)):=
 cond (decide (s0<(o.parcels.length:Int)))
 ((ZdU o s0).bind fun y6=>
 cond (!y6)
 (some (.inr (.inr false)))
 (some (.inl (w64 (s0+1)))))
 (some (.inr (.inl ())))
instance (o:Zr):Z1 (Zcf o):=⟨fun s0=>(.un::.be 0 0 0::.un::vi s0::(U 103 [])),fun s0=>[some ⟨.of 92,16,[[.sl (o.world.network.legs.map cLeg),.sl (o.world.network.off.map cInt),vi o.world.network.change,.sl (o.world.orders.map ZV),.sl (o.world.bookings.map Zk),.sl (o.world.closed.map ZS),vi o.world.now,.sl (o.world.scans.map Zax),.sl (o.world.skip.map cInt),vi o.world.made,.sl (o.zones.map ZcB),.sl (o.rates.map Zb5),.sl (o.percents.map cInt),.sl (o.parcels.map Zar),.sl (o.lines.map Zbi),.sl (o.journal.map cAct)]]⟩]⟩
def Zcg (o:Zr) (s1:Int):Option (Int ⊕ (Unit ⊕ Bool)):=
 cond (decide (s1<(o.lines.length:Int)))
 ((getI o.lines s1).bind fun y7=>
 cond (decide ((o.parcels.length:Int)<y7.order))
 (some (.inr (.inr false)))
 ((getI o.lines s1).bind fun y8=>
 cond (decide (o.world.now<y8.at_))
 (some (.inr (.inr false)))
 (some (.inl (w64 (s1+1))))))
 (some (.inr (.inl ())))
instance (o:Zr):Z1 (Zcg o):=⟨fun s1=>(.un::.be 0 0 0::.un::.un::vi s1::(U 102 [])),fun s1=>[some ⟨.of 92,16,[[.sl (o.world.network.legs.map cLeg),.sl (o.world.network.off.map cInt),vi o.world.network.change,.sl (o.world.orders.map ZV),.sl (o.world.bookings.map Zk),.sl (o.world.closed.map ZS),vi o.world.now,.sl (o.world.scans.map Zax),.sl (o.world.skip.map cInt),vi o.world.made,.sl (o.zones.map ZcB),.sl (o.rates.map Zb5),.sl (o.percents.map cInt),.sl (o.parcels.map Zar),.sl (o.lines.map Zbi),.sl (o.journal.map cAct)]]⟩]⟩
def Zch (o:Zr) (s2:Int):Option (Int ⊕ (Unit ⊕ Bool)):=
 cond (decide (s2<(o.journal.length:Int)))
 ((getI o.journal s2).bind fun y9=>
 (Zaj y9).bind fun y10=>
 cond (!y10)
 (some (.inr (.inr false)))
 (some (.inl (w64 (s2+1)))))
 (some (.inr (.inl ())))
instance (o:Zr):Z1 (Zch o):=⟨fun s2=>(.un::.be 0 0 0::(U 3 (vi s2::(U 101 [])))),fun s2=>[some ⟨.of 92,16,[[.sl (o.world.network.legs.map cLeg),.sl (o.world.network.off.map cInt),vi o.world.network.change,.sl (o.world.orders.map ZV),.sl (o.world.bookings.map Zk),.sl (o.world.closed.map ZS),vi o.world.now,.sl (o.world.scans.map Zax),.sl (o.world.skip.map cInt),vi o.world.made,.sl (o.zones.map ZcB),.sl (o.rates.map Zb5),.sl (o.percents.map cInt),.sl (o.parcels.map Zar),.sl (o.lines.map Zbi),.sl (o.journal.map cAct)]]⟩]⟩
def Zbo (o:Zr):Option Bool:=
 (ZaI o.world).bind fun y1=>
 cond (!y1)
 (some false)
 ((Zbm o.zones).bind fun y2=>
 cond (!y2)
 (some false)
 ((ZbV o.rates (o.zones.length:Int)).bind fun y3=>
 cond (!y3)
 (some false)
 ((ZQ o.percents).bind fun y4=>
 cond (!y4)
 (some false)
 ((Zae o.lines).bind fun y5=>
 cond (!y5)
 (some false)
 (cond (!decide ((o.parcels.length:Int)=(o.world.orders.length:Int)))
 (some false)
 (cond (decide (150<(o.journal.length:Int)))
 (some false)
 ((Zj (Zcf o) NN 0).bind (Zu (fun o0=>
 (Zj (Zcg o) NN 0).bind (Zu (fun o1=>
 (Zj (Zch o) NN 0).bind (Zu (fun o2=>
 some true) (fun r=>some r))) (fun r=>some r))) (fun r=>some r)))))))))
instance (o:Zr):CT Tryz.prog (Zbo o):=⟨116,[.ag (Ze8 o)],[],fun r=>vb r,fun r=>[],fun H=>by replace H:=H0 H; unfold Zbo at H; exact Zd Tryz.func116 rfl Tryz.ntmps116 Tryz.results116 fun Q hQ hQn=>wk3⟩
def Ze3 (o:Zr) (a:YAct):Option (Zr × Int):=
 (Za1 o).bind fun y1=>
 (Zbo o).bind fun y2=>
 cond (!y2)
 (some (y1,1))
 ((Zaj a).bind fun y3=>
 cond (!y3)
 (some (y1,1))
 (cond (decide (150≤(o.journal.length:Int)))
 (some (y1,5))
 ((rhoM [9,3,4,5,6,7,8]).bind fun _=>
 (ZdE y1 a).bind fun y4=>
 cond (!decide (y4.1=0))
 ((Za1 o).bind fun y5=>
 some (y5,y4.1))
 ((Za4 a.parcel).bind fun y6=>
 (chk (Z9 ((y4.2.journal:List YAct).length+([(⟨a.kind,y6,a.order,a.amount,a.until_,a.trip⟩:YAct)]:List YAct).length) 136)).bind fun _=>
 some ((⟨y4.2.world,y4.2.zones,y4.2.rates,y4.2.percents,y4.2.parcels,y4.2.lines,((y4.2.journal:List YAct)++[(⟨a.kind,y6,a.order,a.amount,a.until_,a.trip⟩:YAct)])⟩:Zr),y4.1)))))
instance (o:Zr) (a:YAct):CT Tryz.prog (Ze3 o a):=⟨82,[.ag (Ze8 o),.ag (cAct a)],[],fun r=>.tu [.ag [.sl (r.1.world.network.legs.map cLeg),.sl (r.1.world.network.off.map cInt),vi r.1.world.network.change,.sl (r.1.world.orders.map ZV),.sl (r.1.world.bookings.map Zk),.sl (r.1.world.closed.map ZS),vi r.1.world.now,.sl (r.1.world.scans.map Zax),.sl (r.1.world.skip.map cInt),vi r.1.world.made,.sl (r.1.zones.map ZcB),.sl (r.1.rates.map Zb5),.sl (r.1.percents.map cInt),.sl (r.1.parcels.map Zar),.sl (r.1.lines.map Zbi),.sl (r.1.journal.map cAct)],vi r.2],fun r=>[],fun H=>by replace H:=H0 H; unfold Ze3 at H; exact Zd Tryz.func82 rfl Tryz.ntmps82 Tryz.results82 fun Q hQ hQn=>wk7⟩
def Zdj (n:Za) (skip:List Int) (zones:List Zbg) (rates:List Zai) (percents:List Int):Option (Zr × Bool):=
 (ZbL n skip).bind fun y1=>
 (frz (.un::.un::.sl (zones.map ZcB)::.sl (rates.map Zb5)::.sl (percents.map cInt)::(U 5 (.be 0 0 0::.un::.be 1 0 0::vb y1.2::(U 22 [])))) [some ⟨.of 92,16,[[.v (.slice none 0 0),.v (.slice none 0 0),vi 0,.v (.slice none 0 0),.v (.slice none 0 0),.v (.slice none 0 0),vi 0,.v (.slice none 0 0),.v (.slice none 0 0),vi 0,.v (.slice none 0 0),.v (.slice none 0 0),.v (.slice none 0 0),.v (.slice none 0 0),.v (.slice none 0 0),.v (.slice none 0 0)]]⟩,some ⟨.of 86,10,[[.sl (y1.1.network.legs.map cLeg),.sl (y1.1.network.off.map cInt),vi y1.1.network.change,.sl (y1.1.orders.map ZV),.sl (y1.1.bookings.map Zk),.sl (y1.1.closed.map ZS),vi y1.1.now,.sl (y1.1.scans.map Zax),.sl (y1.1.skip.map cInt),vi y1.1.made]]⟩]).bind fun _=>
 (Za1 (⟨y1.1,zones,rates,percents,[],[],[]⟩:Zr)).bind fun y2=>
 cond (!y1.2)
 (some ((⟨(⟨(⟨[],[],0⟩:Za),[],[],[],0,[],[],0⟩:Ze),[],[],[],[],[],[]⟩:Zr),false))
 ((Zbo y2).bind fun y3=>
 cond (!y3)
 (some ((⟨(⟨(⟨[],[],0⟩:Za),[],[],[],0,[],[],0⟩:Ze),[],[],[],[],[],[]⟩:Zr),false))
 (some (y2,true)))
instance (n:Za) (skip:List Int) (zones:List Zbg) (rates:List Zai) (percents:List Int):CT Tryz.prog (Zdj n skip zones rates percents):=⟨113,[.ag (Z2 n),.sl (skip.map cInt),.sl (zones.map ZcB),.sl (rates.map Zb5),.sl (percents.map cInt)],[],fun r=>.tu [.ag [.sl (r.1.world.network.legs.map cLeg),.sl (r.1.world.network.off.map cInt),vi r.1.world.network.change,.sl (r.1.world.orders.map ZV),.sl (r.1.world.bookings.map Zk),.sl (r.1.world.closed.map ZS),vi r.1.world.now,.sl (r.1.world.scans.map Zax),.sl (r.1.world.skip.map cInt),vi r.1.world.made,.sl (r.1.zones.map ZcB),.sl (r.1.rates.map Zb5),.sl (r.1.percents.map cInt),.sl (r.1.parcels.map Zar),.sl (r.1.lines.map Zbi),.sl (r.1.journal.map cAct)],vb r.2],fun r=>[],fun H=>by replace H:=H0 H; unfold Zdj at H; exact Zd Tryz.func113 rfl Tryz.ntmps113 Tryz.results113 fun Q hQ hQn=>wk7⟩
def Zeo (y1:Za × Zp) (s0:Int × (List YB8) × Int × Int × (List YLeg)):Option ((Int × (List YB8) × Int × Int × (List YLeg)) ⊕ ((List YB8) × Int × Int × (List YLeg))):=
 cond (decide (s0.1<(s0.2.2.2.2.length:Int)))
 ((rhoM [0]).bind fun _=>
 (ZN (⟨s0.2.1,s0.2.2.1,s0.2.2.2.1⟩:Zp) 3).bind fun y2=>
 cond y2.1
 ((drwL 8 [4]).bind fun _=>
 (rhoM [0]).bind fun _=>
 (Zb y2.2 20).bind fun y3=>
 (getI s0.2.2.2.2 s0.1).bind fun y4=>
 some (.inl ((w64 (s0.1+1)),y3.2.b,y3.2.i,y3.2.h,(s0.2.2.2.2.set (Int.toNat s0.1) (⟨y4.from_,y4.to_,y4.start,y4.takes,y4.days,(w64 (3000+(w64 (1000*y3.1))))⟩:YLeg)))))
 (some (.inl ((w64 (s0.1+1)),y2.2.b,y2.2.i,y2.2.h,s0.2.2.2.2))))
 (some (.inr (s0.2.1,s0.2.2.1,s0.2.2.2.1,s0.2.2.2.2)))
instance (y1:Za × Zp):Z1 (Zeo y1):=⟨fun s0=>(.be 0 0 0::.un::.be 1 0 0::.be 2 0 0::vi s0.1::(U 84 [])),fun s0=>[some ⟨.of 102,3,[[.sl (s0.2.1.map cB8),vi s0.2.2.1,vi s0.2.2.2.1]]⟩,some ⟨.of 92,16,[[.v (.slice none 0 0),.v (.slice none 0 0),vi 0,.v (.slice none 0 0),.v (.slice none 0 0),.v (.slice none 0 0),vi 0,.v (.slice none 0 0),.v (.slice none 0 0),vi 0,.v (.slice none 0 0),.v (.slice none 0 0),.v (.slice none 0 0),.v (.slice none 0 0),.v (.slice none 0 0),.v (.slice none 0 0)]]⟩,some ⟨.of 80,3,[[.ms 3,.ms 4,vi y1.1.change]]⟩,some ⟨.of 133,6,s0.2.2.2.2.map cLeg⟩,some ⟨.of 3,1,y1.1.off.map cInt⟩]⟩
def Zep (y1:Za × Zp) (o0:(List YB8) × Int × Int × (List YLeg)) (s1:Int × (List YB8) × Int × Int × (List Int)):Option ((Int × (List YB8) × Int × Int × (List Int)) ⊕ ((List YB8) × Int × Int × (List Int))):=
 cond (decide (0<s1.1))
 ((rhoM [0]).bind fun _=>
 (Zb (⟨s1.2.1,s1.2.2.1,s1.2.2.2.1⟩:Zp) 20).bind fun y6=>
 (chk (Z9 ((s1.2.2.2.2:List Int).length+([(w64 (1+y6.1))]:List Int).length) 8)).bind fun _=>
 some (.inl ((w64 (s1.1-1)),y6.2.b,y6.2.i,y6.2.h,((s1.2.2.2.2:List Int)++[(w64 (1+y6.1))]))))
 (some (.inr (s1.2.1,s1.2.2.1,s1.2.2.2.1,s1.2.2.2.2)))
instance (y1:Za × Zp) (o0:(List YB8) × Int × Int × (List YLeg)):Z1 (Zep y1 o0):=⟨fun s1=>(.be 0 0 0::.un::.be 1 0 0::.be 2 0 0::.un::.ms 5::vi s1.1::(U 82 [])),fun s1=>[some ⟨.of 102,3,[[.sl (s1.2.1.map cB8),vi s1.2.2.1,vi s1.2.2.2.1]]⟩,some ⟨.of 92,16,[[.v (.slice none 0 0),.v (.slice none 0 0),vi 0,.v (.slice none 0 0),.v (.slice none 0 0),.v (.slice none 0 0),vi 0,.v (.slice none 0 0),.v (.slice none 0 0),vi 0,.v (.slice none 0 0),.v (.slice none 0 0),.v (.slice none 0 0),.v (.slice none 0 0),.v (.slice none 0 0),.v (.slice none 0 0)]]⟩,some ⟨.of 80,3,[[.ms 3,.ms 4,vi y1.1.change]]⟩,some ⟨.of 133,6,o0.2.2.2.map cLeg⟩,some ⟨.of 3,1,y1.1.off.map cInt⟩,some ⟨.of 3,1,s1.2.2.2.2.map cInt⟩]⟩
def Zer (y1:Za × Zp) (o0:(List YB8) × Int × Int × (List YLeg)) (o1:(List YB8) × Int × Int × (List Int)) (s2:Int × (List YB8) × Int × Int × (List Zai)) (s3:Int × (List YB8) × Int × Int × (List Zai)):Option ((Int × (List YB8) × Int × Int × (List Zai)) ⊕ ((List YB8) × Int × Int × (List Zai))):=
 cond (decide (s3.1≤3))
 ((rhoM [0]).bind fun _=>
 (Zb (⟨s3.2.1,s3.2.2.1,s3.2.2.2.1⟩:Zp) 5).bind fun y7=>
 (chk (Z9 ((s3.2.2.2.2:List Zai).length+([(⟨s2.1,s3.1,5000,(w64 (500+(w64 (100*y7.1))))⟩:Zai)]:List Zai).length) 32)).bind fun _=>
 (rhoM [0]).bind fun _=>
 (Zb y7.2 9).bind fun y8=>
 (chk (Z9 ((((s3.2.2.2.2:List Zai)++[(⟨s2.1,s3.1,5000,(w64 (500+(w64 (100*y7.1))))⟩:Zai)]):List Zai).length+([(⟨s2.1,s3.1,40000,(w64 (1000+(w64 (100*y8.1))))⟩:Zai)]:List Zai).length) 32)).bind fun _=>
 some (.inl ((w64 (s3.1+1)),y8.2.b,y8.2.i,y8.2.h,((((s3.2.2.2.2:List Zai)++[(⟨s2.1,s3.1,5000,(w64 (500+(w64 (100*y7.1))))⟩:Zai)]):List Zai)++[(⟨s2.1,s3.1,40000,(w64 (1000+(w64 (100*y8.1))))⟩:Zai)]))))
 (some (.inr (s3.2.1,s3.2.2.1,s3.2.2.2.1,s3.2.2.2.2)))
instance (y1:Za × Zp) (o0:(List YB8) × Int × Int × (List YLeg)) (o1:(List YB8) × Int × Int × (List Int)) (s2:Int × (List YB8) × Int × Int × (List Zai)):Z1 (Zer y1 o0 o1 s2):=⟨fun s3=>(.be 0 0 0::.un::.be 1 0 0::.be 2 0 0::.un::.ms 5::.un::.ms 6::.ms 7::vi s2.1::vi s3.1::(U 78 [])),fun s3=>[some ⟨.of 102,3,[[.sl (s3.2.1.map cB8),vi s3.2.2.1,vi s3.2.2.2.1]]⟩,some ⟨.of 92,16,[[.v (.slice none 0 0),.v (.slice none 0 0),vi 0,.v (.slice none 0 0),.v (.slice none 0 0),.v (.slice none 0 0),vi 0,.v (.slice none 0 0),.v (.slice none 0 0),vi 0,.v (.slice none 0 0),.v (.slice none 0 0),.v (.slice none 0 0),.v (.slice none 0 0),.v (.slice none 0 0),.v (.slice none 0 0)]]⟩,some ⟨.of 80,3,[[.ms 3,.ms 4,vi y1.1.change]]⟩,some ⟨.of 133,6,o0.2.2.2.map cLeg⟩,some ⟨.of 3,1,y1.1.off.map cInt⟩,some ⟨.of 3,1,o1.2.2.2.map cInt⟩,some ⟨.of 135,2,[[vs (⟨#[65,65,65]⟩),vs (⟨#[67,90,90]⟩)],[vs (⟨#[68,65,65]⟩),vs (⟨#[90,90,90]⟩)]]⟩,some ⟨.of 137,4,s3.2.2.2.2.map Zb5⟩]⟩
def Zeq (y1:Za × Zp) (o0:(List YB8) × Int × Int × (List YLeg)) (o1:(List YB8) × Int × Int × (List Int)) (s2:Int × (List YB8) × Int × Int × (List Zai)):Option ((Int × (List YB8) × Int × Int × (List Zai)) ⊕ ((List YB8) × Int × Int × (List Zai))):=
 cond (decide (s2.1<2))
 ((Zj (Zer y1 o0 o1 s2) NN (1,s2.2.1,s2.2.2.1,s2.2.2.2.1,s2.2.2.2.2)).bind (fun o3=>
 some (.inl ((w64 (s2.1+1)),o3.1,o3.2.1,o3.2.2.1,o3.2.2.2))))
 (some (.inr (s2.2.1,s2.2.2.1,s2.2.2.2.1,s2.2.2.2.2)))
instance (y1:Za × Zp) (o0:(List YB8) × Int × Int × (List YLeg)) (o1:(List YB8) × Int × Int × (List Int)):Z1 (Zeq y1 o0 o1):=⟨fun s2=>(.be 0 0 0::.un::.be 1 0 0::.be 2 0 0::.un::.ms 5::.un::.ms 6::.ms 7::vi s2.1::(U 79 [])),fun s2=>[some ⟨.of 102,3,[[.sl (s2.2.1.map cB8),vi s2.2.2.1,vi s2.2.2.2.1]]⟩,some ⟨.of 92,16,[[.v (.slice none 0 0),.v (.slice none 0 0),vi 0,.v (.slice none 0 0),.v (.slice none 0 0),.v (.slice none 0 0),vi 0,.v (.slice none 0 0),.v (.slice none 0 0),vi 0,.v (.slice none 0 0),.v (.slice none 0 0),.v (.slice none 0 0),.v (.slice none 0 0),.v (.slice none 0 0),.v (.slice none 0 0)]]⟩,some ⟨.of 80,3,[[.ms 3,.ms 4,vi y1.1.change]]⟩,some ⟨.of 133,6,o0.2.2.2.map cLeg⟩,some ⟨.of 3,1,y1.1.off.map cInt⟩,some ⟨.of 3,1,o1.2.2.2.map cInt⟩,some ⟨.of 135,2,[[vs (⟨#[65,65,65]⟩),vs (⟨#[67,90,90]⟩)],[vs (⟨#[68,65,65]⟩),vs (⟨#[90,90,90]⟩)]]⟩,some ⟨.of 137,4,s2.2.2.2.2.map Zb5⟩]⟩
def Zdg (c:Zp):Option (Zr × Zp):=
 (rhoM [0]).bind fun _=>
 (Zdh c 7).bind fun y1=>
 (Zj (Zeo y1) NN (0,y1.2.b,y1.2.i,y1.2.h,y1.1.legs)).bind (fun o0=>
 (rhoM [0]).bind fun _=>
 (Zb (⟨o0.1,o0.2.1,o0.2.2.1⟩:Zp) 5).bind fun y5=>
 (Zj (Zep y1 o0) NN (y5.1,y5.2.b,y5.2.i,y5.2.h,([]:List Int))).bind (fun o1=>
 (Zj (Zeq y1 o0 o1) NN (0,o1.1,o1.2.1,o1.2.2.1,([]:List Zai))).bind (fun o2=>
 (frz (.be 0 0 0::.un::.be 1 0 0::.be 2 0 0::.un::.sl (o1.2.2.2.map cInt)::.un::.sl (([(⟨⟨#[65,65,65]⟩,⟨#[67,90,90]⟩⟩:Zbg),(⟨⟨#[68,65,65]⟩,⟨#[90,90,90]⟩⟩:Zbg)]).map ZcB)::.sl (o2.2.2.2.map Zb5)::(U 80 [])) [some ⟨.of 102,3,[[.sl (o2.1.map cB8),vi o2.2.1,vi o2.2.2.1]]⟩,some ⟨.of 92,16,[[.v (.slice none 0 0),.v (.slice none 0 0),vi 0,.v (.slice none 0 0),.v (.slice none 0 0),.v (.slice none 0 0),vi 0,.v (.slice none 0 0),.v (.slice none 0 0),vi 0,.v (.slice none 0 0),.v (.slice none 0 0),.v (.slice none 0 0),.v (.slice none 0 0),.v (.slice none 0 0),.v (.slice none 0 0)]]⟩,some ⟨.of 80,3,[[.sl (o0.2.2.2.map cLeg),.sl (y1.1.off.map cInt),vi y1.1.change]]⟩]).bind fun _=>
 (drwL 8 [5]).bind fun _=>
 (rhoM [0]).bind fun _=>
 (Zbj (⟨o2.1,o2.2.1,o2.2.2.1⟩:Zp)).bind fun y9=>
 (Zdj (⟨o0.2.2.2,y1.1.off,y1.1.change⟩:Za) o1.2.2.2 ([(⟨⟨#[65,65,65]⟩,⟨#[67,90,90]⟩⟩:Zbg),(⟨⟨#[68,65,65]⟩,⟨#[90,90,90]⟩⟩:Zbg)]) o2.2.2.2 y9.1).bind fun y10=>
 some (y10.1,y9.2))))
instance (c:Zp):CT Tryz.prog (Zdg c):=⟨81,[.be 0 0 0],[some ⟨.of 102,3,[[.sl (c.b.map cB8),vi c.i,vi c.h]]⟩],fun r=>.ag [.sl (r.1.world.network.legs.map cLeg),.sl (r.1.world.network.off.map cInt),vi r.1.world.network.change,.sl (r.1.world.orders.map ZV),.sl (r.1.world.bookings.map Zk),.sl (r.1.world.closed.map ZS),vi r.1.world.now,.sl (r.1.world.scans.map Zax),.sl (r.1.world.skip.map cInt),vi r.1.world.made,.sl (r.1.zones.map ZcB),.sl (r.1.rates.map Zb5),.sl (r.1.percents.map cInt),.sl (r.1.parcels.map Zar),.sl (r.1.lines.map Zbi),.sl (r.1.journal.map cAct)],fun r=>[some ⟨.of 102,3,[[.sl (r.2.b.map cB8),vi r.2.i,vi r.2.h]]⟩],fun H=>by replace H:=H0 H; unfold Zdg at H; exact Zd Tryz.func81 rfl Tryz.ntmps81 Tryz.results81 fun Q hQ hQn=>wk7⟩
def Zd4 (s0:Int × (List YB8) × Int × Int × (List YLeg) × (List Int) × Int × (List Zh) × (List Zc) × (List Zg) × Int × (List ZU) × (List Int) × Int × (List Zbg) × (List Zai) × (List Int) × (List Zi) × (List ZaF) × (List YAct)):Option ((Int × (List YB8) × Int × Int × (List YLeg) × (List Int) × Int × (List Zh) × (List Zc) × (List Zg) × Int × (List ZU) × (List Int) × Int × (List Zbg) × (List Zai) × (List Int) × (List Zi) × (List ZaF) × (List YAct)) ⊕ ((List YB8) × Int × Int × (List YLeg) × (List Int) × Int × (List Zh) × (List Zc) × (List Zg) × Int × (List ZU) × (List Int) × Int × (List Zbg) × (List Zai) × (List Int) × (List Zi) × (List ZaF) × (List YAct))):=
 cond (decide (0<s0.1))
 ((drwL 8 [3]).bind fun _=>
 (rhoM [0]).bind fun _=>
 (Zb0 (⟨s0.2.1,s0.2.2.1,s0.2.2.2.1⟩:Zp) (⟨(⟨(⟨s0.2.2.2.2.1,s0.2.2.2.2.2.1,s0.2.2.2.2.2.2.1⟩:Za),s0.2.2.2.2.2.2.2.1,s0.2.2.2.2.2.2.2.2.1,s0.2.2.2.2.2.2.2.2.2.1,s0.2.2.2.2.2.2.2.2.2.2.1,s0.2.2.2.2.2.2.2.2.2.2.2.1,s0.2.2.2.2.2.2.2.2.2.2.2.2.1,s0.2.2.2.2.2.2.2.2.2.2.2.2.2.1⟩:Ze),s0.2.2.2.2.2.2.2.2.2.2.2.2.2.2.1,s0.2.2.2.2.2.2.2.2.2.2.2.2.2.2.2.1,s0.2.2.2.2.2.2.2.2.2.2.2.2.2.2.2.2.1,s0.2.2.2.2.2.2.2.2.2.2.2.2.2.2.2.2.2.1,s0.2.2.2.2.2.2.2.2.2.2.2.2.2.2.2.2.2.2.1,s0.2.2.2.2.2.2.2.2.2.2.2.2.2.2.2.2.2.2.2⟩:Zr)).bind fun y3=>
 (Ze3 (⟨(⟨(⟨s0.2.2.2.2.1,s0.2.2.2.2.2.1,s0.2.2.2.2.2.2.1⟩:Za),s0.2.2.2.2.2.2.2.1,s0.2.2.2.2.2.2.2.2.1,s0.2.2.2.2.2.2.2.2.2.1,s0.2.2.2.2.2.2.2.2.2.2.1,s0.2.2.2.2.2.2.2.2.2.2.2.1,s0.2.2.2.2.2.2.2.2.2.2.2.2.1,s0.2.2.2.2.2.2.2.2.2.2.2.2.2.1⟩:Ze),s0.2.2.2.2.2.2.2.2.2.2.2.2.2.2.1,s0.2.2.2.2.2.2.2.2.2.2.2.2.2.2.2.1,s0.2.2.2.2.2.2.2.2.2.2.2.2.2.2.2.2.1,s0.2.2.2.2.2.2.2.2.2.2.2.2.2.2.2.2.2.1,s0.2.2.2.2.2.2.2.2.2.2.2.2.2.2.2.2.2.2.1,s0.2.2.2.2.2.2.2.2.2.2.2.2.2.2.2.2.2.2.2⟩:Zr) y3.1).bind fun y4=>
 some (.inl ((w64 (s0.1-1)),y3.2.b,y3.2.i,y3.2.h,y4.1.world.network.legs,y4.1.world.network.off,y4.1.world.network.change,y4.1.world.orders,y4.1.world.bookings,y4.1.world.closed,y4.1.world.now,y4.1.world.scans,y4.1.world.skip,y4.1.world.made,y4.1.zones,y4.1.rates,y4.1.percents,y4.1.parcels,y4.1.lines,y4.1.journal)))
 (some (.inr (s0.2.1,s0.2.2.1,s0.2.2.2.1,s0.2.2.2.2.1,s0.2.2.2.2.2.1,s0.2.2.2.2.2.2.1,s0.2.2.2.2.2.2.2.1,s0.2.2.2.2.2.2.2.2.1,s0.2.2.2.2.2.2.2.2.2.1,s0.2.2.2.2.2.2.2.2.2.2.1,s0.2.2.2.2.2.2.2.2.2.2.2.1,s0.2.2.2.2.2.2.2.2.2.2.2.2.1,s0.2.2.2.2.2.2.2.2.2.2.2.2.2.1,s0.2.2.2.2.2.2.2.2.2.2.2.2.2.2.1,s0.2.2.2.2.2.2.2.2.2.2.2.2.2.2.2.1,s0.2.2.2.2.2.2.2.2.2.2.2.2.2.2.2.2.1,s0.2.2.2.2.2.2.2.2.2.2.2.2.2.2.2.2.2.1,s0.2.2.2.2.2.2.2.2.2.2.2.2.2.2.2.2.2.2.1,s0.2.2.2.2.2.2.2.2.2.2.2.2.2.2.2.2.2.2.2)))
instance:Z1 (Zd4):=⟨fun s0=>(.be 0 0 0::(U 3 (.be 1 0 0::.be 2 0 0::vi s0.1::(U 21 [])))),fun s0=>[some ⟨.of 102,3,[[.sl (s0.2.1.map cB8),vi s0.2.2.1,vi s0.2.2.2.1]]⟩,some ⟨.of 92,16,[[.v (.slice none 0 0),.v (.slice none 0 0),vi 0,.v (.slice none 0 0),.v (.slice none 0 0),.v (.slice none 0 0),vi 0,.v (.slice none 0 0),.v (.slice none 0 0),vi 0,.v (.slice none 0 0),.v (.slice none 0 0),.v (.slice none 0 0),.v (.slice none 0 0),.v (.slice none 0 0),.v (.slice none 0 0)]]⟩,some ⟨.of 92,16,[[.sl (s0.2.2.2.2.1.map cLeg),.sl (s0.2.2.2.2.2.1.map cInt),vi s0.2.2.2.2.2.2.1,.sl (s0.2.2.2.2.2.2.2.1.map ZV),.sl (s0.2.2.2.2.2.2.2.2.1.map Zk),.sl (s0.2.2.2.2.2.2.2.2.2.1.map ZS),vi s0.2.2.2.2.2.2.2.2.2.2.1,.sl (s0.2.2.2.2.2.2.2.2.2.2.2.1.map Zax),.sl (s0.2.2.2.2.2.2.2.2.2.2.2.2.1.map cInt),vi s0.2.2.2.2.2.2.2.2.2.2.2.2.2.1,.sl (s0.2.2.2.2.2.2.2.2.2.2.2.2.2.2.1.map ZcB),.sl (s0.2.2.2.2.2.2.2.2.2.2.2.2.2.2.2.1.map Zb5),.sl (s0.2.2.2.2.2.2.2.2.2.2.2.2.2.2.2.2.1.map cInt),.sl (s0.2.2.2.2.2.2.2.2.2.2.2.2.2.2.2.2.2.1.map Zar),.sl (s0.2.2.2.2.2.2.2.2.2.2.2.2.2.2.2.2.2.2.1.map Zbi),.sl (s0.2.2.2.2.2.2.2.2.2.2.2.2.2.2.2.2.2.2.2.map cAct)]]⟩]⟩
def ZcF (c:Zp) (most:Int):Option (Zr × Zp):=
 (rhoM [0]).bind fun _=>
 (Zdg c).bind fun y1=>
 (rhoM [0]).bind fun _=>
 (Zb y1.2 most).bind fun y2=>
 (Zj (Zd4) NN (y2.1,y2.2.b,y2.2.i,y2.2.h,y1.1.world.network.legs,y1.1.world.network.off,y1.1.world.network.change,y1.1.world.orders,y1.1.world.bookings,y1.1.world.closed,y1.1.world.now,y1.1.world.scans,y1.1.world.skip,y1.1.world.made,y1.1.zones,y1.1.rates,y1.1.percents,y1.1.parcels,y1.1.lines,y1.1.journal)).bind (fun o0=>
 some ((⟨(⟨(⟨o0.2.2.2.1,o0.2.2.2.2.1,o0.2.2.2.2.2.1⟩:Za),o0.2.2.2.2.2.2.1,o0.2.2.2.2.2.2.2.1,o0.2.2.2.2.2.2.2.2.1,o0.2.2.2.2.2.2.2.2.2.1,o0.2.2.2.2.2.2.2.2.2.2.1,o0.2.2.2.2.2.2.2.2.2.2.2.1,o0.2.2.2.2.2.2.2.2.2.2.2.2.1⟩:Ze),o0.2.2.2.2.2.2.2.2.2.2.2.2.2.1,o0.2.2.2.2.2.2.2.2.2.2.2.2.2.2.1,o0.2.2.2.2.2.2.2.2.2.2.2.2.2.2.2.1,o0.2.2.2.2.2.2.2.2.2.2.2.2.2.2.2.2.1,o0.2.2.2.2.2.2.2.2.2.2.2.2.2.2.2.2.2.1,o0.2.2.2.2.2.2.2.2.2.2.2.2.2.2.2.2.2.2⟩:Zr),(⟨o0.1,o0.2.1,o0.2.2.1⟩:Zp)))
instance (c:Zp) (most:Int):CT Tryz.prog (ZcF c most):=⟨59,[.be 0 0 0,vi most],[some ⟨.of 102,3,[[.sl (c.b.map cB8),vi c.i,vi c.h]]⟩],fun r=>.ag [.sl (r.1.world.network.legs.map cLeg),.sl (r.1.world.network.off.map cInt),vi r.1.world.network.change,.sl (r.1.world.orders.map ZV),.sl (r.1.world.bookings.map Zk),.sl (r.1.world.closed.map ZS),vi r.1.world.now,.sl (r.1.world.scans.map Zax),.sl (r.1.world.skip.map cInt),vi r.1.world.made,.sl (r.1.zones.map ZcB),.sl (r.1.rates.map Zb5),.sl (r.1.percents.map cInt),.sl (r.1.parcels.map Zar),.sl (r.1.lines.map Zbi),.sl (r.1.journal.map cAct)],fun r=>[some ⟨.of 102,3,[[.sl (r.2.b.map cB8),vi r.2.i,vi r.2.h]]⟩],fun H=>by replace H:=H0 H; unfold ZcF at H; exact Zd Tryz.func59 rfl Tryz.ntmps59 Tryz.results59 fun Q hQ hQn=>wk7⟩
def Zeg (code:List YB8):Option YAct:=
 (Zeb code).bind fun y1=>
 (rhoM [1]).bind fun _=>
 (ZcF y1 4).bind fun y2=>
 (rhoM [1]).bind fun _=>
 (ZbU y2.2 y2.1).bind fun y3=>
 some y3.1
instance (code:List YB8):CT Tryz.prog (Zeg code):=⟨38,[.sl (code.map cB8)],[],fun r=>.ag [vi r.kind,vi r.parcel.label.service,vi r.parcel.label.serial,vs r.parcel.label.to_,vs r.parcel.from_,vi r.parcel.weight,.sl (r.parcel.sides.map cInt),vi r.parcel.value,vi r.order,vi r.amount,vi r.until_,vi r.trip.leg,vi r.trip.day],fun r=>[],fun H=>by replace H:=H0 H; unfold Zeg at H; exact Zd Tryz.func38 rfl Tryz.ntmps38 Tryz.results38 fun Q hQ hQn=>wk7⟩
def ZbF (code:List YB8):Option YAct:=
 (Zeg code).bind fun y1=>
 some y1
instance (code:List YB8):CT Tryz.prog (ZbF code):=⟨17,[.sl (code.map cB8)],[],fun r=>.ag [vi r.kind,vi r.parcel.label.service,vi r.parcel.label.serial,vs r.parcel.label.to_,vs r.parcel.from_,vi r.parcel.weight,.sl (r.parcel.sides.map cInt),vi r.parcel.value,vi r.order,vi r.amount,vi r.until_,vi r.trip.leg,vi r.trip.day],fun r=>[],fun H=>by replace H:=H0 H; unfold ZbF at H; exact Zd Tryz.func17 rfl Tryz.ntmps17 Tryz.results17 fun Q hQ hQn=>wk7⟩
def ZgW (code:List YB8):Option Bool:=
 some (decide (4096<(code.length:Int)))
instance (code:List YB8):CT Tryz.prog (ZgW code):=⟨16,[.sl (code.map cB8)],[],fun r=>vb r,fun r=>[],fun H=>by replace H:=H0 H; unfold ZgW at H; exact Zd Tryz.func16 rfl Tryz.ntmps16 Tryz.results16 fun Q hQ hQn=>wk3⟩
end Go.Proofs.YtkfbakhnpfmfmaaGreatDoor
