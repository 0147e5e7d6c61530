/- A part of the proof of the statement in the last file of this claim: texts on the language of the program and on its functions. No condition. -/
import Derived.Test.YtmcdjilbkmhfoaaGreatCFnShut4
import Derived.Test.YtmcdjilbkmhfoaaGreatCFnShut5
import Derived.Test.YtmcdjilbkmhfoaaGreatCFnShut12
import Derived.Test.YtmcdjilbkmhfoaaGreatCFnShut8
import Derived.Test.YtmcdjilbkmhfoaaGreatCFnShut11
import Derived.Test.YtmcdjilbkmhfoaaGreatCFnShut9
import Derived.Test.YtmcdjilbkmhfoaaGreatCFnShut10
import Derived.Test.YtmcdjilbkmhfoaaGreatCFnShut7
import Derived.Test.YtmcdjilbkmhfoaaGreatCFnShut6
namespace Go.Proofs.YtmcdjilbkmhfoaaGreat
set_option maxRecDepth 10000
open Go.RowKit
set_option linter.unusedVariables false
set_option maxHeartbeats 16000000
def Zek (most:Int) (y1:Za × Zx) (s0:Int × (List YB8) × Int × Int × (List YLeg)):Option ((Int × (List YB8) × Int × Int × (List YLeg)) ⊕ ((List YB8) × Int × Int × (List YLeg))):=
 cond (decide (s0.1<(s0.2.2.2.2.length:Int)))
 ((rhoM [0]).bind fun _=>
 (ZM (⟨s0.2.1,s0.2.2.1,s0.2.2.2.1⟩:Zx) 2).bind fun y2=>
 cond y2.1
 ((drwL 8 [4]).bind fun _=>
 (rhoM [0]).bind fun _=>
 (Zk y2.2 9).bind fun y3=>
 (getI s0.2.2.2.2 s0.1).bind fun y4=>
 some (.inl ((w64 (s0.1+1)),y3.2.b,y3.2.i,y3.2.h,(s0.2.2.2.2.set (Int.toNat s0.1) (⟨y4.from_,y4.to_,y4.start,y4.takes,y4.days,(w64 (2000+(w64 (1000*y3.1))))⟩:YLeg)))))
 (some (.inl ((w64 (s0.1+1)),y2.2.b,y2.2.i,y2.2.h,s0.2.2.2.2))))
 (some (.inr (s0.2.1,s0.2.2.1,s0.2.2.2.1,s0.2.2.2.2)))
instance (most:Int) (y1:Za × Zx):ZU (Zek most y1):=⟨fun s0=>(.be 0 0 0::vi most::.un::.un::.be 1 0 0::.be 2 0 0::vi s0.1::(U 55 [])),fun s0=>[some ⟨187,3,[[.sl (s0.2.1.map cB8),vi s0.2.2.1,vi s0.2.2.2.1]]⟩,some ⟨41,10,[[.v (.slice none 0 0),.v (.slice none 0 0),vi 0,.v (.slice none 0 0),.v (.slice none 0 0),.v (.slice none 0 0),vi 0,.v (.slice none 0 0),.v (.slice none 0 0),vi 0]]⟩,some ⟨35,3,[[.ms 3,.ms 4,vi y1.1.change]]⟩,some ⟨67,6,s0.2.2.2.2.map cLeg⟩,some ⟨3,1,y1.1.off.map cInt⟩]⟩
def Zel (most:Int) (y1:Za × Zx) (o0:(List YB8) × Int × Int × (List YLeg)) (s1:Int × (List YB8) × Int × Int × (List Int)):Option ((Int × (List YB8) × Int × Int × (List Int)) ⊕ ((List YB8) × Int × Int × (List Int))):=
 cond (decide (0<s1.1))
 ((rhoM [0]).bind fun _=>
 (Zk (⟨s1.2.1,s1.2.2.1,s1.2.2.2.1⟩:Zx) 25).bind fun y6=>
 (chk (Z1 ((s1.2.2.2.2:List Int).length+([(w64 (1+y6.1))]:List Int).length) 8)).bind fun _=>
 some (.inl ((w64 (s1.1-1)),y6.2.b,y6.2.i,y6.2.h,((s1.2.2.2.2:List Int)++[(w64 (1+y6.1))]))))
 (some (.inr (s1.2.1,s1.2.2.1,s1.2.2.2.1,s1.2.2.2.2)))
instance (most:Int) (y1:Za × Zx) (o0:(List YB8) × Int × Int × (List YLeg)):ZU (Zel most y1 o0):=⟨fun s1=>(.be 0 0 0::vi most::.un::.un::.be 1 0 0::.be 2 0 0::.un::.ms 5::vi s1.1::(U 53 [])),fun s1=>[some ⟨187,3,[[.sl (s1.2.1.map cB8),vi s1.2.2.1,vi s1.2.2.2.1]]⟩,some ⟨41,10,[[.v (.slice none 0 0),.v (.slice none 0 0),vi 0,.v (.slice none 0 0),.v (.slice none 0 0),.v (.slice none 0 0),vi 0,.v (.slice none 0 0),.v (.slice none 0 0),vi 0]]⟩,some ⟨35,3,[[.ms 3,.ms 4,vi y1.1.change]]⟩,some ⟨67,6,o0.2.2.2.map cLeg⟩,some ⟨3,1,y1.1.off.map cInt⟩,some ⟨3,1,s1.2.2.2.2.map cInt⟩]⟩
def Zem (s2:Int × (List YB8) × Int × Int × Int × Int × Int × (List YLeg) × (List Int) × (List Zf) × (List Zc) × (List Ze) × (List Zj) × (List Int)):Option ((Int × (List YB8) × Int × Int × Int × Int × Int × (List YLeg) × (List Int) × (List Zf) × (List Zc) × (List Ze) × (List Zj) × (List Int)) ⊕ ((List YB8) × Int × Int × Int × Int × Int × (List YLeg) × (List Int) × (List Zf) × (List Zc) × (List Ze) × (List Zj) × (List Int))):=
 cond (decide (0<s2.1))
 ((frz (.be 0 0 0::(U 3 (.be 1 0 0::(U 4 (.be 2 0 0::.un::vi s2.1::(U 50 [])))))) [some ⟨187,3,[[.sl (s2.2.1.map cB8),vi s2.2.2.1,vi s2.2.2.2.1]]⟩,some ⟨41,10,[[.v (.slice none 0 0),.v (.slice none 0 0),vi 0,.v (.slice none 0 0),.v (.slice none 0 0),.v (.slice none 0 0),vi 0,.v (.slice none 0 0),.v (.slice none 0 0),vi 0]]⟩,some ⟨41,10,[[.sl (s2.2.2.2.2.2.2.2.1.map cLeg),.sl (s2.2.2.2.2.2.2.2.2.1.map cInt),vi s2.2.2.2.2.1,.sl (s2.2.2.2.2.2.2.2.2.2.1.map Zv),.sl (s2.2.2.2.2.2.2.2.2.2.2.1.map Zg),.sl (s2.2.2.2.2.2.2.2.2.2.2.2.1.map Zr),vi s2.2.2.2.2.2.1,.sl (s2.2.2.2.2.2.2.2.2.2.2.2.2.1.map ZF),.sl (s2.2.2.2.2.2.2.2.2.2.2.2.2.2.map cInt),vi s2.2.2.2.2.2.2.1]]⟩]).bind fun _=>
 (rhoM [0]).bind fun _=>
 (Zds (⟨s2.2.1,s2.2.2.1,s2.2.2.2.1⟩:Zx) (⟨(⟨s2.2.2.2.2.2.2.2.1,s2.2.2.2.2.2.2.2.2.1,s2.2.2.2.2.1⟩:Za),s2.2.2.2.2.2.2.2.2.2.1,s2.2.2.2.2.2.2.2.2.2.2.1,s2.2.2.2.2.2.2.2.2.2.2.2.1,s2.2.2.2.2.2.1,s2.2.2.2.2.2.2.2.2.2.2.2.2.1,s2.2.2.2.2.2.2.2.2.2.2.2.2.2,s2.2.2.2.2.2.2.1⟩:Zd)).bind fun y9=>
 some (.inl ((w64 (s2.1-1)),y9.2.b,y9.2.i,y9.2.h,y9.1.network.change,y9.1.now,y9.1.made,y9.1.network.legs,y9.1.network.off,y9.1.orders,y9.1.bookings,y9.1.closed,y9.1.scans,y9.1.skip)))
 (some (.inr (s2.2.1,s2.2.2.1,s2.2.2.2.1,s2.2.2.2.2.1,s2.2.2.2.2.2.1,s2.2.2.2.2.2.2.1,s2.2.2.2.2.2.2.2.1,s2.2.2.2.2.2.2.2.2.1,s2.2.2.2.2.2.2.2.2.2.1,s2.2.2.2.2.2.2.2.2.2.2.1,s2.2.2.2.2.2.2.2.2.2.2.2.1,s2.2.2.2.2.2.2.2.2.2.2.2.2.1,s2.2.2.2.2.2.2.2.2.2.2.2.2.2)))
instance:ZU (Zem):=⟨fun s2=>(.be 0 0 0::(U 3 (.be 1 0 0::(U 4 (.be 2 0 0::.un::vi s2.1::(U 50 [])))))),fun s2=>[some ⟨187,3,[[.sl (s2.2.1.map cB8),vi s2.2.2.1,vi s2.2.2.2.1]]⟩,some ⟨41,10,[[.v (.slice none 0 0),.v (.slice none 0 0),vi 0,.v (.slice none 0 0),.v (.slice none 0 0),.v (.slice none 0 0),vi 0,.v (.slice none 0 0),.v (.slice none 0 0),vi 0]]⟩,some ⟨41,10,[[.ms 3,.ms 4,vi s2.2.2.2.2.1,.ms 5,.ms 6,.ms 7,vi s2.2.2.2.2.2.1,.ms 8,.ms 9,vi s2.2.2.2.2.2.2.1]]⟩,some ⟨67,6,s2.2.2.2.2.2.2.2.1.map cLeg⟩,some ⟨3,1,s2.2.2.2.2.2.2.2.2.1.map cInt⟩,some ⟨62,11,s2.2.2.2.2.2.2.2.2.2.1.map Zv⟩,some ⟨135,4,s2.2.2.2.2.2.2.2.2.2.2.1.map Zg⟩,some ⟨55,2,s2.2.2.2.2.2.2.2.2.2.2.2.1.map Zr⟩,some ⟨130,6,s2.2.2.2.2.2.2.2.2.2.2.2.2.1.map ZF⟩,some ⟨3,1,s2.2.2.2.2.2.2.2.2.2.2.2.2.2.map cInt⟩]⟩
def ZcZ (c:Zx) (most:Int):Option (Zd × Zx):=
 (rhoM [0]).bind fun _=>
 (Zdu c 7).bind fun y1=>
 (Zl (Zek most y1) NN (0,y1.2.b,y1.2.i,y1.2.h,y1.1.legs)).bind (fun o0=>
 (rhoM [0]).bind fun _=>
 (Zk (⟨o0.1,o0.2.1,o0.2.2.1⟩:Zx) 6).bind fun y5=>
 (Zl (Zel most y1 o0) NN (y5.1,y5.2.b,y5.2.i,y5.2.h,([]:List Int))).bind (fun o1=>
 (frz (.be 0 0 0::vi most::.un::.un::.be 1 0 0::.be 2 0 0::.un::.sl (o1.2.2.2.map cInt)::(U 54 [])) [some ⟨187,3,[[.sl (o1.1.map cB8),vi o1.2.1,vi o1.2.2.1]]⟩,some ⟨41,10,[[.v (.slice none 0 0),.v (.slice none 0 0),vi 0,.v (.slice none 0 0),.v (.slice none 0 0),.v (.slice none 0 0),vi 0,.v (.slice none 0 0),.v (.slice none 0 0),vi 0]]⟩,some ⟨35,3,[[.sl (o0.2.2.2.map cLeg),.sl (y1.1.off.map cInt),vi y1.1.change]]⟩]).bind fun _=>
 (Zal (⟨o0.2.2.2,y1.1.off,y1.1.change⟩:Za) o1.2.2.2).bind fun y7=>
 (rhoM [0]).bind fun _=>
 (Zk (⟨o1.1,o1.2.1,o1.2.2.1⟩:Zx) most).bind fun y8=>
 (Zl (Zem) NN (y8.1,y8.2.b,y8.2.i,y8.2.h,y7.1.network.change,y7.1.now,y7.1.made,y7.1.network.legs,y7.1.network.off,y7.1.orders,y7.1.bookings,y7.1.closed,y7.1.scans,y7.1.skip)).bind (fun o2=>
 some ((⟨(⟨o2.2.2.2.2.2.2.1,o2.2.2.2.2.2.2.2.1,o2.2.2.2.1⟩:Za),o2.2.2.2.2.2.2.2.2.1,o2.2.2.2.2.2.2.2.2.2.1,o2.2.2.2.2.2.2.2.2.2.2.1,o2.2.2.2.2.1,o2.2.2.2.2.2.2.2.2.2.2.2.1,o2.2.2.2.2.2.2.2.2.2.2.2.2,o2.2.2.2.2.2.1⟩:Zd),(⟨o2.1,o2.2.1,o2.2.2.1⟩:Zx)))))
instance (c:Zx) (most:Int):CT Tryz.prog (ZcZ c most):=⟨178,[.be 0 0 0,vi most],[some ⟨187,3,[[.sl (c.b.map cB8),vi c.i,vi c.h]]⟩],fun r=>.ag [.ms 1,.ms 2,vi r.1.network.change,.ms 3,.ms 4,.ms 5,vi r.1.now,.ms 6,.ms 7,vi r.1.made],fun r=>[some ⟨187,3,[[.sl (r.2.b.map cB8),vi r.2.i,vi r.2.h]]⟩,some ⟨67,6,r.1.network.legs.map cLeg⟩,some ⟨3,1,r.1.network.off.map cInt⟩,some ⟨62,11,r.1.orders.map Zv⟩,some ⟨135,4,r.1.bookings.map Zg⟩,some ⟨55,2,r.1.closed.map Zr⟩,some ⟨130,6,r.1.scans.map ZF⟩,some ⟨3,1,r.1.skip.map cInt⟩],fun H=>by replace H:=H0 H; unfold ZcZ at H; exact Zh Tryz.func178 rfl Tryz.ntmps178 Tryz.results178 fun Q hQ hQn=>wk3⟩
def Zcu (c:Zx) (n:Za):Option (Ze × Zx × Za):=
 (rhoM [0]).bind fun _=>
 (Zk c (n.legs.length:Int)).bind fun y1=>
 (rhoM [0]).bind fun _=>
 (Zk y1.2 10).bind fun y2=>
 (Zdn n y1.1 (w64 (y2.1*1440))).bind fun y3=>
 cond (decide (0≤y3))
 ((rhoM [0]).bind fun _=>
 (ZM y2.2 4).bind fun y4=>
 cond (!y4.1)
 (some ((⟨y1.1,y3⟩:Ze),y4.2,n))
 (some ((⟨y1.1,y2.1⟩:Ze),y4.2,n)))
 (some ((⟨y1.1,y2.1⟩:Ze),y2.2,n))
instance (c:Zx) (n:Za):CT Tryz.prog (Zcu c n):=⟨211,[.be 0 0 0,.ag [.ms 1,.ms 2,vi n.change]],[some ⟨187,3,[[.sl (c.b.map cB8),vi c.i,vi c.h]]⟩,some ⟨67,6,n.legs.map cLeg⟩,some ⟨3,1,n.off.map cInt⟩],fun r=>.ag [vi r.1.leg,vi r.1.day],fun r=>[some ⟨187,3,[[.sl (r.2.1.b.map cB8),vi r.2.1.i,vi r.2.1.h]]⟩,some ⟨67,6,r.2.2.legs.map cLeg⟩,some ⟨3,1,r.2.2.off.map cInt⟩],fun H=>by replace H:=H0 H; unfold Zcu at H; exact Zh Tryz.func211 rfl Tryz.ntmps211 Tryz.results211 fun Q hQ hQn=>wk3⟩
def Zc0 (c:Zx) (w:Zd):Option (Ze × Zx × Zd):=
 cond (decide (0<(w.bookings.length:Int)))
 ((rhoM [0]).bind fun _=>
 (ZM c 4).bind fun y1=>
 cond (!y1.1)
 ((drwL 8 [6]).bind fun _=>
 (rhoM [0]).bind fun _=>
 (Zk y1.2 (w.bookings.length:Int)).bind fun y2=>
 (getI w.bookings y2.1).bind fun y3=>
 some (y3.trip,y2.2,w))
 ((rhoM [0,1,2]).bind fun _=>
 (Zcu y1.2 w.network).bind fun y4=>
 some (y4.1,y4.2.1,(⟨(⟨y4.2.2.legs,y4.2.2.off,w.network.change⟩:Za),w.orders,w.bookings,w.closed,w.now,w.scans,w.skip,w.made⟩:Zd))))
 ((rhoM [0,1,2]).bind fun _=>
 (Zcu c w.network).bind fun y5=>
 some (y5.1,y5.2.1,(⟨(⟨y5.2.2.legs,y5.2.2.off,w.network.change⟩:Za),w.orders,w.bookings,w.closed,w.now,w.scans,w.skip,w.made⟩:Zd)))
instance (c:Zx) (w:Zd):CT Tryz.prog (Zc0 c w):=⟨147,[.be 0 0 0,.ag [.ms 1,.ms 2,vi w.network.change,.ms 3,.ms 4,.ms 5,vi w.now,.ms 6,.ms 7,vi w.made]],[some ⟨187,3,[[.sl (c.b.map cB8),vi c.i,vi c.h]]⟩,some ⟨67,6,w.network.legs.map cLeg⟩,some ⟨3,1,w.network.off.map cInt⟩,some ⟨62,11,w.orders.map Zv⟩,some ⟨135,4,w.bookings.map Zg⟩,some ⟨55,2,w.closed.map Zr⟩,some ⟨130,6,w.scans.map ZF⟩,some ⟨3,1,w.skip.map cInt⟩],fun r=>.ag [vi r.1.leg,vi r.1.day],fun r=>[some ⟨187,3,[[.sl (r.2.1.b.map cB8),vi r.2.1.i,vi r.2.1.h]]⟩,some ⟨67,6,r.2.2.network.legs.map cLeg⟩,some ⟨3,1,r.2.2.network.off.map cInt⟩,some ⟨62,11,r.2.2.orders.map Zv⟩,some ⟨135,4,r.2.2.bookings.map Zg⟩,some ⟨55,2,r.2.2.closed.map Zr⟩,some ⟨130,6,r.2.2.scans.map ZF⟩,some ⟨3,1,r.2.2.skip.map cInt⟩],fun H=>by replace H:=H0 H; unfold Zc0 at H; exact Zh Tryz.func147 rfl Tryz.ntmps147 Tryz.results147 fun Q hQ hQn=>wk3⟩
def Zdt (c:Zx):Option (Zd × Zx):=
 (rhoM [0]).bind fun _=>
 (ZcZ c 9).bind fun y1=>
 (rhoM [0]).bind fun _=>
 (ZM y1.2 2).bind fun y2=>
 cond y2.1
 (some (y1.1,y2.2))
 (cond (decide ((y1.1.orders.length:Int)=0))
 (some (y1.1,y2.2))
 ((rhoM [0]).bind fun _=>
 (Zk y2.2 (y1.1.orders.length:Int)).bind fun y3=>
 (rhoM [0]).bind fun _=>
 (Zk y3.2 13).bind fun y4=>
 cond (decide (y4.1=0))
 ((drwL 8 [4]).bind fun _=>
 (rhoM [0]).bind fun _=>
 (Zk y4.2 5).bind fun y5=>
 (getI y1.1.orders y3.1).bind fun y6=>
 some ((⟨y1.1.network,(y1.1.orders.set (Int.toNat y3.1) (⟨y6.from_,y6.to_,y6.service,y6.weight,y6.at_,y6.due,y6.way,y6.gone,y5.1,y6.place,y6.ended⟩:Zf)),y1.1.bookings,y1.1.closed,y1.1.now,y1.1.scans,y1.1.skip,y1.1.made⟩:Zd),y5.2))
 (cond (decide (y4.1=1))
 ((getI y1.1.orders y3.1).bind fun y7=>
 (getI y1.1.orders y3.1).bind fun y8=>
 some ((⟨y1.1.network,(y1.1.orders.set (Int.toNat y3.1) (⟨y8.from_,y8.to_,y8.service,y8.weight,y8.at_,y8.due,y8.way,(w64 (y7.gone+1)),y8.state,y8.place,y8.ended⟩:Zf)),y1.1.bookings,y1.1.closed,y1.1.now,y1.1.scans,y1.1.skip,y1.1.made⟩:Zd),y4.2))
 (cond (decide (y4.1=2))
 ((drwL 8 [11]).bind fun _=>
 (getI y1.1.orders y3.1).bind fun y9=>
 (rhoM [0,90]).bind fun _=>
 (Zcg y4.2 ([⟨#[]⟩,⟨#[65,77,83]⟩,y9.to_])).bind fun y10=>
 (getI y1.1.orders y3.1).bind fun y11=>
 some ((⟨y1.1.network,(y1.1.orders.set (Int.toNat y3.1) (⟨y11.from_,y11.to_,y11.service,y11.weight,y11.at_,y11.due,y11.way,y11.gone,y11.state,y10.1,y11.ended⟩:Zf)),y1.1.bookings,y1.1.closed,y1.1.now,y1.1.scans,y1.1.skip,y1.1.made⟩:Zd),y10.2.1))
 (cond (decide (y4.1=3))
 ((getI y1.1.orders y3.1).bind fun y12=>
 (getI y1.1.orders y3.1).bind fun y13=>
 some ((⟨y1.1.network,(y1.1.orders.set (Int.toNat y3.1) (⟨y13.from_,y13.to_,y13.service,(w64 (y12.weight+1)),y13.at_,y13.due,y13.way,y13.gone,y13.state,y13.place,y13.ended⟩:Zf)),y1.1.bookings,y1.1.closed,y1.1.now,y1.1.scans,y1.1.skip,y1.1.made⟩:Zd),y4.2))
 (cond (decide (y4.1=4))
 ((drwL 8 [4]).bind fun _=>
 (rhoM [0,34]).bind fun _=>
 (Za7 y4.2 ([1,300,(-1),5000])).bind fun y14=>
 some ((⟨y1.1.network,y1.1.orders,y1.1.bookings,y1.1.closed,(w64 (y1.1.now+y14.1)),y1.1.scans,y1.1.skip,y1.1.made⟩:Zd),y14.2.1))
 (cond (decide (y4.1=5))
 ((drwL 8 [7]).bind fun _=>
 (rhoM [0]).bind fun _=>
 (Zk y4.2 (w64 ((y1.1.bookings.length:Int)+1))).bind fun y15=>
 (chk (slOk 0 y15.1 y1.1.bookings.length)).bind fun _=>
 some ((⟨y1.1.network,y1.1.orders,(subL y1.1.bookings 0 y15.1),y1.1.closed,y1.1.now,y1.1.scans,y1.1.skip,y1.1.made⟩:Zd),y15.2))
 (cond (decide (y4.1=6))
 ((drwL 8 [4]).bind fun _=>
 (rhoM [0,2,3,4,5,6,7,8]).bind fun _=>
 (Zc0 y4.2 y1.1).bind fun y16=>
 (chk (Z1 ((y16.2.2.closed:List Ze).length+([y16.1]:List Ze).length) 16)).bind fun _=>
 some ((⟨(⟨y16.2.2.network.legs,y16.2.2.network.off,y1.1.network.change⟩:Za),y16.2.2.orders,y16.2.2.bookings,((y16.2.2.closed:List Ze)++[y16.1]),y1.1.now,y16.2.2.scans,y16.2.2.skip,y1.1.made⟩:Zd),y16.2.1))
 (cond (decide (y4.1=7))
 ((getI y1.1.orders y3.1).bind fun y17=>
 (getI y1.1.orders y3.1).bind fun y18=>
 some ((⟨y1.1.network,(y1.1.orders.set (Int.toNat y3.1) (⟨y18.from_,y18.to_,y18.service,y18.weight,y18.at_,y18.due,y18.way,y18.gone,y18.state,y18.place,(w64 (y17.ended+1))⟩:Zf)),y1.1.bookings,y1.1.closed,y1.1.now,y1.1.scans,y1.1.skip,y1.1.made⟩:Zd),y4.2))
 (cond (decide (y4.1=8))
 ((rhoM [0,10]).bind fun _=>
 (Za7 y4.2 ([0,1000000000,1000000001])).bind fun y19=>
 some ((⟨y1.1.network,y1.1.orders,y1.1.bookings,y1.1.closed,y1.1.now,y1.1.scans,y1.1.skip,y19.1⟩:Zd),y19.2.1))
 (cond (decide (y4.1=9))
 ((drwL 8 [5]).bind fun _=>
 (rhoM [0,42]).bind fun _=>
 (Za7 y4.2 ([0,(-1),200000,200001])).bind fun y20=>
 (getI y1.1.orders y3.1).bind fun y21=>
 some ((⟨y1.1.network,(y1.1.orders.set (Int.toNat y3.1) (⟨y21.from_,y21.to_,y21.service,y21.weight,y21.at_,y20.1,y21.way,y21.gone,y21.state,y21.place,y21.ended⟩:Zf)),y1.1.bookings,y1.1.closed,y1.1.now,y1.1.scans,y1.1.skip,y1.1.made⟩:Zd),y20.2.1))
 (some (y1.1,y4.2)))))))))))))
instance (c:Zx):CT Tryz.prog (Zdt c):=⟨103,[.be 0 0 0],[some ⟨187,3,[[.sl (c.b.map cB8),vi c.i,vi c.h]]⟩],fun r=>.ag [.sl (r.1.network.legs.map cLeg),.sl (r.1.network.off.map cInt),vi r.1.network.change,.sl (r.1.orders.map Zv),.sl (r.1.bookings.map Zg),.sl (r.1.closed.map Zr),vi r.1.now,.sl (r.1.scans.map ZF),.sl (r.1.skip.map cInt),vi r.1.made],fun r=>[some ⟨187,3,[[.sl (r.2.b.map cB8),vi r.2.i,vi r.2.h]]⟩],fun H=>by replace H:=H0 H; unfold Zdt at H; exact Zh Tryz.func103 rfl Tryz.ntmps103 Tryz.results103 fun Q hQ hQn=>wk3⟩
set_option linter.unusedSimpArgs false
set_option linter.unusedSectionVars false
theorem LegD.fit {l:YLeg} (h:LegD l):Zmh l:=⟨by rw [(Zji _ h.from_).2]; decide,by rw [(Zji _ h.to_).2]; decide⟩
theorem LegD.ok {l:YLeg} (h:LegD l):ZaP l=some true:=by
 have h1:=h.start
 have h2:=h.takes
 have h3:=h.days
 have h4:=h.room
 unfold ZaP
 rw [(Zji _ h.from_).1,(Zji _ h.to_).1]
 simp only [Option.bind_some,cond_true,decide_eq_false h.ne,Bool.not_false,Zbb,decide_eq_true h1.1,decide_eq_true h1.2,decide_eq_true h2.1,decide_eq_true h2.2,decide_eq_true h3.1,decide_eq_true h3.2,decide_eq_true h4.1,decide_eq_true h4.2,Bool.and_self]
theorem NetD.fit {n:Za} (h:NetD n):ZV n:=⟨by have:=h.len; omega,by rcases h.off with e | ⟨a,b,e,_⟩ <;> rw [e] <;> simp,fun l hl=>(h.leg l hl).fit⟩
theorem NetD.ok {n:Za} (h:NetD n):Zi n=some true:=by
 have hlen:=h.len
 have hch:=h.change
 have e0:Tot (Zl (ZA n) NN 0) fun r=>r=.inl ():=by
  refine Tot.loop (fun (k:Nat) (s:Int)=>∃ i:Nat,s=(i:Int)∧i+k=n.legs.length) (fun k s hs=>?_) NN n.legs.length _ ⟨0,rfl,by omega⟩ (by unfold NN; omega)
  obtain ⟨i,rfl,hk⟩:=hs
  unfold ZA
  refine Tot.cond (fun hd=>?_) fun hd=>Tot.ret rfl
  have hlt:=of_decide_eq_true hd
  have hwi:w64 ((i:Int)+1)=((i+1:Nat):Int):=by rw [Zp (by omega)]; omega
  obtain ⟨x,hx,hm⟩:=ZaS (xs:=n.legs) (i:=(i:Int)) ⟨by omega,hlt⟩
  rw [hx,Option.bind_some,(h.leg x hm).ok,Option.bind_some,hwi]
  exact Tot.cond (fun e=>by cases e) fun _=>Tot.ret ⟨k-1,by omega,i+1,rfl,by omega⟩
 have e1:Tot (Zl (ZB n) NN 0) fun r=>r=.inl ():=by
  rcases h.off with e | ⟨a,b,e,g1,g2,g3⟩
  ·refine Tot.loop (fun (k:Nat) (s:Int)=>s=0) (fun k s hs=>?_) NN 0 _ rfl (by unfold NN; omega)
   subst hs
   unfold ZB
   rw [e]
   exact Tot.cond (fun hd=>by simp at hd) fun hd=>Tot.ret rfl
  ·refine Tot.loop (fun (k:Nat) (s:Int)=>(s=0∧k=2)∨(s=1∧k=1)∨(s=2∧k=0)) (fun k s hs=>?_) NN 2 _ (.inl ⟨rfl,rfl⟩) (by unfold NN; omega)
   unfold ZB
   rw [e]
   have x0:getI [a,b] 0=some a:=rfl
   have x1:getI [a,b] 1=some b:=rfl
   have w1:w64 (0+1)=1:=by decide
   have w2:w64 (1+1)=2:=by decide
   have w0:w64 (1-1)=0:=by decide
   rcases hs with ⟨rfl,rfl⟩ | ⟨rfl,rfl⟩ | ⟨rfl,rfl⟩
   ·refine Tot.cond (fun _=>?_) fun hd=>by simp at hd
    rw [x0,Option.bind_some,Zbb,Option.bind_some,decide_eq_true g1,decide_eq_true (show a≤60 by omega),w1]
    exact Tot.cond (fun e=>by cases e) fun _=>Tot.cond (fun e=>by simp at e) fun _=>Tot.ret ⟨1,by omega,.inr (.inl ⟨rfl,rfl⟩)⟩
   ·refine Tot.cond (fun _=>?_) fun hd=>by simp at hd
    rw [x1,Option.bind_some,Zbb,Option.bind_some,decide_eq_true (show 0≤b by omega),decide_eq_true g3,w2,w0,x0,Option.bind_some,Option.bind_some]
    exact Tot.cond (fun e=>by cases e) fun _=>Tot.cond (fun _=>Tot.cond (fun e=>by have:=of_decide_eq_true e; omega) fun _=>Tot.ret ⟨0,by omega,.inr (.inr ⟨rfl,rfl⟩)⟩) fun e=>by simp at e
   ·exact Tot.cond (fun hd=>by simp at hd) fun hd=>Tot.ret rfl
 obtain ⟨_,r0,rfl⟩:=e0
 obtain ⟨_,r1,rfl⟩:=e1
 unfold Zi
 rw [r0,Option.bind_some]
 simp only [ZX]
 rw [r1,Option.bind_some]
 simp only [ZX]
 have ho:(n.off.length:Int)≤10:=by rcases h.off with e | ⟨a,b,e,_⟩ <;> rw [e] <;> simp
 rw [decide_eq_true (show (n.legs.length:Int)≤20 by omega),decide_eq_true ho,Zbb,decide_eq_true hch.1,decide_eq_true hch.2]
 rfl
theorem Zq6 {n:Za} (h:NetD n) {skip:List Int} (hs:skip.length≤50):Zal n skip=some ((⟨n,[],[],[],0,[],skip,0⟩:Zd),true):=by
 have hf:WFit (⟨n,[],[],[],0,[],skip,0⟩:Zd):=⟨h.fit,by simp,by simp,by simp,by simp,by simp only; omega,fun o ho=>by cases ho⟩
 have hv:Zbk (⟨n,[],[],[],0,[],skip,0⟩:Zd)=true:=by
  unfold Zbk Z6 Zk1
  simp only [h.ok,Option.getD_some]
  simp [allI]
  omega
 unfold Zal
 rw [Zin hf,Option.bind_some,Zfd hf,hv]
 rfl
section
variable {n:Za} (hn:NetD n)
include hn
theorem Zo5 {c:Zx} (h:Zco c):Tot (Zct c n) fun r=>Zco r.2:=by
 have hl:=hn.len
 unfold Zct
 refine Tot.rho (Tot.bind (Z2 h _) fun y1 h1=>Tot.rho (Tot.bind (Z2 h1.2 10) fun y2 h2=>?_))
 obtain ⟨y,hy,_⟩:=ZaS (xs:=n.legs) (i:=y1.1) ⟨h1.1.1,h1.1.2.1 (by omega)⟩
 refine Tot.bind (Ziu hn.fit hy _) fun y3 _=>Tot.cond (fun _=>Tot.rho (Tot.bind (ZeB h2.2 4) fun y4 h4=>Tot.cond (fun _=>Tot.ret h4) fun _=>Tot.ret h4)) fun _=>Tot.ret h2.2
theorem ZmZ {c:Zx} (h:Zco c):Tot (Zcu c n) fun r=>Zco r.2.1∧r.2.2=n:=by
 have hl:=hn.len
 unfold Zcu
 refine Tot.rho (Tot.bind (Z2 h _) fun y1 h1=>Tot.rho (Tot.bind (Z2 h1.2 10) fun y2 h2=>?_))
 obtain ⟨y,hy,_⟩:=ZaS (xs:=n.legs) (i:=y1.1) ⟨h1.1.1,h1.1.2.1 (by omega)⟩
 refine Tot.bind (Ziu hn.fit hy _) fun y3 _=>Tot.cond (fun _=>Tot.rho (Tot.bind (ZeB h2.2 4) fun y4 h4=>Tot.cond (fun _=>Tot.ret ⟨h4,rfl⟩) fun _=>Tot.ret ⟨h4,rfl⟩)) fun _=>Tot.ret ⟨h2.2,rfl⟩
theorem Zsf {c:Zx} (h:Zco c) {w:Zd} (hw:w.network=n):Tot (Zbs c w) fun r=>Zco r.2:=by
 unfold Zbs
 rw [hw]
 refine Tot.cond (fun hd=>Tot.rho (Tot.bind (ZeB h 4) fun y1 h1=>Tot.cond (fun _=>Tot.drw (Tot.rho (Tot.bind (Z2 h1 _) fun y2 h2=>Tot.get h2.1.1 (h2.1.2.1 (of_decide_eq_true hd)) fun x _ _=>Tot.ret h2.2))) fun _=>Tot.rho (Tot.bind (Zo5 hn h1) fun y4 h4=>Tot.ret h4))) fun _=>Tot.rho (Tot.bind (Zo5 hn h) fun y4 h4=>Tot.ret h4)
theorem ZpX {c:Zx} (h:Zco c) {w:Zd} (hw:w.network=n):Tot (Zc0 c w) fun r=>Zco r.2.1∧r.2.2=w:=by
 subst hw
 unfold Zc0
 refine Tot.cond (fun hd=>Tot.rho (Tot.bind (ZeB h 4) fun y1 h1=>Tot.cond (fun _=>Tot.drw (Tot.rho (Tot.bind (Z2 h1 _) fun y2 h2=>Tot.get h2.1.1 (h2.1.2.1 (of_decide_eq_true hd)) fun x _ _=>Tot.ret ⟨h2.2,rfl⟩))) fun _=>Tot.rho (Tot.bind (ZmZ hn h1) fun y4 h4=>Tot.ret ⟨h4.1,?_⟩))) fun _=>Tot.rho (Tot.bind (ZmZ hn h) fun y4 h4=>Tot.ret ⟨h4.1,?_⟩)
 ·simp only [h4.2]
 ·simp only [h4.2]
theorem ZtI {c:Zx} (h:Zco c):Tot (Za4 c n) fun r=>Zco r.2:=by
 have hl:=hn.len
 have hp:0<(Zb n).length:=by
  have:=(ZdQ (n:=n) (List.getElem_mem (show 0<n.legs.length by omega))).1
  exact List.length_pos_of_mem this
 unfold Za4
 rw [(ZT hn.fit).2,Option.bind_some]
 refine Tot.rho (Tot.bind (ZeB h 9) fun y2 h2=>Tot.cond (fun _=>Tot.rho (Tot.bind (Zka h2) fun y3 h3=>Tot.ret h3.2)) fun _=>Tot.rho (Tot.bind (Z2 h2 _) fun y4 h4=>Tot.get h4.1.1 (h4.1.2.1 (by omega)) fun x _ _=>Tot.ret h4.2))
end
theorem WFit.set {w:Zd} (h:WFit w) {i:Nat} {x:Zf} {o:Zf} (ho:o∈w.orders) (hx:x.way=o.way):∀ y∈w.orders.set i x,y.way.length≤1048576:=fun y hy=>by
 rcases List.mem_or_eq_of_mem_set hy with hy | rfl
 ·exact h.way y hy
 ·rw [hx]; exact h.way o ho
def ZBH (code:List YB8):Option (Zd × Ze):=
 (Zeu code).bind fun y1=>
 (rhoM [2]).bind fun _=>
 (Zdt y1).bind fun y2=>
 (drwL 8 [3]).bind fun _=>
 (rhoM [2]).bind fun _=>
 (Zbs y2.2 y2.1).bind fun y3=>
 some (y2.1,y3.1)
instance (code:List YB8):CT Tryz.prog (ZBH code):=⟨52,[.sl (code.map cB8)],[],fun r=>.tu [.ag [.sl (r.1.network.legs.map cLeg),.sl (r.1.network.off.map cInt),vi r.1.network.change,.sl (r.1.orders.map Zv),.sl (r.1.bookings.map Zg),.sl (r.1.closed.map Zr),vi r.1.now,.sl (r.1.scans.map ZF),.sl (r.1.skip.map cInt),vi r.1.made],.ag [vi r.2.leg,vi r.2.day]],fun r=>[],fun H=>by replace H:=H0 H; unfold ZBH at H; exact Zh Tryz.func52 rfl Tryz.ntmps52 Tryz.results52 fun Q hQ hQn=>wk3⟩
def CntW (K:Nat) (w:Zd):Prop:=∃ u s:Nat,w.orders.length+u+s≤K∧∀ o∈w.orders,o.way.length≤6*(1+min u s)∧Zw o≤((6*min u (s+1):Nat):Int)
structure WDS (n:Za) (K:Nat) (w:Zd):Prop where
 ok:WOk w
 net:w.network=n
 story:ZB6 w
 cnt:CntW K w
theorem ZDs {n:Za} (h:NetD n):(Zb n).length≤7:=by
 have:=ZCh (xs:=Zb n) (ys:=Zio) (ZCB n) fun p hp=>by
  have hp':p∈(ZdY n).foldl insS []:=hp
  rcases ZhY.1 hp' with hp | hp
  ·unfold ZdY at hp
   obtain ⟨l,hl,hpl⟩:=List.mem_flatMap.1 hp
   have:=h.leg l hl
   rcases List.mem_cons.1 hpl with rfl | hpl
   ·exact this.from_
   ·rw [List.mem_singleton.1 hpl]; exact this.to_
  ·cases hp
 exact this
theorem CntW.mono {K:Nat} {w:Zd} (h:CntW K w):CntW (K+1) w:=by
 obtain ⟨u,s,h1,h2⟩:=h
 exact ⟨u,s,by omega,h2⟩
theorem WDS.mono {n:Za} {K:Nat} {w:Zd} (h:WDS n K w):WDS n (K+1) w:=⟨h.ok,h.net,h.story,h.cnt.mono⟩
theorem ZC6 {n:Za} (h7:(Zb n).length≤7) {K:Nat} {w x:Zd} (hw:WOk w) (hn:w.network=n) (h:CntW K w) (hl:x.orders.length=w.orders.length) (hr:∀ (i:Nat) (o:Zf),w.orders[i]?=some o→∃ o',x.orders[i]?=some o'∧ZCc w.network o o'):CntW (K+1) x:=by
 obtain ⟨hP,_⟩:=ZBC hw
 obtain ⟨u,s,h1,h2⟩:=h
 refine ⟨u,s+1,by omega,fun o' ho'=>?_⟩
 obtain ⟨i,hi,rfl⟩:=List.getElem_of_mem ho'
 have hiw:i<w.orders.length:=by omega
 have ho:=List.getElem?_eq_getElem hiw
 obtain ⟨o2,e,hR⟩:=hr i _ ho
 rw [List.getElem?_eq_getElem hi] at e
 have e:=Option.some.inj e
 obtain ⟨b1,b2⟩:=h2 _ (List.getElem_mem hiw)
 have hc:=ZBG hP ho
 rw [e]
 rcases hR with rfl | ⟨more,hm,rfl⟩
 ·exact ⟨by omega,by omega⟩
 ·rw [hn] at hm
  refine ⟨?_,?_⟩
  ·show (ZBj w.orders[i]++more).length≤_
   rw [List.length_append,hc.2.2.1]; omega
  ·show Zw w.orders[i]≤_
   omega
theorem ZEE {K:Nat} {w:Zd} (hw:WOk w) (h:CntW K w) {t:Int} (hu:w.now≤t) (hm:t≤100000):CntW (K+1) (advV w t):=by
 obtain ⟨a,b,_⟩:=Zqf hw hu hm
 obtain ⟨hP,_⟩:=ZBC a
 obtain ⟨u,s,h1,h2⟩:=h
 refine ⟨u+1,s,by have:=b.len; omega,fun o' ho'=>?_⟩
 obtain ⟨i,hi,rfl⟩:=List.getElem_of_mem ho'
 have hi':=List.getElem?_eq_getElem hi
 have hiw:i<w.orders.length:=by rw [← b.len]; exact hi
 have hs:=b.ord i _ _ (List.getElem?_eq_getElem hiw) hi'
 obtain ⟨b1,b2⟩:=h2 _ (List.getElem_mem hiw)
 have hc:=ZBG hP hi'
 rw [hs.way] at *
 exact ⟨by omega,by omega⟩
/-! What a change of a world can not be. -/
theorem ZDY {n:Za} {o x:Zf} (h1:x.way=o.way) (h2:x.gone=o.gone) (h3:x.from_=o.from_):ZgN n x=ZgN n o:=by unfold ZgN; rw [h1,h2,h3]
theorem ZD2 {n:Za} {now:Int} {o x:Zf} (ho:Zgv n o now) (hx:Zgv n x now) (h1:x.way=o.way) (h2:x.gone=o.gone) (h3:x.from_=o.from_) (h4:x.to_=o.to_):x.state=o.state:=by
 have hh:=ZDY (n:=n) h1 h2 h3
 rcases ho.cases with ⟨a1,_,a3,_,a5⟩ | ⟨a1,_,_,t,b1,b2,b3⟩ | ⟨a1,_,a3,a4,_,_⟩ <;> rcases hx.cases with ⟨c1,_,c3,_,c5⟩ | ⟨c1,_,_,t',d1,d2,d3⟩ | ⟨c1,_,c3,c4,_,_⟩
 ·rw [a1,c1]
 ·rw [h1,h2] at d1; have:=a5 t' d1; omega
 ·rw [hh,h4] at c3; exact absurd c3 a3
 ·have:=c5 t (by rw [h1,h2]; exact b1); omega
 ·rw [a1,c1]
 ·have:=(List.getElem?_eq_some_iff.1 b1).1; rw [h1,h2] at c4; omega
 ·rw [hh,h4] at c3; exact absurd a3 c3
 ·rw [h1,h2] at d1; have:=(List.getElem?_eq_some_iff.1 d1).1; omega
 ·rw [a1,c1]
theorem ZEp {n:Za} {now:Int} {o x:Zf} (hw:Zjw n o) (ho:Zgv n o now) (hx:Zgv n x now) (h1:x.way=o.way) (h2:x.gone=w64 (o.gone+1)) (h3:x.gone≤x.way.length):False:=by
 have hg:=hw.gone
 have hl:=Zm3 hw
 rw [h2,h1,Zp (by omega)] at h3
 have hlt:o.gone.toNat<o.way.length:=by omega
 have hgo:=List.getElem?_eq_getElem hlt
 have hp:=hx.past _ (by rw [h2,Zp (by omega)]; omega) (by rw [h2,Zp (by omega),h1,show (o.gone+1-1).toNat=o.gone.toNat by omega]; exact hgo)
 have ht:=hw.trip _ (List.getElem_mem hlt)
 rcases ho.cases with ⟨_,_,_,_,a5⟩ | ⟨_,_,_,t,b1,_,b3⟩ | ⟨_,_,_,a4,_,_⟩
 ·have:=a5 _ hgo; omega
 ·rw [hgo] at b1; rw [Option.some.inj b1] at hp; omega
 ·omega
theorem ZD1 {n:Za} {now:Int} {o x:Zf} (hw:Zjw n o) (ho:Zgv n o now) (hx:Zgv n x now) (h1:x.way=o.way) (h2:x.gone=o.gone) (h3:x.state=o.state) (h4:x.ended=w64 (o.ended+1)):False:=by
 have hg:=hw.gone
 rcases ho.cases with ⟨a1,_,_,a4,_⟩ | ⟨a1,_,a4,_⟩ | ⟨a1,_,_,a4,a5,a6⟩
 ·rcases hx.cases with ⟨_,_,_,c4,_⟩ | ⟨c1,_⟩ | ⟨c1,_⟩
  ·rw [h4,a4,Zp (by omega)] at c4; omega
  ·omega
  ·omega
 ·rcases hx.cases with ⟨c1,_⟩ | ⟨_,_,c4,_⟩ | ⟨c1,_⟩
  ·omega
  ·rw [h4,a4,Zp (by omega)] at c4; omega
  ·omega
 ·rcases hx.cases with ⟨c1,_⟩ | ⟨c1,_⟩ | ⟨_,_,_,_,c5,c6⟩
  ·omega
  ·omega
  ·have hlt:(o.gone-1).toNat<o.way.length:=by omega
   have hgo:=List.getElem?_eq_getElem hlt
   have e1:=a6 _ hgo
   have e2:=c6 _ (by rw [h1,h2]; exact hgo)
   have ht:=hw.trip _ (List.getElem_mem hlt)
   rw [h4,Zp (by omega)] at e2
   omega
theorem ZD9 {w:Zd} {K k:Nat} {o x:Zf} (hs:ZB6 w) (hc:CntW K w) (ho:w.orders[k]?=some o) (h1:x.way=o.way) (h2:x.from_=o.from_∧x.to_=o.to_∧x.at_=o.at_) (h3:x.state=o.state∧x.gone=o.gone∧x.ended=o.ended):
 ZB6 (⟨w.network,w.orders.set k x,w.bookings,w.closed,w.now,w.scans,w.skip,w.made⟩:Zd)∧CntW K (⟨w.network,w.orders.set k x,w.bookings,w.closed,w.now,w.scans,w.skip,w.made⟩:Zd):=by
 have hkl:=(List.getElem?_eq_some_iff.1 ho).1
 refine ⟨⟨fun s hm=>by simp only [List.length_set]; exact hs.thing s hm,fun i y hy=>?_⟩,?_⟩
 ·have hy':(w.orders.set k x)[i]?=some y:=hy
  show (ofT _ w.scans).Sublist (ZbW w.network i y)
  by_cases hik:k=i
  ·subst hik
   rw [List.getElem?_set_self hkl] at hy'
   obtain rfl:=Option.some.inj hy'
   have e:ZbW w.network k x=ZbW w.network k o:=by
    unfold ZbW
    rw [h1,h2.1,h2.2.1,h2.2.2,h3.1,h3.2.1,h3.2.2]
   rw [e]; exact hs.sub k o ho
  ·rw [List.getElem?_set_ne hik] at hy'
   exact hs.sub i y hy'
 ·obtain ⟨u,s,c1,c2⟩:=hc
  refine ⟨u,s,by simp only [List.length_set]; exact c1,fun y hy=>?_⟩
  rcases List.mem_or_eq_of_mem_set hy with hy | rfl
  ·exact c2 y hy
  ·have:=c2 o (List.mem_of_getElem? ho)
   have e:Zw y=Zw o:=by unfold Zw; rw [h3.1,h3.2.1]
   rw [h1,e]; exact this
section
variable {n:Za} (hn:NetD n)
include hn
theorem ZDk {K:Nat} {w:Zd} (hw:WDS n K w) (from_ to_:ByteArray) (service weight:Int):Tot (ZaL w from_ to_ service weight) fun r=>WDS n (K+1) r.1:=by
 obtain ⟨r,_,e,hr⟩:=ZDl hw.ok from_ to_ service weight
 refine Tot.of e ?_
 rcases hr with ⟨rfl,_⟩ | ⟨way,ys,due,hT⟩
 ·exact hw.mono
 ·rw [hT.res]
  have hnet:=hw.net
  have h7:=ZDs hn
  have hR:=Zkc hw.ok.fit.net hw.ok.fit.bookings hw.ok.fit.closed hT.room
  have hfew:=ZEj hw.ok.fit.net hR
  rw [hnet] at hfew
  refine ⟨hT.ok,hw.net,ZDR hw.story ys,?_⟩
  obtain ⟨u,s,h1,h2⟩:=hw.cnt
  refine ⟨u,s,?_,fun o ho=>?_⟩
  ·show (w.orders++[newO w from_ to_ service weight due way]).length+u+s≤K+1
   rw [List.length_append]; simp only [List.length_cons,List.length_nil]; omega
  ·have ho':o∈w.orders++[newO w from_ to_ service weight due way]:=ho
   rcases List.mem_append.1 ho' with ho' | ho'
   ·exact h2 o ho'
   ·obtain rfl:=List.mem_singleton.1 ho'
    refine ⟨?_,?_⟩
    ·show way.length≤_; omega
    ·show (if (1:Int)=2 then (0:Int)+1 else 0)≤_
     rw [if_neg (by omega)]; omega
theorem ZEb {K:Nat} {w:Zd} (hw:WDS n K w) (t:Ze):Tot (Zbo w t) fun r=>WDS n (K+1) r.1:=by
 obtain ⟨r,_,e,hr⟩:=ZCN hw.ok t
 refine Tot.of e ?_
 rcases hr with rfl | ⟨x,rfl,hS⟩
 ·exact hw.mono
 ·have hr:∀ (i:Nat) (o:Zf),w.orders[i]?=some o→∃ o',x.orders[i]?=some o'∧ZCc w.network o o':=fun i o ho=>by
   obtain ⟨o',a,_,c⟩:=hS.ord i o ho
   exact ⟨o',a,c⟩
  exact ⟨hS.ok,hS.same.network.trans hw.net,ZCk hw.ok hw.story hS.same.network hS.same.scans hS.same.len hr,ZC6 (ZDs hn) hw.ok hw.net hw.cnt hS.same.len hr⟩
theorem ZDJ {K:Nat} {w:Zd} (hw:WDS n K w):Tot (ZaM w) fun r=>WDS n (K+1) r.1:=by
 obtain ⟨x,m,_,e,hR⟩:=ZDK hw.ok
 refine Tot.of e ?_
 have hr:∀ (i:Nat) (o:Zf),w.orders[i]?=some o→∃ o',x.orders[i]?=some o'∧ZCc w.network o o':=fun i o ho=>by
  obtain ⟨o',a,c,_⟩:=hR.ord i o ho
  exact ⟨o',a,c⟩
 exact ⟨hR.ok,hR.same.network.trans hw.net,ZCk hw.ok hw.story hR.same.network hR.same.scans hR.same.len hr,ZC6 (ZDs hn) hw.ok hw.net hw.cnt hR.same.len hr⟩
theorem ZEl {K:Nat} {w:Zd} (hw:WDS n K w) (u:Int):Tot (ZaN w u) (WDS n (K+1)):=by
 refine Tot.of (Zqi hw.ok.fit u) ?_
 split
 ·rename_i h
  obtain ⟨a,b,_⟩:=Zqf hw.ok h.2.1 h.2.2
  exact ⟨a,b.network.trans hw.net,ZC5 hw.ok hw.story h.2.2,ZEE hw.ok hw.cnt h.2.1 h.2.2⟩
 ·exact hw.mono
theorem ZEk {c:Zx} (h:Zco c) {K:Nat} {w:Zd} (hw:WDS n K w):Tot (Zds c w) fun r=>WDS n (K+1) r.1∧Zco r.2:=by
 have hnet:=hw.net
 unfold Zds
 refine Tot.rho (Tot.bind (Z2 h 6) fun y1 h1=>?_)
 rw [hnet]
 have hc:=h1.2
 refine Tot.cond (fun _=>Tot.cond (fun _=>?_) fun _=>Tot.cond (fun _=>?_) fun _=>Tot.cond (fun _=>?_) fun _=>?_) fun _=>Tot.cond (fun _=>Tot.cond (fun _=>?_) fun _=>Tot.cond (fun _=>?_) fun _=>Tot.cond (fun _=>?_) fun _=>?_) fun _=>Tot.cond (fun _=>?_) fun _=>Tot.cond (fun _=>?_) fun _=>Tot.cond (fun _=>?_) fun _=>?_
 any_goals exact Tot.drw (Tot.rho (Tot.bind (ZtI hn hc) fun y2 h2=>Tot.rho (Tot.bind (ZtI hn h2) fun y3 h3=>Tot.rho (Tot.bind (Z2 h3 3) fun y4 h4=>Tot.rho (Tot.bind (Z2 h4.2 4000) fun y5 h5=>Tot.bind (ZDk hn hw _ _ _ _) fun y6 h6=>Tot.ret ⟨h6,h5.2⟩)))))
 any_goals exact Tot.drw (Tot.rho (Tot.bind (Zsf hn hc hnet) fun y7 h7=>Tot.bind (ZEb hn hw _) fun y8 h8=>Tot.ret ⟨h8,h7⟩))
 any_goals exact Tot.bind (ZDJ hn hw) fun y9 h9=>Tot.ret ⟨h9,hc⟩
 all_goals exact Tot.drw (Tot.rho (Tot.bind (Z2 hc 40) fun y10 h10=>Tot.bind (ZEl hn hw _) fun y11 h11=>Tot.ret ⟨h11,h10.2⟩))
theorem newS {skip:List Int} (hs:skip.length≤50) (K:Nat):WDS n K (⟨n,[],[],[],0,[],skip,0⟩:Zd):=by
 have hf:WFit (⟨n,[],[],[],0,[],skip,0⟩:Zd):=⟨hn.fit,by simp,by simp,by simp,by simp,by simp only; omega,fun o ho=>by cases ho⟩
 have hv:Zbk (⟨n,[],[],[],0,[],skip,0⟩:Zd)=true:=by
  unfold Zbk Z6 Zk1
  simp only [hn.ok,Option.getD_some]
  simp [allI]
  omega
 exact ⟨⟨hf,hv⟩,rfl,⟨fun s hm=>(by cases hm),fun i o ho=>(by have ho':([]:List Zf)[i]?=some o:=ho; simp at ho')⟩,0,0,by simp,fun o ho=>by cases ho⟩
end
theorem ZDU {c:Zx} (h:Zco c) (most:Int) (hm:most≤9):Tot (ZcZ c most) fun r=>∃ n,NetD n∧WDS n 8 r.1∧Zco r.2:=by
 unfold ZcZ
 refine Tot.rho (Tot.bind (ZuE h) fun y1 h1=>?_)
 obtain ⟨h1,hc1⟩:=h1
 refine Tot.bind (P:=fun o=>Zco ⟨o.1,o.2.1,o.2.2.1⟩∧NetD ⟨o.2.2.2,y1.1.off,y1.1.change⟩) ?_ fun o0 ho0=>?_
 ·have hlen:=h1.len
  refine Tot.loop (fun (k:Nat) (s:Int × (List YB8) × Int × Int × (List YLeg))=>∃ i:Nat,s.1=(i:Int)∧i+k=s.2.2.2.2.length∧Zco ⟨s.2.1,s.2.2.1,s.2.2.2.1⟩∧NetD ⟨s.2.2.2.2,y1.1.off,y1.1.change⟩) (fun k s hs=>?_) NN y1.1.legs.length _ ⟨0,rfl,by simp,hc1,h1⟩ (by unfold NN; omega)
  obtain ⟨i,hi,hk,hc,hd⟩:=hs
  have hl2:=hd.len
  simp only at hl2
  unfold Zek
  rw [hi]
  refine Tot.cond (fun hlt=>?_) fun _=>Tot.ret ⟨hc,hd⟩
  have hlt:=of_decide_eq_true hlt
  have hwi:w64 ((i:Int)+1)=((i+1:Nat):Int):=by rw [Zp (by omega)]; omega
  rw [hwi]
  refine Tot.rho (Tot.bind (ZeB hc 2) fun y2 h2=>Tot.cond (fun _=>Tot.drw (Tot.rho (Tot.bind (Z2 h2 9) fun y3 h3=>?_))) fun _=>Tot.ret ⟨k-1,by omega,i+1,rfl,by simp only; omega,h2,hd⟩)
  refine Tot.get (by omega) hlt fun x hx _=>Tot.ret ⟨k-1,by omega,i+1,rfl,by simp only [List.length_set]; omega,h3.2,?_⟩
  have b3:=h3.1.2.1 (by omega)
  have b0:=h3.1.1
  have hr:w64 (2000+w64 (1000*y3.1))=2000+1000*y3.1:=by rw [Zp (n:=1000*y3.1) (by omega),Zp (by omega)]
  refine ⟨by simp only [List.length_set]; exact hl2,fun l hl=>?_,hd.off,hd.change⟩
  rcases List.mem_or_eq_of_mem_set hl with hl | rfl
  ·exact hd.leg l hl
  ·obtain ⟨a1,a2,a3,a4,a5,a6,a7⟩:=hd.leg x hx
   exact ⟨a1,a2,a3,a4,a5,a6,by simp only [hr]; omega⟩
 ·refine Tot.rho (Tot.bind (Z2 ho0.1 6) fun y5 h5=>?_)
  have b5:=h5.1.2.1 (by omega)
  have b5':=h5.1.1
  refine Tot.bind (P:=fun o=>Zco ⟨o.1,o.2.1,o.2.2.1⟩∧o.2.2.2.length≤50) ?_ fun o1 ho1=>?_
  ·refine Tot.loop (fun (k:Nat) (s:Int × (List YB8) × Int × Int × (List Int))=>s.1=(k:Int)∧s.2.2.2.2.length+k≤6∧Zco ⟨s.2.1,s.2.2.1,s.2.2.2.1⟩) (fun k s hs=>?_) NN y5.1.toNat _ ⟨by simp only; omega,by simp only [List.length_nil]; omega,h5.2⟩ (by unfold NN; omega)
   obtain ⟨hk,hl,hc⟩:=hs
   unfold Zel
   refine Tot.cond (fun hd=>?_) fun _=>Tot.ret ⟨hc,by simp only; omega⟩
   have hd:=of_decide_eq_true hd
   have hwi:w64 (s.1-1)=((k-1:Nat):Int):=by rw [Zp (by omega)]; omega
   exact Tot.rho (Tot.bind (Z2 hc 25) fun y6 h6=>Tot.chk (Zcp (by simp only [List.length_cons,List.length_nil]; omega) (by omega)) (Tot.ret ⟨k-1,by omega,hwi,by simp only [List.length_append,List.length_cons,List.length_nil]; omega,h6.2⟩))
  ·refine Tot.frz ?_
   rw [Zq6 ho0.2 ho1.2,Option.bind_some]
   refine Tot.rho (Tot.bind (Z2 ho1.1 most) fun y8 h8=>?_)
   have b8:=h8.1
   have b8':y8.1≤8:=by
    rcases Int.lt_or_le 0 most with hp | hp
    ·have:=b8.2.1 hp; omega
    ·have:=b8.2.2 hp; omega
   refine Tot.bind (P:=fun o=>Zco ⟨o.1,o.2.1,o.2.2.1⟩∧WDS ⟨o0.2.2.2,y1.1.off,y1.1.change⟩ 8 (⟨(⟨o.2.2.2.2.2.2.1,o.2.2.2.2.2.2.2.1,o.2.2.2.1⟩:Za),o.2.2.2.2.2.2.2.2.1,o.2.2.2.2.2.2.2.2.2.1,o.2.2.2.2.2.2.2.2.2.2.1,o.2.2.2.2.1,o.2.2.2.2.2.2.2.2.2.2.2.1,o.2.2.2.2.2.2.2.2.2.2.2.2,o.2.2.2.2.2.1⟩:Zd)) ?_ fun o2 ho2=>Tot.ret ⟨_,ho0.2,ho2.2,ho2.1⟩
   refine Tot.loop (fun (k:Nat) (s2:Int × (List YB8) × Int × Int × Int × Int × Int × (List YLeg) × (List Int) × (List Zf) × (List Zc) × (List Ze) × (List Zj) × (List Int))=>s2.1=(k:Int)∧k≤8∧Zco ⟨s2.2.1,s2.2.2.1,s2.2.2.2.1⟩∧WDS ⟨o0.2.2.2,y1.1.off,y1.1.change⟩ (8-k) (⟨(⟨s2.2.2.2.2.2.2.2.1,s2.2.2.2.2.2.2.2.2.1,s2.2.2.2.2.1⟩:Za),s2.2.2.2.2.2.2.2.2.2.1,s2.2.2.2.2.2.2.2.2.2.2.1,s2.2.2.2.2.2.2.2.2.2.2.2.1,s2.2.2.2.2.2.1,s2.2.2.2.2.2.2.2.2.2.2.2.2.1,s2.2.2.2.2.2.2.2.2.2.2.2.2.2,s2.2.2.2.2.2.2.1⟩:Zd)) (fun k s hs=>?_) NN y8.1.toNat _ ⟨by simp only; omega,?_,h8.2,?_⟩ (by unfold NN; omega)
   ·obtain ⟨hk,hkl,hc,hw⟩:=hs
    unfold Zem
    refine Tot.cond (fun hd=>?_) fun hd=>Tot.ret ⟨hc,?_⟩
    ·have hd:=of_decide_eq_true hd
     have hwi:w64 (s.1-1)=((k-1:Nat):Int):=by rw [Zp (by omega)]; omega
     refine Tot.frz (Tot.rho (Tot.bind (ZEk ho0.2 hc hw) fun y9 h9=>Tot.ret ⟨k-1,by omega,hwi,by omega,h9.2,?_⟩))
     have:=h9.1
     rw [show 8-k+1=8-(k-1) by omega] at this
     exact this
    ·have hd:=of_decide_eq_false hd
     have hk0:k=0:=by omega
     rw [hk0] at hw
     exact hw
   ·omega
   ·exact newS ho0.2 ho1.2 _
theorem ZEm {c:Zx} (h:Zco c):Tot (Zdt c) fun r=>(NetD r.1.network∧WFit r.1∧(Zbk r.1=true→ZB6 r.1∧CntW 8 r.1))∧Zco r.2:=by
 unfold Zdt
 refine Tot.rho (Tot.bind (ZDU h 9 (by omega)) fun y1 h1=>?_)
 obtain ⟨n,hn,hw,hc⟩:=h1
 have hf:=hw.ok.fit
 have hcl:=hw.ok.parts.2.2.1
 have hnd:NetD y1.1.network:=by rw [hw.net]; exact hn
 have hfe:ZB6 y1.1∧CntW 8 y1.1:=⟨hw.story,hw.cnt⟩
 refine Tot.rho (Tot.bind (ZeB hc 2) fun y2 h2=>Tot.cond (fun _=>Tot.ret ⟨⟨hnd,hf,fun _=>⟨⟨hfe.1.thing,hfe.1.sub⟩,hfe.2⟩⟩,h2⟩) fun _=>Tot.cond (fun _=>Tot.ret ⟨⟨hnd,hf,fun _=>⟨⟨hfe.1.thing,hfe.1.sub⟩,hfe.2⟩⟩,h2⟩) fun hz=>?_)
 have hz:=of_decide_eq_false hz
 refine Tot.rho (Tot.bind (Z2 h2 _) fun y3 h3=>Tot.rho (Tot.bind (Z2 h3.2 13) fun y4 h4=>?_))
 have b3:=h3.1.2.1 (by omega)
 obtain ⟨o,ho,hm⟩:=ZaS (xs:=y1.1.orders) (i:=y3.1) ⟨h3.1.1,b3⟩
 have hc4:=h4.2
 rw [ho]
 simp only [Option.bind_some]
 have hoi:=(ZdO ho).2
 have set:∀ (x:Zf),x.way=o.way→WFit (⟨y1.1.network,(y1.1.orders.set (Int.toNat y3.1) x),y1.1.bookings,y1.1.closed,y1.1.now,y1.1.scans,y1.1.skip,y1.1.made⟩:Zd):=fun x hx=>⟨hf.net,by simp only [List.length_set]; exact hf.orders,hf.bookings,hf.closed,hf.scans,hf.skip,hf.set hm hx⟩
 have hnat:getI y1.1.orders y3.1=some o:=ho
 have hSt:=hw.ok.state hoi
 have hWy:=hw.ok.way hoi
 have setF:∀ (x:Zf),x.way=o.way→(x.from_=o.from_∧x.to_=o.to_∧x.at_=o.at_)→(Zgv y1.1.network x y1.1.now→0≤x.gone→x.gone≤x.way.length→x.state=o.state∧x.gone=o.gone∧x.ended=o.ended)→(Zbk (⟨y1.1.network,(y1.1.orders.set (Int.toNat y3.1) x),y1.1.bookings,y1.1.closed,y1.1.now,y1.1.scans,y1.1.skip,y1.1.made⟩:Zd)=true→ZB6 (⟨y1.1.network,(y1.1.orders.set (Int.toNat y3.1) x),y1.1.bookings,y1.1.closed,y1.1.now,y1.1.scans,y1.1.skip,y1.1.made⟩:Zd)∧CntW 8 (⟨y1.1.network,(y1.1.orders.set (Int.toNat y3.1) x),y1.1.bookings,y1.1.closed,y1.1.now,y1.1.scans,y1.1.skip,y1.1.made⟩:Zd)):=fun x hx hx2 hk hv=>by
  have hok:WOk (⟨y1.1.network,(y1.1.orders.set (Int.toNat y3.1) x),y1.1.bookings,y1.1.closed,y1.1.now,y1.1.scans,y1.1.skip,y1.1.made⟩:Zd):=⟨set x hx,hv⟩
  have hzi:(y1.1.orders.set (Int.toNat y3.1) x)[(Int.toNat y3.1)]?=some x:=by
   rw [List.getElem?_set_self (List.getElem?_eq_some_iff.1 hoi).1]
  obtain ⟨k1,k2,k3⟩:=hk (hok.state hzi) (hok.way hzi).gone.1 (hok.way hzi).gone.2
  exact ZD9 hfe.1 hfe.2 hoi hx hx2 ⟨k1,k2,k3⟩
 have keep:∀ (a b:Int),WFit (⟨y1.1.network,y1.1.orders,y1.1.bookings,y1.1.closed,a,y1.1.scans,y1.1.skip,b⟩:Zd):=fun a b=>⟨hf.net,hf.orders,hf.bookings,hf.closed,hf.scans,hf.skip,hf.way⟩
 refine Tot.cond (fun _=>Tot.drw (Tot.rho (Tot.bind (Z2 hc4 5) fun y5 h5=>Tot.ret ⟨⟨hnd,set _ rfl,setF _ rfl ⟨rfl,rfl,rfl⟩ (fun h1 _ _=>⟨ZD2 hSt h1 rfl rfl rfl rfl,rfl,rfl⟩)⟩,h5.2⟩))) fun _=>?_
 refine Tot.cond (fun _=>Tot.ret ⟨⟨hnd,set _ rfl,setF _ rfl ⟨rfl,rfl,rfl⟩ (fun h1 h2 h3=>(ZEp hWy hSt h1 rfl rfl h3).elim)⟩,hc4⟩) fun _=>?_
 refine Tot.cond (fun _=>Tot.drw (Tot.rho (Tot.bind (ZnV hc4 (by simp)) fun y10 h10=>Tot.ret ⟨⟨hnd,set _ rfl,setF _ rfl ⟨rfl,rfl,rfl⟩ (fun _ _ _=>⟨rfl,rfl,rfl⟩)⟩,h10.2⟩))) fun _=>?_
 refine Tot.cond (fun _=>Tot.ret ⟨⟨hnd,set _ rfl,setF _ rfl ⟨rfl,rfl,rfl⟩ (fun _ _ _=>⟨rfl,rfl,rfl⟩)⟩,hc4⟩) fun _=>?_
 refine Tot.cond (fun _=>Tot.drw (Tot.rho (Tot.bind (ZjT hc4 (by simp)) fun y14 h14=>Tot.ret ⟨⟨hnd,keep _ _,fun _=>⟨⟨hfe.1.thing,hfe.1.sub⟩,hfe.2⟩⟩,h14.2⟩))) fun _=>?_
 refine Tot.cond (fun _=>Tot.drw (Tot.rho (Tot.bind (Z2 hc4 _) fun y15 h15=>?_))) fun _=>?_
 ·have hb:=hf.bookings
  have hw1:w64 ((y1.1.bookings.length:Int)+1)=(y1.1.bookings.length:Int)+1:=Zp (by omega)
  have b15:=h15.1.2.1 (by rw [hw1]; omega)
  rw [hw1] at b15
  have b0:=h15.1.1
  refine Tot.chk (by unfold slOk; exact decide_eq_true (by omega)) (Tot.ret ⟨⟨hnd,⟨hf.net,hf.orders,?_,hf.closed,hf.scans,hf.skip,hf.way⟩,fun _=>⟨⟨hfe.1.thing,hfe.1.sub⟩,hfe.2⟩⟩,h15.2⟩)
  simp only [subL,List.length_take,List.length_drop]; omega
 refine Tot.cond (fun _=>Tot.drw (Tot.rho (Tot.bind (ZpX hn hc4 hw.net) fun y16 h16=>?_))) fun _=>?_
 ·have e:=h16.2
  rw [e]
  refine Tot.chk (Zcp (by simp only [List.length_cons,List.length_nil]; omega) (by omega)) (Tot.ret ⟨⟨hnd,⟨hf.net,hf.orders,hf.bookings,?_,hf.scans,hf.skip,hf.way⟩,fun _=>⟨⟨hfe.1.thing,hfe.1.sub⟩,hfe.2⟩⟩,h16.1⟩)
  simp only [List.length_append,List.length_cons,List.length_nil]; omega
 refine Tot.cond (fun _=>Tot.ret ⟨⟨hnd,set _ rfl,setF _ rfl ⟨rfl,rfl,rfl⟩ (fun h1 _ _=>(ZD1 hWy hSt h1 rfl rfl rfl rfl).elim)⟩,hc4⟩) fun _=>?_
 refine Tot.cond (fun _=>Tot.rho (Tot.bind (ZjT hc4 (by simp)) fun y19 h19=>Tot.ret ⟨⟨hnd,keep _ _,fun _=>⟨⟨hfe.1.thing,hfe.1.sub⟩,hfe.2⟩⟩,h19.2⟩)) fun _=>?_
 exact Tot.cond (fun _=>Tot.drw (Tot.rho (Tot.bind (ZjT hc4 (by simp)) fun y20 h20=>Tot.ret ⟨⟨hnd,set _ rfl,setF _ rfl ⟨rfl,rfl,rfl⟩ (fun _ _ _=>⟨rfl,rfl,rfl⟩)⟩,h20.2⟩))) fun _=>Tot.ret ⟨⟨hnd,hf,fun _=>⟨⟨hfe.1.thing,hfe.1.sub⟩,hfe.2⟩⟩,hc4⟩
theorem ZC0 {code:List YB8} (hl:code.length≤4096) (hb:∀ x∈code,0≤x.v∧x.v≤255):Tot (ZBH code) fun r=>NetD r.1.network∧WFit r.1∧(Zbk r.1=true→ZB6 r.1∧CntW 8 r.1):=by
 unfold ZBH
 exact Tot.bind (ZuF hl hb) fun y1 h1=>Tot.rho (Tot.bind (ZEm h1) fun y2 h2=>Tot.drw (Tot.rho (Tot.bind (Zsf h2.1.1 h2.2 rfl) fun y3 _=>Tot.ret h2.1)))
def ZBN (a:List Ze) (b:List Ze) (s0:Int):Option (Int ⊕ (Unit ⊕ Bool)):=
 cond (decide (s0<(a.length:Int)))
 ((getI a s0).bind fun y1=>
 (getI b s0).bind fun y2=>
 cond (!decide (y1=y2))
 (some (.inr (.inr false)))
 (some (.inl (w64 (s0+1)))))
 (some (.inr (.inl ())))
instance (a:List Ze) (b:List Ze):ZU (ZBN a b):=⟨fun s0=>(.sl (a.map Zr)::.sl (b.map Zr)::(U 10 (vi (a.length:Int)::vi s0::(U 12 [])))),fun s0=>[]⟩
def ZBo (a:List Ze) (b:List Ze):Option Bool:=
 cond (!decide ((a.length:Int)=(b.length:Int)))
 (some false)
 ((Zl (ZBN a b) NN 0).bind (ZX (fun o0=>
 some true) (fun r=>some r)))
instance (a:List Ze) (b:List Ze):CT Tryz.prog (ZBo a b):=⟨116,[.sl (a.map Zr),.sl (b.map Zr)],[],fun r=>vb r,fun r=>[],fun H=>by replace H:=H0 H; unfold ZBo at H; exact Zh Tryz.func116 rfl Tryz.ntmps116 Tryz.results116 fun Q hQ hQn=>wk3⟩
def ZBT (a:Zf) (b:Zf):Option Bool:=
 cond (decide (a.from_=b.from_))
 (cond (decide (a.to_=b.to_))
 (cond (decide (a.service=b.service))
 (cond (decide (a.weight=b.weight))
 (cond (decide (a.at_=b.at_))
 (cond (decide (a.due=b.due))
 ((ZBo a.way b.way).bind fun y1=>
 cond y1
 (cond (decide (a.gone=b.gone))
 (cond (decide (a.state=b.state))
 (cond (decide (a.place=b.place))
 (some (decide (a.ended=b.ended)))
 (some false))
 (some false))
 (some false))
 (some false))
 (some false))
 (some false))
 (some false))
 (some false))
 (some false))
 (some false)
instance (a:Zf) (b:Zf):CT Tryz.prog (ZBT a b):=⟨112,[.ag (Zv a),.ag (Zv b)],[],fun r=>vb r,fun r=>[],fun H=>by replace H:=H0 H; unfold ZBT at H; exact Zh Tryz.func112 rfl Tryz.ntmps112 Tryz.results112 fun Q hQ hQn=>wk3⟩
def ZBU (a:List YLeg) (b:List YLeg) (s0:Int):Option (Int ⊕ (Unit ⊕ Bool)):=
 cond (decide (s0<(a.length:Int)))
 ((getI a s0).bind fun y1=>
 (getI b s0).bind fun y2=>
 cond (!decide (y1=y2))
 (some (.inr (.inr false)))
 (some (.inl (w64 (s0+1)))))
 (some (.inr (.inl ())))
instance (a:List YLeg) (b:List YLeg):ZU (ZBU a b):=⟨fun s0=>(.sl (a.map cLeg)::.sl (b.map cLeg)::(U 10 (vi (a.length:Int)::vi s0::(U 12 [])))),fun s0=>[]⟩
def ZBy (a:List YLeg) (b:List YLeg):Option Bool:=
 cond (!decide ((a.length:Int)=(b.length:Int)))
 (some false)
 ((Zl (ZBU a b) NN 0).bind (ZX (fun o0=>
 some true) (fun r=>some r)))
instance (a:List YLeg) (b:List YLeg):CT Tryz.prog (ZBy a b):=⟨113,[.sl (a.map cLeg),.sl (b.map cLeg)],[],fun r=>vb r,fun r=>[],fun H=>by replace H:=H0 H; unfold ZBy at H; exact Zh Tryz.func113 rfl Tryz.ntmps113 Tryz.results113 fun Q hQ hQn=>wk3⟩
def ZB4 (a:List Int) (b:List Int) (s0:Int):Option (Int ⊕ (Unit ⊕ Bool)):=
 cond (decide (s0<(a.length:Int)))
 ((getI a s0).bind fun y1=>
 (getI b s0).bind fun y2=>
 cond (!decide (y1=y2))
 (some (.inr (.inr false)))
 (some (.inl (w64 (s0+1)))))
 (some (.inr (.inl ())))
instance (a:List Int) (b:List Int):ZU (ZB4 a b):=⟨fun s0=>(.sl (a.map cInt)::.sl (b.map cInt)::(U 10 (vi (a.length:Int)::vi s0::(U 12 [])))),fun s0=>[]⟩
def ZBJ (a:List Int) (b:List Int):Option Bool:=
 cond (!decide ((a.length:Int)=(b.length:Int)))
 (some false)
 ((Zl (ZB4 a b) NN 0).bind (ZX (fun o0=>
 some true) (fun r=>some r)))
instance (a:List Int) (b:List Int):CT Tryz.prog (ZBJ a b):=⟨114,[.sl (a.map cInt),.sl (b.map cInt)],[],fun r=>vb r,fun r=>[],fun H=>by replace H:=H0 H; unfold ZBJ at H; exact Zh Tryz.func114 rfl Tryz.ntmps114 Tryz.results114 fun Q hQ hQn=>wk3⟩
def ZBE (a:List Zc) (b:List Zc) (s0:Int):Option (Int ⊕ (Unit ⊕ Bool)):=
 cond (decide (s0<(a.length:Int)))
 ((getI a s0).bind fun y1=>
 (getI b s0).bind fun y2=>
 cond (!decide (y1=y2))
 (some (.inr (.inr false)))
 (some (.inl (w64 (s0+1)))))
 (some (.inr (.inl ())))
instance (a:List Zc) (b:List Zc):ZU (ZBE a b):=⟨fun s0=>(.sl (a.map Zg)::.sl (b.map Zg)::(U 10 (vi (a.length:Int)::vi s0::(U 12 [])))),fun s0=>[]⟩
def ZBp (a:List Zc) (b:List Zc):Option Bool:=
 cond (!decide ((a.length:Int)=(b.length:Int)))
 (some false)
 ((Zl (ZBE a b) NN 0).bind (ZX (fun o0=>
 some true) (fun r=>some r)))
instance (a:List Zc) (b:List Zc):CT Tryz.prog (ZBp a b):=⟨115,[.sl (a.map Zg),.sl (b.map Zg)],[],fun r=>vb r,fun r=>[],fun H=>by replace H:=H0 H; unfold ZBp at H; exact Zh Tryz.func115 rfl Tryz.ntmps115 Tryz.results115 fun Q hQ hQn=>wk3⟩
def ZBM (a:List Zj) (b:List Zj) (s0:Int):Option (Int ⊕ (Unit ⊕ Bool)):=
 cond (decide (s0<(a.length:Int)))
 ((getI a s0).bind fun y1=>
 (getI b s0).bind fun y2=>
 cond (!decide (y1=y2))
 (some (.inr (.inr false)))
 (some (.inl (w64 (s0+1)))))
 (some (.inr (.inl ())))
instance (a:List Zj) (b:List Zj):ZU (ZBM a b):=⟨fun s0=>(.sl (a.map ZF)::.sl (b.map ZF)::(U 10 (vi (a.length:Int)::vi s0::(U 12 [])))),fun s0=>[]⟩
def ZBx (a:List Zj) (b:List Zj):Option Bool:=
 cond (!decide ((a.length:Int)=(b.length:Int)))
 (some false)
 ((Zl (ZBM a b) NN 0).bind (ZX (fun o0=>
 some true) (fun r=>some r)))
instance (a:List Zj) (b:List Zj):CT Tryz.prog (ZBx a b):=⟨117,[.sl (a.map ZF),.sl (b.map ZF)],[],fun r=>vb r,fun r=>[],fun H=>by replace H:=H0 H; unfold ZBx at H; exact Zh Tryz.func117 rfl Tryz.ntmps117 Tryz.results117 fun Q hQ hQn=>wk3⟩
def ZBD (a:Zd) (b:Zd) (s0:Int):Option (Int ⊕ (Unit ⊕ Bool)):=
 cond (decide (s0<(a.orders.length:Int)))
 ((getI a.orders s0).bind fun y1=>
 (getI b.orders s0).bind fun y2=>
 (ZBT y1 y2).bind fun y3=>
 cond (!y3)
 (some (.inr (.inr false)))
 (some (.inl (w64 (s0+1)))))
 (some (.inr (.inl ())))
instance (a:Zd) (b:Zd):ZU (ZBD a b):=⟨fun s0=>(.un::.un::.be 0 0 0::.be 1 0 0::(U 11 (vi (a.orders.length:Int)::vi s0::(U 82 [])))),fun s0=>[some ⟨41,10,[[.sl (a.network.legs.map cLeg),.sl (a.network.off.map cInt),vi a.network.change,.sl (a.orders.map Zv),.sl (a.bookings.map Zg),.sl (a.closed.map Zr),vi a.now,.sl (a.scans.map ZF),.sl (a.skip.map cInt),vi a.made]]⟩,some ⟨41,10,[[.sl (b.network.legs.map cLeg),.sl (b.network.off.map cInt),vi b.network.change,.sl (b.orders.map Zv),.sl (b.bookings.map Zg),.sl (b.closed.map Zr),vi b.now,.sl (b.scans.map ZF),.sl (b.skip.map cInt),vi b.made]]⟩]⟩
def ZBR (a:Zd) (b:Zd):Option Bool:=
 cond (!decide ((a.orders.length:Int)=(b.orders.length:Int)))
 (some false)
 ((Zl (ZBD a b) NN 0).bind (ZX (fun o0=>
 (ZBy a.network.legs b.network.legs).bind fun y4=>
 cond y4
 ((ZBJ a.network.off b.network.off).bind fun y5=>
 cond y5
 (cond (decide (a.network.change=b.network.change))
 ((ZBp a.bookings b.bookings).bind fun y6=>
 cond y6
 ((ZBo a.closed b.closed).bind fun y7=>
 cond y7
 (cond (decide (a.now=b.now))
 ((ZBx a.scans b.scans).bind fun y8=>
 cond y8
 ((ZBJ a.skip b.skip).bind fun y9=>
 cond y9
 (some (decide (a.made=b.made)))
 (some false))
 (some false))
 (some false))
 (some false))
 (some false))
 (some false))
 (some false))
 (some false)) (fun r=>some r)))
instance (a:Zd) (b:Zd):CT Tryz.prog (ZBR a b):=⟨26,[.ag (ZbD a),.ag (ZbD b)],[],fun r=>vb r,fun r=>[],fun H=>by replace H:=H0 H; unfold ZBR at H; exact Zh Tryz.func26 rfl Tryz.ntmps26 Tryz.results26 fun Q hQ hQn=>wk3⟩
theorem ZD7 {l:List Ze} (hl:l.length≤1048576):ZBo l l=some true:=ZCY (F:=ZBo) (B:=ZBN) (fun _ _=>rfl) (fun _ _ _=>rfl) hl
theorem ZEL {l:List Zc} (hl:l.length≤1048576):ZBp l l=some true:=ZCY (F:=ZBp) (B:=ZBE) (fun _ _=>rfl) (fun _ _ _=>rfl) hl
theorem ZEM {l:List YLeg} (hl:l.length≤1048576):ZBy l l=some true:=ZCY (F:=ZBy) (B:=ZBU) (fun _ _=>rfl) (fun _ _ _=>rfl) hl
theorem ZEO {l:List Zj} (hl:l.length≤1048576):ZBx l l=some true:=ZCY (F:=ZBx) (B:=ZBM) (fun _ _=>rfl) (fun _ _ _=>rfl) hl
theorem ZD6 {l:List Int} (hl:l.length≤1048576):ZBJ l l=some true:=ZCY (F:=ZBJ) (B:=ZB4) (fun _ _=>rfl) (fun _ _ _=>rfl) hl
theorem ZEN {o:Zf} (h:o.way.length≤1048576):ZBT o o=some true:=by
 unfold ZBT
 simp only [decide_true,cond_true,ZD7 h,Option.bind_some]
theorem ZD8 {w:Zd} (h:WFit w):ZBR w w=some true:=by
 unfold ZBR
 have e:Zl (ZBD w w) NN 0=some (.inl ()):=by
  refine Zoz (xs:=w.orders) (fun i x hx=>?_) ?_ h.orders
  ·have hlt:=(List.getElem?_eq_some_iff.1 hx).1
   have hg:getI w.orders (i:Int)=some x:=by rw [Zq]; exact hx
   unfold ZBD
   rw [decide_eq_true (show (i:Int)<w.orders.length by omega),hg]
   simp only [Option.bind_some,ZEN (h.way x (List.mem_of_getElem? hx)),cond_true,Bool.not_true,cond_false]
  ·unfold ZBD; simp
 rw [e]
 simp only [decide_true,Bool.not_true,cond_false,Option.bind_some,ZX,ZEM h.net.legs,ZD6 h.net.off,ZEL h.bookings,ZD7 h.closed,ZEO h.scans,ZD6 h.skip,cond_true]
def Zhk (code:List YB8):Option Bool:=
 some (decide (4096<(code.length:Int)))
instance (code:List YB8):CT Tryz.prog (Zhk code):=⟨22,[.sl (code.map cB8)],[],fun r=>vb r,fun r=>[],fun H=>by replace H:=H0 H; unfold Zhk at H; exact Zh Tryz.func22 rfl Tryz.ntmps22 Tryz.results22 fun Q hQ hQn=>wk3⟩
def ZCe (a:List Ze) (b:List Ze) (s0:Int):Option (Int ⊕ (Unit ⊕ Bool)):=
 cond (decide (s0<(a.length:Int)))
 ((getI a s0).bind fun y1=>
 (getI b s0).bind fun y2=>
 cond (!decide (y1=y2))
 (some (.inr (.inr false)))
 (some (.inl (w64 (s0+1)))))
 (some (.inr (.inl ())))
instance (a:List Ze) (b:List Ze):ZU (ZCe a b):=⟨fun s0=>(.sl (a.map Zr)::.sl (b.map Zr)::(U 3 (vi s0::(U 20 [])))),fun s0=>[]⟩
def ZCa (a:List Ze) (b:List Ze):Option Bool:=
 cond (!decide ((a.length:Int)=(b.length:Int)))
 (some false)
 ((Zl (ZCe a b) NN 0).bind (ZX (fun o0=>
 some true) (fun r=>some r)))
instance (a:List Ze) (b:List Ze):CT Tryz.prog (ZCa a b):=⟨53,[.sl (a.map Zr),.sl (b.map Zr)],[],fun r=>vb r,fun r=>[],fun H=>by replace H:=H0 H; unfold ZCa at H; exact Zh Tryz.func53 rfl Tryz.ntmps53 Tryz.results53 fun Q hQ hQn=>wk3⟩
def ZB3 (n:Za) (t:Ze):Option Int:=
 (Zaj n t).bind fun y1=>
 cond (!y1)
 (some (-1))
 ((Zo n t).bind fun y2=>
 some y2)
instance (n:Za) (t:Ze):CT Tryz.prog (ZB3 n t):=⟨32,[.ag (Zm n),.ag (Zr t)],[],fun r=>vi r,fun r=>[],fun H=>by replace H:=H0 H; unfold ZB3 at H; exact Zh Tryz.func32 rfl Tryz.ntmps32 Tryz.results32 fun Q hQ hQn=>wk3⟩
def ZBY (y2:Zd × Ze) (y3:Zd × Bool) (s0:Int):Option (Int ⊕ (Unit ⊕ Bool)):=
 cond (decide (s0<(y2.1.orders.length:Int)))
 ((getI y2.1.orders s0).bind fun y8=>
 (ZB2 y8.way y2.2).bind fun y9=>
 cond (!y9)
 ((getI y3.1.orders s0).bind fun y10=>
 (getI y2.1.orders s0).bind fun y11=>
 (ZCa y10.way y11.way).bind fun y12=>
 cond (!y12)
 (some (.inr (.inr false)))
 (some (.inl (w64 (s0+1)))))
 (some (.inl (w64 (s0+1)))))
 (some (.inr (.inl ())))
instance (y2:Zd × Ze) (y3:Zd × Bool):ZU (ZBY y2 y3):=⟨fun s0=>(U 3 (.be 0 0 0::.be 1 0 0::.be 2 0 0::.un::vi s0::(U 109 []))),fun s0=>[some ⟨41,10,[[.sl (y2.1.network.legs.map cLeg),.sl (y2.1.network.off.map cInt),vi y2.1.network.change,.sl (y2.1.orders.map Zv),.sl (y2.1.bookings.map Zg),.sl (y2.1.closed.map Zr),vi y2.1.now,.sl (y2.1.scans.map ZF),.sl (y2.1.skip.map cInt),vi y2.1.made]]⟩,some ⟨55,2,[[vi y2.2.leg,vi y2.2.day]]⟩,some ⟨41,10,[[.sl (y3.1.network.legs.map cLeg),.sl (y3.1.network.off.map cInt),vi y3.1.network.change,.sl (y3.1.orders.map Zv),.sl (y3.1.bookings.map Zg),.sl (y3.1.closed.map Zr),vi y3.1.now,.sl (y3.1.scans.map ZF),.sl (y3.1.skip.map cInt),vi y3.1.made]]⟩]⟩
def ZB8 (code:List YB8):Option Bool:=
 (Zhk code).bind fun y1=>
 cond y1
 (some true)
 ((ZBH code).bind fun y2=>
 (ZBu y2.1 y2.2).bind fun y3=>
 cond (!y3.2)
 ((ZBR y3.1 y2.1).bind fun y4=>
 some y4)
 ((Zb5 y3.1).bind fun y5=>
 cond (!y5)
 (some false)
 ((ZB1 y3.1.bookings y2.2).bind fun y6=>
 cond (decide (0<(y6.length:Int)))
 (some false)
 ((ZB2 y3.1.closed y2.2).bind fun y7=>
 cond (!y7)
 (some false)
 (cond (!decide ((y3.1.orders.length:Int)=(y2.1.orders.length:Int)))
 (some false)
 ((Zl (ZBY y2 y3) NN 0).bind (ZX (fun o0=>
 (ZB3 y2.1.network y2.2).bind fun y13=>
 (Zcr y3.1 y13).bind fun y14=>
 (ZBu y3.1 y2.2).bind fun y15=>
 cond (!y15.2)
 ((ZBt y14 y2.2).bind fun y16=>
 cond (decide ((y16.length:Int)=0))
 ((ZBZ y3.1).bind fun y17=>
 cond y17
 ((ZcY y14).bind fun y18=>
 some y18)
 (some false))
 (some false))
 (some false)) (fun r=>some r))))))))
theorem ok_laws_FnShut (code:List YB8) {r:Bool} (H:ZB8 code=some r):Zdo Tryz.prog 11 [.sl (code.map cB8)] [] (vb r) []:=by
 replace H:=H0 H
 unfold ZB8 at H
 refine Zh Tryz.func11 rfl Tryz.ntmps11 Tryz.results11 fun Q hQ hQn=>?_
 exact wk3
instance (code:List YB8):CT Tryz.prog (ZB8 code):=⟨11,[.sl (code.map cB8)],[],fun r=>vb r,fun r=>[],ok_laws_FnShut code⟩
theorem ZEs {l:List Ze} (hl:l.length≤1048576):ZCa l l=some true:=ZCY (F:=ZCa) (B:=ZCe) (fun _ _=>rfl) (fun _ _ _=>rfl) hl
theorem ZEr {w:Zd} (hf:WFit w) (hv:Zbk w=false) (t:Ze):ZBu w t=some (w,false):=by
 unfold ZBu
 rw [Zqv hf,Option.bind_some,Zir hf,hv,Option.bind_some]
 rfl
theorem ZEt {l:List Zc} {t:Ze} (h:∀ b∈l,¬ b.trip=t):whoV l t=[]:=by
 unfold whoV
 exact List.flatMap_eq_nil_iff.2 fun b hb=>if_neg (h b hb)
theorem shut (code:List YB8) (hb:∀ x∈code,0≤x.v∧x.v≤255):ZB8 code=some true:=by
 unfold ZB8 Zhk
 rw [Option.bind_some]
 by_cases hbig:4096<(code.length:Int)
 ·rw [decide_eq_true hbig]; rfl
 rw [decide_eq_false hbig,cond_false]
 obtain ⟨⟨w,t⟩,e,_,hf,hst⟩:=ZC0 (code:=code) (by omega) hb
 simp only at hf hst
 rw [e,Option.bind_some]
 simp only
 cases hv:Zbk w with
 | false=>
  rw [ZEr hf hv,Option.bind_some]
  simp only [Bool.not_false,cond_true,ZD8 hf,Option.bind_some]
 | true=>
 obtain ⟨hS,_⟩:=hst hv
 have hok:WOk w:=⟨hf,hv⟩
 obtain ⟨r,er,_,hr⟩:=ZCN hok t
 rw [er,Option.bind_some]
 rcases hr with rfl | ⟨x,rfl,hx⟩
 ·simp only [Bool.not_false,cond_true,ZD8 hf,Option.bind_some]
 have hxk:=hx.ok
 have hxf:=hxk.fit
 have hnet:x.network=w.network:=hx.same.network
 have hnow:x.now=w.now:=hx.same.now
 have hlen:x.orders.length=w.orders.length:=hx.same.len
 have hcl:x.closed=w.closed++[t]:=hx.same.closed
 have hmem:t∈x.closed:=by rw [hcl]; exact List.mem_append_right _ (by simp)
 have hnb:=ZDN hok hx
 have hlater:=hx.later
 obtain ⟨t1,t2,t3,t4,t5⟩:=ZaF hf.net hok.net hx.trip
 have hloop:Zl (ZBY (w,t) (x,true)) NN 0=some (.inl ()):=by
  refine Zoz (xs:=w.orders) (fun i o ho=>?_) ?_ hf.orders
  ·have hlt:=(List.getElem?_eq_some_iff.1 ho).1
   have hg:getI w.orders (i:Int)=some o:=by rw [Zq]; exact ho
   have hwl:=hf.way o (List.mem_of_getElem? ho)
   obtain ⟨o',ho',hsame,_⟩:=hx.ord i o ho
   have hg':getI x.orders (i:Int)=some o':=by rw [Zq]; exact ho'
   unfold ZBY
   simp only [decide_eq_true (show (i:Int)<w.orders.length by omega),cond_true,hg,Option.bind_some,ZDt hwl,hg']
   cases hc:ZdD o.way t with
   | true=>rfl
   | false=>
    have hnt:¬ t∈ZB5 o:=fun h=>by
     have:=ZBn.2 (List.mem_of_mem_drop h)
     rw [hc] at this; cases this
    rw [hsame hnt]
    simp only [Bool.not_false,cond_true,ZEs hwl,Option.bind_some,Bool.not_true,cond_false]
  ·unfold ZBY; simp
 have hstart:ZB3 w.network t=some (Zaf w.network t):=by
  unfold ZB3
  rw [Zjn hf.net hok.net,hx.trip,t1]; rfl
 have hu:x.now≤Zaf w.network t:=by rw [hnow]; omega
 have ha:=Zqh hxf (Zaf w.network t)
 rw [if_pos ⟨hxk.ok,hu,by omega⟩] at ha
 obtain ⟨a1,a2,_⟩:=Zqf hxk hu (show Zaf w.network t≤100000 by omega)
 have hsec:ZBu x t=some (x,false):=by
  obtain ⟨r2,e2,_,h2⟩:=ZCN hxk t
  rcases h2 with rfl | ⟨z,_,hz⟩
  ·exact e2
  ·exact absurd hmem hz.new
 obtain ⟨rr,err,hrr⟩:=ZDM a1 t
 have hr0:rr=[]:=by
  cases rr with
  | nil=>rfl
  | cons y ys=>
   obtain ⟨i,o,_,_,h3,_⟩:=ZDL a1 hrr (y:=y) (by simp)
   rw [a2.bookings] at h3
   exact absurd rfl (hnb _ h3)
 have hxS:ZB6 x:=ZCk hok hS hx.same.network hx.same.scans hx.same.len fun i o ho=>by
  obtain ⟨o',a,_,c⟩:=hx.ord i o ho
  exact ⟨o',a,c⟩
 have hbel:=ZCQ a1 (ZC5 hxk hxS (show Zaf w.network t≤100000 by omega))
 have hcb:ZdD x.closed t=true:=ZBn.2 hmem
 have hor:decide ((x.orders.length:Int)=(w.orders.length:Int))=true:=decide_eq_true (by omega)
 simp only [Bool.not_true,cond_false,Zir hxf,hxk.ok,Option.bind_some,ZES hxf.bookings,ZEt hnb,List.length_nil,ZDt hxf.closed,hcb,hor,hloop,ZX,hstart,ha,hsec,Bool.not_false,cond_true,err,hr0,ZDr hxk,hbel]
 rfl
end Go.Proofs.YtmcdjilbkmhfoaaGreat
