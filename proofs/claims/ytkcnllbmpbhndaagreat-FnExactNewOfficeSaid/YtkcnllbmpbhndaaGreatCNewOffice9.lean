/- A part of the proof of the statement in the last file of this claim: texts on the language of the program and on its functions. No condition. -/
import Derived.Test.YtkcnllbmpbhndaaGreatCNewOffice8
import Derived.Test.YtkcnllbmpbhndaaGreatCNewOffice4
import Derived.Test.YtkcnllbmpbhndaaGreatCNewOffice6
import Derived.Test.YtkcnllbmpbhndaaGreatCNewOffice7
namespace Go.Proofs.YtkcnllbmpbhndaaGreat
set_option maxRecDepth 10000
open Go.RowKit
set_option linter.unusedVariables false
set_option maxHeartbeats 16000000
def Zed (k:Int) (s0:Unit):Option (Unit ⊕ Unit):=
 cond (decide (0<0))
 (none)
 (some (.inr ()))
instance (k:Int):Zo (Zed k):=⟨fun s0=>(.v (.slice none 0 0)::vi k::(U 3 (vi 0::(U 61 [])))),fun s0=>[]⟩
def ZaE (a:List Zt) (k:Int):Option Int:=
 (Zc (Zed k) NN ()).bind (fun o0=>
 some k)
instance (a:List Zt) (k:Int):CT Tryz.prog (ZaE a k):=⟨46,[.v (.slice none 0 0),vi k],[],fun r=>vi r,fun r=>[],fun H=>by replace H:=H0 H; unfold ZaE at H; exact Za Tryz.func46 rfl Tryz.ntmps46 Tryz.results46 fun Q hQ hQn=>wk5⟩
def Zex (s0:Int × Int × (List ZR)):Option ((Int × Int × (List ZR)) ⊕ (Int × (List ZR))):=
 cond (decide (s0.2.1<(s0.2.2.length:Int)))
 ((getI s0.2.2 s0.2.1).bind fun y1=>
 (frzL (s0.2.2.set (Int.toNat s0.2.1) (⟨s0.1,y1.kind,y1.amount,y1.at_⟩:ZR)) (fun y2=>(.ms 0::vi (w64 (s0.1+1))::(U 3 (vi s0.2.1::(U 35 []))))) (fun y2=>[some ⟨.of 113,4,y2.map Zap⟩])).bind fun y2=>
 (getI y2 s0.2.1).bind fun y3=>
 (frzL (y2.set (Int.toNat s0.2.1) (⟨y3.order,(w64 (s0.1+1)),y3.amount,y3.at_⟩:ZR)) (fun y4=>(.ms 0::vi (w64 ((w64 (s0.1+1))+1))::(U 3 (vi s0.2.1::(U 35 []))))) (fun y4=>[some ⟨.of 113,4,y4.map Zap⟩])).bind fun y4=>
 (getI y4 s0.2.1).bind fun y5=>
 (frzL (y4.set (Int.toNat s0.2.1) (⟨y5.order,y5.kind,(w64 ((w64 (s0.1+1))+1)),y5.at_⟩:ZR)) (fun y6=>(.ms 0::vi (w64 ((w64 ((w64 (s0.1+1))+1))+1))::(U 3 (vi s0.2.1::(U 35 []))))) (fun y6=>[some ⟨.of 113,4,y6.map Zap⟩])).bind fun y6=>
 (getI y6 s0.2.1).bind fun y7=>
 some (.inl ((w64 ((w64 ((w64 ((w64 (s0.1+1))+1))+1))+1)),(w64 (s0.2.1+1)),(y6.set (Int.toNat s0.2.1) (⟨y7.order,y7.kind,y7.amount,(w64 ((w64 ((w64 (s0.1+1))+1))+1))⟩:ZR)))))
 (some (.inr (s0.1,s0.2.2)))
instance:Zo (Zex):=⟨fun s0=>(.ms 0::vi s0.1::(U 3 (vi s0.2.1::(U 35 [])))),fun s0=>[some ⟨.of 113,4,s0.2.2.map Zap⟩]⟩
def Zbg (a:List ZR) (k:Int):Option (Int × (List ZR)):=
 (Zc (Zex) NN (k,0,a)).bind (fun o0=>
 some (o0.1,o0.2))
instance (a:List ZR) (k:Int):CT Tryz.prog (Zbg a k):=⟨47,[.ms 0,vi k],[some ⟨.of 113,4,a.map Zap⟩],fun r=>vi r.1,fun r=>[some ⟨.of 113,4,r.2.map Zap⟩],fun H=>by replace H:=H0 H; unfold Zbg at H; exact Za Tryz.func47 rfl Tryz.ntmps47 Tryz.results47 fun Q hQ hQn=>wk5⟩
def ZeP (k:Int) (s0:Unit):Option (Unit ⊕ Unit):=
 cond (decide (0<0))
 (none)
 (some (.inr ()))
instance (k:Int):Zo (ZeP k):=⟨fun s0=>(.v (.slice none 0 0)::vi k::(U 3 (vi 0::(U 112 [])))),fun s0=>[]⟩
def ZbE (a:List YAct) (k:Int):Option Int:=
 (Zc (ZeP k) NN ()).bind (fun o0=>
 some k)
instance (a:List YAct) (k:Int):CT Tryz.prog (ZbE a k):=⟨48,[.v (.slice none 0 0),vi k],[],fun r=>vi r,fun r=>[],fun H=>by replace H:=H0 H; unfold ZbE at H; exact Za Tryz.func48 rfl Tryz.ntmps48 Tryz.results48 fun Q hQ hQn=>wk5⟩
def ZaT (a:Zj) (k:Int):Option (Int × Zj):=
 (rhoM [0,1,2,3,4,5]).bind fun _=>
 (Zbj (⟨a.world.network,[],a.world.bookings,a.world.closed,a.world.now,a.world.scans,a.world.skip,a.world.made⟩:Zf) k).bind fun y1=>
 (rhoM [6]).bind fun _=>
 (Zau a.zones y1.1).bind fun y2=>
 (rhoM [7]).bind fun _=>
 (Zat a.rates y2.1).bind fun y3=>
 (rhoM [8]).bind fun _=>
 (ZM a.percents y3.1).bind fun y4=>
 (rhoM []).bind fun _=>
 (ZaE ([]) y4.1).bind fun y5=>
 (rhoM [9]).bind fun _=>
 (Zbg a.lines y5).bind fun y6=>
 (rhoM []).bind fun _=>
 (ZbE ([]) y6.1).bind fun y7=>
 some (y7,(⟨(⟨(⟨y1.2.network.legs,y1.2.network.off,a.world.network.change⟩:YNetwork),[],y1.2.bookings,y1.2.closed,a.world.now,y1.2.scans,y1.2.skip,a.world.made⟩:Zf),y2.2,y3.2,y4.2,[],y6.2,[]⟩:Zj))
instance (a:Zj) (k:Int):CT Tryz.prog (ZaT a k):=⟨22,[.ag [.ms 0,.ms 1,vi a.world.network.change,.v (.slice none 0 0),.ms 2,.ms 3,vi a.world.now,.ms 4,.ms 5,vi a.world.made,.ms 6,.ms 7,.ms 8,.v (.slice none 0 0),.ms 9,.v (.slice none 0 0)],vi k],[some ⟨.of 115,6,a.world.network.legs.map cLeg⟩,some ⟨.of 3,1,a.world.network.off.map cInt⟩,some ⟨.of 161,4,a.world.bookings.map Zd⟩,some ⟨.of 104,2,a.world.closed.map Zv⟩,some ⟨.of 144,6,a.world.scans.map ZK⟩,some ⟨.of 3,1,a.world.skip.map cInt⟩,some ⟨.of 73,2,a.zones.map cZone⟩,some ⟨.of 76,4,a.rates.map cRate⟩,some ⟨.of 3,1,a.percents.map cInt⟩,some ⟨.of 113,4,a.lines.map Zap⟩],fun r=>vi r.1,fun r=>[some ⟨.of 115,6,r.2.world.network.legs.map cLeg⟩,some ⟨.of 3,1,r.2.world.network.off.map cInt⟩,some ⟨.of 161,4,r.2.world.bookings.map Zd⟩,some ⟨.of 104,2,r.2.world.closed.map Zv⟩,some ⟨.of 144,6,r.2.world.scans.map ZK⟩,some ⟨.of 3,1,r.2.world.skip.map cInt⟩,some ⟨.of 73,2,r.2.zones.map cZone⟩,some ⟨.of 76,4,r.2.rates.map cRate⟩,some ⟨.of 3,1,r.2.percents.map cInt⟩,some ⟨.of 113,4,r.2.lines.map Zap⟩],fun H=>by replace H:=H0 H; unfold ZaT at H; exact Za Tryz.func22 rfl Tryz.ntmps22 Tryz.results22 fun Q hQ hQn=>wk5⟩
def ZdE (l:List Zb):Option (List Zb):=
 (chk (Zaj ((([]:List Zb):List Zb).length+(l:List Zb).length) 32)).bind fun _=>
 some ((([]:List Zb):List Zb)++l)
instance (l:List Zb):CT Tryz.prog (ZdE l):=⟨99,[.sl (l.map Zd)],[],fun r=>.ms 0,fun r=>[some ⟨.of 161,4,r.map Zd⟩],fun H=>by replace H:=H0 H; unfold ZdE at H; exact Za Tryz.func99 rfl Tryz.ntmps99 Tryz.results99 fun Q hQ hQn=>wk3⟩
def Zb0 (w:Zf) (y1:(List Int)) (s0:Int × (List Zr)):Option ((Int × (List Zr)) ⊕ (List Zr)):=
 cond (decide (s0.1<(w.orders.length:Int)))
 ((getI w.orders s0.1).bind fun y2=>
 (chk (Zaj ((([]:List Zm):List Zm).length+(y2.way:List Zm).length) 16)).bind fun _=>
 (frz (.un::.be 7 0 0::.be 8 0 0::.be 9 0 0::vi s0.1::.be 13 0 0::(U 59 [])) [some ⟨.of 115,6,w.network.legs.map cLeg⟩,some ⟨.of 3,1,w.network.off.map cInt⟩,some ⟨.of 120,11,w.orders.map Zz⟩,some ⟨.of 161,4,w.bookings.map Zd⟩,some ⟨.of 104,2,w.closed.map Zv⟩,some ⟨.of 144,6,w.scans.map ZK⟩,some ⟨.of 3,1,w.skip.map cInt⟩,some ⟨.of 39,10,[[.ms 0,.ms 1,vi w.network.change,.ms 2,.ms 3,.ms 4,vi w.now,.ms 5,.ms 6,vi w.made]]⟩,some ⟨.of 39,10,[[.v (.slice none 0 0),.v (.slice none 0 0),vi 0,.v (.slice none 0 0),.v (.slice none 0 0),.v (.slice none 0 0),vi 0,.v (.slice none 0 0),.v (.slice none 0 0),vi 0]]⟩,some ⟨.of 39,10,[[.ms 10,.ms 11,vi w.network.change,.ms 12,.ms 3,.ms 4,vi w.now,.ms 5,.ms 6,vi w.made]]⟩,some ⟨.of 115,6,((([]:List YLeg):List YLeg)++w.network.legs).map cLeg⟩,some ⟨.of 3,1,y1.map cInt⟩,some ⟨.of 120,11,s0.2.map Zz⟩,some ⟨.of 120,11,[[vs y2.from_,vs y2.to_,vi y2.service,vi y2.weight,vi y2.at_,vi y2.due,.sl (((([]:List Zm):List Zm)++y2.way).map Zv),vi y2.gone,vi y2.state,vs y2.place,vi y2.ended]]⟩]).bind fun _=>
 (chk (Zaj ((s0.2:List Zr).length+([(⟨y2.from_,y2.to_,y2.service,y2.weight,y2.at_,y2.due,((([]:List Zm):List Zm)++y2.way),y2.gone,y2.state,y2.place,y2.ended⟩:Zr)]:List Zr).length) 128)).bind fun _=>
 some (.inl ((w64 (s0.1+1)),((s0.2:List Zr)++[(⟨y2.from_,y2.to_,y2.service,y2.weight,y2.at_,y2.due,((([]:List Zm):List Zm)++y2.way),y2.gone,y2.state,y2.place,y2.ended⟩:Zr)]))))
 (some (.inr s0.2))
instance (w:Zf) (y1:(List Int)):Zo (Zb0 w y1):=⟨fun s0=>(.un::.be 7 0 0::.be 8 0 0::.be 9 0 0::vi s0.1::(U 60 [])),fun s0=>[some ⟨.of 115,6,w.network.legs.map cLeg⟩,some ⟨.of 3,1,w.network.off.map cInt⟩,some ⟨.of 120,11,w.orders.map Zz⟩,some ⟨.of 161,4,w.bookings.map Zd⟩,some ⟨.of 104,2,w.closed.map Zv⟩,some ⟨.of 144,6,w.scans.map ZK⟩,some ⟨.of 3,1,w.skip.map cInt⟩,some ⟨.of 39,10,[[.ms 0,.ms 1,vi w.network.change,.ms 2,.ms 3,.ms 4,vi w.now,.ms 5,.ms 6,vi w.made]]⟩,some ⟨.of 39,10,[[.v (.slice none 0 0),.v (.slice none 0 0),vi 0,.v (.slice none 0 0),.v (.slice none 0 0),.v (.slice none 0 0),vi 0,.v (.slice none 0 0),.v (.slice none 0 0),vi 0]]⟩,some ⟨.of 39,10,[[.ms 10,.ms 11,vi w.network.change,.ms 12,.ms 3,.ms 4,vi w.now,.ms 5,.ms 6,vi w.made]]⟩,some ⟨.of 115,6,((([]:List YLeg):List YLeg)++w.network.legs).map cLeg⟩,some ⟨.of 3,1,y1.map cInt⟩,some ⟨.of 120,11,s0.2.map Zz⟩]⟩
def Zcj (w:Zf):Option (Zf × Zf):=
 (chk (Zaj ((([]:List YLeg):List YLeg).length+(w.network.legs:List YLeg).length) 64)).bind fun _=>
 (Z0 w.network.off).bind fun y1=>
 (Zc (Zb0 w y1) NN (0,([]:List Zr))).bind (fun o0=>
 (ZdE w.bookings).bind fun y3=>
 (chk (Zaj ((([]:List Zm):List Zm).length+(w.closed:List Zm).length) 16)).bind fun _=>
 (chk (Zaj ((([]:List Z2):List Z2).length+(w.scans:List Z2).length) 56)).bind fun _=>
 (Z0 w.skip).bind fun y4=>
 some ((⟨(⟨((([]:List YLeg):List YLeg)++w.network.legs),y1,w.network.change⟩:YNetwork),o0,y3,((([]:List Zm):List Zm)++w.closed),w.now,((([]:List Z2):List Z2)++w.scans),y4,w.made⟩:Zf),w))
instance (w:Zf):CT Tryz.prog (Zcj w):=⟨57,[.ag [.ms 0,.ms 1,vi w.network.change,.ms 2,.ms 3,.ms 4,vi w.now,.ms 5,.ms 6,vi w.made]],[some ⟨.of 115,6,w.network.legs.map cLeg⟩,some ⟨.of 3,1,w.network.off.map cInt⟩,some ⟨.of 120,11,w.orders.map Zz⟩,some ⟨.of 161,4,w.bookings.map Zd⟩,some ⟨.of 104,2,w.closed.map Zv⟩,some ⟨.of 144,6,w.scans.map ZK⟩,some ⟨.of 3,1,w.skip.map cInt⟩],fun r=>.ag [.ms 7,.ms 8,vi r.1.network.change,.ms 9,.ms 10,.ms 11,vi r.1.now,.ms 12,.ms 13,vi r.1.made],fun r=>[some ⟨.of 115,6,r.2.network.legs.map cLeg⟩,some ⟨.of 3,1,r.2.network.off.map cInt⟩,some ⟨.of 120,11,r.2.orders.map Zz⟩,some ⟨.of 161,4,r.2.bookings.map Zd⟩,some ⟨.of 104,2,r.2.closed.map Zv⟩,some ⟨.of 144,6,r.2.scans.map ZK⟩,some ⟨.of 3,1,r.2.skip.map cInt⟩,some ⟨.of 115,6,r.1.network.legs.map cLeg⟩,some ⟨.of 3,1,r.1.network.off.map cInt⟩,some ⟨.of 120,11,r.1.orders.map Zz⟩,some ⟨.of 161,4,r.1.bookings.map Zd⟩,some ⟨.of 104,2,r.1.closed.map Zv⟩,some ⟨.of 144,6,r.1.scans.map ZK⟩,some ⟨.of 3,1,r.1.skip.map cInt⟩],fun H=>by replace H:=H0 H; unfold Zcj at H; exact Za Tryz.func57 rfl Tryz.ntmps57 Tryz.results57 fun Q hQ hQn=>wk5⟩
def ZeD (l:List ZR):Option (List ZR):=
 (chk (Zaj ((([]:List ZR):List ZR).length+(l:List ZR).length) 32)).bind fun _=>
 some ((([]:List ZR):List ZR)++l)
instance (l:List ZR):CT Tryz.prog (ZeD l):=⟨60,[.sl (l.map Zap)],[],fun r=>.ms 0,fun r=>[some ⟨.of 113,4,r.map Zap⟩],fun H=>by replace H:=H0 H; unfold ZeD at H; exact Za Tryz.func60 rfl Tryz.ntmps60 Tryz.results60 fun Q hQ hQn=>wk5⟩
def ZdK (o:Zj) (y1:Zf × Zf) (y2:(List Int)) (y3:(List ZR)) (s0:Unit):Option (Unit ⊕ Unit):=
 cond (decide (0<0))
 (none)
 (some (.inr ()))
instance (o:Zj) (y1:Zf × Zf) (y2:(List Int)) (y3:(List ZR)):Zo (ZdK o y1 y2 y3):=⟨fun s0=>(.un::.be 7 0 0::.be 8 0 0::.be 9 0 0::vi 0::(U 61 [])),fun s0=>[some ⟨.of 115,6,y1.2.network.legs.map cLeg⟩,some ⟨.of 3,1,y1.2.network.off.map cInt⟩,some ⟨.of 120,11,y1.2.orders.map Zz⟩,some ⟨.of 161,4,y1.2.bookings.map Zd⟩,some ⟨.of 104,2,y1.2.closed.map Zv⟩,some ⟨.of 144,6,y1.2.scans.map ZK⟩,some ⟨.of 3,1,y1.2.skip.map cInt⟩,some ⟨.of 46,16,[[.ms 0,.ms 1,vi o.world.network.change,.ms 2,.ms 3,.ms 4,vi o.world.now,.ms 5,.ms 6,vi o.world.made,.sl (o.zones.map cZone),.sl (o.rates.map cRate),.sl (o.percents.map cInt),.v (.slice none 0 0),.v (.slice none 0 0),.v (.slice none 0 0)]]⟩,some ⟨.of 46,16,[[.v (.slice none 0 0),.v (.slice none 0 0),vi 0,.v (.slice none 0 0),.v (.slice none 0 0),.v (.slice none 0 0),vi 0,.v (.slice none 0 0),.v (.slice none 0 0),vi 0,.v (.slice none 0 0),.v (.slice none 0 0),.v (.slice none 0 0),.v (.slice none 0 0),.v (.slice none 0 0),.v (.slice none 0 0)]]⟩,some ⟨.of 46,16,[[.ms 10,.ms 11,vi y1.1.network.change,.ms 12,.ms 13,.ms 14,vi y1.1.now,.ms 15,.ms 16,vi y1.1.made,.ms 17,.ms 18,.ms 19,.v (.slice none 0 0),.ms 20,.v (.slice none 0 0)]]⟩,some ⟨.of 115,6,y1.1.network.legs.map cLeg⟩,some ⟨.of 3,1,y1.1.network.off.map cInt⟩,some ⟨.of 120,11,y1.1.orders.map Zz⟩,some ⟨.of 161,4,y1.1.bookings.map Zd⟩,some ⟨.of 104,2,y1.1.closed.map Zv⟩,some ⟨.of 144,6,y1.1.scans.map ZK⟩,some ⟨.of 3,1,y1.1.skip.map cInt⟩,some ⟨.of 73,2,((([]:List YZone):List YZone)++o.zones).map cZone⟩,some ⟨.of 76,4,((([]:List YRate):List YRate)++o.rates).map cRate⟩,some ⟨.of 3,1,y2.map cInt⟩,some ⟨.of 113,4,y3.map Zap⟩]⟩
def ZdL (o:Zj) (y1:Zf × Zf) (y2:(List Int)) (y3:(List ZR)) (s1:Unit):Option (Unit ⊕ Unit):=
 cond (decide (0<0))
 (none)
 (some (.inr ()))
instance (o:Zj) (y1:Zf × Zf) (y2:(List Int)) (y3:(List ZR)):Zo (ZdL o y1 y2 y3):=⟨fun s1=>(.un::.be 7 0 0::.be 8 0 0::.be 9 0 0::.un::vi 0::(U 60 [])),fun s1=>[some ⟨.of 115,6,y1.2.network.legs.map cLeg⟩,some ⟨.of 3,1,y1.2.network.off.map cInt⟩,some ⟨.of 120,11,y1.2.orders.map Zz⟩,some ⟨.of 161,4,y1.2.bookings.map Zd⟩,some ⟨.of 104,2,y1.2.closed.map Zv⟩,some ⟨.of 144,6,y1.2.scans.map ZK⟩,some ⟨.of 3,1,y1.2.skip.map cInt⟩,some ⟨.of 46,16,[[.ms 0,.ms 1,vi o.world.network.change,.ms 2,.ms 3,.ms 4,vi o.world.now,.ms 5,.ms 6,vi o.world.made,.sl (o.zones.map cZone),.sl (o.rates.map cRate),.sl (o.percents.map cInt),.v (.slice none 0 0),.v (.slice none 0 0),.v (.slice none 0 0)]]⟩,some ⟨.of 46,16,[[.v (.slice none 0 0),.v (.slice none 0 0),vi 0,.v (.slice none 0 0),.v (.slice none 0 0),.v (.slice none 0 0),vi 0,.v (.slice none 0 0),.v (.slice none 0 0),vi 0,.v (.slice none 0 0),.v (.slice none 0 0),.v (.slice none 0 0),.v (.slice none 0 0),.v (.slice none 0 0),.v (.slice none 0 0)]]⟩,some ⟨.of 46,16,[[.ms 10,.ms 11,vi y1.1.network.change,.ms 12,.ms 13,.ms 14,vi y1.1.now,.ms 15,.ms 16,vi y1.1.made,.ms 17,.ms 18,.ms 19,.v (.slice none 0 0),.ms 20,.v (.slice none 0 0)]]⟩,some ⟨.of 115,6,y1.1.network.legs.map cLeg⟩,some ⟨.of 3,1,y1.1.network.off.map cInt⟩,some ⟨.of 120,11,y1.1.orders.map Zz⟩,some ⟨.of 161,4,y1.1.bookings.map Zd⟩,some ⟨.of 104,2,y1.1.closed.map Zv⟩,some ⟨.of 144,6,y1.1.scans.map ZK⟩,some ⟨.of 3,1,y1.1.skip.map cInt⟩,some ⟨.of 73,2,((([]:List YZone):List YZone)++o.zones).map cZone⟩,some ⟨.of 76,4,((([]:List YRate):List YRate)++o.rates).map cRate⟩,some ⟨.of 3,1,y2.map cInt⟩,some ⟨.of 113,4,y3.map Zap⟩]⟩
def Za4 (o:Zj):Option (Zj × Zj):=
 (drwL 8 [2]).bind fun _=>
 (rhoM [0,1,2,3,4,5,6]).bind fun _=>
 (Zcj o.world).bind fun y1=>
 (chk (Zaj ((([]:List YZone):List YZone).length+(o.zones:List YZone).length) 32)).bind fun _=>
 (chk (Zaj ((([]:List YRate):List YRate).length+(o.rates:List YRate).length) 32)).bind fun _=>
 (Z0 o.percents).bind fun y2=>
 (ZeD ([])).bind fun y3=>
 (Zc (ZdK o y1 y2 y3) NN ()).bind (fun o0=>
 (Zc (ZdL o y1 y2 y3) NN ()).bind (fun o1=>
 some ((⟨y1.1,((([]:List YZone):List YZone)++o.zones),((([]:List YRate):List YRate)++o.rates),y2,[],y3,[]⟩:Zj),(⟨(⟨(⟨y1.2.network.legs,y1.2.network.off,o.world.network.change⟩:YNetwork),y1.2.orders,y1.2.bookings,y1.2.closed,o.world.now,y1.2.scans,y1.2.skip,o.world.made⟩:Zf),o.zones,o.rates,o.percents,[],[],[]⟩:Zj))))
instance (o:Zj):CT Tryz.prog (Za4 o):=⟨28,[.ag [.ms 0,.ms 1,vi o.world.network.change,.ms 2,.ms 3,.ms 4,vi o.world.now,.ms 5,.ms 6,vi o.world.made,.sl (o.zones.map cZone),.sl (o.rates.map cRate),.sl (o.percents.map cInt),.v (.slice none 0 0),.v (.slice none 0 0),.v (.slice none 0 0)]],[some ⟨.of 115,6,o.world.network.legs.map cLeg⟩,some ⟨.of 3,1,o.world.network.off.map cInt⟩,some ⟨.of 120,11,o.world.orders.map Zz⟩,some ⟨.of 161,4,o.world.bookings.map Zd⟩,some ⟨.of 104,2,o.world.closed.map Zv⟩,some ⟨.of 144,6,o.world.scans.map ZK⟩,some ⟨.of 3,1,o.world.skip.map cInt⟩],fun r=>.ag [.ms 7,.ms 8,vi r.1.world.network.change,.ms 9,.ms 10,.ms 11,vi r.1.world.now,.ms 12,.ms 13,vi r.1.world.made,.ms 14,.ms 15,.ms 16,.v (.slice none 0 0),.ms 17,.v (.slice none 0 0)],fun r=>[some ⟨.of 115,6,r.2.world.network.legs.map cLeg⟩,some ⟨.of 3,1,r.2.world.network.off.map cInt⟩,some ⟨.of 120,11,r.2.world.orders.map Zz⟩,some ⟨.of 161,4,r.2.world.bookings.map Zd⟩,some ⟨.of 104,2,r.2.world.closed.map Zv⟩,some ⟨.of 144,6,r.2.world.scans.map ZK⟩,some ⟨.of 3,1,r.2.world.skip.map cInt⟩,some ⟨.of 115,6,r.1.world.network.legs.map cLeg⟩,some ⟨.of 3,1,r.1.world.network.off.map cInt⟩,some ⟨.of 120,11,r.1.world.orders.map Zz⟩,some ⟨.of 161,4,r.1.world.bookings.map Zd⟩,some ⟨.of 104,2,r.1.world.closed.map Zv⟩,some ⟨.of 144,6,r.1.world.scans.map ZK⟩,some ⟨.of 3,1,r.1.world.skip.map cInt⟩,some ⟨.of 73,2,r.1.zones.map cZone⟩,some ⟨.of 76,4,r.1.rates.map cRate⟩,some ⟨.of 3,1,r.1.percents.map cInt⟩,some ⟨.of 113,4,r.1.lines.map Zap⟩],fun H=>by replace H:=H0 H; unfold Za4 at H; exact Za Tryz.func28 rfl Tryz.ntmps28 Tryz.results28 fun Q hQ hQn=>wk5⟩
def ZdJ (w:Zf) (y1:(List Int)) (s0:Unit):Option (Unit ⊕ Unit):=
 cond (decide (0<0))
 (none)
 (some (.inr ()))
instance (w:Zf) (y1:(List Int)):Zo (ZdJ w y1):=⟨fun s0=>(.un::.be 0 0 0::.be 1 0 0::.be 2 0 0::vi 0::(U 60 [])),fun s0=>[some ⟨.of 39,10,[[.sl (w.network.legs.map cLeg),.sl (w.network.off.map cInt),vi w.network.change,.v (.slice none 0 0),.v (.slice none 0 0),.v (.slice none 0 0),vi w.now,.v (.slice none 0 0),.sl (w.skip.map cInt),vi w.made]]⟩,some ⟨.of 39,10,[[.v (.slice none 0 0),.v (.slice none 0 0),vi 0,.v (.slice none 0 0),.v (.slice none 0 0),.v (.slice none 0 0),vi 0,.v (.slice none 0 0),.v (.slice none 0 0),vi 0]]⟩,some ⟨.of 39,10,[[.ms 3,.ms 4,vi w.network.change,.ms 5,.v (.slice none 0 0),.v (.slice none 0 0),vi w.now,.v (.slice none 0 0),.sl (w.skip.map cInt),vi w.made]]⟩,some ⟨.of 115,6,((([]:List YLeg):List YLeg)++w.network.legs).map cLeg⟩,some ⟨.of 3,1,y1.map cInt⟩,some ⟨.of 120,11,([]:List Zr).map Zz⟩]⟩
def Za3 (w:Zf):Option Zf:=
 (chk (Zaj ((([]:List YLeg):List YLeg).length+(w.network.legs:List YLeg).length) 64)).bind fun _=>
 (Z0 w.network.off).bind fun y1=>
 (Zc (ZdJ w y1) NN ()).bind (fun o0=>
 (ZdE ([])).bind fun y2=>
 (chk (Zaj ((([]:List Zm):List Zm).length+([]:List Zm).length) 16)).bind fun _=>
 (chk (Zaj ((([]:List Z2):List Z2).length+([]:List Z2).length) 56)).bind fun _=>
 (Z0 w.skip).bind fun y3=>
 some (⟨(⟨((([]:List YLeg):List YLeg)++w.network.legs),y1,w.network.change⟩:YNetwork),([]:List Zr),y2,((([]:List Zm):List Zm)++[]),w.now,((([]:List Z2):List Z2)++[]),y3,w.made⟩:Zf))
instance (w:Zf):CT Tryz.prog (Za3 w):=⟨57,[.ag [.sl (w.network.legs.map cLeg),.sl (w.network.off.map cInt),vi w.network.change,.v (.slice none 0 0),.v (.slice none 0 0),.v (.slice none 0 0),vi w.now,.v (.slice none 0 0),.sl (w.skip.map cInt),vi w.made]],[],fun r=>.ag [.ms 0,.ms 1,vi r.network.change,.ms 2,.ms 3,.ms 4,vi r.now,.ms 5,.ms 6,vi r.made],fun r=>[some ⟨.of 115,6,r.network.legs.map cLeg⟩,some ⟨.of 3,1,r.network.off.map cInt⟩,some ⟨.of 120,11,r.orders.map Zz⟩,some ⟨.of 161,4,r.bookings.map Zd⟩,some ⟨.of 104,2,r.closed.map Zv⟩,some ⟨.of 144,6,r.scans.map ZK⟩,some ⟨.of 3,1,r.skip.map cInt⟩],fun H=>by replace H:=H0 H; unfold Za3 at H; exact Za Tryz.func57 rfl Tryz.ntmps57 Tryz.results57 fun Q hQ hQn=>wk5⟩
def Za2 (n:YNetwork) (skip:List Int):Option (Zf × Bool):=
 (rhoM []).bind fun _=>
 (Za3 (⟨n,[],[],[],0,[],skip,0⟩:Zf)).bind fun y1=>
 (Zc8 y1).bind fun y2=>
 cond (!y2)
 (some ((⟨(⟨[],[],0⟩:YNetwork),[],[],[],0,[],[],0⟩:Zf),false))
 (some (y1,true))
theorem Zg0 (n:YNetwork) (skip:List Int) {r:Zf × Bool} (H:Za2 n skip=some r):ZdG Tryz.prog 27 [.ag (cNetwork n),.sl (skip.map cInt)] [] (.tu [.ag [.ms 0,.ms 1,vi r.1.network.change,.ms 2,.ms 3,.ms 4,vi r.1.now,.ms 5,.ms 6,vi r.1.made],vb r.2]) [some ⟨.of 115,6,r.1.network.legs.map cLeg⟩,some ⟨.of 3,1,r.1.network.off.map cInt⟩,some ⟨.of 120,11,r.1.orders.map Zz⟩,some ⟨.of 161,4,r.1.bookings.map Zd⟩,some ⟨.of 104,2,r.1.closed.map Zv⟩,some ⟨.of 144,6,r.1.scans.map ZK⟩,some ⟨.of 3,1,r.1.skip.map cInt⟩]:=by
 replace H:=H0 H
 unfold Za2 at H
 refine Za Tryz.func27 rfl Tryz.ntmps27 Tryz.results27 fun Q hQ hQn=>?_
 exact wk5
instance (n:YNetwork) (skip:List Int):CT Tryz.prog (Za2 n skip):=⟨27,[.ag (cNetwork n),.sl (skip.map cInt)],[],fun r=>.tu [.ag [.ms 0,.ms 1,vi r.1.network.change,.ms 2,.ms 3,.ms 4,vi r.1.now,.ms 5,.ms 6,vi r.1.made],vb r.2],fun r=>[some ⟨.of 115,6,r.1.network.legs.map cLeg⟩,some ⟨.of 3,1,r.1.network.off.map cInt⟩,some ⟨.of 120,11,r.1.orders.map Zz⟩,some ⟨.of 161,4,r.1.bookings.map Zd⟩,some ⟨.of 104,2,r.1.closed.map Zv⟩,some ⟨.of 144,6,r.1.scans.map ZK⟩,some ⟨.of 3,1,r.1.skip.map cInt⟩],Zg0 n skip⟩
def ZT (n:YNetwork) (skip:List Int) (zones:List YZone) (rates:List YRate) (percents:List Int):Option (Zj × Bool):=
 (Za2 n skip).bind fun y1=>
 (rhoM [2,3,4,5,6,7,8]).bind fun _=>
 (Za4 (⟨y1.1,zones,rates,percents,[],[],[]⟩:Zj)).bind fun y2=>
 cond (!y1.2)
 (some ((⟨(⟨(⟨[],[],0⟩:YNetwork),[],[],[],0,[],[],0⟩:Zf),[],[],[],[],[],[]⟩:Zj),false))
 ((Zcl (⟨y2.1.world,y2.1.zones,y2.1.rates,y2.1.percents,[],y2.1.lines,[]⟩:Zj)).bind fun y3=>
 cond (!y3)
 (some ((⟨(⟨(⟨[],[],0⟩:YNetwork),[],[],[],0,[],[],0⟩:Zf),[],[],[],[],[],[]⟩:Zj),false))
 (some ((⟨y2.1.world,y2.1.zones,y2.1.rates,y2.1.percents,[],y2.1.lines,[]⟩:Zj),true)))
instance (n:YNetwork) (skip:List Int) (zones:List YZone) (rates:List YRate) (percents:List Int):CT Tryz.prog (ZT n skip zones rates percents):=⟨7,[.ag (cNetwork n),.sl (skip.map cInt),.sl (zones.map cZone),.sl (rates.map cRate),.sl (percents.map cInt)],[],fun r=>.tu [.ag [.ms 0,.ms 1,vi r.1.world.network.change,.ms 2,.ms 3,.ms 4,vi r.1.world.now,.ms 5,.ms 6,vi r.1.world.made,.ms 7,.ms 8,.ms 9,.v (.slice none 0 0),.ms 10,.v (.slice none 0 0)],vb r.2],fun r=>[some ⟨.of 115,6,r.1.world.network.legs.map cLeg⟩,some ⟨.of 3,1,r.1.world.network.off.map cInt⟩,some ⟨.of 120,11,r.1.world.orders.map Zz⟩,some ⟨.of 161,4,r.1.world.bookings.map Zd⟩,some ⟨.of 104,2,r.1.world.closed.map Zv⟩,some ⟨.of 144,6,r.1.world.scans.map ZK⟩,some ⟨.of 3,1,r.1.world.skip.map cInt⟩,some ⟨.of 73,2,r.1.zones.map cZone⟩,some ⟨.of 76,4,r.1.rates.map cRate⟩,some ⟨.of 3,1,r.1.percents.map cInt⟩,some ⟨.of 113,4,r.1.lines.map Zap⟩],fun H=>by replace H:=H0 H; unfold ZT at H; exact Za Tryz.func7 rfl Tryz.ntmps7 Tryz.results7 fun Q hQ hQn=>wk5⟩
def Zae (n:YNetwork) (skip:List Int) (zones:List YZone) (rates:List YRate) (percents:List Int):Option (Zj × Bool):=(ZT n skip zones rates percents).bind fun r=>match r.1.world.orders with
 | []=>some r
 | _::_=>none
theorem Ztg (n:YNetwork) (skip:List Int) (zones:List YZone) (rates:List YRate) (percents:List Int) {r:Zj × Bool} (H:Zae n skip zones rates percents=some r):ZT n skip zones rates percents=some r∧r.1.world.orders=[]:=by
 unfold Zae at H
 cases h:ZT n skip zones rates percents with
 | none=>rw [h] at H; cases H
 | some x=>
  rw [h,Option.bind_some] at H
  cases ho:x.1.world.orders with
  | nil=>rw [ho] at H; obtain rfl:=Option.some.inj H; exact ⟨rfl,ho⟩
  | cons a as_=>rw [ho] at H; cases H
theorem ZgD (n:YNetwork) (skip:List Int) (zones:List YZone) (rates:List YRate) (percents:List Int) {r:Zj × Bool} (H:Zae n skip zones rates percents=some r):ZdG Tryz.prog 7 [.ag (cNetwork n),.sl (skip.map cInt),.sl (zones.map cZone),.sl (rates.map cRate),.sl (percents.map cInt)] [] (.tu [.ag [.ms 0,.ms 1,vi r.1.world.network.change,.ms 2,.ms 3,.ms 4,vi r.1.world.now,.ms 5,.ms 6,vi r.1.world.made,.ms 7,.ms 8,.ms 9,.v (.slice none 0 0),.ms 10,.v (.slice none 0 0)],vb r.2]) [some ⟨.of 115,6,r.1.world.network.legs.map cLeg⟩,some ⟨.of 3,1,r.1.world.network.off.map cInt⟩,some ⟨.of 120,11,([]:List Zr).map Zz⟩,some ⟨.of 161,4,r.1.world.bookings.map Zd⟩,some ⟨.of 104,2,r.1.world.closed.map Zv⟩,some ⟨.of 144,6,r.1.world.scans.map ZK⟩,some ⟨.of 3,1,r.1.world.skip.map cInt⟩,some ⟨.of 73,2,r.1.zones.map cZone⟩,some ⟨.of 76,4,r.1.rates.map cRate⟩,some ⟨.of 3,1,r.1.percents.map cInt⟩,some ⟨.of 113,4,r.1.lines.map Zap⟩]:=by
 obtain ⟨h1,h2⟩:=Ztg n skip zones rates percents H
 have h3:ZdG Tryz.prog 7 [.ag (cNetwork n),.sl (skip.map cInt),.sl (zones.map cZone),.sl (rates.map cRate),.sl (percents.map cInt)] [] (.tu [.ag [.ms 0,.ms 1,vi r.1.world.network.change,.ms 2,.ms 3,.ms 4,vi r.1.world.now,.ms 5,.ms 6,vi r.1.world.made,.ms 7,.ms 8,.ms 9,.v (.slice none 0 0),.ms 10,.v (.slice none 0 0)],vb r.2]) [some ⟨.of 115,6,r.1.world.network.legs.map cLeg⟩,some ⟨.of 3,1,r.1.world.network.off.map cInt⟩,some ⟨.of 120,11,r.1.world.orders.map Zz⟩,some ⟨.of 161,4,r.1.world.bookings.map Zd⟩,some ⟨.of 104,2,r.1.world.closed.map Zv⟩,some ⟨.of 144,6,r.1.world.scans.map ZK⟩,some ⟨.of 3,1,r.1.world.skip.map cInt⟩,some ⟨.of 73,2,r.1.zones.map cZone⟩,some ⟨.of 76,4,r.1.rates.map cRate⟩,some ⟨.of 3,1,r.1.percents.map cInt⟩,some ⟨.of 113,4,r.1.lines.map Zap⟩]:=CT.ok h1
 rw [h2] at h3
 exact h3
instance (n:YNetwork) (skip:List Int) (zones:List YZone) (rates:List YRate) (percents:List Int):CT Tryz.prog (Zae n skip zones rates percents):=⟨7,[.ag (cNetwork n),.sl (skip.map cInt),.sl (zones.map cZone),.sl (rates.map cRate),.sl (percents.map cInt)],[],fun r=>.tu [.ag [.ms 0,.ms 1,vi r.1.world.network.change,.ms 2,.ms 3,.ms 4,vi r.1.world.now,.ms 5,.ms 6,vi r.1.world.made,.ms 7,.ms 8,.ms 9,.v (.slice none 0 0),.ms 10,.v (.slice none 0 0)],vb r.2],fun r=>[some ⟨.of 115,6,r.1.world.network.legs.map cLeg⟩,some ⟨.of 3,1,r.1.world.network.off.map cInt⟩,some ⟨.of 120,11,([]:List Zr).map Zz⟩,some ⟨.of 161,4,r.1.world.bookings.map Zd⟩,some ⟨.of 104,2,r.1.world.closed.map Zv⟩,some ⟨.of 144,6,r.1.world.scans.map ZK⟩,some ⟨.of 3,1,r.1.world.skip.map cInt⟩,some ⟨.of 73,2,r.1.zones.map cZone⟩,some ⟨.of 76,4,r.1.rates.map cRate⟩,some ⟨.of 3,1,r.1.percents.map cInt⟩,some ⟨.of 113,4,r.1.lines.map Zap⟩],ZgD n skip zones rates percents⟩
def ZeO (a:List Zt) (s0:Int × Int):Option ((Int × Int) ⊕ (Int ⊕ Int)):=
 cond (decide (s0.2<(a.length:Int)))
 ((getI a s0.2).bind fun y1=>
 cond (!decide (y1.label.service=s0.1))
 (some (.inr (.inr (-1))))
 ((getI a s0.2).bind fun y2=>
 cond (!decide (y2.label.serial=(w64 (s0.1+1))))
 (some (.inr (.inr (-1))))
 ((getI a s0.2).bind fun y3=>
 (Zg (w64 ((w64 (s0.1+1))+1))).bind fun y4=>
 cond (!decide (y3.label.to_=y4))
 (some (.inr (.inr (-1))))
 ((getI a s0.2).bind fun y5=>
 (Zg (w64 ((w64 ((w64 (s0.1+1))+1))+1))).bind fun y6=>
 cond (!decide (y5.from_=y6))
 (some (.inr (.inr (-1))))
 ((getI a s0.2).bind fun y7=>
 cond (!decide (y7.weight=(w64 ((w64 ((w64 ((w64 (s0.1+1))+1))+1))+1))))
 (some (.inr (.inr (-1))))
 ((getI a s0.2).bind fun y8=>
 (Zac y8.sides (w64 ((w64 ((w64 ((w64 ((w64 (s0.1+1))+1))+1))+1))+1))).bind fun y9=>
 cond (decide (y9<0))
 (some (.inr (.inr (-1))))
 ((getI a s0.2).bind fun y10=>
 cond (!decide (y10.value=y9))
 (some (.inr (.inr (-1))))
 (some (.inl ((w64 (y9+1)),(w64 (s0.2+1))))))))))))
 (some (.inr (.inl s0.1)))
instance (a:List Zt):Zo (ZeO a):=⟨fun s0=>(.sl (a.map Z9)::vi s0.1::(U 3 (vi s0.2::(U 75 [])))),fun s0=>[]⟩
def ZbD (a:List Zt) (k:Int):Option Int:=
 (Zc (ZeO a) NN (k,0)).bind (Zp (fun o0=>
 some o0) (fun r=>some r))
instance (a:List Zt) (k:Int):CT Tryz.prog (ZbD a k):=⟨53,[.sl (a.map Z9),vi k],[],fun r=>vi r,fun r=>[],fun H=>by replace H:=H0 H; unfold ZbD at H; exact Za Tryz.func53 rfl Tryz.ntmps53 Tryz.results53 fun Q hQ hQn=>wk5⟩
def Zfa (a:List ZR) (s0:Int × Int):Option ((Int × Int) ⊕ (Int ⊕ Int)):=
 cond (decide (s0.2<(a.length:Int)))
 ((getI a s0.2).bind fun y1=>
 cond (!decide (y1.order=s0.1))
 (some (.inr (.inr (-1))))
 ((getI a s0.2).bind fun y2=>
 cond (!decide (y2.kind=(w64 (s0.1+1))))
 (some (.inr (.inr (-1))))
 ((getI a s0.2).bind fun y3=>
 cond (!decide (y3.amount=(w64 ((w64 (s0.1+1))+1))))
 (some (.inr (.inr (-1))))
 ((getI a s0.2).bind fun y4=>
 cond (!decide (y4.at_=(w64 ((w64 ((w64 (s0.1+1))+1))+1))))
 (some (.inr (.inr (-1))))
 (some (.inl ((w64 ((w64 ((w64 ((w64 (s0.1+1))+1))+1))+1)),(w64 (s0.2+1)))))))))
 (some (.inr (.inl s0.1)))
instance (a:List ZR):Zo (Zfa a):=⟨fun s0=>(.sl (a.map Zap)::vi s0.1::(U 3 (vi s0.2::(U 43 [])))),fun s0=>[]⟩
def ZcR (a:List ZR) (k:Int):Option Int:=
 (Zc (Zfa a) NN (k,0)).bind (Zp (fun o0=>
 some o0) (fun r=>some r))
instance (a:List ZR) (k:Int):CT Tryz.prog (ZcR a k):=⟨54,[.sl (a.map Zap),vi k],[],fun r=>vi r,fun r=>[],fun H=>by replace H:=H0 H; unfold ZcR at H; exact Za Tryz.func54 rfl Tryz.ntmps54 Tryz.results54 fun Q hQ hQn=>wk5⟩
def Zfk (a:List YAct) (s0:Int × Int):Option ((Int × Int) ⊕ (Int ⊕ Int)):=
 cond (decide (s0.2<(a.length:Int)))
 ((getI a s0.2).bind fun y1=>
 cond (!decide (y1.kind=s0.1))
 (some (.inr (.inr (-1))))
 ((getI a s0.2).bind fun y2=>
 cond (!decide (y2.parcel.label.service=(w64 (s0.1+1))))
 (some (.inr (.inr (-1))))
 ((getI a s0.2).bind fun y3=>
 cond (!decide (y3.parcel.label.serial=(w64 ((w64 (s0.1+1))+1))))
 (some (.inr (.inr (-1))))
 ((getI a s0.2).bind fun y4=>
 (Zg (w64 ((w64 ((w64 (s0.1+1))+1))+1))).bind fun y5=>
 cond (!decide (y4.parcel.label.to_=y5))
 (some (.inr (.inr (-1))))
 ((getI a s0.2).bind fun y6=>
 (Zg (w64 ((w64 ((w64 ((w64 (s0.1+1))+1))+1))+1))).bind fun y7=>
 cond (!decide (y6.parcel.from_=y7))
 (some (.inr (.inr (-1))))
 ((getI a s0.2).bind fun y8=>
 cond (!decide (y8.parcel.weight=(w64 ((w64 ((w64 ((w64 ((w64 (s0.1+1))+1))+1))+1))+1))))
 (some (.inr (.inr (-1))))
 ((getI a s0.2).bind fun y9=>
 (Zac y9.parcel.sides (w64 ((w64 ((w64 ((w64 ((w64 ((w64 (s0.1+1))+1))+1))+1))+1))+1))).bind fun y10=>
 cond (decide (y10<0))
 (some (.inr (.inr (-1))))
 ((getI a s0.2).bind fun y11=>
 cond (!decide (y11.parcel.value=y10))
 (some (.inr (.inr (-1))))
 ((getI a s0.2).bind fun y12=>
 cond (!decide (y12.order=(w64 (y10+1))))
 (some (.inr (.inr (-1))))
 ((getI a s0.2).bind fun y13=>
 cond (!decide (y13.amount=(w64 ((w64 (y10+1))+1))))
 (some (.inr (.inr (-1))))
 ((getI a s0.2).bind fun y14=>
 cond (!decide (y14.until_=(w64 ((w64 ((w64 (y10+1))+1))+1))))
 (some (.inr (.inr (-1))))
 ((getI a s0.2).bind fun y15=>
 cond (!decide (y15.trip.leg=(w64 ((w64 ((w64 ((w64 (y10+1))+1))+1))+1))))
 (some (.inr (.inr (-1))))
 ((getI a s0.2).bind fun y16=>
 cond (!decide (y16.trip.day=(w64 ((w64 ((w64 ((w64 ((w64 (y10+1))+1))+1))+1))+1))))
 (some (.inr (.inr (-1))))
 (some (.inl ((w64 ((w64 ((w64 ((w64 ((w64 ((w64 (y10+1))+1))+1))+1))+1))+1)),(w64 (s0.2+1))))))))))))))))))
 (some (.inr (.inl s0.1)))
instance (a:List YAct):Zo (Zfk a):=⟨fun s0=>(.sl (a.map cAct)::vi s0.1::(U 3 (vi s0.2::(U 138 [])))),fun s0=>[]⟩
def Zdh (a:List YAct) (k:Int):Option Int:=
 (Zc (Zfk a) NN (k,0)).bind (Zp (fun o0=>
 some o0) (fun r=>some r))
instance (a:List YAct) (k:Int):CT Tryz.prog (Zdh a k):=⟨55,[.sl (a.map cAct),vi k],[],fun r=>vi r,fun r=>[],fun H=>by replace H:=H0 H; unfold Zdh at H; exact Za Tryz.func55 rfl Tryz.ntmps55 Tryz.results55 fun Q hQ hQn=>wk5⟩
def Za0 (a:Zj) (k:Int):Option Int:=
 (ZcU a.world k).bind fun y1=>
 cond (decide (y1<0))
 (some (-1))
 ((ZcV a.zones y1).bind fun y2=>
 cond (decide (y2<0))
 (some (-1))
 ((ZcS a.rates y2).bind fun y3=>
 cond (decide (y3<0))
 (some (-1))
 ((Zac a.percents y3).bind fun y4=>
 cond (decide (y4<0))
 (some (-1))
 ((ZbD a.parcels y4).bind fun y5=>
 cond (decide (y5<0))
 (some (-1))
 ((ZcR a.lines y5).bind fun y6=>
 cond (decide (y6<0))
 (some (-1))
 ((Zdh a.journal y6).bind fun y7=>
 cond (decide (y7<0))
 (some (-1))
 (some y7)))))))
instance (a:Zj) (k:Int):CT Tryz.prog (Za0 a k):=⟨23,[.ag (ZeU a),vi k],[],fun r=>vi r,fun r=>[],fun H=>by replace H:=H0 H; unfold Za0 at H; exact Za Tryz.func23 rfl Tryz.ntmps23 Tryz.results23 fun Q hQ hQn=>wk5⟩
def Zaf (n:YNetwork):Option YNetwork:=
 (chk (Zaj ((([]:List YLeg):List YLeg).length+(n.legs:List YLeg).length) 64)).bind fun _=>
 (chk (Zaj ((([]:List Int):List Int).length+(n.off:List Int).length) 8)).bind fun _=>
 some (⟨((([]:List YLeg):List YLeg)++n.legs),((([]:List Int):List Int)++n.off),n.change⟩:YNetwork)
instance (n:YNetwork):CT Tryz.prog (Zaf n):=⟨69,[.ag (cNetwork n)],[],fun r=>.ag [.ms 0,.ms 1,vi r.change],fun r=>[some ⟨.of 115,6,r.legs.map cLeg⟩,some ⟨.of 3,1,r.off.map cInt⟩],fun H=>by replace H:=H0 H; unfold Zaf at H; exact Za Tryz.func69 rfl Tryz.ntmps69 Tryz.results69 fun Q hQ hQn=>wk5⟩
def Zd3 (l:List Zm):Option (List Zm):=
 (chk (Zaj ((([]:List Zm):List Zm).length+(l:List Zm).length) 16)).bind fun _=>
 some ((([]:List Zm):List Zm)++l)
instance (l:List Zm):CT Tryz.prog (Zd3 l):=⟨121,[.sl (l.map Zv)],[],fun r=>.ms 0,fun r=>[some ⟨.of 104,2,r.map Zv⟩],fun H=>by replace H:=H0 H; unfold Zd3 at H; exact Za Tryz.func121 rfl Tryz.ntmps121 Tryz.results121 fun Q hQ hQn=>wk5⟩
def ZcB (l:List Zb):Option (List Zb):=
 (chk (Zaj ((([]:List Zb):List Zb).length+(l:List Zb).length) 32)).bind fun _=>
 some ((([]:List Zb):List Zb)++l)
instance (l:List Zb):CT Tryz.prog (ZcB l):=⟨120,[.sl (l.map Zd)],[],fun r=>.ms 0,fun r=>[some ⟨.of 161,4,r.map Zd⟩],fun H=>by replace H:=H0 H; unfold ZcB at H; exact Za Tryz.func120 rfl Tryz.ntmps120 Tryz.results120 fun Q hQ hQn=>wk5⟩
def Zc9 (w:Zf) (y1:YNetwork) (y2:(List Zb)) (y3:(List Zm)) (s0:Unit):Option (Unit ⊕ Unit):=
 cond (decide (0<0))
 (none)
 (some (.inr ()))
instance (w:Zf) (y1:YNetwork) (y2:(List Zb)) (y3:(List Zm)):Zo (Zc9 w y1 y2 y3):=⟨fun s0=>(.un::.un::.be 3 0 0::.be 4 0 0::(U 25 (.v (.slice none 0 0)::vi 0::vi 0::(U 15 [])))),fun s0=>[some ⟨.of 115,6,w.network.legs.map cLeg⟩,some ⟨.of 3,1,w.network.off.map cInt⟩,some ⟨.of 3,1,w.skip.map cInt⟩,some ⟨.of 39,10,[[.v (.slice none 0 0),.v (.slice none 0 0),vi 0,.v (.slice none 0 0),.v (.slice none 0 0),.v (.slice none 0 0),vi 0,.v (.slice none 0 0),.v (.slice none 0 0),vi 0]]⟩,some ⟨.of 39,10,[[.ms 5,.ms 6,vi y1.change,.v (.slice none 0 0),.ms 7,.ms 8,vi w.now,.ms 9,.ms 10,vi w.made]]⟩,some ⟨.of 115,6,y1.legs.map cLeg⟩,some ⟨.of 3,1,y1.off.map cInt⟩,some ⟨.of 161,4,y2.map Zd⟩,some ⟨.of 104,2,y3.map Zv⟩,some ⟨.of 144,6,((([]:List Z2):List Z2)++[]).map ZK⟩,some ⟨.of 3,1,((([]:List Int):List Int)++w.skip).map cInt⟩]⟩
def Zbf (w:Zf):Option (Zf × Zf):=
 (Zaf w.network).bind fun y1=>
 (ZcB ([])).bind fun y2=>
 (Zd3 ([])).bind fun y3=>
 (chk (Zaj ((([]:List Z2):List Z2).length+([]:List Z2).length) 56)).bind fun _=>
 (chk (Zaj ((([]:List Int):List Int).length+(w.skip:List Int).length) 8)).bind fun _=>
 (Zc (Zc9 w y1 y2 y3) NN ()).bind (fun o0=>
 some ((⟨y1,[],y2,y3,w.now,((([]:List Z2):List Z2)++[]),((([]:List Int):List Int)++w.skip),w.made⟩:Zf),(⟨w.network,[],[],[],w.now,[],w.skip,w.made⟩:Zf)))
instance (w:Zf):CT Tryz.prog (Zbf w):=⟨71,[.ag [.ms 0,.ms 1,vi w.network.change,.v (.slice none 0 0),.v (.slice none 0 0),.v (.slice none 0 0),vi w.now,.v (.slice none 0 0),.ms 2,vi w.made]],[some ⟨.of 115,6,w.network.legs.map cLeg⟩,some ⟨.of 3,1,w.network.off.map cInt⟩,some ⟨.of 3,1,w.skip.map cInt⟩],fun r=>.ag [.ms 3,.ms 4,vi r.1.network.change,.v (.slice none 0 0),.ms 5,.ms 6,vi r.1.now,.ms 7,.ms 8,vi r.1.made],fun r=>[some ⟨.of 115,6,r.2.network.legs.map cLeg⟩,some ⟨.of 3,1,r.2.network.off.map cInt⟩,some ⟨.of 3,1,r.2.skip.map cInt⟩,some ⟨.of 115,6,r.1.network.legs.map cLeg⟩,some ⟨.of 3,1,r.1.network.off.map cInt⟩,some ⟨.of 161,4,r.1.bookings.map Zd⟩,some ⟨.of 104,2,r.1.closed.map Zv⟩,some ⟨.of 144,6,r.1.scans.map ZK⟩,some ⟨.of 3,1,r.1.skip.map cInt⟩],fun H=>by replace H:=H0 H; unfold Zbf at H; exact Za Tryz.func71 rfl Tryz.ntmps71 Tryz.results71 fun Q hQ hQn=>wk5⟩
def Zd2 (l:List ZR):Option (List ZR):=
 (chk (Zaj ((([]:List ZR):List ZR).length+(l:List ZR).length) 32)).bind fun _=>
 some ((([]:List ZR):List ZR)++l)
instance (l:List ZR):CT Tryz.prog (Zd2 l):=⟨72,[.sl (l.map Zap)],[],fun r=>.ms 0,fun r=>[some ⟨.of 113,4,r.map Zap⟩],fun H=>by replace H:=H0 H; unfold Zd2 at H; exact Za Tryz.func72 rfl Tryz.ntmps72 Tryz.results72 fun Q hQ hQn=>wk5⟩
def ZcE (o:Zj) (y1:Zf × Zf) (y2:(List ZR)) (s0:Unit):Option (Unit ⊕ Unit):=
 cond (decide (0<0))
 (none)
 (some (.inr ()))
instance (o:Zj) (y1:Zf × Zf) (y2:(List ZR)):Zo (ZcE o y1 y2):=⟨fun s0=>(.un::.be 3 0 0::.be 4 0 0::.be 5 0 0::(U 24 (.v (.slice none 0 0)::vi 0::vi 0::(U 27 [])))),fun s0=>[some ⟨.of 115,6,y1.2.network.legs.map cLeg⟩,some ⟨.of 3,1,y1.2.network.off.map cInt⟩,some ⟨.of 3,1,y1.2.skip.map cInt⟩,some ⟨.of 46,16,[[.ms 0,.ms 1,vi o.world.network.change,.v (.slice none 0 0),.v (.slice none 0 0),.v (.slice none 0 0),vi o.world.now,.v (.slice none 0 0),.ms 2,vi o.world.made,.sl (o.zones.map cZone),.sl (o.rates.map cRate),.sl (o.percents.map cInt),.v (.slice none 0 0),.v (.slice none 0 0),.v (.slice none 0 0)]]⟩,some ⟨.of 46,16,[[.v (.slice none 0 0),.v (.slice none 0 0),vi 0,.v (.slice none 0 0),.v (.slice none 0 0),.v (.slice none 0 0),vi 0,.v (.slice none 0 0),.v (.slice none 0 0),vi 0,.v (.slice none 0 0),.v (.slice none 0 0),.v (.slice none 0 0),.v (.slice none 0 0),.v (.slice none 0 0),.v (.slice none 0 0)]]⟩,some ⟨.of 46,16,[[.ms 6,.ms 7,vi y1.1.network.change,.v (.slice none 0 0),.ms 8,.ms 9,vi y1.1.now,.ms 10,.ms 11,vi y1.1.made,.ms 12,.ms 13,.ms 14,.v (.slice none 0 0),.ms 15,.v (.slice none 0 0)]]⟩,some ⟨.of 115,6,y1.1.network.legs.map cLeg⟩,some ⟨.of 3,1,y1.1.network.off.map cInt⟩,some ⟨.of 161,4,y1.1.bookings.map Zd⟩,some ⟨.of 104,2,y1.1.closed.map Zv⟩,some ⟨.of 144,6,y1.1.scans.map ZK⟩,some ⟨.of 3,1,y1.1.skip.map cInt⟩,some ⟨.of 73,2,((([]:List YZone):List YZone)++o.zones).map cZone⟩,some ⟨.of 76,4,((([]:List YRate):List YRate)++o.rates).map cRate⟩,some ⟨.of 3,1,((([]:List Int):List Int)++o.percents).map cInt⟩,some ⟨.of 113,4,y2.map Zap⟩]⟩
def ZcF (o:Zj) (y1:Zf × Zf) (y2:(List ZR)) (s1:Unit):Option (Unit ⊕ Unit):=
 cond (decide (0<0))
 (none)
 (some (.inr ()))
instance (o:Zj) (y1:Zf × Zf) (y2:(List ZR)):Zo (ZcF o y1 y2):=⟨fun s1=>(.un::.un::.be 3 0 0::.be 4 0 0::(U 39 (.v (.slice none 0 0)::vi 0::vi 0::(U 12 [])))),fun s1=>[some ⟨.of 115,6,y1.2.network.legs.map cLeg⟩,some ⟨.of 3,1,y1.2.network.off.map cInt⟩,some ⟨.of 3,1,y1.2.skip.map cInt⟩,some ⟨.of 46,16,[[.v (.slice none 0 0),.v (.slice none 0 0),vi 0,.v (.slice none 0 0),.v (.slice none 0 0),.v (.slice none 0 0),vi 0,.v (.slice none 0 0),.v (.slice none 0 0),vi 0,.v (.slice none 0 0),.v (.slice none 0 0),.v (.slice none 0 0),.v (.slice none 0 0),.v (.slice none 0 0),.v (.slice none 0 0)]]⟩,some ⟨.of 46,16,[[.ms 5,.ms 6,vi y1.1.network.change,.v (.slice none 0 0),.ms 7,.ms 8,vi y1.1.now,.ms 9,.ms 10,vi y1.1.made,.ms 11,.ms 12,.ms 13,.v (.slice none 0 0),.ms 14,.v (.slice none 0 0)]]⟩,some ⟨.of 115,6,y1.1.network.legs.map cLeg⟩,some ⟨.of 3,1,y1.1.network.off.map cInt⟩,some ⟨.of 161,4,y1.1.bookings.map Zd⟩,some ⟨.of 104,2,y1.1.closed.map Zv⟩,some ⟨.of 144,6,y1.1.scans.map ZK⟩,some ⟨.of 3,1,y1.1.skip.map cInt⟩,some ⟨.of 73,2,((([]:List YZone):List YZone)++o.zones).map cZone⟩,some ⟨.of 76,4,((([]:List YRate):List YRate)++o.rates).map cRate⟩,some ⟨.of 3,1,((([]:List Int):List Int)++o.percents).map cInt⟩,some ⟨.of 113,4,y2.map Zap⟩]⟩
def Zag (o:Zj):Option (Zj × Zj):=
 (drwL 8 [2]).bind fun _=>
 (rhoM [0,1,2]).bind fun _=>
 (Zbf (⟨o.world.network,[],[],[],o.world.now,[],o.world.skip,o.world.made⟩:Zf)).bind fun y1=>
 (chk (Zaj ((([]:List YZone):List YZone).length+(o.zones:List YZone).length) 32)).bind fun _=>
 (chk (Zaj ((([]:List YRate):List YRate).length+(o.rates:List YRate).length) 32)).bind fun _=>
 (chk (Zaj ((([]:List Int):List Int).length+(o.percents:List Int).length) 8)).bind fun _=>
 (Zd2 ([])).bind fun y2=>
 (Zc (ZcE o y1 y2) NN ()).bind (fun o0=>
 (Zc (ZcF o y1 y2) NN ()).bind (fun o1=>
 some ((⟨(⟨y1.1.network,[],y1.1.bookings,y1.1.closed,y1.1.now,y1.1.scans,y1.1.skip,y1.1.made⟩:Zf),((([]:List YZone):List YZone)++o.zones),((([]:List YRate):List YRate)++o.rates),((([]:List Int):List Int)++o.percents),[],y2,[]⟩:Zj),(⟨(⟨(⟨y1.2.network.legs,y1.2.network.off,o.world.network.change⟩:YNetwork),[],[],[],o.world.now,[],y1.2.skip,o.world.made⟩:Zf),o.zones,o.rates,o.percents,[],[],[]⟩:Zj))))
instance (o:Zj):CT Tryz.prog (Zag o):=⟨34,[.ag [.ms 0,.ms 1,vi o.world.network.change,.v (.slice none 0 0),.v (.slice none 0 0),.v (.slice none 0 0),vi o.world.now,.v (.slice none 0 0),.ms 2,vi o.world.made,.sl (o.zones.map cZone),.sl (o.rates.map cRate),.sl (o.percents.map cInt),.v (.slice none 0 0),.v (.slice none 0 0),.v (.slice none 0 0)]],[some ⟨.of 115,6,o.world.network.legs.map cLeg⟩,some ⟨.of 3,1,o.world.network.off.map cInt⟩,some ⟨.of 3,1,o.world.skip.map cInt⟩],fun r=>.ag [.ms 3,.ms 4,vi r.1.world.network.change,.v (.slice none 0 0),.ms 5,.ms 6,vi r.1.world.now,.ms 7,.ms 8,vi r.1.world.made,.ms 9,.ms 10,.ms 11,.v (.slice none 0 0),.ms 12,.v (.slice none 0 0)],fun r=>[some ⟨.of 115,6,r.2.world.network.legs.map cLeg⟩,some ⟨.of 3,1,r.2.world.network.off.map cInt⟩,some ⟨.of 3,1,r.2.world.skip.map cInt⟩,some ⟨.of 115,6,r.1.world.network.legs.map cLeg⟩,some ⟨.of 3,1,r.1.world.network.off.map cInt⟩,some ⟨.of 161,4,r.1.world.bookings.map Zd⟩,some ⟨.of 104,2,r.1.world.closed.map Zv⟩,some ⟨.of 144,6,r.1.world.scans.map ZK⟩,some ⟨.of 3,1,r.1.world.skip.map cInt⟩,some ⟨.of 73,2,r.1.zones.map cZone⟩,some ⟨.of 76,4,r.1.rates.map cRate⟩,some ⟨.of 3,1,r.1.percents.map cInt⟩,some ⟨.of 113,4,r.1.lines.map Zap⟩],fun H=>by replace H:=H0 H; unfold Zag at H; exact Za Tryz.func34 rfl Tryz.ntmps34 Tryz.results34 fun Q hQ hQn=>wk5⟩
def Za1 (n:YNetwork) (skip:List Int):Option (Zf × Bool):=
 (Zaf n).bind fun y1=>
 (chk (Zaj ((([]:List Int):List Int).length+(skip:List Int).length) 8)).bind fun _=>
 (ZbS (⟨y1,[],[],[],0,[],((([]:List Int):List Int)++skip),0⟩:Zf)).bind fun y2=>
 cond (!y2)
 (some ((⟨(⟨[],[],0⟩:YNetwork),[],[],[],0,[],[],0⟩:Zf),false))
 (some ((⟨y1,[],[],[],0,[],((([]:List Int):List Int)++skip),0⟩:Zf),true))
theorem ZgZ (n:YNetwork) (skip:List Int) {r:Zf × Bool} (H:Za1 n skip=some r):ZdG Tryz.prog 33 [.ag (cNetwork n),.sl (skip.map cInt)] [] (.tu [.ag [.ms 0,.ms 1,vi r.1.network.change,.v (.slice none 0 0),.v (.slice none 0 0),.v (.slice none 0 0),vi r.1.now,.v (.slice none 0 0),.ms 2,vi r.1.made],vb r.2]) [some ⟨.of 115,6,r.1.network.legs.map cLeg⟩,some ⟨.of 3,1,r.1.network.off.map cInt⟩,some ⟨.of 3,1,r.1.skip.map cInt⟩]:=by
 replace H:=H0 H
 unfold Za1 at H
 refine Za Tryz.func33 rfl Tryz.ntmps33 Tryz.results33 fun Q hQ hQn=>?_
 exact wk5
instance (n:YNetwork) (skip:List Int):CT Tryz.prog (Za1 n skip):=⟨33,[.ag (cNetwork n),.sl (skip.map cInt)],[],fun r=>.tu [.ag [.ms 0,.ms 1,vi r.1.network.change,.v (.slice none 0 0),.v (.slice none 0 0),.v (.slice none 0 0),vi r.1.now,.v (.slice none 0 0),.ms 2,vi r.1.made],vb r.2],fun r=>[some ⟨.of 115,6,r.1.network.legs.map cLeg⟩,some ⟨.of 3,1,r.1.network.off.map cInt⟩,some ⟨.of 3,1,r.1.skip.map cInt⟩],ZgZ n skip⟩
def ZaK (n:YNetwork) (skip:List Int) (zones:List YZone) (rates:List YRate) (percents:List Int):Option (Zj × Bool):=
 (Za1 n skip).bind fun y1=>
 (rhoM [2,3,4]).bind fun _=>
 (Zag (⟨(⟨y1.1.network,[],[],[],y1.1.now,[],y1.1.skip,y1.1.made⟩:Zf),zones,rates,percents,[],[],[]⟩:Zj)).bind fun y2=>
 cond (!y1.2)
 (some ((⟨(⟨(⟨[],[],0⟩:YNetwork),[],[],[],0,[],[],0⟩:Zf),[],[],[],[],[],[]⟩:Zj),false))
 ((Zb3 (⟨(⟨y2.1.world.network,[],y2.1.world.bookings,y2.1.world.closed,y2.1.world.now,y2.1.world.scans,y2.1.world.skip,y2.1.world.made⟩:Zf),y2.1.zones,y2.1.rates,y2.1.percents,[],y2.1.lines,[]⟩:Zj)).bind fun y3=>
 cond (!y3)
 (some ((⟨(⟨(⟨[],[],0⟩:YNetwork),[],[],[],0,[],[],0⟩:Zf),[],[],[],[],[],[]⟩:Zj),false))
 (some ((⟨(⟨y2.1.world.network,[],y2.1.world.bookings,y2.1.world.closed,y2.1.world.now,y2.1.world.scans,y2.1.world.skip,y2.1.world.made⟩:Zf),y2.1.zones,y2.1.rates,y2.1.percents,[],y2.1.lines,[]⟩:Zj),true)))
instance (n:YNetwork) (skip:List Int) (zones:List YZone) (rates:List YRate) (percents:List Int):CT Tryz.prog (ZaK n skip zones rates percents):=⟨12,[.ag (cNetwork n),.sl (skip.map cInt),.sl (zones.map cZone),.sl (rates.map cRate),.sl (percents.map cInt)],[],fun r=>.tu [.ag [.ms 0,.ms 1,vi r.1.world.network.change,.v (.slice none 0 0),.ms 2,.ms 3,vi r.1.world.now,.ms 4,.ms 5,vi r.1.world.made,.ms 6,.ms 7,.ms 8,.v (.slice none 0 0),.ms 9,.v (.slice none 0 0)],vb r.2],fun r=>[some ⟨.of 115,6,r.1.world.network.legs.map cLeg⟩,some ⟨.of 3,1,r.1.world.network.off.map cInt⟩,some ⟨.of 161,4,r.1.world.bookings.map Zd⟩,some ⟨.of 104,2,r.1.world.closed.map Zv⟩,some ⟨.of 144,6,r.1.world.scans.map ZK⟩,some ⟨.of 3,1,r.1.world.skip.map cInt⟩,some ⟨.of 73,2,r.1.zones.map cZone⟩,some ⟨.of 76,4,r.1.rates.map cRate⟩,some ⟨.of 3,1,r.1.percents.map cInt⟩,some ⟨.of 113,4,r.1.lines.map Zap⟩],fun H=>by replace H:=H0 H; unfold ZaK at H; exact Za Tryz.func12 rfl Tryz.ntmps12 Tryz.results12 fun Q hQ hQn=>wk5⟩
def Zad (a:YNetwork):Option YNetwork:=
 (ZcD a.legs).bind fun y1=>
 (ZI a.off).bind fun y2=>
 some (⟨y1,y2,a.change⟩:YNetwork)
instance (a:YNetwork):CT Tryz.prog (Zad a):=⟨8,[.ag (cNetwork a)],[],fun r=>.ag [.ms 0,.ms 1,vi r.change],fun r=>[some ⟨.of 115,6,r.legs.map cLeg⟩,some ⟨.of 3,1,r.off.map cInt⟩],fun H=>by replace H:=H0 H; unfold Zad at H; exact Za Tryz.func8 rfl Tryz.ntmps8 Tryz.results8 fun Q hQ hQn=>wk5⟩
def ZaW (aN:YNetwork) (aSkip:List Int) (aZones:List YZone) (aRates:List YRate) (aPercents:List Int):Option Bool:=
 cond (decide (1048576<(aSkip.length:Int)))
 (some true)
 (cond (decide (1048576<(aPercents.length:Int)))
 (some true)
 ((ZcW aN 1048576).bind fun y1=>
 cond (decide (y1<0))
 (some true)
 ((ZdW aZones y1).bind fun y2=>
 cond (decide (y2<0))
 (some true)
 ((ZdV aRates y2).bind fun y3=>
 cond (decide (y3<0))
 (some true)
 ((Zad aN).bind fun y4=>
 (ZI aSkip).bind fun y5=>
 (ZaY aZones).bind fun y6=>
 (ZaX aRates).bind fun y7=>
 (ZI aPercents).bind fun y8=>
 (Zae y4 y5 y6 y7 y8).bind fun y9=>
 (Zad aN).bind fun y10=>
 (ZI aSkip).bind fun y11=>
 (ZaY aZones).bind fun y12=>
 (ZaX aRates).bind fun y13=>
 (ZI aPercents).bind fun y14=>
 (ZaK y10 y11 y12 y13 y14).bind fun y15=>
 (Zba (⟨(⟨y15.1.world.network,[],y15.1.world.bookings,y15.1.world.closed,y15.1.world.now,y15.1.world.scans,y15.1.world.skip,y15.1.world.made⟩:Zf),y15.1.zones,y15.1.rates,y15.1.percents,[],y15.1.lines,[]⟩:Zj) (⟨(⟨y9.1.world.network,([]:List Zr),y9.1.world.bookings,y9.1.world.closed,y9.1.world.now,y9.1.world.scans,y9.1.world.skip,y9.1.world.made⟩:Zf),y9.1.zones,y9.1.rates,y9.1.percents,[],y9.1.lines,[]⟩:Zj)).bind fun y16=>
 cond (!y16)
 (some false)
 (cond (!(y15.2 == y9.2))
 (some false)
 ((Zad aN).bind fun y17=>
 (Zbp y10 y17).bind fun y18=>
 cond (!y18)
 (some false)
 ((ZI aSkip).bind fun y19=>
 (Zab y11 y19).bind fun y20=>
 cond (!y20)
 (some false)
 ((ZaY aZones).bind fun y21=>
 (ZbU y12 y21).bind fun y22=>
 cond (!y22)
 (some false)
 ((ZaX aRates).bind fun y23=>
 (Zc3 y13 y23).bind fun y24=>
 cond (!y24)
 (some false)
 ((ZI aPercents).bind fun y25=>
 (Zab y14 y25).bind fun y26=>
 cond (!y26)
 (some false)
 ((rhoM [19,20]).bind fun _=>
 (Z7 y10 1).bind fun y27=>
 (rhoM [22]).bind fun _=>
 (ZM y11 y27.1).bind fun y28=>
 (rhoM [23]).bind fun _=>
 (Zau y12 y28.1).bind fun y29=>
 (rhoM [24]).bind fun _=>
 (Zat y13 y29.1).bind fun y30=>
 (rhoM [25]).bind fun _=>
 (ZM y14 y30.1).bind fun y31=>
 cond (decide (y31.1<0))
 (some false)
 ((Zba (⟨(⟨y15.1.world.network,[],y15.1.world.bookings,y15.1.world.closed,y15.1.world.now,y15.1.world.scans,y15.1.world.skip,y15.1.world.made⟩:Zf),y15.1.zones,y15.1.rates,y15.1.percents,[],y15.1.lines,[]⟩:Zj) (⟨(⟨y9.1.world.network,([]:List Zr),y9.1.world.bookings,y9.1.world.closed,y9.1.world.now,y9.1.world.scans,y9.1.world.skip,y9.1.world.made⟩:Zf),y9.1.zones,y9.1.rates,y9.1.percents,[],y9.1.lines,[]⟩:Zj)).bind fun y32=>
 cond (!y32)
 (some false)
 (cond (!(y15.2 == y9.2))
 (some false)
 ((rhoM [26,27,28,29,30,31,32,33,34,35]).bind fun _=>
 (ZaT (⟨(⟨y15.1.world.network,[],y15.1.world.bookings,y15.1.world.closed,y15.1.world.now,y15.1.world.scans,y15.1.world.skip,y15.1.world.made⟩:Zf),y15.1.zones,y15.1.rates,y15.1.percents,[],y15.1.lines,[]⟩:Zj) 1).bind fun y33=>
 (Za0 (⟨(⟨(⟨y33.2.world.network.legs,y33.2.world.network.off,y15.1.world.network.change⟩:YNetwork),[],y33.2.world.bookings,y33.2.world.closed,y15.1.world.now,y33.2.world.scans,y33.2.world.skip,y15.1.world.made⟩:Zf),y33.2.zones,y33.2.rates,y33.2.percents,[],y33.2.lines,[]⟩:Zj) 1).bind fun y34=>
 cond (decide (y34<0))
 (some false)
 (cond (!decide (y34=y33.1))
 (some false)
 ((Zad aN).bind fun y35=>
 (ZI aSkip).bind fun y36=>
 (ZaY aZones).bind fun y37=>
 (ZaX aRates).bind fun y38=>
 (ZI aPercents).bind fun y39=>
 (ZaK y35 y36 y37 y38 y39).bind fun y40=>
 (Zba (⟨(⟨y40.1.world.network,[],y40.1.world.bookings,y40.1.world.closed,y40.1.world.now,y40.1.world.scans,y40.1.world.skip,y40.1.world.made⟩:Zf),y40.1.zones,y40.1.rates,y40.1.percents,[],y40.1.lines,[]⟩:Zj) (⟨(⟨y9.1.world.network,([]:List Zr),y9.1.world.bookings,y9.1.world.closed,y9.1.world.now,y9.1.world.scans,y9.1.world.skip,y9.1.world.made⟩:Zf),y9.1.zones,y9.1.rates,y9.1.percents,[],y9.1.lines,[]⟩:Zj)).bind fun y41=>
 cond (!y41)
 (some false)
 (cond (!(y40.2 == y9.2))
 (some false)
 ((Za0 (⟨(⟨(⟨y33.2.world.network.legs,y33.2.world.network.off,y15.1.world.network.change⟩:YNetwork),[],y33.2.world.bookings,y33.2.world.closed,y15.1.world.now,y33.2.world.scans,y33.2.world.skip,y15.1.world.made⟩:Zf),y33.2.zones,y33.2.rates,y33.2.percents,[],y33.2.lines,[]⟩:Zj) 1).bind fun y42=>
 cond (decide (y42<0))
 (some false)
 (cond (!decide (y42=y33.1))
 (some false)
 (some true)))))))))))))))))))))
theorem Zef (aN:YNetwork) (aSkip:List Int) (aZones:List YZone) (aRates:List YRate) (aPercents:List Int) {r:Bool} (H:ZaW aN aSkip aZones aRates aPercents=some r):ZdG Tryz.prog 3 [.ag (cNetwork aN),.sl (aSkip.map cInt),.sl (aZones.map cZone),.sl (aRates.map cRate),.sl (aPercents.map cInt)] [] (vb r) []:=by
 replace H:=H0 H
 unfold ZaW at H
 refine Za Tryz.func3 rfl Tryz.ntmps3 Tryz.results3 fun Q hQ hQn=>?_
 exact wk5
instance (aN:YNetwork) (aSkip:List Int) (aZones:List YZone) (aRates:List YRate) (aPercents:List Int):CT Tryz.prog (ZaW aN aSkip aZones aRates aPercents):=⟨3,[.ag (cNetwork aN),.sl (aSkip.map cInt),.sl (aZones.map cZone),.sl (aRates.map cRate),.sl (aPercents.map cInt)],[],fun r=>vb r,fun r=>[],Zef aN aSkip aZones aRates aPercents⟩
end Go.Proofs.YtkcnllbmpbhndaaGreat
