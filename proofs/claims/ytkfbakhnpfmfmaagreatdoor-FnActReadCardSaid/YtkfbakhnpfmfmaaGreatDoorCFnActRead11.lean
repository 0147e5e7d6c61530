/- A part of the proof of the statement in the last file of this claim: texts on the language of the program and on its functions. No condition. -/
import Derived.Test.YtkfbakhnpfmfmaaGreatDoorCFnActRead4
import Derived.Test.YtkfbakhnpfmfmaaGreatDoorCFnActRead6
set_option linter.unusedVariables false
set_option linter.unusedSimpArgs false
set_option linter.unusedSectionVars false
namespace Go.Proofs.YtkfbakhnpfmfmaaGreatDoor
set_option maxRecDepth 10000
open Go.RowKit
set_option linter.unusedVariables false
set_option maxHeartbeats 16000000
def Zao (n:Za) (x:Zh):Option ByteArray:=
 cond (decide (x.state=2))
 ((getI x.way x.gone).bind fun y1=>
 (getI n.legs y1.leg).bind fun y2=>
 some y2.to_)
 (some x.place)
instance (n:Za) (x:Zh):CT Tryz.prog (Zao n x):=⟨232,[.ag (Z2 n),.ag (ZV x)],[],fun r=>vs r,fun r=>[],fun H=>by replace H:=H0 H; unfold Zao at H; exact Zd Tryz.func232 rfl Tryz.ntmps232 Tryz.results232 fun Q hQ hQn=>wk3⟩
def Zcn (w:Ze) (i:Int):Option Bool:=
 (getI w.orders i).bind fun y1=>
 cond (!decide (y1.state=3))
 ((Za3 y1).bind fun y2=>
 cond (decide (y2=(y1.way.length:Int)))
 ((Zao w.network y1).bind fun y3=>
 some (!decide (y3=y1.to_)))
 (some false))
 (some false)
instance (w:Ze) (i:Int):CT Tryz.prog (Zcn w i):=⟨233,[.ag (Ze0 w),vi i],[],fun r=>vb r,fun r=>[],fun H=>by replace H:=H0 H; unfold Zcn at H; exact Zd Tryz.func233 rfl Tryz.ntmps233 Tryz.results233 fun Q hQ hQn=>wk3⟩
def Zan (w:Ze) (s:ZU):Option Ze:=
 cond (decide (w.made<1000000000))
 ((ZcZ w.skip (w64 (w.made+1))).bind fun y1=>
 cond (!y1)
 (cond (decide ((w.scans.length:Int)<200))
 ((chk (Z9 ((w.scans:List ZU).length+([s]:List ZU).length) 56)).bind fun _=>
 some (⟨w.network,w.orders,w.bookings,w.closed,w.now,((w.scans:List ZU)++[s]),w.skip,(w64 (w.made+1))⟩:Ze))
 (some (⟨w.network,w.orders,w.bookings,w.closed,w.now,w.scans,w.skip,(w64 (w.made+1))⟩:Ze)))
 (some (⟨w.network,w.orders,w.bookings,w.closed,w.now,w.scans,w.skip,(w64 (w.made+1))⟩:Ze)))
 ((ZcZ w.skip w.made).bind fun y2=>
 cond (!y2)
 (cond (decide ((w.scans.length:Int)<200))
 ((chk (Z9 ((w.scans:List ZU).length+([s]:List ZU).length) 56)).bind fun _=>
 some (⟨w.network,w.orders,w.bookings,w.closed,w.now,((w.scans:List ZU)++[s]),w.skip,w.made⟩:Ze))
 (some w))
 (some w))
instance (w:Ze) (s:ZU):CT Tryz.prog (Zan w s):=⟨227,[.be 0 0 0,.ag (Zax s)],[some ⟨.of 86,10,[[.ms 1,.ms 2,vi w.network.change,.ms 3,.ms 4,.ms 5,vi w.now,.ms 6,.ms 7,vi w.made]]⟩,some ⟨.of 133,6,w.network.legs.map cLeg⟩,some ⟨.of 3,1,w.network.off.map cInt⟩,some ⟨.of 226,11,w.orders.map ZV⟩,some ⟨.of 175,4,w.bookings.map Zk⟩,some ⟨.of 28,2,w.closed.map ZS⟩,some ⟨.of 233,6,w.scans.map Zax⟩,some ⟨.of 3,1,w.skip.map cInt⟩],fun r=>.tu [],fun r=>[some ⟨.of 86,10,[[.ms 1,.ms 2,vi r.network.change,.ms 3,.ms 4,.ms 5,vi r.now,.ms 8,.ms 7,vi r.made]]⟩,some ⟨.of 133,6,r.network.legs.map cLeg⟩,some ⟨.of 3,1,r.network.off.map cInt⟩,some ⟨.of 226,11,r.orders.map ZV⟩,some ⟨.of 175,4,r.bookings.map Zk⟩,some ⟨.of 28,2,r.closed.map ZS⟩,none,some ⟨.of 3,1,r.skip.map cInt⟩,some ⟨.of 233,6,r.scans.map Zax⟩],fun H=>by replace H:=H0 H; unfold Zan at H; exact Zd Tryz.func227 rfl Tryz.ntmps227 Tryz.results227 fun Q hQ hQn=>wk3⟩
def Zbu (at1_:Int) (s0:Int × Int × Int × Int × (List YLeg) × (List Int) × (List Zh) × (List Zc) × (List Zg) × (List Int) × (List ZU)):Option ((Int × Int × Int × Int × (List YLeg) × (List Int) × (List Zh) × (List Zc) × (List Zg) × (List Int) × (List ZU)) ⊕ (Int × Int × Int × (List YLeg) × (List Int) × (List Zh) × (List Zc) × (List Zg) × (List Int) × (List ZU))):=
 cond (decide (s0.1<(s0.2.2.2.2.2.2.1.length:Int)))
 ((getI s0.2.2.2.2.2.2.1 s0.1).bind fun y1=>
 cond (!decide (y1.state=2))
 (some (.inl ((w64 (s0.1+1)),s0.2.1,s0.2.2.1,s0.2.2.2.1,s0.2.2.2.2.1,s0.2.2.2.2.2.1,s0.2.2.2.2.2.2.1,s0.2.2.2.2.2.2.2.1,s0.2.2.2.2.2.2.2.2.1,s0.2.2.2.2.2.2.2.2.2.1,s0.2.2.2.2.2.2.2.2.2.2)))
 ((getI y1.way y1.gone).bind fun y2=>
 (Zv (⟨s0.2.2.2.2.1,s0.2.2.2.2.2.1,s0.2.1⟩:Za) y2).bind fun y3=>
 cond (!decide (y3=at1_))
 (some (.inl ((w64 (s0.1+1)),s0.2.1,s0.2.2.1,s0.2.2.2.1,s0.2.2.2.2.1,s0.2.2.2.2.2.1,s0.2.2.2.2.2.2.1,s0.2.2.2.2.2.2.2.1,s0.2.2.2.2.2.2.2.2.1,s0.2.2.2.2.2.2.2.2.2.1,s0.2.2.2.2.2.2.2.2.2.2)))
 ((getI y1.way y1.gone).bind fun y4=>
 (rhoM [0,1,2,3,4,5,8,7]).bind fun _=>
 (Zan (⟨(⟨s0.2.2.2.2.1,s0.2.2.2.2.2.1,s0.2.1⟩:Za),s0.2.2.2.2.2.2.1,s0.2.2.2.2.2.2.2.1,s0.2.2.2.2.2.2.2.2.1,s0.2.2.1,s0.2.2.2.2.2.2.2.2.2.2,s0.2.2.2.2.2.2.2.2.2.1,s0.2.2.2.1⟩:Ze) (⟨(w64 (s0.1+1)),at1_,2,⟨#[]⟩,y4⟩:ZU)).bind fun y5=>
 (getI y1.way y1.gone).bind fun y6=>
 (getI y5.network.legs y6.leg).bind fun y7=>
 (getI y5.orders s0.1).bind fun y8=>
 (getI y5.orders s0.1).bind fun y9=>
 (getI y5.orders s0.1).bind fun y10=>
 (getI y5.orders s0.1).bind fun y11=>
 cond (decide (y7.to_=y1.to_))
 ((getI y5.orders s0.1).bind fun y12=>
 (getI y5.orders s0.1).bind fun y13=>
 (frzL (y5.orders.set (Int.toNat s0.1) (⟨y8.from_,y8.to_,y8.service,y8.weight,y8.at_,y8.due,y8.way,(w64 (y1.gone+1)),3,y7.to_,at1_⟩:Zh)) (fun y14=>(.be 0 0 0::vi at1_::.un::.un::vi s0.1::.be 9 0 0::(U 193 []))) (fun y14=>[some ⟨.of 86,10,[[.ms 1,.ms 2,vi y5.network.change,.ms 3,.ms 4,.ms 5,vi y5.now,.ms 8,.ms 7,vi y5.made]]⟩,some ⟨.of 133,6,y5.network.legs.map cLeg⟩,some ⟨.of 3,1,y5.network.off.map cInt⟩,some ⟨.of 226,11,y14.map ZV⟩,some ⟨.of 175,4,y5.bookings.map Zk⟩,some ⟨.of 28,2,y5.closed.map ZS⟩,none,some ⟨.of 3,1,y5.skip.map cInt⟩,some ⟨.of 233,6,y5.scans.map Zax⟩,some ⟨.of 226,11,[[vs y1.from_,vs y1.to_,vi y1.service,vi y1.weight,vi y1.at_,vi y1.due,.sl (y1.way.map ZS),vi y1.gone,vi y1.state,vs y1.place,vi y1.ended]]⟩])).bind fun y14=>
 (rhoM [0,1,2,3,4,5,8,7]).bind fun _=>
 (Zan (⟨y5.network,y14,y5.bookings,y5.closed,y5.now,y5.scans,y5.skip,y5.made⟩:Ze) (⟨(w64 (s0.1+1)),at1_,4,y1.to_,(⟨0,0⟩:Zg)⟩:ZU)).bind fun y15=>
 some (.inl ((w64 (s0.1+1)),y15.network.change,y15.now,y15.made,y15.network.legs,y15.network.off,y15.orders,y15.bookings,y15.closed,y15.skip,y15.scans)))
 (some (.inl ((w64 (s0.1+1)),y5.network.change,y5.now,y5.made,y5.network.legs,y5.network.off,(y5.orders.set (Int.toNat s0.1) (⟨y8.from_,y8.to_,y8.service,y8.weight,y8.at_,y8.due,y8.way,(w64 (y1.gone+1)),1,y7.to_,y8.ended⟩:Zh)),y5.bookings,y5.closed,y5.skip,y5.scans))))))
 (some (.inr (s0.2.1,s0.2.2.1,s0.2.2.2.1,s0.2.2.2.2.1,s0.2.2.2.2.2.1,s0.2.2.2.2.2.2.1,s0.2.2.2.2.2.2.2.1,s0.2.2.2.2.2.2.2.2.1,s0.2.2.2.2.2.2.2.2.2.1,s0.2.2.2.2.2.2.2.2.2.2)))
instance (at1_:Int):Z1 (Zbu at1_):=⟨fun s0=>(.be 0 0 0::vi at1_::.un::.un::vi s0.1::(U 194 [])),fun s0=>[some ⟨.of 86,10,[[.ms 1,.ms 2,vi s0.2.1,.ms 3,.ms 4,.ms 5,vi s0.2.2.1,.ms 8,.ms 7,vi s0.2.2.2.1]]⟩,some ⟨.of 133,6,s0.2.2.2.2.1.map cLeg⟩,some ⟨.of 3,1,s0.2.2.2.2.2.1.map cInt⟩,some ⟨.of 226,11,s0.2.2.2.2.2.2.1.map ZV⟩,some ⟨.of 175,4,s0.2.2.2.2.2.2.2.1.map Zk⟩,some ⟨.of 28,2,s0.2.2.2.2.2.2.2.2.1.map ZS⟩,none,some ⟨.of 3,1,s0.2.2.2.2.2.2.2.2.2.1.map cInt⟩,some ⟨.of 233,6,s0.2.2.2.2.2.2.2.2.2.2.map Zax⟩]⟩
def Zbv (at1_:Int) (s1:Int × Int × Int × Int × (List YLeg) × (List Int) × (List Zh) × (List Zc) × (List Zg) × (List Int) × (List ZU)):Option ((Int × Int × Int × Int × (List YLeg) × (List Int) × (List Zh) × (List Zc) × (List Zg) × (List Int) × (List ZU)) ⊕ (Int × Int × Int × (List YLeg) × (List Int) × (List Zh) × (List Zc) × (List Zg) × (List Int) × (List ZU))):=
 cond (decide (s1.1<(s1.2.2.2.2.2.2.1.length:Int)))
 ((getI s1.2.2.2.2.2.2.1 s1.1).bind fun y16=>
 cond (decide (y16.state=1))
 (cond (decide (y16.gone<(y16.way.length:Int)))
 ((getI y16.way y16.gone).bind fun y17=>
 (Zt (⟨s1.2.2.2.2.1,s1.2.2.2.2.2.1,s1.2.1⟩:Za) y17).bind fun y18=>
 cond (decide (y18=at1_))
 ((getI s1.2.2.2.2.2.2.1 s1.1).bind fun y19=>
 (getI s1.2.2.2.2.2.2.1 s1.1).bind fun y20=>
 (frzL (s1.2.2.2.2.2.2.1.set (Int.toNat s1.1) (⟨y19.from_,y19.to_,y19.service,y19.weight,y19.at_,y19.due,y19.way,y19.gone,2,⟨#[]⟩,y19.ended⟩:Zh)) (fun y21=>(.be 0 0 0::vi at1_::(U 4 (vi s1.1::.be 9 0 0::(U 191 []))))) (fun y21=>[some ⟨.of 86,10,[[.ms 1,.ms 2,vi s1.2.1,.ms 3,.ms 4,.ms 5,vi s1.2.2.1,.ms 8,.ms 7,vi s1.2.2.2.1]]⟩,some ⟨.of 133,6,s1.2.2.2.2.1.map cLeg⟩,some ⟨.of 3,1,s1.2.2.2.2.2.1.map cInt⟩,some ⟨.of 226,11,y21.map ZV⟩,some ⟨.of 175,4,s1.2.2.2.2.2.2.2.1.map Zk⟩,some ⟨.of 28,2,s1.2.2.2.2.2.2.2.2.1.map ZS⟩,none,some ⟨.of 3,1,s1.2.2.2.2.2.2.2.2.2.1.map cInt⟩,some ⟨.of 233,6,s1.2.2.2.2.2.2.2.2.2.2.map Zax⟩,some ⟨.of 226,11,[[vs y16.from_,vs y16.to_,vi y16.service,vi y16.weight,vi y16.at_,vi y16.due,.sl (y16.way.map ZS),vi y16.gone,vi y16.state,vs y16.place,vi y16.ended]]⟩])).bind fun y21=>
 (getI y16.way y16.gone).bind fun y22=>
 (rhoM [0,1,2,3,4,5,8,7]).bind fun _=>
 (Zan (⟨(⟨s1.2.2.2.2.1,s1.2.2.2.2.2.1,s1.2.1⟩:Za),y21,s1.2.2.2.2.2.2.2.1,s1.2.2.2.2.2.2.2.2.1,s1.2.2.1,s1.2.2.2.2.2.2.2.2.2.2,s1.2.2.2.2.2.2.2.2.2.1,s1.2.2.2.1⟩:Ze) (⟨(w64 (s1.1+1)),at1_,3,⟨#[]⟩,y22⟩:ZU)).bind fun y23=>
 some (.inl ((w64 (s1.1+1)),y23.network.change,y23.now,y23.made,y23.network.legs,y23.network.off,y23.orders,y23.bookings,y23.closed,y23.skip,y23.scans)))
 (some (.inl ((w64 (s1.1+1)),s1.2.1,s1.2.2.1,s1.2.2.2.1,s1.2.2.2.2.1,s1.2.2.2.2.2.1,s1.2.2.2.2.2.2.1,s1.2.2.2.2.2.2.2.1,s1.2.2.2.2.2.2.2.2.1,s1.2.2.2.2.2.2.2.2.2.1,s1.2.2.2.2.2.2.2.2.2.2))))
 (some (.inl ((w64 (s1.1+1)),s1.2.1,s1.2.2.1,s1.2.2.2.1,s1.2.2.2.2.1,s1.2.2.2.2.2.1,s1.2.2.2.2.2.2.1,s1.2.2.2.2.2.2.2.1,s1.2.2.2.2.2.2.2.2.1,s1.2.2.2.2.2.2.2.2.2.1,s1.2.2.2.2.2.2.2.2.2.2))))
 (some (.inl ((w64 (s1.1+1)),s1.2.1,s1.2.2.1,s1.2.2.2.1,s1.2.2.2.2.1,s1.2.2.2.2.2.1,s1.2.2.2.2.2.2.1,s1.2.2.2.2.2.2.2.1,s1.2.2.2.2.2.2.2.2.1,s1.2.2.2.2.2.2.2.2.2.1,s1.2.2.2.2.2.2.2.2.2.2))))
 (some (.inr (s1.2.1,s1.2.2.1,s1.2.2.2.1,s1.2.2.2.2.1,s1.2.2.2.2.2.1,s1.2.2.2.2.2.2.1,s1.2.2.2.2.2.2.2.1,s1.2.2.2.2.2.2.2.2.1,s1.2.2.2.2.2.2.2.2.2.1,s1.2.2.2.2.2.2.2.2.2.2)))
instance (at1_:Int):Z1 (Zbv at1_):=⟨fun s1=>(.be 0 0 0::vi at1_::(U 4 (vi s1.1::(U 192 [])))),fun s1=>[some ⟨.of 86,10,[[.ms 1,.ms 2,vi s1.2.1,.ms 3,.ms 4,.ms 5,vi s1.2.2.1,.ms 8,.ms 7,vi s1.2.2.2.1]]⟩,some ⟨.of 133,6,s1.2.2.2.2.1.map cLeg⟩,some ⟨.of 3,1,s1.2.2.2.2.2.1.map cInt⟩,some ⟨.of 226,11,s1.2.2.2.2.2.2.1.map ZV⟩,some ⟨.of 175,4,s1.2.2.2.2.2.2.2.1.map Zk⟩,some ⟨.of 28,2,s1.2.2.2.2.2.2.2.2.1.map ZS⟩,none,some ⟨.of 3,1,s1.2.2.2.2.2.2.2.2.2.1.map cInt⟩,some ⟨.of 233,6,s1.2.2.2.2.2.2.2.2.2.2.map Zax⟩]⟩
def ZdD (w:Ze) (at1_:Int):Option Ze:=
 (Zj (Zbu at1_) NN (0,w.network.change,w.now,w.made,w.network.legs,w.network.off,w.orders,w.bookings,w.closed,w.skip,w.scans)).bind (fun o0=>
 (Zj (Zbv at1_) NN (0,o0.1,o0.2.1,o0.2.2.1,o0.2.2.2.1,o0.2.2.2.2.1,o0.2.2.2.2.2.1,o0.2.2.2.2.2.2.1,o0.2.2.2.2.2.2.2.1,o0.2.2.2.2.2.2.2.2.1,o0.2.2.2.2.2.2.2.2.2)).bind (fun o1=>
 some (⟨(⟨o1.2.2.2.1,o1.2.2.2.2.1,o1.1⟩:Za),o1.2.2.2.2.2.1,o1.2.2.2.2.2.2.1,o1.2.2.2.2.2.2.2.1,at1_,o1.2.2.2.2.2.2.2.2.2,o1.2.2.2.2.2.2.2.2.1,o1.2.2.1⟩:Ze)))
instance (w:Ze) (at1_:Int):CT Tryz.prog (ZdD w at1_):=⟨191,[.be 0 0 0,vi at1_],[some ⟨.of 86,10,[[.ms 1,.ms 2,vi w.network.change,.ms 3,.ms 4,.ms 5,vi w.now,.ms 6,.ms 7,vi w.made]]⟩,some ⟨.of 133,6,w.network.legs.map cLeg⟩,some ⟨.of 3,1,w.network.off.map cInt⟩,some ⟨.of 226,11,w.orders.map ZV⟩,some ⟨.of 175,4,w.bookings.map Zk⟩,some ⟨.of 28,2,w.closed.map ZS⟩,some ⟨.of 233,6,w.scans.map Zax⟩,some ⟨.of 3,1,w.skip.map cInt⟩],fun r=>.tu [],fun r=>[some ⟨.of 86,10,[[.ms 1,.ms 2,vi r.network.change,.ms 3,.ms 4,.ms 5,vi r.now,.ms 8,.ms 7,vi r.made]]⟩,some ⟨.of 133,6,r.network.legs.map cLeg⟩,some ⟨.of 3,1,r.network.off.map cInt⟩,some ⟨.of 226,11,r.orders.map ZV⟩,some ⟨.of 175,4,r.bookings.map Zk⟩,some ⟨.of 28,2,r.closed.map ZS⟩,none,some ⟨.of 3,1,r.skip.map cInt⟩,some ⟨.of 233,6,r.scans.map Zax⟩],fun H=>by replace H:=H0 H; unfold ZdD at H; exact Zd Tryz.func191 rfl Tryz.ntmps191 Tryz.results191 fun Q hQ hQn=>wk3⟩
def ZeS (places:List ByteArray) (from1_:Int) (at2_:Int) (s0:Int × (List Int)):Option ((Int × (List Int)) ⊕ (List Int)):=
 cond (decide (s0.1<(places.length:Int)))
 (cond (decide (s0.1=from1_))
 ((Zds at2_ 0).bind fun y1=>
 (chk (Z9 ((s0.2:List Int).length+([y1]:List Int).length) 8)).bind fun _=>
 some (.inl ((w64 (s0.1+1)),((s0.2:List Int)++[y1]))))
 ((chk (Z9 ((s0.2:List Int).length+([(-1)]:List Int).length) 8)).bind fun _=>
 some (.inl ((w64 (s0.1+1)),((s0.2:List Int)++[(-1)])))))
 (some (.inr s0.2))
instance (places:List ByteArray) (from1_:Int) (at2_:Int):Z1 (ZeS places from1_ at2_):=⟨fun s0=>(.sl (places.map cStr)::vi from1_::vi at2_::(U 4 (.ms 0::vi s0.1::(U 19 [])))),fun s0=>[some ⟨.of 3,1,s0.2.map cInt⟩]⟩
def Zcu (places:List ByteArray) (from1_:Int) (at2_:Int):Option (List Int):=
 (Zj (ZeS places from1_ at2_) NN (0,([]:List Int))).bind (fun o0=>
 some o0)
instance (places:List ByteArray) (from1_:Int) (at2_:Int):CT Tryz.prog (Zcu places from1_ at2_):=⟨248,[.sl (places.map cStr),vi from1_,vi at2_],[],fun r=>.ms 0,fun r=>[some ⟨.of 3,1,r.map cInt⟩],fun H=>by replace H:=H0 H; unfold Zcu at H; exact Zd Tryz.func248 rfl Tryz.ntmps248 Tryz.results248 fun Q hQ hQn=>wk3⟩
def ZbK (n:Za) (at1_:Int) (first:Bool):Option Int:=
 cond first
 (some at1_)
 (some (w64 (at1_+n.change)))
instance (n:Za) (at1_:Int) (first:Bool):CT Tryz.prog (ZbK n at1_ first):=⟨251,[.ag (Z2 n),vi at1_,vb first],[],fun r=>vi r,fun r=>[],fun H=>by replace H:=H0 H; unfold ZbK at H; exact Zd Tryz.func251 rfl Tryz.ntmps251 Tryz.results251 fun Q hQ hQn=>wk3⟩
def ZeT (n:Za) (places:List ByteArray) (best:List Int) (from3_:Int) (s0:Int × (List Int)):Option ((Int × (List Int)) ⊕ (List Int)):=
 cond (decide (s0.1<(n.legs.length:Int)))
 ((getI n.legs s0.1).bind fun y2=>
 (ZE places y2.from_).bind fun y3=>
 (getI n.legs s0.1).bind fun y4=>
 (ZE places y4.to_).bind fun y5=>
 (getI best y3).bind fun y6=>
 cond (decide (y6<0))
 (some (.inl ((w64 (s0.1+1)),s0.2)))
 ((getI best y3).bind fun y7=>
 (ZbK n y7 (decide (y3=from3_))).bind fun y8=>
 (ZdW n s0.1 y8).bind fun y9=>
 cond (decide (y9<0))
 (some (.inl ((w64 (s0.1+1)),s0.2)))
 ((Zv n (⟨s0.1,y9⟩:Zg)).bind fun y10=>
 (getI s0.2 y5).bind fun y11=>
 cond (decide (y11<0))
 ((getI s0.2 y5).bind fun y12=>
 some (.inl ((w64 (s0.1+1)),(s0.2.set (Int.toNat y5) y10))))
 ((getI s0.2 y5).bind fun y13=>
 cond (decide (y10<y13))
 ((getI s0.2 y5).bind fun y14=>
 some (.inl ((w64 (s0.1+1)),(s0.2.set (Int.toNat y5) y10))))
 (some (.inl ((w64 (s0.1+1)),s0.2)))))))
 (some (.inr s0.2))
instance (n:Za) (places:List ByteArray) (best:List Int) (from3_:Int):Z1 (ZeT n places best from3_):=⟨fun s0=>(.un::.sl (places.map cStr)::.sl (best.map cInt)::vi from3_::.be 0 0 0::(U 4 (.ms 1::vi s0.1::(U 71 [])))),fun s0=>[some ⟨.of 80,3,[[.sl (n.legs.map cLeg),.sl (n.off.map cInt),vi n.change]]⟩,some ⟨.of 3,1,s0.2.map cInt⟩]⟩
def Zed (n:Za) (places:List ByteArray) (best:List Int) (from3_:Int):Option (List Int):=
 (Zad best).bind fun y1=>
 (Zj (ZeT n places best from3_) NN (0,y1)).bind (fun o0=>
 some o0)
instance (n:Za) (places:List ByteArray) (best:List Int) (from3_:Int):CT Tryz.prog (Zed n places best from3_):=⟨253,[.ag (Z2 n),.sl (places.map cStr),.sl (best.map cInt),vi from3_],[],fun r=>.ms 0,fun r=>[some ⟨.of 3,1,r.map cInt⟩],fun H=>by replace H:=H0 H; unfold Zed at H; exact Zd Tryz.func253 rfl Tryz.ntmps253 Tryz.results253 fun Q hQ hQn=>wk3⟩
def Zdt (n:Za) (legs:Int) (y1:(List ByteArray)) (y2:Int) (s0:Int × (List Int)):Option ((Int × (List Int)) ⊕ (List Int)):=
 cond (decide (s0.1<legs))
 (cond (decide (s0.1<(y1.length:Int)))
 ((Zed n y1 s0.2 y2).bind fun y5=>
 some (.inl ((w64 (s0.1+1)),y5)))
 (some (.inr s0.2)))
 (some (.inr s0.2))
instance (n:Za) (legs:Int) (y1:(List ByteArray)) (y2:Int):Z1 (Zdt n legs y1 y2):=⟨fun s0=>(U 3 (vi legs::.be 0 0 0::(U 4 (.ms 1::vi y2::.ms 2::vi s0.1::(U 42 []))))),fun s0=>[some ⟨.of 80,3,[[.sl (n.legs.map cLeg),.sl (n.off.map cInt),vi n.change]]⟩,some ⟨.of 9,1,y1.map cStr⟩,some ⟨.of 3,1,s0.2.map cInt⟩]⟩
def ZbW (n:Za) (from1_:ByteArray) (at2_:Int) (legs:Int):Option (List Int):=
 (Z0 n).bind fun y1=>
 (ZE y1 from1_).bind fun y2=>
 (Zm n).bind fun y3=>
 cond (!y3)
 (some ([]:List Int))
 (cond (decide (y2<0))
 (some ([]:List Int))
 (cond (decide (100000<at2_))
 (some ([]:List Int))
 (cond (decide (legs<0))
 (some ([]:List Int))
 ((Zcu y1 y2 at2_).bind fun y4=>
 (Zj (Zdt n legs y1 y2) NN (0,y4)).bind (fun o0=>
 some o0)))))
instance (n:Za) (from1_:ByteArray) (at2_:Int) (legs:Int):CT Tryz.prog (ZbW n from1_ at2_ legs):=⟨252,[.ag (Z2 n),vs from1_,vi at2_,vi legs],[],fun r=>.ms 0,fun r=>[some ⟨.of 3,1,r.map cInt⟩],fun H=>by replace H:=H0 H; unfold ZbW at H; exact Zd Tryz.func252 rfl Tryz.ntmps252 Tryz.results252 fun Q hQ hQn=>wk3⟩
def Zei (n:Za) (l:List Zc) (closed:List Zg) (leg:Int) (at4_:Int) (weight:Int) (s0:Int):Option (Int ⊕ (Unit ⊕ Int)):=
 cond (decide (s0≤60))
 ((ZW n leg s0).bind fun y1=>
 cond y1
 ((Zt n (⟨leg,s0⟩:Zg)).bind fun y2=>
 cond (decide (at4_≤y2))
 ((Zbp closed (⟨leg,s0⟩:Zg)).bind fun y3=>
 cond (!y3)
 ((getI n.legs leg).bind fun y4=>
 (Zc8 l (⟨leg,s0⟩:Zg)).bind fun y5=>
 cond (decide (weight≤(w64 (y4.room-y5))))
 (some (.inr (.inr s0)))
 (some (.inl (w64 (s0+1)))))
 (some (.inl (w64 (s0+1)))))
 (some (.inl (w64 (s0+1)))))
 (some (.inl (w64 (s0+1)))))
 (some (.inr (.inl ())))
instance (n:Za) (l:List Zc) (closed:List Zg) (leg:Int) (at4_:Int) (weight:Int):Z1 (Zei n l closed leg at4_ weight):=⟨fun s0=>(.un::.sl (l.map Zk)::.sl (closed.map ZS)::vi leg::vi at4_::vi weight::.be 0 0 0::(U 6 (vi s0::(U 40 [])))),fun s0=>[some ⟨.of 80,3,[[.sl (n.legs.map cLeg),.sl (n.off.map cInt),vi n.change]]⟩]⟩
def Zda (n:Za) (l:List Zc) (closed:List Zg) (leg:Int) (at4_:Int) (weight:Int):Option Int:=
 (Zj (Zei n l closed leg at4_ weight) NN 0).bind (Zu (fun o0=>
 some (-1)) (fun r=>some r))
instance (n:Za) (l:List Zc) (closed:List Zg) (leg:Int) (at4_:Int) (weight:Int):CT Tryz.prog (Zda n l closed leg at4_ weight):=⟨250,[.ag (Z2 n),.sl (l.map Zk),.sl (closed.map ZS),vi leg,vi at4_,vi weight],[],fun r=>vi r,fun r=>[],fun H=>by replace H:=H0 H; unfold Zda at H; exact Zd Tryz.func250 rfl Tryz.ntmps250 Tryz.results250 fun Q hQ hQn=>wk3⟩
def ZdY (n:Za) (l:List Zc) (closed:List Zg) (weight:Int) (places:List ByteArray) (best:List Int) (from6_:Int) (s0:Int × (List Int)):Option ((Int × (List Int)) ⊕ (List Int)):=
 cond (decide (s0.1<(n.legs.length:Int)))
 ((getI n.legs s0.1).bind fun y2=>
 (ZE places y2.from_).bind fun y3=>
 (getI n.legs s0.1).bind fun y4=>
 (ZE places y4.to_).bind fun y5=>
 (getI best y3).bind fun y6=>
 cond (decide (y6<0))
 (some (.inl ((w64 (s0.1+1)),s0.2)))
 ((getI best y3).bind fun y7=>
 (ZbK n y7 (decide (y3=from6_))).bind fun y8=>
 (Zda n l closed s0.1 y8 weight).bind fun y9=>
 cond (decide (y9<0))
 (some (.inl ((w64 (s0.1+1)),s0.2)))
 ((Zv n (⟨s0.1,y9⟩:Zg)).bind fun y10=>
 (getI s0.2 y5).bind fun y11=>
 cond (decide (y11<0))
 ((getI s0.2 y5).bind fun y12=>
 some (.inl ((w64 (s0.1+1)),(s0.2.set (Int.toNat y5) y10))))
 ((getI s0.2 y5).bind fun y13=>
 cond (decide (y10<y13))
 ((getI s0.2 y5).bind fun y14=>
 some (.inl ((w64 (s0.1+1)),(s0.2.set (Int.toNat y5) y10))))
 (some (.inl ((w64 (s0.1+1)),s0.2)))))))
 (some (.inr s0.2))
instance (n:Za) (l:List Zc) (closed:List Zg) (weight:Int) (places:List ByteArray) (best:List Int) (from6_:Int):Z1 (ZdY n l closed weight places best from6_):=⟨fun s0=>(.un::.sl (l.map Zk)::.sl (closed.map ZS)::vi weight::.sl (places.map cStr)::.sl (best.map cInt)::vi from6_::.be 0 0 0::(U 7 (.ms 1::vi s0.1::(U 74 [])))),fun s0=>[some ⟨.of 80,3,[[.sl (n.legs.map cLeg),.sl (n.off.map cInt),vi n.change]]⟩,some ⟨.of 3,1,s0.2.map cInt⟩]⟩
def ZaU (n:Za) (l:List Zc) (closed:List Zg) (weight:Int) (places:List ByteArray) (best:List Int) (from6_:Int):Option (List Int):=
 (Zad best).bind fun y1=>
 (Zj (ZdY n l closed weight places best from6_) NN (0,y1)).bind (fun o0=>
 some o0)
instance (n:Za) (l:List Zc) (closed:List Zg) (weight:Int) (places:List ByteArray) (best:List Int) (from6_:Int):CT Tryz.prog (ZaU n l closed weight places best from6_):=⟨249,[.ag (Z2 n),.sl (l.map Zk),.sl (closed.map ZS),vi weight,.sl (places.map cStr),.sl (best.map cInt),vi from6_],[],fun r=>.ms 0,fun r=>[some ⟨.of 3,1,r.map cInt⟩],fun H=>by replace H:=H0 H; unfold ZaU at H; exact Zd Tryz.func249 rfl Tryz.ntmps249 Tryz.results249 fun Q hQ hQn=>wk3⟩
def ZaX (n:Za) (l:List Zc) (closed:List Zg) (weight:Int) (legs:Int) (y1:(List ByteArray)) (y2:Int) (s0:Int × (List Int)):Option ((Int × (List Int)) ⊕ (List Int)):=
 cond (decide (s0.1<legs))
 (cond (decide (s0.1<(y1.length:Int)))
 ((ZaU n l closed weight y1 s0.2 y2).bind fun y5=>
 some (.inl ((w64 (s0.1+1)),y5)))
 (some (.inr s0.2)))
 (some (.inr s0.2))
instance (n:Za) (l:List Zc) (closed:List Zg) (weight:Int) (legs:Int) (y1:(List ByteArray)) (y2:Int):Z1 (ZaX n l closed weight legs y1 y2):=⟨fun s0=>(.un::.sl (l.map Zk)::.sl (closed.map ZS)::.un::.un::vi weight::vi legs::.be 0 0 0::(U 7 (.ms 1::vi y2::.ms 2::vi s0.1::(U 50 [])))),fun s0=>[some ⟨.of 80,3,[[.sl (n.legs.map cLeg),.sl (n.off.map cInt),vi n.change]]⟩,some ⟨.of 9,1,y1.map cStr⟩,some ⟨.of 3,1,s0.2.map cInt⟩]⟩
def ZaH (n:Za) (l:List Zc) (closed:List Zg) (from3_:ByteArray) (at4_:Int) (weight:Int) (legs:Int):Option (List Int):=
 (Z0 n).bind fun y1=>
 (ZE y1 from3_).bind fun y2=>
 (Zaq n l).bind fun y3=>
 cond (!y3)
 (some ([]:List Int))
 (cond (decide (y2<0))
 (some ([]:List Int))
 (cond (decide (100000<at4_))
 (some ([]:List Int))
 (cond (decide (weight<1))
 (some ([]:List Int))
 (cond (decide (legs<0))
 (some ([]:List Int))
 ((Zcu y1 y2 at4_).bind fun y4=>
 (Zj (ZaX n l closed weight legs y1 y2) NN (0,y4)).bind (fun o0=>
 some o0))))))
instance (n:Za) (l:List Zc) (closed:List Zg) (from3_:ByteArray) (at4_:Int) (weight:Int) (legs:Int):CT Tryz.prog (ZaH n l closed from3_ at4_ weight legs):=⟨243,[.ag (Z2 n),.sl (l.map Zk),.sl (closed.map ZS),vs from3_,vi at4_,vi weight,vi legs],[],fun r=>.ms 0,fun r=>[some ⟨.of 3,1,r.map cInt⟩],fun H=>by replace H:=H0 H; unfold ZaH at H; exact Zd Tryz.func243 rfl Tryz.ntmps243 Tryz.results243 fun Q hQ hQn=>wk3⟩
def Zfw (l:List Zc) (b:Zc) (s0:Int):Option (Int ⊕ Int):=
 cond (decide (s0<(l.length:Int)))
 ((getI l s0).bind fun y1=>
 (ZcS y1 b).bind fun y2=>
 cond y2
 (some (.inl (w64 (s0+1))))
 (some (.inr s0)))
 (some (.inr s0))
instance (l:List Zc) (b:Zc):Z1 (Zfw l b):=⟨fun s0=>(.sl (l.map Zk)::.un::.un::.be 0 0 0::.un::vi s0::(U 25 [])),fun s0=>[some ⟨.of 175,4,[[vi b.thing,vi b.trip.leg,vi b.trip.day,vi b.weight]]⟩]⟩
def Ze4 (l:List Zc) (b:Zc):Option (List Zc):=
 (Zj (Zfw l b) NN 0).bind (fun o0=>
 (chk (slOk 0 o0 l.length)).bind fun _=>
 (Zcp (subL l 0 o0)).bind fun y3=>
 (chk (Z9 ((y3:List Zc).length+([b]:List Zc).length) 32)).bind fun _=>
 (chk (slOk o0 (l.length:Int) l.length)).bind fun _=>
 (chk (Z9 ((((y3:List Zc)++[b]):List Zc).length+((subL l o0 (l.length:Int)):List Zc).length) 32)).bind fun _=>
 some ((((y3:List Zc)++[b]):List Zc)++(subL l o0 (l.length:Int))))
instance (l:List Zc) (b:Zc):CT Tryz.prog (Ze4 l b):=⟨245,[.sl (l.map Zk),.ag (Zk b)],[],fun r=>.ms 0,fun r=>[some ⟨.of 175,4,r.map Zk⟩],fun H=>by replace H:=H0 H; unfold Ze4 at H; exact Zd Tryz.func245 rfl Tryz.ntmps245 Tryz.results245 fun Q hQ hQn=>wk3⟩
def ZeR (n:Za) (l:List Zc) (thing:Int) (weight:Int) (way:List Zg) (s0:Int × (List Zc)):Option ((Int × (List Zc)) ⊕ (List Zc)):=
 cond (decide (s0.1<(way.length:Int)))
 ((getI way s0.1).bind fun y3=>
 (Ze4 s0.2 (⟨thing,y3,weight⟩:Zc)).bind fun y4=>
 some (.inl ((w64 (s0.1+1)),y4)))
 (some (.inr s0.2))
instance (n:Za) (l:List Zc) (thing:Int) (weight:Int) (way:List Zg):Z1 (ZeR n l thing weight way):=⟨fun s0=>(.un::.sl (l.map Zk)::vi thing::vi weight::.sl (way.map ZS)::.be 0 0 0::(U 6 (.ms 1::vi s0.1::(U 34 [])))),fun s0=>[some ⟨.of 80,3,[[.sl (n.legs.map cLeg),.sl (n.off.map cInt),vi n.change]]⟩,some ⟨.of 175,4,s0.2.map Zk⟩]⟩
def ZbI (n:Za) (l:List Zc) (thing:Int) (weight:Int) (way:List Zg):Option ((List Zc) × Bool):=
 (Zcp l).bind fun y1=>
 (Zaq n l).bind fun y2=>
 cond (!y2)
 (some (y1,false))
 (cond (decide (20<(way.length:Int)))
 (some (y1,false))
 ((Zj (ZeR n l thing weight way) NN (0,y1)).bind (fun o0=>
 (Zaq n o0).bind fun y5=>
 cond (!y5)
 ((Zcp l).bind fun y6=>
 some (y6,false))
 (some (o0,true)))))
instance (n:Za) (l:List Zc) (thing:Int) (weight:Int) (way:List Zg):CT Tryz.prog (ZbI n l thing weight way):=⟨225,[.ag (Z2 n),.sl (l.map Zk),vi thing,vi weight,.sl (way.map ZS)],[],fun r=>.tu [.ms 0,vb r.2],fun r=>[some ⟨.of 175,4,r.1.map Zk⟩],fun H=>by replace H:=H0 H; unfold ZbI at H; exact Zd Tryz.func225 rfl Tryz.ntmps225 Tryz.results225 fun Q hQ hQn=>wk3⟩
def ZeD (n:Za) (l:List Zc) (thing:Int) (at3_:Int) (y1:Bool) (s0:Int × (List Zc)):Option ((Int × (List Zc)) ⊕ (List Zc)):=
 cond (decide (s0.1<(l.length:Int)))
 (cond (!y1)
 ((getI l s0.1).bind fun y2=>
 (chk (Z9 ((s0.2:List Zc).length+([y2]:List Zc).length) 32)).bind fun _=>
 some (.inl ((w64 (s0.1+1)),((s0.2:List Zc)++[y2]))))
 ((getI l s0.1).bind fun y3=>
 cond (!decide (y3.thing=thing))
 ((getI l s0.1).bind fun y4=>
 (chk (Z9 ((s0.2:List Zc).length+([y4]:List Zc).length) 32)).bind fun _=>
 some (.inl ((w64 (s0.1+1)),((s0.2:List Zc)++[y4]))))
 ((getI l s0.1).bind fun y5=>
 (Zt n y5.trip).bind fun y6=>
 cond (decide (y6<at3_))
 ((getI l s0.1).bind fun y7=>
 (chk (Z9 ((s0.2:List Zc).length+([y7]:List Zc).length) 32)).bind fun _=>
 some (.inl ((w64 (s0.1+1)),((s0.2:List Zc)++[y7]))))
 (some (.inl ((w64 (s0.1+1)),s0.2))))))
 (some (.inr s0.2))
instance (n:Za) (l:List Zc) (thing:Int) (at3_:Int) (y1:Bool):Z1 (ZeD n l thing at3_ y1):=⟨fun s0=>(.un::.sl (l.map Zk)::vi thing::vi at3_::.be 0 0 0::(U 4 (.ms 1::vb y1::vi s0.1::(U 40 [])))),fun s0=>[some ⟨.of 80,3,[[.sl (n.legs.map cLeg),.sl (n.off.map cInt),vi n.change]]⟩,some ⟨.of 175,4,s0.2.map Zk⟩]⟩
def ZcK (n:Za) (l:List Zc) (thing:Int) (at3_:Int):Option (List Zc):=
 (Zaq n l).bind fun y1=>
 (Zj (ZeD n l thing at3_ y1) NN (0,([]:List Zc))).bind (fun o0=>
 some o0)
instance (n:Za) (l:List Zc) (thing:Int) (at3_:Int):CT Tryz.prog (ZcK n l thing at3_):=⟨231,[.ag (Z2 n),.sl (l.map Zk),vi thing,vi at3_],[],fun r=>.ms 0,fun r=>[some ⟨.of 175,4,r.map Zk⟩],fun H=>by replace H:=H0 H; unfold ZcK at H; exact Zd Tryz.func231 rfl Tryz.ntmps231 Tryz.results231 fun Q hQ hQn=>wk3⟩
def ZdS (n:Za) (from1_:ByteArray) (to_:ByteArray) (at3_:Int):Option Int:=
 (Z0 n).bind fun y1=>
 (ZE y1 to_).bind fun y2=>
 (ZbW n from1_ at3_ (y1.length:Int)).bind fun y3=>
 cond (decide (y2<0))
 (some (-1))
 (cond (decide ((y3.length:Int)=0))
 (some (-1))
 ((getI y3 y2).bind fun y4=>
 some y4))
instance (n:Za) (from1_:ByteArray) (to_:ByteArray) (at3_:Int):CT Tryz.prog (ZdS n from1_ to_ at3_):=⟨246,[.ag (Z2 n),vs from1_,vs to_,vi at3_],[],fun r=>vi r,fun r=>[],fun H=>by replace H:=H0 H; unfold ZdS at H; exact Zd Tryz.func246 rfl Tryz.ntmps246 Tryz.results246 fun Q hQ hQn=>wk3⟩
def Zdl (n:Za) (service:Int) (from2_:ByteArray) (to_:ByteArray) (at4_:Int):Option Int:=
 (ZdS n from2_ to_ at4_).bind fun y1=>
 cond (decide (y1<0))
 (some (-1))
 ((Zl service 1 3).bind fun y2=>
 cond (!y2)
 (some (-1))
 (cond (decide (1080<(Int.tmod y1 1440)))
 (some (w64 ((w64 ((w64 ((w64 ((IntKind.i64.wrap (Int.tdiv y1 1440))+1))+(w64 ((w64 (service-1))*(w64 (service-1))))))*1440))+1080)))
 (some (w64 ((w64 ((w64 ((IntKind.i64.wrap (Int.tdiv y1 1440))+(w64 ((w64 (service-1))*(w64 (service-1))))))*1440))+1080)))))
instance (n:Za) (service:Int) (from2_:ByteArray) (to_:ByteArray) (at4_:Int):CT Tryz.prog (Zdl n service from2_ to_ at4_):=⟨226,[.ag (Z2 n),vi service,vs from2_,vs to_,vi at4_],[],fun r=>vi r,fun r=>[],fun H=>by replace H:=H0 H; unfold Zdl at H; exact Zd Tryz.func226 rfl Tryz.ntmps226 Tryz.results226 fun Q hQ hQn=>wk3⟩
def Zb4 (n:Za) (l:List Zc) (closed:List Zg) (weight:Int) (places:List ByteArray) (before:List Int) (from6_:Int) (to_:Int) (ends:Int) (s0:Int):Option (Int ⊕ (Unit ⊕ Zg)):=
 cond (decide (s0<(n.legs.length:Int)))
 ((getI n.legs s0).bind fun y1=>
 (ZE places y1.from_).bind fun y2=>
 (getI n.legs s0).bind fun y3=>
 (getI places to_).bind fun y4=>
 cond (!decide (y3.to_=y4))
 (some (.inl (w64 (s0+1))))
 ((getI before y2).bind fun y5=>
 cond (decide (y5<0))
 (some (.inl (w64 (s0+1))))
 ((getI before y2).bind fun y6=>
 (ZbK n y6 (decide (y2=from6_))).bind fun y7=>
 (Zda n l closed s0 y7 weight).bind fun y8=>
 cond (decide (0≤y8))
 ((Zv n (⟨s0,y8⟩:Zg)).bind fun y9=>
 cond (decide (y9=ends))
 (some (.inr (.inr (⟨s0,y8⟩:Zg))))
 (some (.inl (w64 (s0+1)))))
 (some (.inl (w64 (s0+1)))))))
 (some (.inr (.inl ())))
instance (n:Za) (l:List Zc) (closed:List Zg) (weight:Int) (places:List ByteArray) (before:List Int) (from6_:Int) (to_:Int) (ends:Int):Z1 (Zb4 n l closed weight places before from6_ to_ ends):=⟨fun s0=>(.un::.sl (l.map Zk)::.sl (closed.map ZS)::vi weight::.sl (places.map cStr)::.sl (before.map cInt)::vi from6_::vi to_::vi ends::.be 0 0 0::(U 8 (.be 1 0 0::vi s0::(U 64 [])))),fun s0=>[some ⟨.of 80,3,[[.sl (n.legs.map cLeg),.sl (n.off.map cInt),vi n.change]]⟩,some ⟨.of 28,2,[[vi 0,vi 0]]⟩]⟩
def Zdb (n:Za) (l:List Zc) (closed:List Zg) (weight:Int) (places:List ByteArray) (before:List Int) (from6_:Int) (to_:Int) (ends:Int):Option Zg:=
 (Zj (Zb4 n l closed weight places before from6_ to_ ends) NN 0).bind (Zu (fun o0=>
 some (⟨0,0⟩:Zg)) (fun r=>some r))
instance (n:Za) (l:List Zc) (closed:List Zg) (weight:Int) (places:List ByteArray) (before:List Int) (from6_:Int) (to_:Int) (ends:Int):CT Tryz.prog (Zdb n l closed weight places before from6_ to_ ends):=⟨244,[.ag (Z2 n),.sl (l.map Zk),.sl (closed.map ZS),vi weight,.sl (places.map cStr),.sl (before.map cInt),vi from6_,vi to_,vi ends],[],fun r=>.ag [vi r.leg,vi r.day],fun r=>[],fun H=>by replace H:=H0 H; unfold Zdb at H; exact Zd Tryz.func244 rfl Tryz.ntmps244 Tryz.results244 fun Q hQ hQn=>wk3⟩
def ZeE (n:Za) (l:List Zc) (closed:List Zg) (from3_:ByteArray) (at5_:Int) (weight:Int) (y1:(List ByteArray)) (y2:Int) (y3:Int) (y6:Int) (s0:Int):Option (Int ⊕ Int):=
 (ZaH n l closed from3_ at5_ weight s0).bind fun y7=>
 (getI y7 y3).bind fun y8=>
 cond (!decide (y8=y6))
 (some (.inl (w64 (s0+1))))
 (some (.inr s0))
instance (n:Za) (l:List Zc) (closed:List Zg) (from3_:ByteArray) (at5_:Int) (weight:Int) (y1:(List ByteArray)) (y2:Int) (y3:Int) (y6:Int):Z1 (ZeE n l closed from3_ at5_ weight y1 y2 y3 y6):=⟨fun s0=>(.un::.sl (l.map Zk)::.sl (closed.map ZS)::vs from3_::.un::vi at5_::vi weight::.be 0 0 0::(U 8 (.ms 1::vi y2::vi y3::.un::.ms 2::vi y6::vi s0::(U 97 [])))),fun s0=>[some ⟨.of 80,3,[[.sl (n.legs.map cLeg),.sl (n.off.map cInt),vi n.change]]⟩,some ⟨.of 9,1,y1.map cStr⟩,some ⟨.of 28,2,([]:List Zg).map ZS⟩]⟩
def ZeF (n:Za) (l:List Zc) (closed:List Zg) (from3_:ByteArray) (at5_:Int) (weight:Int) (y1:(List ByteArray)) (y2:Int) (s1:Int × Int × Int × (List Zg)):Option ((Int × Int × Int × (List Zg)) ⊕ (List Zg)):=
 cond (decide (0<s1.2.2.1))
 ((ZaH n l closed from3_ at5_ weight (w64 (s1.2.2.1-1))).bind fun y9=>
 (Zdb n l closed weight y1 y9 y2 s1.1 s1.2.1).bind fun y10=>
 (chk (Z9 (([y10]:List Zg).length+(s1.2.2.2:List Zg).length) 16)).bind fun _=>
 (getI n.legs y10.leg).bind fun y11=>
 (ZE y1 y11.from_).bind fun y12=>
 (getI y9 y12).bind fun y13=>
 some (.inl (y12,y13,(w64 (s1.2.2.1-1)),(([y10]:List Zg)++s1.2.2.2))))
 (some (.inr s1.2.2.2))
instance (n:Za) (l:List Zc) (closed:List Zg) (from3_:ByteArray) (at5_:Int) (weight:Int) (y1:(List ByteArray)) (y2:Int):Z1 (ZeF n l closed from3_ at5_ weight y1 y2):=⟨fun s1=>(.un::.sl (l.map Zk)::.sl (closed.map ZS)::vs from3_::.un::vi at5_::vi weight::.be 0 0 0::(U 8 (.ms 1::vi y2::vi s1.1::.un::.ms 2::vi s1.2.1::.un::vi s1.2.2.1::(U 96 [])))),fun s1=>[some ⟨.of 80,3,[[.sl (n.legs.map cLeg),.sl (n.off.map cInt),vi n.change]]⟩,some ⟨.of 9,1,y1.map cStr⟩,some ⟨.of 28,2,s1.2.2.2.map ZS⟩]⟩
def Zbn (n:Za) (l:List Zc) (closed:List Zg) (from3_:ByteArray) (to_:ByteArray) (at5_:Int) (weight:Int):Option ((List Zg) × Bool):=
 (Z0 n).bind fun y1=>
 (ZE y1 from3_).bind fun y2=>
 (ZE y1 to_).bind fun y3=>
 (ZaH n l closed from3_ at5_ weight (y1.length:Int)).bind fun y4=>
 cond (decide (y3<0))
 (some (([]:List Zg),false))
 (cond (decide ((y4.length:Int)=0))
 (some (([]:List Zg),false))
 ((getI y4 y3).bind fun y5=>
 cond (decide (y5<0))
 (some (([]:List Zg),false))
 ((getI y4 y3).bind fun y6=>
 (Zj (ZeE n l closed from3_ at5_ weight y1 y2 y3 y6) NN 0).bind (fun o0=>
 (Zj (ZeF n l closed from3_ at5_ weight y1 y2) NN (y3,y6,o0,([]:List Zg))).bind (fun o1=>
 some (o1,true))))))
instance (n:Za) (l:List Zc) (closed:List Zg) (from3_:ByteArray) (to_:ByteArray) (at5_:Int) (weight:Int):CT Tryz.prog (Zbn n l closed from3_ to_ at5_ weight):=⟨224,[.ag (Z2 n),.sl (l.map Zk),.sl (closed.map ZS),vs from3_,vs to_,vi at5_,vi weight],[],fun r=>.tu [.ms 0,vb r.2],fun r=>[some ⟨.of 28,2,r.1.map ZS⟩],fun H=>by replace H:=H0 H; unfold Zbn at H; exact Zd Tryz.func224 rfl Tryz.ntmps224 Tryz.results224 fun Q hQ hQn=>wk3⟩
def Zbt (w:Ze) (i:Int):Option Ze:=
 (getI w.orders i).bind fun y1=>
 (Za3 y1).bind fun y2=>
 cond (decide (0<y2))
 ((getI y1.way (w64 (y2-1))).bind fun y3=>
 (Zv w.network y3).bind fun y4=>
 (Zds (w64 (w.now+1)) (w64 (y4+w.network.change))).bind fun y5=>
 (ZcK w.network w.bookings (w64 (i+1)) (w64 (w.now+1))).bind fun y6=>
 (Zao w.network y1).bind fun y7=>
 (Zbn w.network y6 w.closed y7 y1.to_ y5 y1.weight).bind fun y8=>
 (ZbI w.network y6 (w64 (i+1)) y1.weight y8.1).bind fun y9=>
 (chk (slOk 0 y2 y1.way.length)).bind fun _=>
 (chk (Z9 ((([]:List Zg):List Zg).length+((subL y1.way 0 y2):List Zg).length) 16)).bind fun _=>
 (getI w.orders i).bind fun y10=>
 cond y9.2
 ((getI w.orders i).bind fun y11=>
 (chk (Z9 ((((([]:List Zg):List Zg)++(subL y1.way 0 y2)):List Zg).length+(y8.1:List Zg).length) 16)).bind fun _=>
 (getI w.orders i).bind fun y12=>
 some (⟨w.network,(w.orders.set (Int.toNat i) (⟨y10.from_,y10.to_,y10.service,y10.weight,y10.at_,y10.due,((((([]:List Zg):List Zg)++(subL y1.way 0 y2)):List Zg)++y8.1),y10.gone,y10.state,y10.place,y10.ended⟩:Zh)),y9.1,w.closed,w.now,w.scans,w.skip,w.made⟩:Ze))
 (some (⟨w.network,(w.orders.set (Int.toNat i) (⟨y10.from_,y10.to_,y10.service,y10.weight,y10.at_,y10.due,((([]:List Zg):List Zg)++(subL y1.way 0 y2)),y10.gone,y10.state,y10.place,y10.ended⟩:Zh)),y6,w.closed,w.now,w.scans,w.skip,w.made⟩:Ze)))
 ((ZcK w.network w.bookings (w64 (i+1)) (w64 (w.now+1))).bind fun y13=>
 (Zao w.network y1).bind fun y14=>
 (Zbn w.network y13 w.closed y14 y1.to_ (w64 (w.now+1)) y1.weight).bind fun y15=>
 (ZbI w.network y13 (w64 (i+1)) y1.weight y15.1).bind fun y16=>
 (chk (slOk 0 y2 y1.way.length)).bind fun _=>
 (chk (Z9 ((([]:List Zg):List Zg).length+((subL y1.way 0 y2):List Zg).length) 16)).bind fun _=>
 (getI w.orders i).bind fun y17=>
 cond y16.2
 ((getI w.orders i).bind fun y18=>
 (chk (Z9 ((((([]:List Zg):List Zg)++(subL y1.way 0 y2)):List Zg).length+(y15.1:List Zg).length) 16)).bind fun _=>
 (getI w.orders i).bind fun y19=>
 some (⟨w.network,(w.orders.set (Int.toNat i) (⟨y17.from_,y17.to_,y17.service,y17.weight,y17.at_,y17.due,((((([]:List Zg):List Zg)++(subL y1.way 0 y2)):List Zg)++y15.1),y17.gone,y17.state,y17.place,y17.ended⟩:Zh)),y16.1,w.closed,w.now,w.scans,w.skip,w.made⟩:Ze))
 (some (⟨w.network,(w.orders.set (Int.toNat i) (⟨y17.from_,y17.to_,y17.service,y17.weight,y17.at_,y17.due,((([]:List Zg):List Zg)++(subL y1.way 0 y2)),y17.gone,y17.state,y17.place,y17.ended⟩:Zh)),y13,w.closed,w.now,w.scans,w.skip,w.made⟩:Ze)))
instance (w:Ze) (i:Int):CT Tryz.prog (Zbt w i):=⟨195,[.be 0 0 0,vi i],[some ⟨.of 86,10,[[.ms 1,.ms 2,vi w.network.change,.ms 3,.ms 4,.ms 5,vi w.now,.ms 6,.ms 7,vi w.made]]⟩,some ⟨.of 133,6,w.network.legs.map cLeg⟩,some ⟨.of 3,1,w.network.off.map cInt⟩,some ⟨.of 226,11,w.orders.map ZV⟩,some ⟨.of 175,4,w.bookings.map Zk⟩,some ⟨.of 28,2,w.closed.map ZS⟩,some ⟨.of 233,6,w.scans.map Zax⟩,some ⟨.of 3,1,w.skip.map cInt⟩],fun r=>.tu [],fun r=>[some ⟨.of 86,10,[[.ms 1,.ms 2,vi r.network.change,.ms 3,.ms 8,.ms 5,vi r.now,.ms 6,.ms 7,vi r.made]]⟩,some ⟨.of 133,6,r.network.legs.map cLeg⟩,some ⟨.of 3,1,r.network.off.map cInt⟩,some ⟨.of 226,11,r.orders.map ZV⟩,none,some ⟨.of 28,2,r.closed.map ZS⟩,some ⟨.of 233,6,r.scans.map Zax⟩,some ⟨.of 3,1,r.skip.map cInt⟩,some ⟨.of 175,4,r.bookings.map Zk⟩],fun H=>by replace H:=H0 H; unfold Zbt at H; exact Zd Tryz.func195 rfl Tryz.ntmps195 Tryz.results195 fun Q hQ hQn=>wk3⟩
end Go.Proofs.YtkfbakhnpfmfmaaGreatDoor
