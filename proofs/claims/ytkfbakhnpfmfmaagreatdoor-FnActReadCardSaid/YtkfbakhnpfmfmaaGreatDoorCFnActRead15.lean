/- A part of the proof of the statement in the last file of this claim: texts on the language of the program and on its functions. No condition. -/
import Derived.Test.YtkfbakhnpfmfmaaGreatDoorCFnActRead4
import Derived.Test.YtkfbakhnpfmfmaaGreatDoorCFnActRead6
import Derived.Test.YtkfbakhnpfmfmaaGreatDoorCFnActRead10
import Derived.Test.YtkfbakhnpfmfmaaGreatDoorCFnActRead14
set_option linter.unusedVariables false
set_option linter.unusedSimpArgs false
set_option linter.unusedSectionVars false
namespace Go.Proofs.YtkfbakhnpfmfmaaGreatDoor
set_option maxRecDepth 10000
open Go.RowKit
set_option linter.unusedVariables false
set_option maxHeartbeats 16000000
def Zcm (w:Ze) (i:Int) (y1:Zh) (s0:ByteArray × Int):Option ((ByteArray × Int) ⊕ (ByteArray ⊕ Bool)):=
 cond (decide (s0.2<(y1.way.length:Int)))
 ((getI y1.way s0.2).bind fun y10=>
 (getI y1.way s0.2).bind fun y11=>
 (ZW w.network y10.leg y11.day).bind fun y12=>
 cond (!y12)
 (some (.inr (.inr false)))
 ((getI y1.way s0.2).bind fun y13=>
 (Zdn w.bookings (w64 (i+1)) y13 y1.weight).bind fun y14=>
 cond (!y14)
 (some (.inr (.inr false)))
 ((getI y1.way s0.2).bind fun y15=>
 (getI w.network.legs y15.leg).bind fun y16=>
 cond (decide (y16.to_=y1.to_))
 (cond (decide ((w64 (s0.2+1))<(y1.way.length:Int)))
 (some (.inr (.inr false)))
 (some (.inl (y16.to_,(w64 (s0.2+1))))))
 (some (.inl (y16.to_,(w64 (s0.2+1))))))))
 (some (.inr (.inl s0.1)))
instance (w:Ze) (i:Int) (y1:Zh):Z1 (Zcm w i y1):=⟨fun s0=>(.un::vi i::.be 0 0 0::.un::.un::.be 1 0 0::.be 2 0 0::.un::vs s0.1::vi s0.2::(U 162 [])),fun s0=>[some ⟨.of 86,10,[[.sl (w.network.legs.map cLeg),.sl (w.network.off.map cInt),vi w.network.change,.sl (w.orders.map ZV),.sl (w.bookings.map Zk),.sl (w.closed.map ZS),vi w.now,.sl (w.scans.map Zax),.sl (w.skip.map cInt),vi w.made]]⟩,some ⟨.of 80,3,[[.sl (w.network.legs.map cLeg),.sl (w.network.off.map cInt),vi w.network.change]]⟩,some ⟨.of 226,11,[[vs y1.from_,vs y1.to_,vi y1.service,vi y1.weight,vi y1.at_,vi y1.due,.sl (y1.way.map ZS),vi y1.gone,vi y1.state,vs y1.place,vi y1.ended]]⟩]⟩
def Zby (w:Ze) (y1:Zh) (s1:Int):Option (Int ⊕ (Unit ⊕ Bool)):=
 cond (decide (s1<(y1.way.length:Int)))
 ((getI y1.way s1).bind fun y20=>
 (Zbp w.closed y20).bind fun y21=>
 cond y21
 (some (.inr (.inr false)))
 (some (.inl (w64 (s1+1)))))
 (some (.inr (.inl ())))
instance (w:Ze) (y1:Zh):Z1 (Zby w y1):=⟨fun s1=>(.un::.un::.be 0 0 0::(U 3 (.be 1 0 0::(U 3 (vi s1::(U 161 [])))))),fun s1=>[some ⟨.of 86,10,[[.sl (w.network.legs.map cLeg),.sl (w.network.off.map cInt),vi w.network.change,.sl (w.orders.map ZV),.sl (w.bookings.map Zk),.sl (w.closed.map ZS),vi w.now,.sl (w.scans.map Zax),.sl (w.skip.map cInt),vi w.made]]⟩,some ⟨.of 226,11,[[vs y1.from_,vs y1.to_,vi y1.service,vi y1.weight,vi y1.at_,vi y1.due,.sl (y1.way.map ZS),vi y1.gone,vi y1.state,vs y1.place,vi y1.ended]]⟩]⟩
def ZdH (w:Ze) (i:Int):Option Bool:=
 (getI w.orders i).bind fun y1=>
 (Z0 w.network).bind fun y2=>
 (ZE y2 y1.from_).bind fun y3=>
 cond (decide (y3<0))
 (some false)
 ((ZE y2 y1.to_).bind fun y4=>
 cond (decide (y4<0))
 (some false)
 (cond (decide (y1.from_=y1.to_))
 (some false)
 ((Zl y1.service 1 3).bind fun y5=>
 cond (!y5)
 (some false)
 ((Zl y1.weight 1 30000).bind fun y6=>
 cond (!y6)
 (some false)
 ((Zl y1.at_ 0 w.now).bind fun y7=>
 cond (!y7)
 (some false)
 ((Zl y1.due 0 200000).bind fun y8=>
 cond (!y8)
 (some false)
 ((Zl y1.gone 0 (y1.way.length:Int)).bind fun y9=>
 cond (!y9)
 (some false)
 ((Zj (Zcm w i y1) NN (y1.from_,0)).bind (Zu (fun o0=>
 (Zci w.network y1.way y1.from_ o0 (w64 (y1.at_+1))).bind fun y17=>
 cond (!y17)
 (some false)
 ((ZP w.network y1 w.now).bind fun y18=>
 cond (!y18)
 (some false)
 ((Za3 y1).bind fun y19=>
 (Zj (Zby w y1) NN y19).bind (Zu (fun o1=>
 some true) (fun r=>some r))))) (fun r=>some r))))))))))
instance (w:Ze) (i:Int):CT Tryz.prog (ZdH w i):=⟨183,[.ag (Ze0 w),vi i],[],fun r=>vb r,fun r=>[],fun H=>by replace H:=H0 H; unfold ZdH at H; exact Zd Tryz.func183 rfl Tryz.ntmps183 Tryz.results183 fun Q hQ hQn=>wk3⟩
def ZcL (w:Ze) (s0:Int):Option (Int ⊕ (Unit ⊕ Bool)):=
 cond (decide (s0<(w.closed.length:Int)))
 ((getI w.closed s0).bind fun y4=>
 (getI w.closed s0).bind fun y5=>
 (ZW w.network y4.leg y5.day).bind fun y6=>
 cond (!y6)
 (some (.inr (.inr false)))
 ((chk (slOk 0 s0 w.closed.length)).bind fun _=>
 (getI w.closed s0).bind fun y7=>
 (Zbp (subL w.closed 0 s0) y7).bind fun y8=>
 cond y8
 (some (.inr (.inr false)))
 (some (.inl (w64 (s0+1))))))
 (some (.inr (.inl ())))
instance (w:Ze):Z1 (ZcL w):=⟨fun s0=>(.un::.be 0 0 0::.un::vi s0::(U 135 [])),fun s0=>[some ⟨.of 86,10,[[.sl (w.network.legs.map cLeg),.sl (w.network.off.map cInt),vi w.network.change,.sl (w.orders.map ZV),.sl (w.bookings.map Zk),.sl (w.closed.map ZS),vi w.now,.sl (w.scans.map Zax),.sl (w.skip.map cInt),vi w.made]]⟩]⟩
def ZcM (w:Ze) (s1:Int):Option (Int ⊕ (Unit ⊕ Bool)):=
 cond (decide (s1<(w.scans.length:Int)))
 ((getI w.scans s1).bind fun y9=>
 (Z6 w.network y9).bind fun y10=>
 cond (!y10)
 (some (.inr (.inr false)))
 ((getI w.scans s1).bind fun y11=>
 cond (decide (w.now<y11.at_))
 (some (.inr (.inr false)))
 (some (.inl (w64 (s1+1))))))
 (some (.inr (.inl ())))
instance (w:Ze):Z1 (ZcM w):=⟨fun s1=>(.un::.be 0 0 0::.un::.un::vi s1::(U 134 [])),fun s1=>[some ⟨.of 86,10,[[.sl (w.network.legs.map cLeg),.sl (w.network.off.map cInt),vi w.network.change,.sl (w.orders.map ZV),.sl (w.bookings.map Zk),.sl (w.closed.map ZS),vi w.now,.sl (w.scans.map Zax),.sl (w.skip.map cInt),vi w.made]]⟩]⟩
def ZcN (w:Ze) (s2:Int × Int):Option ((Int × Int) ⊕ (Int ⊕ Bool)):=
 cond (decide (s2.2<(w.orders.length:Int)))
 ((ZdH w s2.2).bind fun y12=>
 cond (!y12)
 (some (.inr (.inr false)))
 ((getI w.orders s2.2).bind fun y13=>
 some (.inl ((w64 (s2.1+(y13.way.length:Int))),(w64 (s2.2+1))))))
 (some (.inr (.inl s2.1)))
instance (w:Ze):Z1 (ZcN w):=⟨fun s2=>(.un::.be 0 0 0::(U 3 (vi s2.1::vi s2.2::(U 132 [])))),fun s2=>[some ⟨.of 86,10,[[.sl (w.network.legs.map cLeg),.sl (w.network.off.map cInt),vi w.network.change,.sl (w.orders.map ZV),.sl (w.bookings.map Zk),.sl (w.closed.map ZS),vi w.now,.sl (w.scans.map Zax),.sl (w.skip.map cInt),vi w.made]]⟩]⟩
def ZaI (w:Ze):Option Bool:=
 (Zaq w.network w.bookings).bind fun y1=>
 cond (!y1)
 (some false)
 ((Zl w.now 0 100000).bind fun y2=>
 cond (!y2)
 (some false)
 (cond (decide (30<(w.orders.length:Int)))
 (some false)
 (cond (decide (20<(w.closed.length:Int)))
 (some false)
 (cond (decide (200<(w.scans.length:Int)))
 (some false)
 (cond (decide (50<(w.skip.length:Int)))
 (some false)
 ((Zl w.made (w.scans.length:Int) 1000000000).bind fun y3=>
 cond (!y3)
 (some false)
 ((Zj (ZcL w) NN 0).bind (Zu (fun o0=>
 (Zj (ZcM w) NN 0).bind (Zu (fun o1=>
 (Zj (ZcN w) NN (0,0)).bind (Zu (fun o2=>
 some (decide (o2=(w.bookings.length:Int)))) (fun r=>some r))) (fun r=>some r))) (fun r=>some r)))))))))
instance (w:Ze):CT Tryz.prog (ZaI w):=⟨148,[.ag (Ze0 w)],[],fun r=>vb r,fun r=>[],fun H=>by replace H:=H0 H; unfold ZaI at H; exact Zd Tryz.func148 rfl Tryz.ntmps148 Tryz.results148 fun Q hQ hQn=>wk3⟩
end Go.Proofs.YtkfbakhnpfmfmaaGreatDoor
