/- A part of the proof of the statement in the last file of this claim: texts on the language of the program and on its functions. No condition. -/
import Derived.Test.YtkfbakhnpfmfmaaGreatDoorCFnActRead4
import Derived.Test.YtkfbakhnpfmfmaaGreatDoorCFnActRead6
set_option linter.unusedVariables false
set_option linter.unusedSimpArgs false
set_option linter.unusedSectionVars false
namespace Go.Proofs.YtkfbakhnpfmfmaaGreatDoor
set_option maxRecDepth 10000
open Go.RowKit
set_option linter.unusedVariables false
set_option maxHeartbeats 16000000
def Zcl (n:Za) (leg:Int) (day:Int):Option Bool:=
 (Zm n).bind fun y1=>
 cond y1
 ((ZW n leg day).bind fun y2=>
 some y2)
 (some false)
instance (n:Za) (leg:Int) (day:Int):CT Tryz.prog (Zcl n leg day):=⟨230,[.ag (Z2 n),vi leg,vi day],[],fun r=>vb r,fun r=>[],fun H=>by replace H:=H0 H; unfold Zcl at H; exact Zd Tryz.func230 rfl Tryz.ntmps230 Tryz.results230 fun Q hQ hQn=>wk3⟩
def Zal (n:Za) (t:Zg):Option Bool:=
 (Zcl n t.leg t.day).bind fun y1=>
 some y1
instance (n:Za) (t:Zg):CT Tryz.prog (Zal n t):=⟨192,[.ag (Z2 n),.ag (ZS t)],[],fun r=>vb r,fun r=>[],fun H=>by replace H:=H0 H; unfold Zal at H; exact Zd Tryz.func192 rfl Tryz.ntmps192 Tryz.results192 fun Q hQ hQn=>wk3⟩
def Zc9 (l:List Zc) (thing:Int) (t:Zg) (weight:Int) (s0:Int):Option (Int ⊕ (Unit ⊕ Bool)):=
 cond (decide (s0<(l.length:Int)))
 ((getI l s0).bind fun y1=>
 cond (decide (y1=(⟨thing,t,weight⟩:Zc)))
 (some (.inr (.inr true)))
 (some (.inl (w64 (s0+1)))))
 (some (.inr (.inl ())))
instance (l:List Zc) (thing:Int) (t:Zg) (weight:Int):Z1 (Zc9 l thing t weight):=⟨fun s0=>(.sl (l.map Zk)::vi thing::.un::vi weight::.un::.un::.be 0 0 0::.un::.un::vi s0::(U 15 [])),fun s0=>[some ⟨.of 28,2,[[vi t.leg,vi t.day]]⟩]⟩
def Zdn (l:List Zc) (thing:Int) (t:Zg) (weight:Int):Option Bool:=
 (Zj (Zc9 l thing t weight) NN 0).bind (Zu (fun o0=>
 some false) (fun r=>some r))
instance (l:List Zc) (thing:Int) (t:Zg) (weight:Int):CT Tryz.prog (Zdn l thing t weight):=⟨219,[.sl (l.map Zk),vi thing,.ag (ZS t),vi weight],[],fun r=>vb r,fun r=>[],fun H=>by replace H:=H0 H; unfold Zdn at H; exact Zd Tryz.func219 rfl Tryz.ntmps219 Tryz.results219 fun Q hQ hQn=>wk3⟩
def Z6 (n:Za) (s:ZU):Option Bool:=
 (Zm n).bind fun y1=>
 cond (!y1)
 (some false)
 ((Zl s.thing 1 9999).bind fun y2=>
 cond (!y2)
 (some false)
 ((Zl s.at_ 0 100000).bind fun y3=>
 cond (!y3)
 (some false)
 (cond (decide (s.kind=1))
 (cond (decide (s.kind=1))
 ((Z0 n).bind fun y4=>
 (ZE y4 s.place).bind fun y5=>
 cond (decide (0≤y5))
 (some (decide (s.trip=(⟨0,0⟩:Zg))))
 (some false))
 (cond (decide (s.kind=3))
 (cond (decide (s.place=⟨#[]⟩))
 ((Zal n s.trip).bind fun y6=>
 cond y6
 ((Zt n s.trip).bind fun y7=>
 some (decide (s.at_≤y7)))
 (some false))
 (some false))
 (cond (decide (s.kind=2))
 (cond (decide (s.place=⟨#[]⟩))
 ((Zal n s.trip).bind fun y8=>
 cond y8
 ((Zv n s.trip).bind fun y9=>
 some (decide (y9≤s.at_)))
 (some false))
 (some false))
 (some false))))
 (cond (decide (s.kind=4))
 ((Z0 n).bind fun y10=>
 (ZE y10 s.place).bind fun y11=>
 cond (decide (0≤y11))
 (some (decide (s.trip=(⟨0,0⟩:Zg))))
 (some false))
 (cond (decide (s.kind=3))
 (cond (decide (s.place=⟨#[]⟩))
 ((Zal n s.trip).bind fun y12=>
 cond y12
 ((Zt n s.trip).bind fun y13=>
 some (decide (s.at_≤y13)))
 (some false))
 (some false))
 (cond (decide (s.kind=2))
 (cond (decide (s.place=⟨#[]⟩))
 ((Zal n s.trip).bind fun y14=>
 cond y14
 ((Zv n s.trip).bind fun y15=>
 some (decide (y15≤s.at_)))
 (some false))
 (some false))
 (some false)))))))
instance (n:Za) (s:ZU):CT Tryz.prog (Z6 n s):=⟨182,[.ag (Z2 n),.ag (Zax s)],[],fun r=>vb r,fun r=>[],fun H=>by replace H:=H0 H; unfold Z6 at H; exact Zd Tryz.func182 rfl Tryz.ntmps182 Tryz.results182 fun Q hQ hQn=>wk3⟩
def ZbX (n:Za) (way:List Zg) (to_:ByteArray) (s0:ByteArray × Int × Int):Option ((ByteArray × Int × Int) ⊕ (ByteArray ⊕ Bool)):=
 cond (decide (s0.2.2<(way.length:Int)))
 ((getI way s0.2.2).bind fun y5=>
 (Zal n y5).bind fun y6=>
 cond (!y6)
 (some (.inr (.inr false)))
 ((getI way s0.2.2).bind fun y7=>
 (getI n.legs y7.leg).bind fun y8=>
 cond (!decide (y8.from_=s0.1))
 (some (.inr (.inr false)))
 ((getI way s0.2.2).bind fun y9=>
 (Zt n y9).bind fun y10=>
 cond (decide (y10<s0.2.1))
 (some (.inr (.inr false)))
 ((getI way s0.2.2).bind fun y11=>
 (getI n.legs y11.leg).bind fun y12=>
 (getI way s0.2.2).bind fun y13=>
 (Zv n y13).bind fun y14=>
 some (.inl (y12.to_,(w64 (y14+n.change)),(w64 (s0.2.2+1))))))))
 (some (.inr (.inl s0.1)))
instance (n:Za) (way:List Zg) (to_:ByteArray):Z1 (ZbX n way to_):=⟨fun s0=>(.un::.sl (way.map ZS)::.un::vs to_::.un::.be 0 0 0::(U 6 (vs s0.1::vi s0.2.1::vi s0.2.2::(U 78 [])))),fun s0=>[some ⟨.of 80,3,[[.sl (n.legs.map cLeg),.sl (n.off.map cInt),vi n.change]]⟩]⟩
def Zci (n:Za) (way:List Zg) (from2_:ByteArray) (to_:ByteArray) (at4_:Int):Option Bool:=
 (Z0 n).bind fun y1=>
 (Zm n).bind fun y2=>
 cond (!y2)
 (some false)
 ((ZE y1 from2_).bind fun y3=>
 cond (decide (y3<0))
 (some false)
 ((ZE y1 to_).bind fun y4=>
 cond (decide (y4<0))
 (some false)
 ((Zj (ZbX n way to_) NN (from2_,at4_,0)).bind (Zu (fun o0=>
 some (decide (o0=to_))) (fun r=>some r)))))
instance (n:Za) (way:List Zg) (from2_:ByteArray) (to_:ByteArray) (at4_:Int):CT Tryz.prog (Zci n way from2_ to_ at4_):=⟨220,[.ag (Z2 n),.sl (way.map ZS),vs from2_,vs to_,vi at4_],[],fun r=>vb r,fun r=>[],fun H=>by replace H:=H0 H; unfold Zci at H; exact Zd Tryz.func220 rfl Tryz.ntmps220 Tryz.results220 fun Q hQ hQn=>wk3⟩
end Go.Proofs.YtkfbakhnpfmfmaaGreatDoor
