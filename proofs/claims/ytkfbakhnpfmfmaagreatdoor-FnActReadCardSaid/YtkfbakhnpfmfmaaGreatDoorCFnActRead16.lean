/- A part of the proof of the statement in the last file of this claim: texts on the language of the program and on its functions. No condition. -/
import Derived.Test.YtkfbakhnpfmfmaaGreatDoorCFnActRead4
import Derived.Test.YtkfbakhnpfmfmaaGreatDoorCFnActRead11
import Derived.Test.YtkfbakhnpfmfmaaGreatDoorCFnActRead6
import Derived.Test.YtkfbakhnpfmfmaaGreatDoorCFnActRead15
import Derived.Test.YtkfbakhnpfmfmaaGreatDoorCFnActRead10
set_option linter.unusedVariables false
set_option linter.unusedSimpArgs false
set_option linter.unusedSectionVars false
namespace Go.Proofs.YtkfbakhnpfmfmaaGreatDoor
set_option maxRecDepth 10000
open Go.RowKit
set_option linter.unusedVariables false
set_option maxHeartbeats 16000000
def ZbD (w:Ze) (from1_:ByteArray) (to_:ByteArray) (service:Int) (weight:Int):Option (Ze × Int × Bool):=
 (Zam w).bind fun y1=>
 (ZaI w).bind fun y2=>
 cond (!y2)
 (some (y1,0,false))
 (cond (decide (30≤(w.orders.length:Int)))
 (some (y1,0,false))
 (cond (decide (from1_=to_))
 (some (y1,0,false))
 ((Zl service 1 3).bind fun y3=>
 cond (!y3)
 (some (y1,0,false))
 ((Zl weight 1 30000).bind fun y4=>
 cond (!y4)
 (some (y1,0,false))
 ((Zbn w.network w.bookings w.closed from1_ to_ (w64 (w.now+1)) weight).bind fun y5=>
 (ZbI w.network w.bookings (w64 ((w.orders.length:Int)+1)) weight y5.1).bind fun y6=>
 cond (!y5.2)
 (some (y1,0,false))
 (cond (!y6.2)
 (some (y1,0,false))
 ((Zdl w.network service from1_ to_ (w64 (w.now+1))).bind fun y7=>
 (frz (.un::vs from1_::(U 3 (.be 0 0 0::(U 4 (.be 1 0 0::.un::.un::.be 2 0 0::.un::.un::vi (w64 ((w.orders.length:Int)+1))::.un::.un::.be 10 0 0::(U 99 [])))))) [some ⟨.of 86,10,[[.sl (w.network.legs.map cLeg),.sl (w.network.off.map cInt),vi w.network.change,.sl (w.orders.map ZV),.sl (w.bookings.map Zk),.sl (w.closed.map ZS),vi w.now,.sl (w.scans.map Zax),.sl (w.skip.map cInt),vi w.made]]⟩,some ⟨.of 86,10,[[.v (.slice none 0 0),.v (.slice none 0 0),vi 0,.v (.slice none 0 0),.v (.slice none 0 0),.v (.slice none 0 0),vi 0,.v (.slice none 0 0),.v (.slice none 0 0),vi 0]]⟩,some ⟨.of 86,10,[[.ms 3,.ms 4,vi y1.network.change,.ms 5,.ms 6,.ms 7,vi y1.now,.ms 8,.ms 9,vi y1.made]]⟩,some ⟨.of 133,6,y1.network.legs.map cLeg⟩,some ⟨.of 3,1,y1.network.off.map cInt⟩,some ⟨.of 226,11,y1.orders.map ZV⟩,some ⟨.of 175,4,y6.1.map Zk⟩,some ⟨.of 28,2,y1.closed.map ZS⟩,some ⟨.of 233,6,y1.scans.map Zax⟩,some ⟨.of 3,1,y1.skip.map cInt⟩,some ⟨.of 226,11,[[vs from1_,vs to_,vi service,vi weight,vi w.now,vi y7,.sl (y5.1.map ZS),vi 0,vi 1,vs from1_,vi 0]]⟩]).bind fun _=>
 (chk (Z9 ((y1.orders:List Zh).length+([(⟨from1_,to_,service,weight,w.now,y7,y5.1,0,1,from1_,0⟩:Zh)]:List Zh).length) 128)).bind fun _=>
 (rhoM [2,3,4,12,6,7,8,9]).bind fun _=>
 (Zan (⟨y1.network,((y1.orders:List Zh)++[(⟨from1_,to_,service,weight,w.now,y7,y5.1,0,1,from1_,0⟩:Zh)]),y6.1,y1.closed,y1.now,y1.scans,y1.skip,y1.made⟩:Ze) (⟨(w64 ((w.orders.length:Int)+1)),w.now,1,from1_,(⟨0,0⟩:Zg)⟩:ZU)).bind fun y8=>
 some (y8,(w64 ((w.orders.length:Int)+1)),true))))))))
instance (w:Ze) (from1_:ByteArray) (to_:ByteArray) (service:Int) (weight:Int):CT Tryz.prog (ZbD w from1_ to_ service weight):=⟨186,[.ag (Ze0 w),vs from1_,vs to_,vi service,vi weight],[],fun r=>.tu [.ag [.ms 0,.ms 1,vi r.1.network.change,.ms 2,.ms 3,.ms 4,vi r.1.now,.ms 5,.ms 6,vi r.1.made],vi r.2.1,vb r.2.2],fun r=>[some ⟨.of 133,6,r.1.network.legs.map cLeg⟩,some ⟨.of 3,1,r.1.network.off.map cInt⟩,some ⟨.of 226,11,r.1.orders.map ZV⟩,some ⟨.of 175,4,r.1.bookings.map Zk⟩,some ⟨.of 28,2,r.1.closed.map ZS⟩,some ⟨.of 233,6,r.1.scans.map Zax⟩,some ⟨.of 3,1,r.1.skip.map cInt⟩],fun H=>by replace H:=H0 H; unfold ZbD at H; exact Zd Tryz.func186 rfl Tryz.ntmps186 Tryz.results186 fun Q hQ hQn=>wk3⟩
def Zd3 (t:Zg) (s0:Int × Int × Int × Int × (List YLeg) × (List Int) × (List Zh) × (List Zc) × (List Zg) × (List ZU) × (List Int)):Option ((Int × Int × Int × Int × (List YLeg) × (List Int) × (List Zh) × (List Zc) × (List Zg) × (List ZU) × (List Int)) ⊕ (Int × Int × Int × (List YLeg) × (List Int) × (List Zh) × (List Zc) × (List Zg) × (List ZU) × (List Int))):=
 cond (decide (s0.1<(s0.2.2.2.2.2.2.1.length:Int)))
 ((getI s0.2.2.2.2.2.2.1 s0.1).bind fun y6=>
 (Za3 y6).bind fun y7=>
 (chk (slOk y7 (y6.way.length:Int) y6.way.length)).bind fun _=>
 (Zbp (subL y6.way y7 (y6.way.length:Int)) t).bind fun y8=>
 cond y8
 ((rhoM [2,3,4,5,6,7,8,9]).bind fun _=>
 (Zbt (⟨(⟨s0.2.2.2.2.1,s0.2.2.2.2.2.1,s0.2.1⟩:Za),s0.2.2.2.2.2.2.1,s0.2.2.2.2.2.2.2.1,s0.2.2.2.2.2.2.2.2.1,s0.2.2.1,s0.2.2.2.2.2.2.2.2.2.1,s0.2.2.2.2.2.2.2.2.2.2,s0.2.2.2.1⟩:Ze) s0.1).bind fun y9=>
 some (.inl ((w64 (s0.1+1)),y9.network.change,y9.now,y9.made,y9.network.legs,y9.network.off,y9.orders,y9.bookings,y9.closed,y9.scans,y9.skip)))
 (some (.inl ((w64 (s0.1+1)),s0.2.1,s0.2.2.1,s0.2.2.2.1,s0.2.2.2.2.1,s0.2.2.2.2.2.1,s0.2.2.2.2.2.2.1,s0.2.2.2.2.2.2.2.1,s0.2.2.2.2.2.2.2.2.1,s0.2.2.2.2.2.2.2.2.2.1,s0.2.2.2.2.2.2.2.2.2.2))))
 (some (.inr (s0.2.1,s0.2.2.1,s0.2.2.2.1,s0.2.2.2.2.1,s0.2.2.2.2.2.1,s0.2.2.2.2.2.2.1,s0.2.2.2.2.2.2.2.1,s0.2.2.2.2.2.2.2.2.1,s0.2.2.2.2.2.2.2.2.2.1,s0.2.2.2.2.2.2.2.2.2.2)))
instance (t:Zg):Z1 (Zd3 t):=⟨fun s0=>(U 3 (.be 0 0 0::.be 1 0 0::.un::.be 2 0 0::vi s0.1::(U 63 []))),fun s0=>[some ⟨.of 28,2,[[vi t.leg,vi t.day]]⟩,some ⟨.of 86,10,[[.v (.slice none 0 0),.v (.slice none 0 0),vi 0,.v (.slice none 0 0),.v (.slice none 0 0),.v (.slice none 0 0),vi 0,.v (.slice none 0 0),.v (.slice none 0 0),vi 0]]⟩,some ⟨.of 86,10,[[.ms 3,.ms 4,vi s0.2.1,.ms 5,.ms 6,.ms 7,vi s0.2.2.1,.ms 8,.ms 9,vi s0.2.2.2.1]]⟩,some ⟨.of 133,6,s0.2.2.2.2.1.map cLeg⟩,some ⟨.of 3,1,s0.2.2.2.2.2.1.map cInt⟩,some ⟨.of 226,11,s0.2.2.2.2.2.2.1.map ZV⟩,some ⟨.of 175,4,s0.2.2.2.2.2.2.2.1.map Zk⟩,some ⟨.of 28,2,s0.2.2.2.2.2.2.2.2.1.map ZS⟩,some ⟨.of 233,6,s0.2.2.2.2.2.2.2.2.2.1.map Zax⟩,some ⟨.of 3,1,s0.2.2.2.2.2.2.2.2.2.2.map cInt⟩]⟩
def Za8 (w:Ze) (t:Zg):Option (Ze × Bool):=
 (Zam w).bind fun y1=>
 (ZaI w).bind fun y2=>
 cond (!y2)
 (some (y1,false))
 ((Zal w.network t).bind fun y3=>
 cond (!y3)
 (some (y1,false))
 ((Zt w.network t).bind fun y4=>
 cond (decide (y4≤w.now))
 (some (y1,false))
 ((Zbp w.closed t).bind fun y5=>
 cond y5
 (some (y1,false))
 (cond (decide (20≤(w.closed.length:Int)))
 (some (y1,false))
 ((chk (Z9 ((y1.closed:List Zg).length+([t]:List Zg).length) 16)).bind fun _=>
 (Zj (Zd3 t) NN (0,y1.network.change,y1.now,y1.made,y1.network.legs,y1.network.off,y1.orders,y1.bookings,((y1.closed:List Zg)++[t]),y1.scans,y1.skip)).bind (fun o0=>
 some ((⟨(⟨o0.2.2.2.1,o0.2.2.2.2.1,o0.1⟩:Za),o0.2.2.2.2.2.1,o0.2.2.2.2.2.2.1,o0.2.2.2.2.2.2.2.1,o0.2.1,o0.2.2.2.2.2.2.2.2.1,o0.2.2.2.2.2.2.2.2.2,o0.2.2.1⟩:Ze),true)))))))
instance (w:Ze) (t:Zg):CT Tryz.prog (Za8 w t):=⟨156,[.ag (Ze0 w),.ag (ZS t)],[],fun r=>.tu [.ag [.ms 0,.ms 1,vi r.1.network.change,.ms 2,.ms 3,.ms 4,vi r.1.now,.ms 5,.ms 6,vi r.1.made],vb r.2],fun r=>[some ⟨.of 133,6,r.1.network.legs.map cLeg⟩,some ⟨.of 3,1,r.1.network.off.map cInt⟩,some ⟨.of 226,11,r.1.orders.map ZV⟩,some ⟨.of 175,4,r.1.bookings.map Zk⟩,some ⟨.of 28,2,r.1.closed.map ZS⟩,some ⟨.of 233,6,r.1.scans.map Zax⟩,some ⟨.of 3,1,r.1.skip.map cInt⟩],fun H=>by replace H:=H0 H; unfold Za8 at H; exact Zd Tryz.func156 rfl Tryz.ntmps156 Tryz.results156 fun Q hQ hQn=>wk3⟩
end Go.Proofs.YtkfbakhnpfmfmaaGreatDoor
