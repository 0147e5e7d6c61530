/- A part of the proof of the statement in the last file of this claim: texts on the language of the program and on its functions. No condition. -/
import Derived.Test.YtkfbakhnpfmfmaaGreatDoorCFnActRead4
import Derived.Test.YtkfbakhnpfmfmaaGreatDoorCFnActRead6
import Derived.Test.YtkfbakhnpfmfmaaGreatDoorCFnActRead15
import Derived.Test.YtkfbakhnpfmfmaaGreatDoorCFnActRead11
set_option linter.unusedVariables false
set_option linter.unusedSimpArgs false
set_option linter.unusedSectionVars false
namespace Go.Proofs.YtkfbakhnpfmfmaaGreatDoor
set_option maxRecDepth 10000
open Go.RowKit
set_option linter.unusedVariables false
set_option maxHeartbeats 16000000
def Zba (w:Ze) (s0:Int × Int):Option ((Int × Int) ⊕ Int):=
 cond (decide (s0.1<(w.orders.length:Int)))
 ((getI w.orders s0.1).bind fun y2=>
 cond (decide (y2.gone=(y2.way.length:Int)))
 (some (.inl ((w64 (s0.1+1)),s0.2)))
 ((getI y2.way y2.gone).bind fun y3=>
 (Zt w.network y3).bind fun y4=>
 cond (decide (y2.state=2))
 ((getI y2.way y2.gone).bind fun y5=>
 (Zv w.network y5).bind fun y6=>
 cond (decide (s0.2<0))
 (some (.inl ((w64 (s0.1+1)),y6)))
 (cond (decide (y6<s0.2))
 (some (.inl ((w64 (s0.1+1)),y6)))
 (some (.inl ((w64 (s0.1+1)),s0.2)))))
 (cond (decide (s0.2<0))
 (some (.inl ((w64 (s0.1+1)),y4)))
 (cond (decide (y4<s0.2))
 (some (.inl ((w64 (s0.1+1)),y4)))
 (some (.inl ((w64 (s0.1+1)),s0.2)))))))
 (some (.inr s0.2))
instance (w:Ze):Z1 (Zba w):=⟨fun s0=>(.un::.be 0 0 0::.un::vi s0.2::vi s0.1::(U 54 [])),fun s0=>[some ⟨.of 86,10,[[.sl (w.network.legs.map cLeg),.sl (w.network.off.map cInt),vi w.network.change,.sl (w.orders.map ZV),.sl (w.bookings.map Zk),.sl (w.closed.map ZS),vi w.now,.sl (w.scans.map Zax),.sl (w.skip.map cInt),vi w.made]]⟩]⟩
def Zdk (w:Ze):Option Int:=
 (ZaI w).bind fun y1=>
 cond (!y1)
 (some (-1))
 ((Zj (Zba w) NN (0,(-1))).bind (fun o0=>
 some o0))
instance (w:Ze):CT Tryz.prog (Zdk w):=⟨190,[.ag (Ze0 w)],[],fun r=>vi r,fun r=>[],fun H=>by replace H:=H0 H; unfold Zdk at H; exact Zd Tryz.func190 rfl Tryz.ntmps190 Tryz.results190 fun Q hQ hQn=>wk3⟩
def Zb9 (until_:Int) (s0:Int × Int × Int × Int × (List YLeg) × (List Int) × (List Zh) × (List Zc) × (List Zg) × (List ZU) × (List Int)):Option ((Int × Int × Int × Int × (List YLeg) × (List Int) × (List Zh) × (List Zc) × (List Zg) × (List ZU) × (List Int)) ⊕ (Int × Int × Int × (List YLeg) × (List Int) × (List Zh) × (List Zc) × (List Zg) × (List ZU) × (List Int))):=
 cond (decide (s0.1<240))
 ((Zdk (⟨(⟨s0.2.2.2.2.1,s0.2.2.2.2.2.1,s0.2.1⟩:Za),s0.2.2.2.2.2.2.1,s0.2.2.2.2.2.2.2.1,s0.2.2.2.2.2.2.2.2.1,s0.2.2.1,s0.2.2.2.2.2.2.2.2.2.1,s0.2.2.2.2.2.2.2.2.2.2,s0.2.2.2.1⟩:Ze)).bind fun y4=>
 cond (decide (y4<0))
 (some (.inr (s0.2.1,s0.2.2.1,s0.2.2.2.1,s0.2.2.2.2.1,s0.2.2.2.2.2.1,s0.2.2.2.2.2.2.1,s0.2.2.2.2.2.2.2.1,s0.2.2.2.2.2.2.2.2.1,s0.2.2.2.2.2.2.2.2.2.1,s0.2.2.2.2.2.2.2.2.2.2)))
 (cond (decide (until_<y4))
 (some (.inr (s0.2.1,s0.2.2.1,s0.2.2.2.1,s0.2.2.2.2.1,s0.2.2.2.2.2.1,s0.2.2.2.2.2.2.1,s0.2.2.2.2.2.2.2.1,s0.2.2.2.2.2.2.2.2.1,s0.2.2.2.2.2.2.2.2.2.1,s0.2.2.2.2.2.2.2.2.2.2)))
 ((rhoM [1,2,3,4,5,6,7,8]).bind fun _=>
 (ZdD (⟨(⟨s0.2.2.2.2.1,s0.2.2.2.2.2.1,s0.2.1⟩:Za),s0.2.2.2.2.2.2.1,s0.2.2.2.2.2.2.2.1,s0.2.2.2.2.2.2.2.2.1,s0.2.2.1,s0.2.2.2.2.2.2.2.2.2.1,s0.2.2.2.2.2.2.2.2.2.2,s0.2.2.2.1⟩:Ze) y4).bind fun y5=>
 some (.inl ((w64 (s0.1+1)),y5.network.change,y5.now,y5.made,y5.network.legs,y5.network.off,y5.orders,y5.bookings,y5.closed,y5.scans,y5.skip)))))
 (some (.inr (s0.2.1,s0.2.2.1,s0.2.2.2.1,s0.2.2.2.2.1,s0.2.2.2.2.2.1,s0.2.2.2.2.2.2.1,s0.2.2.2.2.2.2.2.1,s0.2.2.2.2.2.2.2.2.1,s0.2.2.2.2.2.2.2.2.2.1,s0.2.2.2.2.2.2.2.2.2.2)))
instance (until_:Int):Z1 (Zb9 until_):=⟨fun s0=>(.un::vi until_::.un::.un::.be 0 0 0::.be 1 0 0::vi s0.1::(U 32 [])),fun s0=>[some ⟨.of 86,10,[[.v (.slice none 0 0),.v (.slice none 0 0),vi 0,.v (.slice none 0 0),.v (.slice none 0 0),.v (.slice none 0 0),vi 0,.v (.slice none 0 0),.v (.slice none 0 0),vi 0]]⟩,some ⟨.of 86,10,[[.ms 2,.ms 3,vi s0.2.1,.ms 4,.ms 5,.ms 6,vi s0.2.2.1,.ms 7,.ms 8,vi s0.2.2.2.1]]⟩,some ⟨.of 133,6,s0.2.2.2.2.1.map cLeg⟩,some ⟨.of 3,1,s0.2.2.2.2.2.1.map cInt⟩,some ⟨.of 226,11,s0.2.2.2.2.2.2.1.map ZV⟩,some ⟨.of 175,4,s0.2.2.2.2.2.2.2.1.map Zk⟩,some ⟨.of 28,2,s0.2.2.2.2.2.2.2.2.1.map ZS⟩,some ⟨.of 233,6,s0.2.2.2.2.2.2.2.2.2.1.map Zax⟩,some ⟨.of 3,1,s0.2.2.2.2.2.2.2.2.2.2.map cInt⟩]⟩
def ZaB (w:Ze) (until_:Int):Option Ze:=
 (Zam w).bind fun y1=>
 (ZaI w).bind fun y2=>
 cond (!y2)
 (some y1)
 ((Zl until_ w.now 100000).bind fun y3=>
 cond (!y3)
 (some y1)
 ((Zj (Zb9 until_) NN (0,y1.network.change,y1.now,y1.made,y1.network.legs,y1.network.off,y1.orders,y1.bookings,y1.closed,y1.scans,y1.skip)).bind (fun o0=>
 some (⟨(⟨o0.2.2.2.1,o0.2.2.2.2.1,o0.1⟩:Za),o0.2.2.2.2.2.1,o0.2.2.2.2.2.2.1,o0.2.2.2.2.2.2.2.1,until_,o0.2.2.2.2.2.2.2.2.1,o0.2.2.2.2.2.2.2.2.2,o0.2.2.1⟩:Ze))))
instance (w:Ze) (until_:Int):CT Tryz.prog (ZaB w until_):=⟨155,[.ag (Ze0 w),vi until_],[],fun r=>.ag [.ms 0,.ms 1,vi r.network.change,.ms 2,.ms 3,.ms 4,vi r.now,.ms 5,.ms 6,vi r.made],fun r=>[some ⟨.of 133,6,r.network.legs.map cLeg⟩,some ⟨.of 3,1,r.network.off.map cInt⟩,some ⟨.of 226,11,r.orders.map ZV⟩,some ⟨.of 175,4,r.bookings.map Zk⟩,some ⟨.of 28,2,r.closed.map ZS⟩,some ⟨.of 233,6,r.scans.map Zax⟩,some ⟨.of 3,1,r.skip.map cInt⟩],fun H=>by replace H:=H0 H; unfold ZaB at H; exact Zd Tryz.func155 rfl Tryz.ntmps155 Tryz.results155 fun Q hQ hQn=>wk3⟩
def Zd5 (w:Ze) (s0:Int × (List Int)):Option ((Int × (List Int)) ⊕ (List Int)):=
 cond (decide (s0.1<(w.orders.length:Int)))
 ((Zcn w s0.1).bind fun y2=>
 cond y2
 ((chk (Z9 ((s0.2:List Int).length+([(w64 (s0.1+1))]:List Int).length) 8)).bind fun _=>
 some (.inl ((w64 (s0.1+1)),((s0.2:List Int)++[(w64 (s0.1+1))]))))
 (some (.inl ((w64 (s0.1+1)),s0.2))))
 (some (.inr s0.2))
instance (w:Ze):Z1 (Zd5 w):=⟨fun s0=>(.un::.be 0 0 0::.un::.ms 1::vi s0.1::(U 21 [])),fun s0=>[some ⟨.of 86,10,[[.sl (w.network.legs.map cLeg),.sl (w.network.off.map cInt),vi w.network.change,.sl (w.orders.map ZV),.sl (w.bookings.map Zk),.sl (w.closed.map ZS),vi w.now,.sl (w.scans.map Zax),.sl (w.skip.map cInt),vi w.made]]⟩,some ⟨.of 3,1,s0.2.map cInt⟩]⟩
def ZbN (w:Ze):Option (List Int):=
 (ZaI w).bind fun y1=>
 cond (!y1)
 (some ([]:List Int))
 ((Zj (Zd5 w) NN (0,([]:List Int))).bind (fun o0=>
 some o0))
instance (w:Ze):CT Tryz.prog (ZbN w):=⟨196,[.ag (Ze0 w)],[],fun r=>.ms 0,fun r=>[some ⟨.of 3,1,r.map cInt⟩],fun H=>by replace H:=H0 H; unfold ZbN at H; exact Zd Tryz.func196 rfl Tryz.ntmps196 Tryz.results196 fun Q hQ hQn=>wk3⟩
def ZbH (y2:(List Int)) (s0:Int × Int × Int × Int × (List YLeg) × (List Int) × (List Zh) × (List Zc) × (List Zg) × (List ZU) × (List Int)):Option ((Int × Int × Int × Int × (List YLeg) × (List Int) × (List Zh) × (List Zc) × (List Zg) × (List ZU) × (List Int)) ⊕ (Int × Int × Int × (List YLeg) × (List Int) × (List Zh) × (List Zc) × (List Zg) × (List ZU) × (List Int))):=
 cond (decide (s0.1<(y2.length:Int)))
 ((getI y2 s0.1).bind fun y3=>
 (rhoM [1,2,3,4,5,6,7,8]).bind fun _=>
 (Zbt (⟨(⟨s0.2.2.2.2.1,s0.2.2.2.2.2.1,s0.2.1⟩:Za),s0.2.2.2.2.2.2.1,s0.2.2.2.2.2.2.2.1,s0.2.2.2.2.2.2.2.2.1,s0.2.2.1,s0.2.2.2.2.2.2.2.2.2.1,s0.2.2.2.2.2.2.2.2.2.2,s0.2.2.2.1⟩:Ze) (w64 (y3-1))).bind fun y4=>
 some (.inl ((w64 (s0.1+1)),y4.network.change,y4.now,y4.made,y4.network.legs,y4.network.off,y4.orders,y4.bookings,y4.closed,y4.scans,y4.skip)))
 (some (.inr (s0.2.1,s0.2.2.1,s0.2.2.2.1,s0.2.2.2.2.1,s0.2.2.2.2.2.1,s0.2.2.2.2.2.2.1,s0.2.2.2.2.2.2.2.1,s0.2.2.2.2.2.2.2.2.1,s0.2.2.2.2.2.2.2.2.2.1,s0.2.2.2.2.2.2.2.2.2.2)))
instance (y2:(List Int)):Z1 (ZbH y2):=⟨fun s0=>(.un::.un::.be 0 0 0::.un::.be 1 0 0::.ms 9::vi s0.1::(U 23 [])),fun s0=>[some ⟨.of 86,10,[[.v (.slice none 0 0),.v (.slice none 0 0),vi 0,.v (.slice none 0 0),.v (.slice none 0 0),.v (.slice none 0 0),vi 0,.v (.slice none 0 0),.v (.slice none 0 0),vi 0]]⟩,some ⟨.of 86,10,[[.ms 2,.ms 3,vi s0.2.1,.ms 4,.ms 5,.ms 6,vi s0.2.2.1,.ms 7,.ms 8,vi s0.2.2.2.1]]⟩,some ⟨.of 133,6,s0.2.2.2.2.1.map cLeg⟩,some ⟨.of 3,1,s0.2.2.2.2.2.1.map cInt⟩,some ⟨.of 226,11,s0.2.2.2.2.2.2.1.map ZV⟩,some ⟨.of 175,4,s0.2.2.2.2.2.2.2.1.map Zk⟩,some ⟨.of 28,2,s0.2.2.2.2.2.2.2.2.1.map ZS⟩,some ⟨.of 233,6,s0.2.2.2.2.2.2.2.2.2.1.map Zax⟩,some ⟨.of 3,1,s0.2.2.2.2.2.2.2.2.2.2.map cInt⟩,some ⟨.of 3,1,y2.map cInt⟩]⟩
def Zaz (w:Ze):Option (Ze × Int):=
 (Zam w).bind fun y1=>
 (ZbN w).bind fun y2=>
 (Zj (ZbH y2) NN (0,y1.network.change,y1.now,y1.made,y1.network.legs,y1.network.off,y1.orders,y1.bookings,y1.closed,y1.scans,y1.skip)).bind (fun o0=>
 (ZbN (⟨(⟨o0.2.2.2.1,o0.2.2.2.2.1,o0.1⟩:Za),o0.2.2.2.2.2.1,o0.2.2.2.2.2.2.1,o0.2.2.2.2.2.2.2.1,o0.2.1,o0.2.2.2.2.2.2.2.2.1,o0.2.2.2.2.2.2.2.2.2,o0.2.2.1⟩:Ze)).bind fun y5=>
 some ((⟨(⟨o0.2.2.2.1,o0.2.2.2.2.1,o0.1⟩:Za),o0.2.2.2.2.2.1,o0.2.2.2.2.2.2.1,o0.2.2.2.2.2.2.2.1,o0.2.1,o0.2.2.2.2.2.2.2.2.1,o0.2.2.2.2.2.2.2.2.2,o0.2.2.1⟩:Ze),(w64 ((y2.length:Int)-(y5.length:Int)))))
instance (w:Ze):CT Tryz.prog (Zaz w):=⟨157,[.ag (Ze0 w)],[],fun r=>.tu [.ag [.ms 0,.ms 1,vi r.1.network.change,.ms 2,.ms 3,.ms 4,vi r.1.now,.ms 5,.ms 6,vi r.1.made],vi r.2],fun r=>[some ⟨.of 133,6,r.1.network.legs.map cLeg⟩,some ⟨.of 3,1,r.1.network.off.map cInt⟩,some ⟨.of 226,11,r.1.orders.map ZV⟩,some ⟨.of 175,4,r.1.bookings.map Zk⟩,some ⟨.of 28,2,r.1.closed.map ZS⟩,some ⟨.of 233,6,r.1.scans.map Zax⟩,some ⟨.of 3,1,r.1.skip.map cInt⟩],fun H=>by replace H:=H0 H; unfold Zaz at H; exact Zd Tryz.func157 rfl Tryz.ntmps157 Tryz.results157 fun Q hQ hQn=>wk3⟩
end Go.Proofs.YtkfbakhnpfmfmaaGreatDoor
