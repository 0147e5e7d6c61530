/- A part of the proof of the statement in the last file of this claim: texts on the language of the program and on its functions. No condition. -/
import Derived.Test.YtmcdjilbkmhfoaaGreatCRetryOrders5
import Derived.Test.YtmcdjilbkmhfoaaGreatCRetryOrders8
import Derived.Test.YtmcdjilbkmhfoaaGreatCRetryOrders7
import Derived.Test.YtmcdjilbkmhfoaaGreatCShutTrip9
namespace Go.Proofs.YtmcdjilbkmhfoaaGreat
set_option maxRecDepth 10000
open Go.RowKit
set_option linter.unusedVariables false
set_option maxHeartbeats 16000000
def ZcP (leg:Int) (at1_:Int) (c0_:YNetwork) (c1_:List YTrip) (c2_:List YBooking) (c3_:Int) (s0:Int):Option (Int ⊕ (Unit ⊕ (YTrip × Bool))):=
 cond (decide (s0≤60))
 ((Zdy c0_ leg s0).bind fun y1=>
 cond y1
 ((Zah c0_ (⟨leg,s0⟩:YTrip)).bind fun y2=>
 cond (decide (at1_≤y2))
 ((ZaC c1_ (⟨leg,s0⟩:YTrip)).bind fun y3=>
 cond (!y3)
 ((getI c0_.legs leg).bind fun y4=>
 (Zcw c2_ (⟨leg,s0⟩:YTrip)).bind fun y5=>
 cond (decide (c3_≤(w64 (y4.room-y5))))
 (some (.inr (.inr ((⟨leg,s0⟩:YTrip),true))))
 (some (.inl (w64 (s0+1)))))
 (some (.inl (w64 (s0+1)))))
 (some (.inl (w64 (s0+1)))))
 (some (.inl (w64 (s0+1)))))
 (some (.inr (.inl ())))
instance (leg:Int) (at1_:Int) (c0_:YNetwork) (c1_:List YTrip) (c2_:List YBooking) (c3_:Int):LoopE (ZcP leg at1_ c0_ c1_ c2_ c3_):=⟨fun s0=>(vi leg::vi at1_::.rp [.sl (c0_.legs.map cLeg),.sl (c0_.off.map cInt),vi c0_.change]::.rp [.sl (c1_.map cTrip)]::.rp [.sl (c2_.map cBooking)]::.rp [vi c3_]::.un::.un::.be 0 0 0::.un::vi s0::(U 41 [])),fun s0=>[some ⟨.of 55,2,[[vi 0,vi 0]]⟩]⟩
def Zcc (leg:Int) (at1_:Int) (c0_:YNetwork) (c1_:List YTrip) (c2_:List YBooking) (c3_:Int):Option (YTrip × Bool):=
 (iterF (ZcP leg at1_ c0_ c1_ c2_ c3_) NN 0).bind (selim (fun o0=>
 some ((⟨0,0⟩:YTrip),false)) (fun r=>some r))
instance (leg:Int) (at1_:Int) (c0_:YNetwork) (c1_:List YTrip) (c2_:List YBooking) (c3_:Int):CT Tryz.prog (Zcc leg at1_ c0_ c1_ c2_ c3_):=⟨238,[vi leg,vi at1_,.rp [.sl (c0_.legs.map cLeg),.sl (c0_.off.map cInt),vi c0_.change],.rp [.sl (c1_.map cTrip)],.rp [.sl (c2_.map cBooking)],.rp [vi c3_]],[],fun r=>.tu [.ag [vi r.1.leg,vi r.1.day],vb r.2],fun r=>[],fun H=>by replace H:=H0 H; unfold Zcc at H; exact callM_of Tryz.func238 rfl Tryz.ntmps238 Tryz.results238 fun Q hQ hQn=>wk3⟩
def ZbZ (n:YNetwork) (at1_:Int) (start:Bool):Option Int:=
 cond start
 (some at1_)
 (some (w64 (at1_+n.change)))
instance (n:YNetwork) (at1_:Int) (start:Bool):CT Tryz.prog (ZbZ n at1_ start):=⟨252,[.ag (cNetwork n),vi at1_,vb start],[],fun r=>vi r,fun r=>[],fun H=>by replace H:=H0 H; unfold ZbZ at H; exact callM_of Tryz.func252 rfl Tryz.ntmps252 Tryz.results252 fun Q hQ hQn=>wk3⟩
def Zap (n:YNetwork) (find0_:YNetwork) (find1_:List YTrip) (find2_:List YBooking) (find3_:Int) (at3_:Int) (legs:Int) (y1:List ByteArray) (y2:Int) (s0:Int × (List Int)):Option ((Int × (List Int)) ⊕ (List Int)):=
 cond (decide (s0.1<(y1.length:Int)))
 ((chk (appOk ((s0.2:List Int).length+([(-1)]:List Int).length) 8)).bind fun _=>
 some (.inl ((w64 (s0.1+1)),((s0.2:List Int)++[(-1)]))))
 (some (.inr s0.2))
instance (n:YNetwork) (find0_:YNetwork) (find1_:List YTrip) (find2_:List YBooking) (find3_:Int) (at3_:Int) (legs:Int) (y1:List ByteArray) (y2:Int):LoopE (Zap n find0_ find1_ find2_ find3_ at3_ legs y1 y2):=⟨fun s0=>(.un::.fn 238 [.rp [.sl (find0_.legs.map cLeg),.sl (find0_.off.map cInt),vi find0_.change],.rp [.sl (find1_.map cTrip)],.rp [.sl (find2_.map cBooking)],.rp [vi find3_]]::.un::vi at3_::vi legs::.be 0 0 0::(U 5 (.ms 1::vi y2::.ms 2::(U 26 (vi (y1.length:Int)::vi s0.1::(U 83 [])))))),fun s0=>[some ⟨.of 35,3,[[.sl (n.legs.map cLeg),.sl (n.off.map cInt),vi n.change]]⟩,some ⟨.of 9,1,y1.map cStr⟩,some ⟨.of 3,1,s0.2.map cInt⟩]⟩
def ZT (n:YNetwork) (find0_:YNetwork) (find1_:List YTrip) (find2_:List YBooking) (find3_:Int) (legs:Int) (y1:List ByteArray) (y2:Int) (s1:Int × (List Int)) (s2:Int × Bool × (List Int)):Option ((Int × Bool × (List Int)) ⊕ (Bool × (List Int))):=
 cond (decide (s2.1<(n.legs.length:Int)))
 ((getI n.legs s2.1).bind fun y4=>
 (Zk y1 y4.from_).bind fun y5=>
 (Zk y1 y4.to_).bind fun y6=>
 (getI s1.2 y5).bind fun y7=>
 cond (decide (y7<0))
 (some (.inl ((w64 (s2.1+1)),s2.2.1,s2.2.2)))
 ((getI s1.2 y5).bind fun y8=>
 (ZbZ n y8 (decide (y5=y2))).bind fun y9=>
 (Zcc s2.1 y9 find0_ find1_ find2_ find3_).bind fun y10=>
 cond y10.2
 ((getI s2.2.2 y6).bind fun y11=>
 cond (decide (y11<0))
 ((ZF n y10.1).bind fun y12=>
 (getI s2.2.2 y6).bind fun y13=>
 some (.inl ((w64 (s2.1+1)),true,(s2.2.2.set (Int.toNat y6) y12))))
 ((ZF n y10.1).bind fun y14=>
 (getI s2.2.2 y6).bind fun y15=>
 cond (decide (y14<y15))
 ((ZF n y10.1).bind fun y16=>
 (getI s2.2.2 y6).bind fun y17=>
 some (.inl ((w64 (s2.1+1)),true,(s2.2.2.set (Int.toNat y6) y16))))
 (some (.inl ((w64 (s2.1+1)),s2.2.1,s2.2.2)))))
 (some (.inl ((w64 (s2.1+1)),s2.2.1,s2.2.2)))))
 (some (.inr (s2.2.1,s2.2.2)))
instance (n:YNetwork) (find0_:YNetwork) (find1_:List YTrip) (find2_:List YBooking) (find3_:Int) (legs:Int) (y1:List ByteArray) (y2:Int) (s1:Int × (List Int)):LoopE (ZT n find0_ find1_ find2_ find3_ legs y1 y2 s1):=⟨fun s2=>(.un::.fn 238 [.rp [.sl (find0_.legs.map cLeg),.sl (find0_.off.map cInt),vi find0_.change],.rp [.sl (find1_.map cTrip)],.rp [.sl (find2_.map cBooking)],.rp [vi find3_]]::.un::.un::vi legs::.be 0 0 0::(U 5 (.ms 1::vi y2::.ms 2::vi s1.1::.ms 3::vb s2.2.1::(U 44 (.sl (n.legs.map cLeg)::vi (n.legs.length:Int)::vi s2.1::(U 61 [])))))),fun s2=>[some ⟨.of 35,3,[[.sl (n.legs.map cLeg),.sl (n.off.map cInt),vi n.change]]⟩,some ⟨.of 9,1,y1.map cStr⟩,some ⟨.of 3,1,s1.2.map cInt⟩,some ⟨.of 3,1,s2.2.2.map cInt⟩]⟩
def ZS (n:YNetwork) (find0_:YNetwork) (find1_:List YTrip) (find2_:List YBooking) (find3_:Int) (legs:Int) (y1:List ByteArray) (y2:Int) (s1:Int × (List Int)):Option ((Int × (List Int)) ⊕ (List Int)):=
 cond (decide (s1.1<legs))
 ((chk (appOk ((([]:List Int):List Int).length+(s1.2:List Int).length) 8)).bind fun _=>
 (iterF (ZT n find0_ find1_ find2_ find3_ legs y1 y2 s1) NN (0,false,((([]:List Int):List Int)++s1.2))).bind (fun o2=>
 cond (!o2.1)
 (some (.inr o2.2))
 (some (.inl ((w64 (s1.1+1)),o2.2)))))
 (some (.inr s1.2))
instance (n:YNetwork) (find0_:YNetwork) (find1_:List YTrip) (find2_:List YBooking) (find3_:Int) (legs:Int) (y1:List ByteArray) (y2:Int):LoopE (ZS n find0_ find1_ find2_ find3_ legs y1 y2):=⟨fun s1=>(.un::.fn 238 [.rp [.sl (find0_.legs.map cLeg),.sl (find0_.off.map cInt),vi find0_.change],.rp [.sl (find1_.map cTrip)],.rp [.sl (find2_.map cBooking)],.rp [vi find3_]]::.un::.un::vi legs::.be 0 0 0::(U 5 (.ms 1::vi y2::.ms 2::vi s1.1::(U 110 [])))),fun s1=>[some ⟨.of 35,3,[[.sl (n.legs.map cLeg),.sl (n.off.map cInt),vi n.change]]⟩,some ⟨.of 9,1,y1.map cStr⟩,some ⟨.of 3,1,s1.2.map cInt⟩]⟩
def Zat (n:YNetwork) (find0_:YNetwork) (find1_:List YTrip) (find2_:List YBooking) (find3_:Int) (from2_:ByteArray) (at3_:Int) (legs:Int):Option (List Int):=
 (ZD n).bind fun y1=>
 (Zk y1 from2_).bind fun y2=>
 cond (decide (y2<0))
 (some ([]))
 (cond (decide (100000<at3_))
 (some ([]))
 (cond (decide (legs<0))
 (some ([]))
 ((iterF (Zap n find0_ find1_ find2_ find3_ at3_ legs y1 y2) NN (0,([]:List Int))).bind (fun o0=>
 (getI o0 y2).bind fun y3=>
 (iterF (ZS n find0_ find1_ find2_ find3_ legs y1 y2) NN (0,(o0.set (Int.toNat y2) (if 0 > at3_ then 0 else at3_)))).bind (fun o1=>
 some o1)))))
instance (n:YNetwork) (find0_:YNetwork) (find1_:List YTrip) (find2_:List YBooking) (find3_:Int) (from2_:ByteArray) (at3_:Int) (legs:Int):CT Tryz.prog (Zat n find0_ find1_ find2_ find3_ from2_ at3_ legs):=⟨216,[.ag (cNetwork n),.fn 238 [.rp [.sl (find0_.legs.map cLeg),.sl (find0_.off.map cInt),vi find0_.change],.rp [.sl (find1_.map cTrip)],.rp [.sl (find2_.map cBooking)],.rp [vi find3_]],vs from2_,vi at3_,vi legs],[],fun r=>.ms 0,fun r=>[some ⟨.of 3,1,r.map cInt⟩],fun H=>by replace H:=H0 H; unfold Zat at H; exact callM_of Tryz.func216 rfl Tryz.ntmps216 Tryz.results216 fun Q hQ hQn=>wk3⟩
def Zac (n:YNetwork) (find0_:YNetwork) (find1_:List YTrip) (find2_:List YBooking) (find3_:Int) (places:List ByteArray) (before:List Int) (from4_:ByteArray) (k:Int) (due:Int) (s0:Int):Option (Int ⊕ (Unit ⊕ (YTrip × Bool))):=
 cond (decide (s0<(n.legs.length:Int)))
 ((getI n.legs s0).bind fun y1=>
 (Zk places y1.from_).bind fun y2=>
 (getI places k).bind fun y3=>
 cond (!decide (y1.to_=y3))
 (some (.inl (w64 (s0+1))))
 ((getI before y2).bind fun y4=>
 cond (decide (y4<0))
 (some (.inl (w64 (s0+1))))
 ((getI before y2).bind fun y5=>
 (ZbZ n y5 (decide (y1.from_=from4_))).bind fun y6=>
 (Zcc s0 y6 find0_ find1_ find2_ find3_).bind fun y7=>
 cond y7.2
 ((ZF n y7.1).bind fun y8=>
 cond (decide (y8=due))
 (some (.inr (.inr (y7.1,true))))
 (some (.inl (w64 (s0+1)))))
 (some (.inl (w64 (s0+1)))))))
 (some (.inr (.inl ())))
instance (n:YNetwork) (find0_:YNetwork) (find1_:List YTrip) (find2_:List YBooking) (find3_:Int) (places:List ByteArray) (before:List Int) (from4_:ByteArray) (k:Int) (due:Int):LoopE (Zac n find0_ find1_ find2_ find3_ places before from4_ k due):=⟨fun s0=>(.un::.fn 238 [.rp [.sl (find0_.legs.map cLeg),.sl (find0_.off.map cInt),vi find0_.change],.rp [.sl (find1_.map cTrip)],.rp [.sl (find2_.map cBooking)],.rp [vi find3_]]::.sl (places.map cStr)::.sl (before.map cInt)::vs from4_::vi k::vi due::.be 0 0 0::(U 6 (.be 1 0 0::(U 7 (.sl (n.legs.map cLeg)::vi (n.legs.length:Int)::vi s0::(U 49 [])))))),fun s0=>[some ⟨.of 35,3,[[.sl (n.legs.map cLeg),.sl (n.off.map cInt),vi n.change]]⟩,some ⟨.of 55,2,[[vi 0,vi 0]]⟩]⟩
def ZbU (n:YNetwork) (find0_:YNetwork) (find1_:List YTrip) (find2_:List YBooking) (find3_:Int) (places:List ByteArray) (before:List Int) (from4_:ByteArray) (k:Int) (due:Int):Option (YTrip × Bool):=
 (iterF (Zac n find0_ find1_ find2_ find3_ places before from4_ k due) NN 0).bind (selim (fun o0=>
 some ((⟨0,0⟩:YTrip),false)) (fun r=>some r))
instance (n:YNetwork) (find0_:YNetwork) (find1_:List YTrip) (find2_:List YBooking) (find3_:Int) (places:List ByteArray) (before:List Int) (from4_:ByteArray) (k:Int) (due:Int):CT Tryz.prog (ZbU n find0_ find1_ find2_ find3_ places before from4_ k due):=⟨217,[.ag (cNetwork n),.fn 238 [.rp [.sl (find0_.legs.map cLeg),.sl (find0_.off.map cInt),vi find0_.change],.rp [.sl (find1_.map cTrip)],.rp [.sl (find2_.map cBooking)],.rp [vi find3_]],.sl (places.map cStr),.sl (before.map cInt),vs from4_,vi k,vi due],[],fun r=>.tu [.ag [vi r.1.leg,vi r.1.day],vb r.2],fun r=>[],fun H=>by replace H:=H0 H; unfold ZbU at H; exact callM_of Tryz.func217 rfl Tryz.ntmps217 Tryz.results217 fun Q hQ hQn=>wk3⟩
def ZG (n:YNetwork) (find0_:YNetwork) (find1_:List YTrip) (find2_:List YBooking) (find3_:Int) (from2_:ByteArray) (at4_:Int) (y1:List ByteArray) (y2:Int) (s0:Int × (List (List Int))):Option ((Int × (List (List Int))) ⊕ ((List (List Int)) ⊕ ((List YTrip) × Bool))):=
 cond (decide (s0.1≤(y1.length:Int)))
 ((Zat n find0_ find1_ find2_ find3_ from2_ at4_ s0.1).bind fun y3=>
 cond (decide ((y3.length:Int)=0))
 (some (.inr (.inr ([],false))))
 (cond (decide (y2<0))
 (some (.inr (.inr ([],false))))
 ((frz (.un::.fn 238 [.rp [.sl (find0_.legs.map cLeg),.sl (find0_.off.map cInt),vi find0_.change],.rp [.sl (find1_.map cTrip)],.rp [.sl (find2_.map cBooking)],.rp [vi find3_]]::vs from2_::.un::vi at4_::.be 0 0 0::(U 6 (.ms 1::vi y2::.ms 2::vi s0.1::.sl (y3.map cInt)::(U 116 [])))) [some ⟨.of 35,3,[[.sl (n.legs.map cLeg),.sl (n.off.map cInt),vi n.change]]⟩,some ⟨.of 9,1,y1.map cStr⟩,some ⟨.of 23,1,s0.2.map Zjd⟩]).bind fun _=>
 (chk (appOk ((s0.2:List (List Int)).length+([y3]:List (List Int)).length) 24)).bind fun _=>
 some (.inl ((w64 (s0.1+1)),((s0.2:List (List Int))++[y3]))))))
 (some (.inr (.inl s0.2)))
instance (n:YNetwork) (find0_:YNetwork) (find1_:List YTrip) (find2_:List YBooking) (find3_:Int) (from2_:ByteArray) (at4_:Int) (y1:List ByteArray) (y2:Int):LoopE (ZG n find0_ find1_ find2_ find3_ from2_ at4_ y1 y2):=⟨fun s0=>(.un::.fn 238 [.rp [.sl (find0_.legs.map cLeg),.sl (find0_.off.map cInt),vi find0_.change],.rp [.sl (find1_.map cTrip)],.rp [.sl (find2_.map cBooking)],.rp [vi find3_]]::vs from2_::.un::vi at4_::.be 0 0 0::(U 6 (.ms 1::vi y2::.ms 2::vi s0.1::(U 117 [])))),fun s0=>[some ⟨.of 35,3,[[.sl (n.legs.map cLeg),.sl (n.off.map cInt),vi n.change]]⟩,some ⟨.of 9,1,y1.map cStr⟩,some ⟨.of 23,1,s0.2.map Zjd⟩]⟩
def Zad (n:YNetwork) (find0_:YNetwork) (find1_:List YTrip) (find2_:List YBooking) (find3_:Int) (from2_:ByteArray) (y1:List ByteArray) (y2:Int) (o0:(List (List Int))) (y5:Int) (s1:Int):Option (Int ⊕ Int):=
 (getI o0 s1).bind fun y6=>
 (getI y6 y2).bind fun y7=>
 cond (!decide (y7=y5))
 (some (.inl (w64 (s1+1))))
 (some (.inr s1))
instance (n:YNetwork) (find0_:YNetwork) (find1_:List YTrip) (find2_:List YBooking) (find3_:Int) (from2_:ByteArray) (y1:List ByteArray) (y2:Int) (o0:(List (List Int))) (y5:Int):LoopE (Zad n find0_ find1_ find2_ find3_ from2_ y1 y2 o0 y5):=⟨fun s1=>(.un::.fn 238 [.rp [.sl (find0_.legs.map cLeg),.sl (find0_.off.map cInt),vi find0_.change],.rp [.sl (find1_.map cTrip)],.rp [.sl (find2_.map cBooking)],.rp [vi find3_]]::vs from2_::.un::.un::.be 0 0 0::(U 6 (.ms 1::vi y2::.ms 2::.un::.un::vi y5::vi s1::(U 114 [])))),fun s1=>[some ⟨.of 35,3,[[.sl (n.legs.map cLeg),.sl (n.off.map cInt),vi n.change]]⟩,some ⟨.of 9,1,y1.map cStr⟩,some ⟨.of 23,1,o0.map Zjd⟩]⟩
def ZaW (n:YNetwork) (find0_:YNetwork) (find1_:List YTrip) (find2_:List YBooking) (find3_:Int) (from2_:ByteArray) (y1:List ByteArray) (o0:(List (List Int))) (s2:Int × Int × Int × (List YTrip)):Option ((Int × Int × Int × (List YTrip)) ⊕ ((List YTrip) ⊕ ((List YTrip) × Bool))):=
 cond (decide (0<s2.2.2.1))
 ((getI o0 (w64 (s2.2.2.1-1))).bind fun y8=>
 (ZbU n find0_ find1_ find2_ find3_ (y1:List ByteArray) y8 from2_ s2.1 s2.2.1).bind fun y9=>
 cond (!y9.2)
 (some (.inr (.inr ([],false))))
 ((chk (appOk ((s2.2.2.2:List YTrip).length+([y9.1]:List YTrip).length) 16)).bind fun _=>
 (getI n.legs y9.1.leg).bind fun y10=>
 (Zk (y1:List ByteArray) y10.from_).bind fun y11=>
 (getI o0 (w64 (s2.2.2.1-1))).bind fun y12=>
 (getI y12 y11).bind fun y13=>
 some (.inl (y11,y13,(w64 (s2.2.2.1-1)),((s2.2.2.2:List YTrip)++[y9.1])))))
 (some (.inr (.inl s2.2.2.2)))
instance (n:YNetwork) (find0_:YNetwork) (find1_:List YTrip) (find2_:List YBooking) (find3_:Int) (from2_:ByteArray) (y1:List ByteArray) (o0:(List (List Int))):LoopE (ZaW n find0_ find1_ find2_ find3_ from2_ y1 o0):=⟨fun s2=>(.un::.fn 238 [.rp [.sl (find0_.legs.map cLeg),.sl (find0_.off.map cInt),vi find0_.change],.rp [.sl (find1_.map cTrip)],.rp [.sl (find2_.map cBooking)],.rp [vi find3_]]::vs from2_::.un::.un::.be 0 0 0::(U 6 (.sl ((y1:List ByteArray).map cStr)::vi s2.1::.ms 1::.un::.un::vi s2.2.1::vi s2.2.2.1::.ms 2::(U 113 [])))),fun s2=>[some ⟨.of 35,3,[[.sl (n.legs.map cLeg),.sl (n.off.map cInt),vi n.change]]⟩,some ⟨.of 23,1,o0.map Zjd⟩,some ⟨.of 55,2,s2.2.2.2.map cTrip⟩]⟩
def ZaX (o2:(List YTrip)) (s3:Int × (List YTrip)):Option ((Int × (List YTrip)) ⊕ (List YTrip)):=
 cond (decide (0≤s3.1))
 ((getI o2 s3.1).bind fun y14=>
 (chk (appOk ((s3.2:List YTrip).length+([y14]:List YTrip).length) 16)).bind fun _=>
 some (.inl ((w64 (s3.1-1)),((s3.2:List YTrip)++[y14]))))
 (some (.inr s3.2))
instance (o2:(List YTrip)):LoopE (ZaX o2):=⟨fun s3=>(U 19 (.ms 0::.un::.un::.ms 1::vi s3.1::(U 109 []))),fun s3=>[some ⟨.of 55,2,o2.map cTrip⟩,some ⟨.of 55,2,s3.2.map cTrip⟩]⟩
def Zdw (n:YNetwork) (find0_:YNetwork) (find1_:List YTrip) (find2_:List YBooking) (find3_:Int) (from2_:ByteArray) (to_:ByteArray) (at4_:Int):Option ((List YTrip) × Bool):=
 (ZD n).bind fun y1=>
 (Zk y1 to_).bind fun y2=>
 (iterF (ZG n find0_ find1_ find2_ find3_ from2_ at4_ y1 y2) NN (0,([]:List (List Int)))).bind (selim (fun o0=>
 (getI o0 (y1.length:Int)).bind fun y4=>
 (getI y4 y2).bind fun y5=>
 cond (decide (y5<0))
 (some ([],false))
 ((iterF (Zad n find0_ find1_ find2_ find3_ from2_ y1 y2 o0 y5) NN 0).bind (fun o1=>
 (iterF (ZaW n find0_ find1_ find2_ find3_ from2_ y1 o0) NN (y2,y5,o1,([]:List YTrip))).bind (selim (fun o2=>
 (iterF (ZaX o2) NN ((w64 ((o2.length:Int)-1)),([]:List YTrip))).bind (fun o3=>
 some (o3,true))) (fun r=>some r))))) (fun r=>some r))
instance (n:YNetwork) (find0_:YNetwork) (find1_:List YTrip) (find2_:List YBooking) (find3_:Int) (from2_:ByteArray) (to_:ByteArray) (at4_:Int):CT Tryz.prog (Zdw n find0_ find1_ find2_ find3_ from2_ to_ at4_):=⟨151,[.ag (cNetwork n),.fn 238 [.rp [.sl (find0_.legs.map cLeg),.sl (find0_.off.map cInt),vi find0_.change],.rp [.sl (find1_.map cTrip)],.rp [.sl (find2_.map cBooking)],.rp [vi find3_]],vs from2_,vs to_,vi at4_],[],fun r=>.tu [.ms 0,vb r.2],fun r=>[some ⟨.of 55,2,r.1.map cTrip⟩],fun H=>by replace H:=H0 H; unfold Zdw at H; exact callM_of Tryz.func151 rfl Tryz.ntmps151 Tryz.results151 fun Q hQ hQn=>wk3⟩
def Zem (n:YNetwork) (l:List YBooking) (closed:List YTrip) (weight:Int):Option (YNetwork × (List YTrip) × (List YBooking) × Int):=
 some (n,closed,l,weight)
instance (n:YNetwork) (l:List YBooking) (closed:List YTrip) (weight:Int):CT Tryz.prog (Zem n l closed weight):=⟨199,[.ag (cNetwork n),.sl (l.map cBooking),.sl (closed.map cTrip),vi weight],[],fun r=>.fn 238 [.rp [.sl (r.1.legs.map cLeg),.sl (r.1.off.map cInt),vi r.1.change],.rp [.sl (r.2.1.map cTrip)],.rp [.sl (r.2.2.1.map cBooking)],.rp [vi r.2.2.2]],fun r=>[],fun H=>by replace H:=H0 H; unfold Zem at H; exact callM_of Tryz.func199 rfl Tryz.ntmps199 Tryz.results199 fun Q hQ hQn=>wk3⟩
def ZaF (n:YNetwork) (l:List YBooking) (closed:List YTrip) (from3_:ByteArray) (to_:ByteArray) (at5_:Int) (weight:Int):Option ((List YTrip) × Bool):=
 (Za5 n l).bind fun y1=>
 cond (!y1)
 (some ([],false))
 (cond (decide (weight<1))
 (some ([],false))
 ((Zem n l closed weight).bind fun y2=>
 (Zdw n y2.1 y2.2.1 y2.2.2.1 y2.2.2.2 from3_ to_ at5_).bind fun y3=>
 some (y3.1,y3.2)))
instance (n:YNetwork) (l:List YBooking) (closed:List YTrip) (from3_:ByteArray) (to_:ByteArray) (at5_:Int) (weight:Int):CT Tryz.prog (ZaF n l closed from3_ to_ at5_ weight):=⟨134,[.ag (cNetwork n),.sl (l.map cBooking),.sl (closed.map cTrip),vs from3_,vs to_,vi at5_,vi weight],[],fun r=>.tu [.ms 0,vb r.2],fun r=>[some ⟨.of 55,2,r.1.map cTrip⟩],fun H=>by replace H:=H0 H; unfold ZaF at H; exact callM_of Tryz.func134 rfl Tryz.ntmps134 Tryz.results134 fun Q hQ hQn=>wk3⟩
set_option linter.unusedSimpArgs false
set_option linter.unusedSectionVars false
theorem ZlW:@ZbZ=@ZR:=rfl
def sumM {σ ο ο':Type} (h:ο→ο'):σ ⊕ ο→σ ⊕ ο'
 | .inl s=>.inl s
 | .inr o=>.inr (h o)
theorem Zjz {σ ο ο':Type} {b1:σ→Option (σ ⊕ ο)} {b2:σ→Option (σ ⊕ ο')} (h:ο→ο') (hb:∀ s,b2 s=(b1 s).map (sumM h)):∀ (N:Nat) (s:σ),iterF b2 N s=(iterF b1 N s).map h
 | 0,s=>rfl
 | N+1,s=>by
  have ih:=Zjz h hb N
  unfold iterF
  rw [hb s]
  cases h1:b1 s with
  | none=>rfl
  | some r=>
   cases r with
   | inl s'=>exact ih s'
   | inr o=>rfl
theorem ZmV {α β γ:Type} (x:Option α) (f:α→Option β) (g:β→γ):(x.bind f).map g=x.bind fun a=>(f a).map g:=by cases x <;> rfl
theorem Zm0 {β γ:Type} (b:Bool) (x y:Option β) (g:β→γ):(cond b x y).map g=cond b (x.map g) (y.map g):=by cases b <;> rfl
def Zqi (leg:Int):Unit ⊕ Int→Unit ⊕ (YTrip × Bool)
 | .inl u=>.inl u
 | .inr d=>.inr ((⟨leg,d⟩:YTrip),true)
section
variable {n:YNetwork} (hf:ZZ n)
include hf
theorem Zno (l:List YBooking) (closed:List YTrip) (leg at_ weight:Int) (s:Int):ZcP leg at_ n closed l weight s=(ZP n l closed leg at_ weight s).map (sumM (Zqi leg)):=by
 unfold ZcP ZP
 rw [(ZeJ hf leg s).1,Zgm,ZhD,Zd0]
 simp only [Zm0,ZmV,Option.map_some,sumM,Zqi]
theorem Znp {l:List YBooking} (hl:l.length≤1048576) {closed:List YTrip} (hc:closed.length≤1048576) {leg:Int} {y:YLeg} (hy:getI n.legs leg=some y) (at_ weight:Int):
 ∃ d,ZH n l closed leg at_ weight=some d∧Zcc leg at_ n closed l weight=some (if d<0 then ((⟨0,0⟩:YTrip),false) else ((⟨leg,d⟩:YTrip),true)):=by
 have hl0:Tot (iterF (ZP n l closed leg at_ weight) NN 0) fun r=>∀ d,r=.inr d→0≤d:=by
  refine Tot.loop (fun k s=>∃ i:Nat,s=(i:Int)∧i+k=61) (fun k s hs=>?_) NN 61 0 ⟨0,rfl,rfl⟩ (by unfold NN; omega)
  obtain ⟨i,rfl,hk⟩:=hs
  unfold ZP
  refine Tot.cond (fun hd=>?_) fun hd=>Tot.ret (fun d h=>by cases h)
  have hi:=of_decide_eq_true hd
  have hw:w64 ((i:Int)+1)=((i+1:Nat):Int):=by rw [Zc (by omega)]; omega
  have go:Zkj (fun k (s:Int)=>∃ i:Nat,s=(i:Int)∧i+k=61) (fun r:Unit ⊕ Int=>∀ d,r=.inr d→0≤d) k (Sum.inl (w64 ((i:Int)+1))):=⟨k-1,by omega,i+1,hw,by omega⟩
  obtain ⟨b,hb⟩:=Zp0 hf leg (i:Int)
  obtain ⟨v,hv⟩:=ZeB (n:=n) (t:=⟨leg,(i:Int)⟩) hy
  obtain ⟨q,hq⟩:=ZeW hl (⟨leg,(i:Int)⟩:YTrip)
  rw [hb,Option.bind_some]
  refine Tot.cond (fun _=>?_) fun _=>Tot.ret go
  rw [hv,Option.bind_some]
  refine Tot.cond (fun _=>?_) fun _=>Tot.ret go
  rw [Zd0,Zea hc,Option.bind_some]
  refine Tot.cond (fun _=>?_) fun _=>Tot.ret go
  rw [hy,Option.bind_some,hq,Option.bind_some]
  exact Tot.cond (fun _=>Tot.ret (fun d h=>by cases h; omega)) fun _=>Tot.ret go
 obtain ⟨r,e,hr⟩:=hl0
 have e2:=Zjz (Zqi leg) (Zno hf l closed leg at_ weight) NN (0:Int)
 rw [e] at e2
 unfold ZH Zcc
 rw [e,e2]
 cases r with
 | inl u=>exact ⟨-1,rfl,rfl⟩
 | inr d=>exact ⟨d,rfl,by rw [if_neg (by have:=hr d rfl; omega)]; rfl⟩
theorem ZoW {l:List YBooking} (hl:l.length≤1048576) {closed:List YTrip} (hc:closed.length≤1048576) (weight legs f:Int) {best:List Int} (hb:best.length=(Za n).length) (k:Int) {lst:List Int} (hlst:lst.length=(Za n).length) (ch:Bool) {i:Nat} (hi:i<n.legs.length):
 ∃ lst' ch',Zax n l closed weight (Za n) best f ((i:Int),lst)=some (.inl (((i+1:Nat):Int),lst'))∧ZT n n closed l weight legs (Za n) f (k,best) ((i:Int),ch,lst)=some (.inl (((i+1:Nat):Int),ch',lst'))∧lst'.length=(Za n).length∧((ch'=ch∧lst'=lst)∨ch'=true):=by
 have hp:=plen hf
 have hll:=hf.legs
 have hw:w64 ((i:Int)+1)=((i+1:Nat):Int):=by rw [Zc (by omega)]; omega
 obtain ⟨y,hy,hm⟩:=Zei (xs:=n.legs) (i:=(i:Int)) ⟨by omega,by omega⟩
 obtain ⟨m1,m2⟩:=ZeV hm
 have a0:=ZdG m1
 have a1:=(Zer (Za n) y.from_).2
 have b0:=ZdG m2
 have b1:=(Zer (Za n) y.to_).2
 obtain ⟨v6,g6,_⟩:=Zei (xs:=best) (i:=idxV (Za n) y.from_) ⟨a0,by omega⟩
 obtain ⟨v11,g11,_⟩:=Zei (xs:=lst) (i:=idxV (Za n) y.to_) ⟨b0,by omega⟩
 obtain ⟨z,ez,_⟩:=Zgi (n:=n) v6 (decide (idxV (Za n) y.from_=f))
 obtain ⟨d,ed,ef⟩:=Znp hf hl hc hy z weight
 obtain ⟨e,he⟩:=ZdF (n:=n) (t:=⟨(i:Int),d⟩) hy
 unfold Zax ZT
 have hpa:∀ p,Zk (Za n) p=some (idxV (Za n) p):=fun p=>by rw [Zdd]; exact ZeU hf p
 simp only [decide_eq_true (show (i:Int)<n.legs.length by omega),cond_true,hy,Option.bind_some,ZeU hf,hpa,g6,hw,ZlW,ez,ed,ef,g11,Zgx]
 by_cases hu:v6<0
 ·simp only [decide_eq_true hu,cond_true]
  exact ⟨lst,ch,rfl,rfl,hlst,.inl ⟨rfl,rfl⟩⟩
 simp only [decide_eq_false hu,cond_false]
 by_cases hd:d<0
 ·simp only [decide_eq_true hd,cond_true,if_pos hd,cond_false]
  exact ⟨lst,ch,rfl,rfl,hlst,.inl ⟨rfl,rfl⟩⟩
 simp only [decide_eq_false hd,cond_false,if_neg hd,cond_true,he,Option.bind_some]
 by_cases h1:v11<0
 ·simp only [decide_eq_true h1,cond_true]
  exact ⟨_,true,rfl,rfl,by rw [List.length_set]; exact hlst,.inr rfl⟩
 simp only [decide_eq_false h1,cond_false]
 by_cases h2:e<v11
 ·simp only [decide_eq_true h2,cond_true]
  exact ⟨_,true,rfl,rfl,by rw [List.length_set]; exact hlst,.inr rfl⟩
 ·simp only [decide_eq_false h2,cond_false]
  exact ⟨lst,ch,rfl,rfl,hlst,.inl ⟨rfl,rfl⟩⟩
theorem Zmm {l:List YBooking} (hl:l.length≤1048576) {closed:List YTrip} (hc:closed.length≤1048576) (weight legs f:Int) {best:List Int} (hb:best.length=(Za n).length) (hbl:best.length≤1048576) (k:Int):
 ∃ r ch,Zaf n l closed weight (Za n) best f=some r∧iterF (ZT n n closed l weight legs (Za n) f (k,best)) NN (0,false,best)=some (ch,r)∧r.length=(Za n).length∧(ch=false→r=best):=by
 have hll:=hf.legs
 have key:∀ (d i:Nat),i+d=n.legs.length→∀ (lst:List Int) (ch:Bool),lst.length=(Za n).length→(ch=false→lst=best)→∀ N,d<N→
  ∃ r ch',iterF (Zax n l closed weight (Za n) best f) N ((i:Int),lst)=some r∧iterF (ZT n n closed l weight legs (Za n) f (k,best)) N ((i:Int),ch,lst)=some (ch',r)∧r.length=(Za n).length∧(ch'=false→r=best):=by
  intro d
  induction d with
  | zero=>
   intro i hi lst ch h1 h2 N hN
   obtain ⟨N,rfl⟩:∃ M,N=M+1:=⟨N-1,by omega⟩
   have hnot:¬ (i:Int)<n.legs.length:=by omega
   refine ⟨lst,ch,?_,?_,h1,h2⟩
   ·unfold iterF Zax
    simp only [decide_eq_false hnot,cond_false]; rfl
   ·unfold iterF ZT
    simp only [decide_eq_false hnot,cond_false]; rfl
  | succ d ih=>
   intro i hi lst ch h1 h2 N hN
   obtain ⟨N,rfl⟩:∃ M,N=M+1:=⟨N-1,by omega⟩
   obtain ⟨lst',ch',e1,e2,h3,h4⟩:=ZoW hf hl hc weight legs f hb k h1 ch (show i<n.legs.length by omega)
   obtain ⟨r,c,q1,q2,q3,q4⟩:=ih (i+1) (by omega) lst' ch' h3 (fun h=>by
    rcases h4 with ⟨a,b⟩ | a
    ·rw [b]; exact h2 (a ▸ h)
    ·rw [a] at h; cases h) N (by omega)
   refine ⟨r,c,?_,?_,q3,q4⟩
   ·unfold iterF; rw [e1]; exact q1
   ·unfold iterF; rw [e2]; exact q2
 obtain ⟨r,ch,q1,q2,q3,q4⟩:=key n.legs.length 0 (by omega) best false hb (fun _=>rfl) NN (by unfold NN; omega)
 have e0:((0:Nat):Int)=0:=rfl
 rw [e0] at q1 q2
 refine ⟨r,ch,?_,q2,q3,q4⟩
 unfold Zaf
 rw [Zjx hbl,Option.bind_some,q1]; rfl
omit hf in
theorem Zic {l:List YBooking} {closed:List YTrip} {weight f at_:Int} {i:Nat} (h:ZU n l closed weight f at_ (i+1)=ZU n l closed weight f at_ i):∀ k,ZU n l closed weight f at_ (i+k)=ZU n l closed weight f at_ i
 | 0=>rfl
 | k+1=>by
  have ih:=Zic h k
  have e1:ZU n l closed weight f at_ (i+(k+1))=ZlZ n l closed weight f (ZU n l closed weight f at_ (i+k)):=rfl
  have e2:ZU n l closed weight f at_ (i+1)=ZlZ n l closed weight f (ZU n l closed weight f at_ i):=rfl
  rw [e1,ih,← e2,h]
theorem Zmn {l:List YBooking} (hl:l.length≤1048576) {closed:List YTrip} (hc:closed.length≤1048576) (weight f at_:Int) (hp:(Za n).length≤1048576) (legs:Nat) (hlegs:legs≤1048576):
 iterF (ZS n n closed l weight (legs:Int) (Za n) f) NN (0,ZU n l closed weight f at_ 0)=some (ZU n l closed weight f at_ legs):=by
 have key:∀ (d i:Nat),i+d=legs→∀ N,d<N→iterF (ZS n n closed l weight (legs:Int) (Za n) f) N ((i:Int),ZU n l closed weight f at_ i)=some (ZU n l closed weight f at_ legs):=by
  intro d
  induction d with
  | zero=>
   intro i hi N hN
   obtain ⟨N,rfl⟩:∃ M,N=M+1:=⟨N-1,by omega⟩
   have:i=legs:=by omega
   subst this
   unfold iterF ZS
   simp only [decide_eq_false (show ¬ (i:Int)<(i:Int) by omega),cond_false]; rfl
  | succ d ih=>
   intro i hi N hN
   obtain ⟨N,rfl⟩:∃ M,N=M+1:=⟨N-1,by omega⟩
   have hbl:=Zel hf hl hc weight f at_ i
   have hwi:w64 ((i:Int)+1)=((i+1:Nat):Int):=by rw [Zc (by omega)]; omega
   obtain ⟨r,ch,q1,q2,q3,q4⟩:=Zmm hf hl hc weight (legs:Int) f hbl (by omega) (i:Int)
   have hr:ZU n l closed weight f at_ (i+1)=r:=by
    have:=(Ze6 hf hl hc weight f at_ i).1
    rw [q1] at this
    exact (Option.some.inj this).symm
   have ha:chk (appOk ((([]:List Int):List Int).length+(ZU n l closed weight f at_ i).length) 8)=some ():=by
    simp only [List.length_nil]; exact chk0 (by omega) (by omega)
   have body:ZS n n closed l weight (legs:Int) (Za n) f ((i:Int),ZU n l closed weight f at_ i)=(cond (!ch) (some (.inr r)) (some (.inl (((i+1:Nat):Int),r)))):=by
    unfold ZS
    simp only [decide_eq_true (show (i:Int)<(legs:Int) by omega),cond_true,ha,Option.bind_some,List.nil_append,q2,hwi]
   unfold iterF
   rw [body]
   cases ch with
   | false=>
    have e:=q4 rfl
    rw [← hr] at e
    have hconst:=Zic e (d+1)
    rw [show i+(d+1)=legs by omega] at hconst
    show some r=_
    rw [← hr,e,hconst]
   | true=>
    rw [← hr]
    exact ih (i+1) (by omega) N (by omega)
 exact key legs 0 (by omega) NN (by unfold NN; omega)
theorem Znm (hp:(Za n).length≤1048576) (f:Int) (hf0:0≤f∧f<((Za n).length:Int)) (at_:Int):Zbw (Za n) f at_=some ((List.replicate (Za n).length (-1:Int)).set f.toNat (if 0 > at_ then 0 else at_)):=by
 have hmax:ZcO at_ 0=some (if 0 > at_ then 0 else at_):=by
  unfold ZcO
  by_cases h:at_<0
  ·rw [if_pos (by omega)]
   by_cases h2:0<at_
   ·omega
   ·simp [h2,h]
  ·rw [if_neg (by omega)]
   by_cases h2:0<at_
   ·simp [h2,h]
   ·have:at_=0:=by omega
    subst this; simp
 generalize hm:(if 0 > at_ then 0 else at_:Int)=mx at hmax ⊢
 have hLl:((List.replicate (Za n).length (-1:Int)).set f.toNat mx).length=(Za n).length:=by simp
 have hLi:∀ i:Nat,i<(Za n).length→((List.replicate (Za n).length (-1:Int)).set f.toNat mx)[i]?=some (if (i:Int)=f then mx else -1):=fun i hi=>by
  by_cases h:(i:Int)=f
  ·rw [if_pos h,show f.toNat=i by omega,List.getElem?_set_self (by simpa using hi)]
  ·rw [if_neg h,List.getElem?_set_ne (by omega),List.getElem?_replicate,if_pos hi]
 generalize (List.replicate (Za n).length (-1:Int)).set f.toNat mx=L at hLl hLi ⊢
 have e:iterF (ZaY (Za n) f at_) NN (0,[])=some L:=by
  have:=Zd6 (body:=ZaY (Za n) f at_) (fun i:Nat=>((i:Int),L.take i)) (n:=(Za n).length) (o:=L) (fun i hi=>?_) ?_ NN (by unfold NN; omega)
  ·simpa using this
  ·have hw:w64 ((i:Int)+1)=((i+1:Nat):Int):=by rw [Zc (by omega)]; omega
   have hx:=hLi i hi
   have hlen:(L.take i).length=i:=by rw [List.length_take]; omega
   have ha:∀ x:Int,chk (appOk ((L.take i).length+([x]:List Int).length) 8)=some ():=fun x=>Zdh (by simp only [List.length_cons,List.length_nil]; omega) (by omega)
   unfold ZaY
   rw [← Zft hx]
   by_cases h:(i:Int)=f
   ·simp only [decide_eq_true (show (i:Int)<((Za n).length:Int) by omega),decide_eq_true h,cond_true,hmax,Option.bind_some,ha,hw,if_pos h]
   ·simp only [decide_eq_true (show (i:Int)<((Za n).length:Int) by omega),decide_eq_false h,cond_true,cond_false,Option.bind_some,ha,hw,if_neg h]
  ·unfold ZaY
   simp [← hLl]
 unfold Zbw
 rw [e]; rfl
theorem Zmd {l:List YBooking} (hl:l.length≤1048576) {closed:List YTrip} (hc:closed.length≤1048576) (weight:Int) {from_:ByteArray} (h0:0≤idxV (Za n) from_) {at_:Int} (hat:at_≤100000) (hp:(Za n).length≤1048576) (legs:Nat) (hlegs:legs≤1048576):
 Zat n n closed l weight from_ at_ (legs:Int)=some (ZU n l closed weight (idxV (Za n) from_) at_ legs):=by
 have hlt:=(Zer (Za n) from_).2
 have e0:iterF (Zap n n closed l weight at_ (legs:Int) (Za n) (idxV (Za n) from_)) NN (0,[])=some (List.replicate (Za n).length (-1:Int)):=by
  refine Zd6 (body:=Zap n n closed l weight at_ (legs:Int) (Za n) (idxV (Za n) from_)) (fun i:Nat=>((i:Int),List.replicate i (-1:Int))) (n:=(Za n).length) (o:=List.replicate (Za n).length (-1:Int)) (fun i hi=>?_) ?_ NN (by unfold NN; omega)
  ·have hw:w64 ((i:Int)+1)=((i+1:Nat):Int):=by rw [Zc (by omega)]; omega
   have ha:chk (appOk ((List.replicate i (-1:Int)).length+([(-1)]:List Int).length) 8)=some ():=Zdh (by simp only [List.length_replicate,List.length_cons,List.length_nil]; omega) (by omega)
   unfold Zap
   simp only [decide_eq_true (show (i:Int)<((Za n).length:Int) by omega),cond_true,ha,Option.bind_some,hw,List.replicate_succ']
  ·unfold Zap
   simp
 have hfirst:ZU n l closed weight (idxV (Za n) from_) at_ 0=(List.replicate (Za n).length (-1:Int)).set (idxV (Za n) from_).toNat (if 0 > at_ then 0 else at_):=by
  unfold ZU; rw [Znm hf hp _ ⟨h0,hlt⟩]; rfl
 obtain ⟨x,hx,_⟩:=Zei (xs:=List.replicate (Za n).length (-1:Int)) (i:=idxV (Za n) from_) ⟨h0,by rw [List.length_replicate]; exact hlt⟩
 unfold Zat
 rw [Zdd,(ZaL hf).1,(ZaL hf).2]
 simp only [Option.bind_some,ZeU hf,decide_eq_false (show ¬ idxV (Za n) from_<0 by omega),decide_eq_false (show ¬ 100000<at_ by omega),decide_eq_false (show ¬ (legs:Int)<0 by omega),cond_false,e0,hx,← hfirst,Zmn hf hl hc weight _ at_ hp legs hlegs]
end
section
variable {n:YNetwork} (hf:ZZ n)
include hf
structure Zp6 (n:YNetwork) (l:List YBooking) (closed:List YTrip) (at_ weight:Int) (t:YTrip):Prop where
 trip:Zc3 n t=true
 start:at_≤Zbp n t
 open_:Zar closed t=some false
 room:∃ y q,getI n.legs t.leg=some y∧ZN l t=some q∧weight≤w64 (y.room-q)
theorem ZlM {l:List YBooking} {closed:List YTrip} {leg at_ weight d:Int} (h:ZH n l closed leg at_ weight=some d):d=-1∨Zp6 n l closed at_ weight ⟨leg,d⟩:=by
 unfold ZH at h
 cases e:iterF (ZP n l closed leg at_ weight) NN 0 with
 | none=>rw [e] at h; cases h
 | some r=>
  rw [e] at h
  cases r with
  | inl u=>exact .inl (Option.some.inj h).symm
  | inr d'=>
   obtain rfl:d'=d:=Option.some.inj h
   refine .inr ?_
   have:=Zf9 (body:=ZP n l closed leg at_ weight) (P:=fun r=>∀ d,r=.inr d→Zp6 n l closed at_ weight ⟨leg,d⟩) (fun s o hs=>?_) NN 0 _ e
   ·exact this d' rfl
   ·unfold ZP at hs
    by_cases h60:s≤60
    ·rw [decide_eq_true h60,cond_true] at hs
     obtain ⟨_,b,hb⟩:=ZeJ hf leg s
     have hb':=hb
     rw [hb,Option.bind_some] at hs
     intro d hd
     subst hd
     cases b with
     | false=>simp at hs
     | true=>
      have ht:Zc3 n ⟨leg,s⟩=true:=by unfold Zc3; rw [hb']; rfl
      simp only [cond_true] at hs
      cases h1:Zg n ⟨leg,s⟩ with
      | none=>rw [h1] at hs; cases hs
      | some v=>
       rw [h1,Option.bind_some] at hs
       by_cases h2:at_≤v
       ·rw [decide_eq_true h2,cond_true] at hs
        cases h3:Zar closed ⟨leg,s⟩ with
        | none=>rw [h3] at hs; cases hs
        | some c=>
         rw [h3,Option.bind_some] at hs
         cases c with
         | true=>simp at hs
         | false=>
          simp only [Bool.not_false,cond_true] at hs
          cases h4:getI n.legs leg with
          | none=>rw [h4] at hs; cases hs
          | some y=>
           rw [h4,Option.bind_some] at hs
           cases h5:ZN l ⟨leg,s⟩ with
           | none=>rw [h5] at hs; cases hs
           | some q=>
            rw [h5,Option.bind_some] at hs
            by_cases h6:weight≤w64 (y.room-q)
            ·rw [decide_eq_true h6,cond_true] at hs
             have:s=d:=by simpa using hs
             rw [← this]
             exact ⟨ht,by unfold Zbp; rw [h1]; exact h2,h3,y,q,h4,h5,h6⟩
            ·rw [decide_eq_false h6] at hs; simp at hs
       ·rw [decide_eq_false h2] at hs; simp at hs
    ·rw [decide_eq_false h60] at hs
     intro d hd
     subst hd
     simp at hs
theorem ZnP {l:List YBooking} {closed:List YTrip} {leg at_ weight d:Int} (h:ZH n l closed leg at_ weight=some d):d=-1∨Zc3 n ⟨leg,d⟩=true:=by
 rcases ZlM hf h with h | h
 ·exact .inl h
 ·exact .inr h.trip
omit hf in
theorem Zf6 {α:Type} {xs:List α} {i:Int} {v:α} (h0:0≤i) (h1:i<xs.length):getI (xs.set i.toNat v) i=some v:=by
 unfold getI; rw [if_pos h0,List.getElem?_set_self (by omega)]
omit hf in
theorem Zkv {α:Type} {xs:List α} {i j:Int} {v:α} (h0:0≤i) (h:j≠i):getI (xs.set i.toNat v) j=getI xs j:=by
 unfold getI
 by_cases hj:0≤j
 ·rw [if_pos hj,if_pos hj,List.getElem?_set_ne (by omega)]
 ·rw [if_neg hj,if_neg hj]
def LeAt (r:List Int) (x v:Int):Prop:=∃ w,getI r x=some w∧0≤w∧w≤v
def Zl9 (n:YNetwork) (l:List YBooking) (closed:List YTrip) (weight f:Int) (r:List Int) (i:Nat) (x v:Int):Prop:=
 ∃ (y:YLeg) (d u z:Int),n.legs[i]?=some y∧idxV (Za n) y.to_=x∧getI r (idxV (Za n) y.from_)=some u∧¬ u<0∧ZR n u (decide (idxV (Za n) y.from_=f))=some z∧ZH n l closed (i:Int) z weight=some d∧¬ d<0∧Ze n ⟨(i:Int),d⟩=some v
theorem Zpf (hn:Zb n=some true) {l:List YBooking} (hl:l.length≤1048576) {closed:List YTrip} (hc:closed.length≤1048576) (weight:Int) {best:List Int} (hb:best.length=(Za n).length) (f:Int):
 Tot (Zaf n l closed weight (Za n) best f) fun r=>(∀ x v,getI best x=some v→0≤v→LeAt r x v)∧∀ x v,Cand n l closed weight f best x v→LeAt r x v:=by
 have hp:=plen hf
 have hll:=hf.legs
 unfold Zaf
 refine Tot.bind (P:=fun r=>r=best) ?_ fun r hr=>?_
 ·by_cases h1:best.length≤1048576
  ·exact Tot.of (Zjx h1) rfl
  ·unfold Zbs
   exact Tot.chk (Zgu (by simp only [List.length_nil]; omega) (by omega)) (Tot.ret (by simp))
 ·subst hr
  refine Tot.bind (P:=fun o=>(∀ x v,getI r x=some v→0≤v→LeAt o x v)∧∀ x v,Cand n l closed weight f r x v→LeAt o x v) ?_ fun o ho=>Tot.ret ho
  refine Tot.loop (fun (k:Nat) (s:Int × List Int)=>∃ i:Nat,s.1=(i:Int)∧i+k=n.legs.length∧s.2.length=(Za n).length∧(∀ x v,getI r x=some v→0≤v→LeAt s.2 x v)∧∀ j,j<i→∀ x v,Zl9 n l closed weight f r j x v→LeAt s.2 x v) (fun k s hs=>?_) NN n.legs.length _ ⟨0,rfl,by omega,hb,fun x v h h0=>⟨v,h,h0,Int.le_refl _⟩,fun j hj=>by omega⟩ (by unfold NN; omega)
  obtain ⟨i,hi,hk,hlen,hA,hB⟩:=hs
  unfold Zax
  rw [hi]
  refine Tot.cond (fun hd=>?_) fun hd=>Tot.ret ⟨hA,fun x v h=>?_⟩
  case refine_2=>
   obtain ⟨j,y,d,u,z,c1,c2⟩:=h
   have h1:=(List.getElem?_eq_some_iff.1 c1).1
   have h2:=of_decide_eq_false hd
   exact hB j (by omega) x v ⟨y,d,u,z,c1,c2⟩
  have hlt:=of_decide_eq_true hd
  have hw:w64 ((i:Int)+1)=((i+1:Nat):Int):=by rw [Zc (by omega)]; omega
  obtain ⟨y,hy,hm⟩:=Zei (xs:=n.legs) (i:=(i:Int)) ⟨by omega,hlt⟩
  obtain ⟨m1,m2⟩:=ZeV hm
  have a0:=ZdG m1
  have a1:=(Zer (Za n) y.from_).2
  have b0:=ZdG m2
  have b1:=(Zer (Za n) y.to_).2
  obtain ⟨v6,g6,_⟩:=Zei (xs:=r) (i:=idxV (Za n) y.from_) ⟨a0,by omega⟩
  obtain ⟨v11,g11,_⟩:=Zei (xs:=s.2) (i:=idxV (Za n) y.to_) ⟨b0,by omega⟩
  simp only [hy,Option.bind_some,ZeU hf,g6,hw]
  have hyi:n.legs[i]?=some y:=by rw [Zd] at hy; exact hy
  have go:∀ (s':List Int),s'.length=(Za n).length→(∀ x v,LeAt s.2 x v→LeAt s' x v)→(∀ x v,Zl9 n l closed weight f r i x v→LeAt s' x v)→Zkj (fun (k:Nat) (s:Int × List Int)=>∃ i:Nat,s.1=(i:Int)∧i+k=n.legs.length∧s.2.length=(Za n).length∧(∀ x v,getI r x=some v→0≤v→LeAt s.2 x v)∧∀ j,j<i→∀ x v,Zl9 n l closed weight f r j x v→LeAt s.2 x v) (fun o:List Int=>(∀ x v,getI r x=some v→0≤v→LeAt o x v)∧∀ x v,Cand n l closed weight f r x v→LeAt o x v) k (Sum.inl (((i+1:Nat):Int),s')):=fun s' h1 h2 h3=>
   ⟨k-1,by omega,i+1,rfl,by omega,h1,fun x v h h0=>h2 x v (hA x v h h0),fun j hj x v h=>by
    by_cases hji:j=i
    ·subst hji; exact h3 x v h
    ·exact h2 x v (hB j (by omega) x v h)⟩
  refine Tot.cond (fun hu=>Tot.ret (go _ hlen (fun x v h=>h) fun x v h=>?_)) fun hu=>?_
  ·exfalso
   obtain ⟨y',d,u,z,c1,c2,c3,c4,_⟩:=h
   rw [hyi] at c1
   obtain rfl:=Option.some.inj c1
   rw [g6] at c3
   obtain rfl:=Option.some.inj c3
   exact c4 (of_decide_eq_true hu)
  obtain ⟨z,ez,_⟩:=Zgi (n:=n) v6 (decide (idxV (Za n) y.from_=f))
  obtain ⟨d,ed,_⟩:=Zir hf hl hc hy z weight
  have hcI:∀ x v,Zl9 n l closed weight f r i x v→¬ d<0∧x=idxV (Za n) y.to_∧Ze n ⟨(i:Int),d⟩=some v:=by
   rintro x v ⟨y',d',u,z',c1,c2,c3,c4,c5,c6,c7,c8⟩
   rw [hyi] at c1
   obtain rfl:=Option.some.inj c1
   rw [g6] at c3
   obtain rfl:=Option.some.inj c3
   rw [ez] at c5
   obtain rfl:=Option.some.inj c5
   rw [ed] at c6
   obtain rfl:=Option.some.inj c6
   exact ⟨c7,c2.symm,c8⟩
  rw [ez,Option.bind_some,ed,Option.bind_some]
  refine Tot.cond (fun hdd=>Tot.ret (go _ hlen (fun x v h=>h) fun x v h=>absurd (of_decide_eq_true hdd) (hcI x v h).1)) fun hdn=>?_
  have htr:Zc3 n ⟨(i:Int),d⟩=true:=by
   rcases ZnP hf ed with h | h
   ·subst h; have:=of_decide_eq_false hdn; omega
   ·exact h
  obtain ⟨e,he⟩:=ZdF (n:=n) (t:=⟨(i:Int),d⟩) hy
  have he0:0≤e:=by
   obtain ⟨_,h2,h3,h4,_⟩:=ZbF hf hn htr
   rw [he] at h2
   have:=Option.some.inj h2
   omega
  simp only [he,Option.bind_some,g11]
  have setok:=fun (hv:v11<0∨e<v11)=>go (s.2.set (Int.toNat (idxV (Za n) y.to_)) e) (by rw [List.length_set]; exact hlen) (fun x v h=>by
   obtain ⟨w,hw1,hw2,hw3⟩:=h
   by_cases hx:x=idxV (Za n) y.to_
   ·subst hx
    rw [g11] at hw1
    obtain rfl:=Option.some.inj hw1
    exact ⟨_,Zf6 b0 (by omega),he0,by omega⟩
   ·exact ⟨w,by rw [Zkv b0 hx]; exact hw1,hw2,hw3⟩) (fun x v h=>by
   obtain ⟨_,rfl,h8⟩:=hcI x v h
   rw [he] at h8
   obtain rfl:=Option.some.inj h8
   exact ⟨_,Zf6 b0 (by omega),he0,Int.le_refl _⟩)
  refine Tot.cond (fun h=>Tot.ret (setok (.inl (of_decide_eq_true h)))) fun h1=>Tot.cond (fun h=>Tot.ret (setok (.inr (of_decide_eq_true h)))) fun h2=>Tot.ret (go _ hlen (fun x v h=>h) fun x v h=>?_)
  obtain ⟨_,rfl,h8⟩:=hcI x v h
  rw [he] at h8
  obtain rfl:=Option.some.inj h8
  have h1:=of_decide_eq_false h1
  have h2:=of_decide_eq_false h2
  exact ⟨v11,g11,by omega,by omega⟩
theorem Zhj (hn:Zb n=some true) {l:List YBooking} (hl:l.length≤1048576) {closed:List YTrip} (hc:closed.length≤1048576) (weight f at_:Int) (k:Nat):
 (∀ x v,getI (ZU n l closed weight f at_ k) x=some v→0≤v→LeAt (ZU n l closed weight f at_ (k+1)) x v)∧∀ x v,Cand n l closed weight f (ZU n l closed weight f at_ k) x v→LeAt (ZU n l closed weight f at_ (k+1)) x v:=by
 obtain ⟨r,e,h⟩:=Zpf hf hn hl hc weight (Zel hf hl hc weight f at_ k) f
 have h1:=(Ze6 hf hl hc weight f at_ k).1
 rw [e] at h1
 obtain rfl:=Option.some.inj h1
 exact h
end
end Go.Proofs.YtmcdjilbkmhfoaaGreat
