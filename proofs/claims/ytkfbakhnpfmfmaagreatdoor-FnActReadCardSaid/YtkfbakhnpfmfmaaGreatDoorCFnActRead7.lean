/- A part of the proof of the statement in the last file of this claim: texts on the language of the program and on its functions. No condition. -/
import Derived.Test.YtkfbakhnpfmfmaaGreatDoorCFnActRead4
import Derived.Test.YtkfbakhnpfmfmaaGreatDoorCFnActRead5
import Derived.Test.YtkfbakhnpfmfmaaGreatDoorCFnActRead6
set_option linter.unusedVariables false
set_option linter.unusedSimpArgs false
set_option linter.unusedSectionVars false
namespace Go.Proofs.YtkfbakhnpfmfmaaGreatDoor
set_option maxRecDepth 10000
open Go.RowKit
set_option linter.unusedVariables false
set_option maxHeartbeats 16000000
def Z3 (s:ByteArray) (s0:Int):Option (Int ⊕ (Unit ⊕ Bool)):=
 cond (decide (s0<(s.size:Int)))
 ((getB s s0).bind fun y1=>
 cond (decide (y1<65))
 (some (.inr (.inr false)))
 ((getB s s0).bind fun y2=>
 cond (decide (90<y2))
 (some (.inr (.inr false)))
 (some (.inl (w64 (s0+1))))))
 (some (.inr (.inl ())))
instance (s:ByteArray):Z1 (Z3 s):=⟨fun s0=>(vs s::.un::.un::vi s0::(U 19 [])),fun s0=>[]⟩
def Zah (s:ByteArray):Option Bool:=
 (Zj (Z3 s) NN 0).bind (Zu (fun o0=>
 some (decide ((s.size:Int)=3))) (fun r=>some r))
instance (s:ByteArray):CT Tryz.prog (Zah s):=⟨62,[vs s],[],fun r=>vb r,fun r=>[],fun H=>by replace H:=H0 H; unfold Zah at H; exact Zd Tryz.func62 rfl Tryz.ntmps62 Tryz.results62 fun Q hQ hQn=>wk3⟩
def ZB (n:Int) (low:Int) (high:Int):Option Bool:=
 cond (decide (low≤n))
 (some (decide (n≤high)))
 (some false)
instance (n:Int) (low:Int) (high:Int):CT Tryz.prog (ZB n low high):=⟨43,[vi n,vi low,vi high],[],fun r=>vb r,fun r=>[],fun H=>by replace H:=H0 H; unfold ZB at H; exact Zd Tryz.func43 rfl Tryz.ntmps43 Tryz.results43 fun Q hQ hQn=>wk3⟩
def Zcz (l:List Int) (s0:Int):Option (Int ⊕ (Unit ⊕ Bool)):=
 cond (decide (s0<(l.length:Int)))
 ((getI l s0).bind fun y1=>
 (ZB y1 1 2000).bind fun y2=>
 cond (!y2)
 (some (.inr (.inr false)))
 (some (.inl (w64 (s0+1)))))
 (some (.inr (.inl ())))
instance (l:List Int):Z1 (Zcz l):=⟨fun s0=>(.sl (l.map cInt)::(U 4 (.sl (l.map cInt)::vi (l.length:Int)::vi s0::(U 10 [])))),fun s0=>[]⟩
def Za7 (l:List Int):Option Bool:=
 (Zj (Zcz l) NN 0).bind (Zu (fun o0=>
 some (decide ((l.length:Int)=3))) (fun r=>some r))
instance (l:List Int):CT Tryz.prog (Za7 l):=⟨63,[.sl (l.map cInt)],[],fun r=>vb r,fun r=>[],fun H=>by replace H:=H0 H; unfold Za7 at H; exact Zd Tryz.func63 rfl Tryz.ntmps63 Tryz.results63 fun Q hQ hQn=>wk3⟩
def Zea (sides:List Int):Option Int:=
 (Za7 sides).bind fun y1=>
 cond (!y1)
 (some 0)
 ((Zde sides).bind fun y2=>
 (getI y2 0).bind fun y3=>
 (getI y2 1).bind fun y4=>
 (getI y2 2).bind fun y5=>
 some (w64 ((w64 (y3+(w64 (2*y4))))+(w64 (2*y5)))))
instance (sides:List Int):CT Tryz.prog (Zea sides):=⟨64,[.sl (sides.map cInt)],[],fun r=>vi r,fun r=>[],fun H=>by replace H:=H0 H; unfold Zea at H; exact Zd Tryz.func64 rfl Tryz.ntmps64 Tryz.results64 fun Q hQ hQn=>wk3⟩
def Zbe (l:Zw):Option Bool:=
 (ZB l.service 1 3).bind fun y1=>
 cond y1
 ((ZB l.serial 0 999999999).bind fun y2=>
 cond y2
 ((Zah l.to_).bind fun y3=>
 some y3)
 (some false))
 (some false)
instance (l:Zw):CT Tryz.prog (Zbe l):=⟨61,[.ag (Zd7 l)],[],fun r=>vb r,fun r=>[],fun H=>by replace H:=H0 H; unfold Zbe at H; exact Zd Tryz.func61 rfl Tryz.ntmps61 Tryz.results61 fun Q hQ hQn=>wk3⟩
def ZaG (p:Zi):Option Bool:=
 (Zbe p.label).bind fun y1=>
 cond y1
 ((Zah p.from_).bind fun y2=>
 cond y2
 (cond (!decide (p.from_=p.label.to_))
 ((ZB p.weight 1 30000).bind fun y3=>
 cond y3
 ((Za7 p.sides).bind fun y4=>
 cond y4
 ((Zea p.sides).bind fun y5=>
 cond (decide (y5≤3600))
 ((ZB p.value 0 500000).bind fun y6=>
 some y6)
 (some false))
 (some false))
 (some false))
 (some false))
 (some false))
 (some false)
instance (p:Zi):CT Tryz.prog (ZaG p):=⟨42,[.ag (Zar p)],[],fun r=>vb r,fun r=>[],fun H=>by replace H:=H0 H; unfold ZaG at H; exact Zd Tryz.func42 rfl Tryz.ntmps42 Tryz.results42 fun Q hQ hQn=>wk3⟩
def Zc5 (a:List Int) (b:List Int) (s0:Int):Option (Int ⊕ (Unit ⊕ Bool)):=
 cond (decide (s0<(a.length:Int)))
 ((getI a s0).bind fun y1=>
 (getI b s0).bind fun y2=>
 cond (!decide (y1=y2))
 (some (.inr (.inr false)))
 (some (.inl (w64 (s0+1)))))
 (some (.inr (.inl ())))
instance (a:List Int) (b:List Int):Z1 (Zc5 a b):=⟨fun s0=>(.sl (a.map cInt)::.sl (b.map cInt)::(U 10 (vi (a.length:Int)::vi s0::(U 12 [])))),fun s0=>[]⟩
def Zfc (a:List Int) (b:List Int):Option Bool:=
 cond (!decide ((a.length:Int)=(b.length:Int)))
 (some false)
 ((Zj (Zc5 a b) NN 0).bind (Zu (fun o0=>
 some true) (fun r=>some r)))
instance (a:List Int) (b:List Int):CT Tryz.prog (Zfc a b):=⟨87,[.sl (a.map cInt),.sl (b.map cInt)],[],fun r=>vb r,fun r=>[],fun H=>by replace H:=H0 H; unfold Zfc at H; exact Zd Tryz.func87 rfl Tryz.ntmps87 Tryz.results87 fun Q hQ hQn=>wk3⟩
def Zb8 (a:Zi) (b:Zi):Option Bool:=
 cond (decide (a.label=b.label))
 (cond (decide (a.from_=b.from_))
 (cond (decide (a.weight=b.weight))
 ((Zfc a.sides b.sides).bind fun y1=>
 cond y1
 (some (decide (a.value=b.value)))
 (some false))
 (some false))
 (some false))
 (some false)
instance (a:Zi) (b:Zi):CT Tryz.prog (Zb8 a b):=⟨65,[.ag (Zar a),.ag (Zar b)],[],fun r=>vb r,fun r=>[],fun H=>by replace H:=H0 H; unfold Zb8 at H; exact Zd Tryz.func65 rfl Tryz.ntmps65 Tryz.results65 fun Q hQ hQn=>wk3⟩
def ZdC (a:YAct) (b:YAct):Option Bool:=
 cond (decide (a.kind=b.kind))
 ((Zb8 a.parcel b.parcel).bind fun y1=>
 cond y1
 (cond (decide (a.order=b.order))
 (cond (decide (a.amount=b.amount))
 (cond (decide (a.until_=b.until_))
 (some (decide (a.trip=b.trip)))
 (some false))
 (some false))
 (some false))
 (some false))
 (some false)
instance (a:YAct) (b:YAct):CT Tryz.prog (ZdC a b):=⟨44,[.ag (cAct a),.ag (cAct b)],[],fun r=>vb r,fun r=>[],fun H=>by replace H:=H0 H; unfold ZdC at H; exact Zd Tryz.func44 rfl Tryz.ntmps44 Tryz.results44 fun Q hQ hQn=>wk3⟩
def Zap (a:YAct):Option Bool:=
 (jn 3 22 (
 cond (decide (a.kind=1))
 ((ZaG a.parcel).bind fun y1=>
 some (.inl (y1,a.parcel.label.service,a.parcel.label.serial,a.parcel.label.to_,a.parcel.from_,a.parcel.weight,a.parcel.sides,a.parcel.value,0,0,0,0,0)))
 (cond (decide (a.kind=2))
 ((ZB a.order 1 9999).bind fun y2=>
 cond y2
 ((ZB a.amount 1 100000).bind fun y3=>
 some (.inl (y3,0,0,⟨#[]⟩,⟨#[]⟩,0,[],0,a.order,a.amount,0,0,0)))
 (some (.inl (false,0,0,⟨#[]⟩,⟨#[]⟩,0,[],0,a.order,a.amount,0,0,0))))
 (cond (decide (a.kind=3))
 ((ZB a.until_ 0 100000).bind fun y4=>
 some (.inl (y4,0,0,⟨#[]⟩,⟨#[]⟩,0,[],0,0,0,a.until_,0,0)))
 (cond (decide (a.kind=4))
 ((ZB a.trip.leg 0 19).bind fun y5=>
 cond y5
 ((ZB a.trip.day 0 60).bind fun y6=>
 some (.inl (y6,0,0,⟨#[]⟩,⟨#[]⟩,0,[],0,0,0,0,a.trip.leg,a.trip.day)))
 (some (.inl (false,0,0,⟨#[]⟩,⟨#[]⟩,0,[],0,0,0,0,a.trip.leg,a.trip.day))))
 (cond (decide (a.kind=5))
 (some (.inl (true,0,0,⟨#[]⟩,⟨#[]⟩,0,[],0,0,0,0,0,0)))
 (cond (decide (a.kind=6))
 ((ZB a.order 1 9999).bind fun y7=>
 some (.inl (y7,0,0,⟨#[]⟩,⟨#[]⟩,0,[],0,a.order,0,0,0,0)))
 (some (.inl (false,0,0,⟨#[]⟩,⟨#[]⟩,0,[],0,0,0,0,0,0)))))))):Option ((Bool × Int × Int × ByteArray × ByteArray × Int × (List Int) × Int × Int × Int × Int × Int × Int) ⊕ Empty)) (fun z8=>(.un::.be 0 0 0::.un::.be 1 0 0::vb z8.1::(U 68 []))) (fun z8=>[some ⟨.of 30,13,[[vi a.kind,vi a.parcel.label.service,vi a.parcel.label.serial,vs a.parcel.label.to_,vs a.parcel.from_,vi a.parcel.weight,.sl (a.parcel.sides.map cInt),vi a.parcel.value,vi a.order,vi a.amount,vi a.until_,vi a.trip.leg,vi a.trip.day]]⟩,some ⟨.of 30,13,[[vi a.kind,vi z8.2.1,vi z8.2.2.1,vs z8.2.2.2.1,vs z8.2.2.2.2.1,vi z8.2.2.2.2.2.1,.sl (z8.2.2.2.2.2.2.1.map cInt),vi z8.2.2.2.2.2.2.2.1,vi z8.2.2.2.2.2.2.2.2.1,vi z8.2.2.2.2.2.2.2.2.2.1,vi z8.2.2.2.2.2.2.2.2.2.2.1,vi z8.2.2.2.2.2.2.2.2.2.2.2.1,vi z8.2.2.2.2.2.2.2.2.2.2.2.2]]⟩])).bind (Zu (fun z8=>
 cond z8.1
 ((ZdC a (⟨a.kind,(⟨(⟨z8.2.1,z8.2.2.1,z8.2.2.2.1⟩:Zw),z8.2.2.2.2.1,z8.2.2.2.2.2.1,z8.2.2.2.2.2.2.1,z8.2.2.2.2.2.2.2.1⟩:Zi),z8.2.2.2.2.2.2.2.2.1,z8.2.2.2.2.2.2.2.2.2.1,z8.2.2.2.2.2.2.2.2.2.2.1,(⟨z8.2.2.2.2.2.2.2.2.2.2.2.1,z8.2.2.2.2.2.2.2.2.2.2.2.2⟩:Zg)⟩:YAct)).bind fun y9=>
 some y9)
 (some false)) (fun r=>nomatch r))
instance (a:YAct):CT Tryz.prog (Zap a):=⟨19,[.ag (cAct a)],[],fun r=>vb r,fun r=>[],fun H=>by replace H:=H0 H; unfold Zap at H; exact Zd Tryz.func19 rfl Tryz.ntmps19 Tryz.results19 fun Q hQ hQn=>wk3⟩
def ZD (l:List Int) (s0:Int × (List Int)) (s1:Int):Option (Int ⊕ Int):=
 cond (decide (s1<(s0.2.length:Int)))
 ((getI s0.2 s1).bind fun y1=>
 (getI l s0.1).bind fun y2=>
 cond (decide (y2≤y1))
 (some (.inl (w64 (s1+1))))
 (some (.inr s1)))
 (some (.inr s1))
instance (l:List Int) (s0:Int × (List Int)):Z1 (ZD l s0):=⟨fun s1=>(.sl (l.map cInt)::.un::.un::.ms 0::vi s0.1::vi s1::(U 39 [])),fun s1=>[some ⟨.of 3,1,s0.2.map cInt⟩]⟩
def ZaP (l:List Int) (s0:Int × (List Int)):Option ((Int × (List Int)) ⊕ (List Int)):=
 cond (decide (s0.1<(l.length:Int)))
 ((Zj (ZD l s0) NN 0).bind (fun o1=>
 (chk (slOk 0 o1 s0.2.length)).bind fun _=>
 (Zad (subL s0.2 0 o1)).bind fun y3=>
 (getI l s0.1).bind fun y4=>
 (chk (Z9 ((y3:List Int).length+([y4]:List Int).length) 8)).bind fun _=>
 (chk (slOk o1 (s0.2.length:Int) s0.2.length)).bind fun _=>
 (chk (Z9 ((((y3:List Int)++[y4]):List Int).length+((subL s0.2 o1 (s0.2.length:Int)):List Int).length) 8)).bind fun _=>
 some (.inl ((w64 (s0.1+1)),((((y3:List Int)++[y4]):List Int)++(subL s0.2 o1 (s0.2.length:Int)))))))
 (some (.inr s0.2))
instance (l:List Int):Z1 (ZaP l):=⟨fun s0=>(.sl (l.map cInt)::.un::.un::.ms 0::vi s0.1::(U 40 [])),fun s0=>[some ⟨.of 3,1,s0.2.map cInt⟩]⟩
def Zdm (l:List Int):Option (List Int):=
 (Zj (ZaP l) NN (0,([]:List Int))).bind (fun o0=>
 some o0)
instance (l:List Int):CT Tryz.prog (Zdm l):=⟨88,[.sl (l.map cInt)],[],fun r=>.ms 0,fun r=>[some ⟨.of 3,1,r.map cInt⟩],fun H=>by replace H:=H0 H; unfold Zdm at H; exact Zd Tryz.func88 rfl Tryz.ntmps88 Tryz.results88 fun Q hQ hQn=>wk3⟩
def Zbd (l:List Int) (s0:Int):Option (Int ⊕ (Unit ⊕ Bool)):=
 cond (decide (s0<(l.length:Int)))
 ((getI l s0).bind fun y1=>
 (Zl y1 1 2000).bind fun y2=>
 cond (!y2)
 (some (.inr (.inr false)))
 (some (.inl (w64 (s0+1)))))
 (some (.inr (.inl ())))
instance (l:List Int):Z1 (Zbd l):=⟨fun s0=>(.sl (l.map cInt)::.un::.un::vi s0::(U 15 [])),fun s0=>[]⟩
def Zbf (l:List Int):Option Bool:=
 (Zj (Zbd l) NN 0).bind (Zu (fun o0=>
 some (decide ((l.length:Int)=3))) (fun r=>some r))
instance (l:List Int):CT Tryz.prog (Zbf l):=⟨68,[.sl (l.map cInt)],[],fun r=>vb r,fun r=>[],fun H=>by replace H:=H0 H; unfold Zbf at H; exact Zd Tryz.func68 rfl Tryz.ntmps68 Tryz.results68 fun Q hQ hQn=>wk3⟩
def Zdr (sides:List Int):Option Int:=
 (Zbf sides).bind fun y1=>
 cond (!y1)
 (some 0)
 ((Zdm sides).bind fun y2=>
 (getI y2 0).bind fun y3=>
 (getI y2 1).bind fun y4=>
 (getI y2 2).bind fun y5=>
 some (w64 ((w64 (y3+(w64 (2*y4))))+(w64 (2*y5)))))
instance (sides:List Int):CT Tryz.prog (Zdr sides):=⟨69,[.sl (sides.map cInt)],[],fun r=>vi r,fun r=>[],fun H=>by replace H:=H0 H; unfold Zdr at H; exact Zd Tryz.func69 rfl Tryz.ntmps69 Tryz.results69 fun Q hQ hQn=>wk3⟩
def ZJ (l:Zw):Option Bool:=
 (Zl l.service 1 3).bind fun y1=>
 cond y1
 ((Zl l.serial 0 999999999).bind fun y2=>
 cond y2
 ((Zy l.to_).bind fun y3=>
 some y3)
 (some false))
 (some false)
instance (l:Zw):CT Tryz.prog (ZJ l):=⟨66,[.ag (Zd7 l)],[],fun r=>vb r,fun r=>[],fun H=>by replace H:=H0 H; unfold ZJ at H; exact Zd Tryz.func66 rfl Tryz.ntmps66 Tryz.results66 fun Q hQ hQn=>wk3⟩
def Zaf (p:Zi):Option Bool:=
 (ZJ p.label).bind fun y1=>
 cond y1
 ((Zy p.from_).bind fun y2=>
 cond y2
 (cond (!decide (p.from_=p.label.to_))
 ((Zl p.weight 1 30000).bind fun y3=>
 cond y3
 ((Zbf p.sides).bind fun y4=>
 cond y4
 ((Zdr p.sides).bind fun y5=>
 cond (decide (y5≤3600))
 ((Zl p.value 0 500000).bind fun y6=>
 some y6)
 (some false))
 (some false))
 (some false))
 (some false))
 (some false))
 (some false)
instance (p:Zi):CT Tryz.prog (Zaf p):=⟨45,[.ag (Zar p)],[],fun r=>vb r,fun r=>[],fun H=>by replace H:=H0 H; unfold Zaf at H; exact Zd Tryz.func45 rfl Tryz.ntmps45 Tryz.results45 fun Q hQ hQn=>wk3⟩
def Zaj (a:YAct):Option Bool:=
 (jn 2 7 (
 cond (decide (a.kind=1))
 ((Zaf a.parcel).bind fun y1=>
 cond (!y1)
 (some (.inr false))
 (some (.inl ())))
 (cond (!decide (a.parcel.label=(⟨0,0,⟨#[]⟩⟩:Zw)))
 (some (.inr false))
 (cond (!decide (a.parcel.from_=⟨#[]⟩))
 (some (.inr false))
 (cond (!decide (a.parcel.weight=0))
 (some (.inr false))
 (cond (decide (0<(a.parcel.sides.length:Int)))
 (some (.inr false))
 (cond (!decide (a.parcel.value=0))
 (some (.inr false))
 (some (.inl ()))))))):Option (Unit ⊕ Bool)) (fun z2=>(.un::.be 0 0 0::(U 129 []))) (fun z2=>[some ⟨.of 30,13,[[vi a.kind,vi a.parcel.label.service,vi a.parcel.label.serial,vs a.parcel.label.to_,vs a.parcel.from_,vi a.parcel.weight,.sl (a.parcel.sides.map cInt),vi a.parcel.value,vi a.order,vi a.amount,vi a.until_,vi a.trip.leg,vi a.trip.day]]⟩])).bind (Zu (fun z2=>
 (jn 7 8 (
 cond (decide (a.kind=2))
 (some (.inl true))
 (some (.inl (decide (a.kind=6)))):Option (Bool ⊕ Empty)) (fun z3=>(.un::.be 0 0 0::.un::.un::vb z3::(U 126 []))) (fun z3=>[some ⟨.of 30,13,[[vi a.kind,vi a.parcel.label.service,vi a.parcel.label.serial,vs a.parcel.label.to_,vs a.parcel.from_,vi a.parcel.weight,.sl (a.parcel.sides.map cInt),vi a.parcel.value,vi a.order,vi a.amount,vi a.until_,vi a.trip.leg,vi a.trip.day]]⟩])).bind (Zu (fun z3=>
 (jn 8 10 (
 cond z3
 ((Zl a.order 1 9999).bind fun y4=>
 cond (!y4)
 (some (.inr false))
 (cond (!z3)
 (cond (!decide (a.order=0))
 (some (.inr false))
 (some (.inl ())))
 (some (.inl ()))))
 (cond (!z3)
 (cond (!decide (a.order=0))
 (some (.inr false))
 (some (.inl ())))
 (some (.inl ()))):Option (Unit ⊕ Bool)) (fun z5=>(.un::.be 0 0 0::(U 129 []))) (fun z5=>[some ⟨.of 30,13,[[vi a.kind,vi a.parcel.label.service,vi a.parcel.label.serial,vs a.parcel.label.to_,vs a.parcel.from_,vi a.parcel.weight,.sl (a.parcel.sides.map cInt),vi a.parcel.value,vi a.order,vi a.amount,vi a.until_,vi a.trip.leg,vi a.trip.day]]⟩])).bind (Zu (fun z5=>
 (jn 10 12 (
 cond (decide (a.kind=2))
 ((Zl a.amount 1 100000).bind fun y6=>
 cond (!y6)
 (some (.inr false))
 (cond (!decide (a.kind=2))
 (cond (!decide (a.amount=0))
 (some (.inr false))
 (some (.inl ())))
 (some (.inl ()))))
 (cond (!decide (a.kind=2))
 (cond (!decide (a.amount=0))
 (some (.inr false))
 (some (.inl ())))
 (some (.inl ()))):Option (Unit ⊕ Bool)) (fun z7=>(.un::.be 0 0 0::(U 129 []))) (fun z7=>[some ⟨.of 30,13,[[vi a.kind,vi a.parcel.label.service,vi a.parcel.label.serial,vs a.parcel.label.to_,vs a.parcel.from_,vi a.parcel.weight,.sl (a.parcel.sides.map cInt),vi a.parcel.value,vi a.order,vi a.amount,vi a.until_,vi a.trip.leg,vi a.trip.day]]⟩])).bind (Zu (fun z7=>
 (jn 12 14 (
 cond (decide (a.kind=3))
 ((Zl a.until_ 0 100000).bind fun y8=>
 cond (!y8)
 (some (.inr false))
 (cond (!decide (a.kind=3))
 (cond (!decide (a.until_=0))
 (some (.inr false))
 (some (.inl ())))
 (some (.inl ()))))
 (cond (!decide (a.kind=3))
 (cond (!decide (a.until_=0))
 (some (.inr false))
 (some (.inl ())))
 (some (.inl ()))):Option (Unit ⊕ Bool)) (fun z9=>(.un::.be 0 0 0::(U 129 []))) (fun z9=>[some ⟨.of 30,13,[[vi a.kind,vi a.parcel.label.service,vi a.parcel.label.serial,vs a.parcel.label.to_,vs a.parcel.from_,vi a.parcel.weight,.sl (a.parcel.sides.map cInt),vi a.parcel.value,vi a.order,vi a.amount,vi a.until_,vi a.trip.leg,vi a.trip.day]]⟩])).bind (Zu (fun z9=>
 (jn 14 16 (
 cond (decide (a.kind=4))
 ((Zl a.trip.leg 0 19).bind fun y10=>
 cond (!y10)
 (some (.inr false))
 ((Zl a.trip.day 0 60).bind fun y11=>
 cond (!y11)
 (some (.inr false))
 (cond (!decide (a.kind=4))
 (cond (!decide (a.trip=(⟨0,0⟩:Zg)))
 (some (.inr false))
 (some (.inl ())))
 (some (.inl ())))))
 (cond (!decide (a.kind=4))
 (cond (!decide (a.trip=(⟨0,0⟩:Zg)))
 (some (.inr false))
 (some (.inl ())))
 (some (.inl ()))):Option (Unit ⊕ Bool)) (fun z12=>(.un::.be 0 0 0::(U 129 []))) (fun z12=>[some ⟨.of 30,13,[[vi a.kind,vi a.parcel.label.service,vi a.parcel.label.serial,vs a.parcel.label.to_,vs a.parcel.from_,vi a.parcel.weight,.sl (a.parcel.sides.map cInt),vi a.parcel.value,vi a.order,vi a.amount,vi a.until_,vi a.trip.leg,vi a.trip.day]]⟩])).bind (Zu (fun z12=>
 (Zl a.kind 1 6).bind fun y13=>
 some y13) (fun r=>some r))) (fun r=>some r))) (fun r=>some r))) (fun r=>some r))) (fun r=>nomatch r))) (fun r=>some r))
instance (a:YAct):CT Tryz.prog (Zaj a):=⟨20,[.ag (cAct a)],[],fun r=>vb r,fun r=>[],fun H=>by replace H:=H0 H; unfold Zaj at H; exact Zd Tryz.func20 rfl Tryz.ntmps20 Tryz.results20 fun Q hQ hQn=>wk3⟩
end Go.Proofs.YtkfbakhnpfmfmaaGreatDoor
