/- A part of the proof of the statement in the last file of this claim: texts on the language of the program and on its functions. No condition. -/
import Derived.Test.YtkfbakhnpfmfmaaGreatDoorCFnActRead4
import Derived.Test.YtkfbakhnpfmfmaaGreatDoorCFnActRead5
import Derived.Test.YtkfbakhnpfmfmaaGreatDoorCFnActRead7
import Derived.Test.YtkfbakhnpfmfmaaGreatDoorCFnActRead8
set_option linter.unusedVariables false
set_option linter.unusedSimpArgs false
set_option linter.unusedSectionVars false
namespace Go.Proofs.YtkfbakhnpfmfmaaGreatDoor
set_option maxRecDepth 10000
open Go.RowKit
set_option linter.unusedVariables false
set_option maxHeartbeats 16000000
def Zaa (p:Zi):Option ByteArray:=
 (ZaG p).bind fun y1=>
 cond (!y1)
 (some (⟨#[]⟩))
 ((getI p.sides 0).bind fun y2=>
 (ZI y2).bind fun y3=>
 (chk (ZaK y3 (⟨#[120]⟩))).bind fun _=>
 (getI p.sides 1).bind fun y4=>
 (ZI y4).bind fun y5=>
 (chk (ZaK (y3++⟨#[120]⟩) y5)).bind fun _=>
 (chk (ZaK ((y3++⟨#[120]⟩)++y5) (⟨#[120]⟩))).bind fun _=>
 (getI p.sides 2).bind fun y6=>
 (ZI y6).bind fun y7=>
 (chk (ZaK (((y3++⟨#[120]⟩)++y5)++⟨#[120]⟩) y7)).bind fun _=>
 (ZM p.label).bind fun y8=>
 (chk (ZaK y8 (⟨#[32]⟩))).bind fun _=>
 (chk (ZaK (y8++⟨#[32]⟩) p.from_)).bind fun _=>
 (chk (ZaK ((y8++⟨#[32]⟩)++p.from_) (⟨#[32]⟩))).bind fun _=>
 (ZI p.weight).bind fun y9=>
 (chk (ZaK (((y8++⟨#[32]⟩)++p.from_)++⟨#[32]⟩) y9)).bind fun _=>
 (chk (ZaK ((((y8++⟨#[32]⟩)++p.from_)++⟨#[32]⟩)++y9) (⟨#[32]⟩))).bind fun _=>
 (chk (ZaK (((((y8++⟨#[32]⟩)++p.from_)++⟨#[32]⟩)++y9)++⟨#[32]⟩) ((((y3++⟨#[120]⟩)++y5)++⟨#[120]⟩)++y7))).bind fun _=>
 (chk (ZaK ((((((y8++⟨#[32]⟩)++p.from_)++⟨#[32]⟩)++y9)++⟨#[32]⟩)++((((y3++⟨#[120]⟩)++y5)++⟨#[120]⟩)++y7)) (⟨#[32]⟩))).bind fun _=>
 (ZI p.value).bind fun y10=>
 (chk (ZaK (((((((y8++⟨#[32]⟩)++p.from_)++⟨#[32]⟩)++y9)++⟨#[32]⟩)++((((y3++⟨#[120]⟩)++y5)++⟨#[120]⟩)++y7))++⟨#[32]⟩) y10)).bind fun _=>
 some ((((((((y8++⟨#[32]⟩)++p.from_)++⟨#[32]⟩)++y9)++⟨#[32]⟩)++((((y3++⟨#[120]⟩)++y5)++⟨#[120]⟩)++y7))++⟨#[32]⟩)++y10))
instance (p:Zi):CT Tryz.prog (Zaa p):=⟨39,[.ag (Zar p)],[],fun r=>vs r,fun r=>[],fun H=>by replace H:=H0 H; unfold Zaa at H; exact Zd Tryz.func39 rfl Tryz.ntmps39 Tryz.results39 fun Q hQ hQn=>wk3⟩
def ZcE (t:Zg):Option ByteArray:=
 (ZI t.leg).bind fun y1=>
 (chk (ZaK y1 (⟨#[47]⟩))).bind fun _=>
 (ZI t.day).bind fun y2=>
 (chk (ZaK (y1++⟨#[47]⟩) y2)).bind fun _=>
 some ((y1++⟨#[47]⟩)++y2)
instance (t:Zg):CT Tryz.prog (ZcE t):=⟨41,[.ag (ZS t)],[],fun r=>vs r,fun r=>[],fun H=>by replace H:=H0 H; unfold ZcE at H; exact Zd Tryz.func41 rfl Tryz.ntmps41 Tryz.results41 fun Q hQ hQn=>wk3⟩
def Zq (a:YAct):Option ByteArray:=
 (Zap a).bind fun y1=>
 cond (!y1)
 (some (⟨#[]⟩))
 (cond (decide (a.kind=1))
 ((Zaa a.parcel).bind fun y2=>
 (chk (ZaK (⟨#[116,97,107,101,32]⟩) y2)).bind fun _=>
 some (⟨#[116,97,107,101,32]⟩++y2))
 (cond (decide (a.kind=2))
 ((ZI a.order).bind fun y3=>
 (chk (ZaK (⟨#[112,97,121,32]⟩) y3)).bind fun _=>
 (chk (ZaK (⟨#[112,97,121,32]⟩++y3) (⟨#[32]⟩))).bind fun _=>
 (ZI a.amount).bind fun y4=>
 (chk (ZaK ((⟨#[112,97,121,32]⟩++y3)++⟨#[32]⟩) y4)).bind fun _=>
 some (((⟨#[112,97,121,32]⟩++y3)++⟨#[32]⟩)++y4))
 (cond (decide (a.kind=3))
 ((ZI a.until_).bind fun y5=>
 (chk (ZaK (⟨#[114,117,110,32]⟩) y5)).bind fun _=>
 some (⟨#[114,117,110,32]⟩++y5))
 (cond (decide (a.kind=4))
 ((ZcE a.trip).bind fun y6=>
 (chk (ZaK (⟨#[115,104,117,116,32]⟩) y6)).bind fun _=>
 some (⟨#[115,104,117,116,32]⟩++y6))
 (cond (decide (a.kind=5))
 (some (⟨#[114,101,116,114,121]⟩))
 ((ZI a.order).bind fun y7=>
 (chk (ZaK (⟨#[114,101,102,117,110,100,32]⟩) y7)).bind fun _=>
 some (⟨#[114,101,102,117,110,100,32]⟩++y7)))))))
instance (a:YAct):CT Tryz.prog (Zq a):=⟨18,[.ag (cAct a)],[],fun r=>vs r,fun r=>[],fun H=>by replace H:=H0 H; unfold Zq at H; exact Zd Tryz.func18 rfl Tryz.ntmps18 Tryz.results18 fun Q hQ hQn=>wk3⟩
def ZaW (s:ByteArray) (y2:ByteArray) (y4:Zw × Bool) (y6:Int × Bool) (y8:Int × Bool) (y10:List ByteArray) (s0:Int × (List Int)):Option ((Int × (List Int)) ⊕ (List Int)):=
 cond (decide (s0.1<(y10.length:Int)))
 ((getI y10 s0.1).bind fun y11=>
 (ZK y11).bind fun y12=>
 (chk (Z9 ((s0.2:List Int).length+([y12.1]:List Int).length) 8)).bind fun _=>
 some (.inl ((w64 (s0.1+1)),((s0.2:List Int)++[y12.1]))))
 (some (.inr s0.2))
instance (s:ByteArray) (y2:ByteArray) (y4:Zw × Bool) (y6:Int × Bool) (y8:Int × Bool) (y10:List ByteArray):Z1 (ZaW s y2 y4 y6 y8 y10):=⟨fun s0=>(vs s::.un::.be 0 0 0::.un::.un::.be 1 0 0::(U 41 (.ms 3::vi (y10.length:Int)::vi s0.1::(U 25 [])))),fun s0=>[some ⟨.of 26,7,[[vi 0,vi 0,vs (⟨#[]⟩),vs (⟨#[]⟩),vi 0,.v (.slice none 0 0),vi 0]]⟩,some ⟨.of 26,7,[[vi y4.1.service,vi y4.1.serial,vs y4.1.to_,vs y2,vi y6.1,.ms 2,vi y8.1]]⟩,some ⟨.of 3,1,s0.2.map cInt⟩,some ⟨.of 9,1,y10.map cStr⟩]⟩
def Zay (s:ByteArray):Option (Zi × Bool):=
 (Zbq s (⟨#[32]⟩)).bind fun y1=>
 cond (!decide ((y1.length:Int)=5))
 (some ((⟨(⟨0,0,⟨#[]⟩⟩:Zw),⟨#[]⟩,0,[],0⟩:Zi),false))
 ((getI y1 1).bind fun y2=>
 (getI y1 0).bind fun y3=>
 (ZaR y3).bind fun y4=>
 (getI y1 2).bind fun y5=>
 (ZK y5).bind fun y6=>
 (getI y1 4).bind fun y7=>
 (ZK y7).bind fun y8=>
 (getI y1 3).bind fun y9=>
 (Zbq y9 (⟨#[120]⟩)).bind fun y10=>
 (Zj (ZaW s y2 y4 y6 y8 y10) NN (0,[])).bind (fun o0=>
 cond (decide (s=⟨#[]⟩))
 (some ((⟨(⟨0,0,⟨#[]⟩⟩:Zw),⟨#[]⟩,0,[],0⟩:Zi),false))
 ((Zaa (⟨y4.1,y2,y6.1,o0,y8.1⟩:Zi)).bind fun y13=>
 cond (!decide (y13=s))
 (some ((⟨(⟨0,0,⟨#[]⟩⟩:Zw),⟨#[]⟩,0,[],0⟩:Zi),false))
 (some ((⟨y4.1,y2,y6.1,o0,y8.1⟩:Zi),true)))))
instance (s:ByteArray):CT Tryz.prog (Zay s):=⟨27,[vs s],[],fun r=>.tu [.ag [vi r.1.label.service,vi r.1.label.serial,vs r.1.label.to_,vs r.1.from_,vi r.1.weight,.ms 0,vi r.1.value],vb r.2],fun r=>[some ⟨.of 3,1,r.1.sides.map cInt⟩],fun H=>by replace H:=H0 H; unfold Zay at H; exact Zd Tryz.func27 rfl Tryz.ntmps27 Tryz.results27 fun Q hQ hQn=>wk3⟩
def ZbP (s:ByteArray):Option (Zg × Bool):=
 (Zaw s (⟨#[47]⟩)).bind fun y1=>
 (ZK y1.1).bind fun y2=>
 (ZK y1.2.1).bind fun y3=>
 cond y1.2.2
 (cond y2.2
 (some ((⟨y2.1,y3.1⟩:Zg),y3.2))
 (some ((⟨y2.1,y3.1⟩:Zg),false)))
 (some ((⟨y2.1,y3.1⟩:Zg),false))
instance (s:ByteArray):CT Tryz.prog (ZbP s):=⟨29,[vs s],[],fun r=>.tu [.ag [vi r.1.leg,vi r.1.day],vb r.2],fun r=>[],fun H=>by replace H:=H0 H; unfold ZbP at H; exact Zd Tryz.func29 rfl Tryz.ntmps29 Tryz.results29 fun Q hQ hQn=>wk3⟩
def Z4 (s:ByteArray):Option (YAct × Bool):=
 (Zaw s (⟨#[32]⟩)).bind fun y1=>
 (jn 3 23 (
 cond (decide (y1.1=⟨#[116,97,107,101]⟩))
 ((Zay y1.2.1).bind fun y2=>
 some (.inl (1,y2.1.label.service,y2.1.label.serial,y2.1.label.to_,y2.1.from_,y2.1.weight,y2.1.value,0,0,0,0,0,y2.1.sides)))
 (cond (decide (y1.1=⟨#[112,97,121]⟩))
 ((Zaw y1.2.1 (⟨#[32]⟩)).bind fun y3=>
 (ZK y3.1).bind fun y4=>
 (ZK y3.2.1).bind fun y5=>
 some (.inl (2,0,0,⟨#[]⟩,⟨#[]⟩,0,0,y4.1,y5.1,0,0,0,[])))
 (cond (decide (y1.1=⟨#[114,117,110]⟩))
 ((ZK y1.2.1).bind fun y6=>
 some (.inl (3,0,0,⟨#[]⟩,⟨#[]⟩,0,0,0,0,y6.1,0,0,[])))
 (cond (decide (y1.1=⟨#[115,104,117,116]⟩))
 ((ZbP y1.2.1).bind fun y7=>
 some (.inl (4,0,0,⟨#[]⟩,⟨#[]⟩,0,0,0,0,0,y7.1.leg,y7.1.day,[])))
 (cond (decide (y1.1=⟨#[114,101,116,114,121]⟩))
 (some (.inl (5,0,0,⟨#[]⟩,⟨#[]⟩,0,0,0,0,0,0,0,[])))
 (cond (decide (y1.1=⟨#[114,101,102,117,110,100]⟩))
 ((ZK y1.2.1).bind fun y8=>
 some (.inl (6,0,0,⟨#[]⟩,⟨#[]⟩,0,0,y8.1,0,0,0,0,[])))
 (some (.inl (0,0,0,⟨#[]⟩,⟨#[]⟩,0,0,0,0,0,0,0,[])))))))):Option ((Int × Int × Int × ByteArray × ByteArray × Int × Int × Int × Int × Int × Int × Int × (List Int)) ⊕ Empty)) (fun z9=>(vs s::.un::.be 0 0 0::(U 4 (.be 1 0 0::(U 81 []))))) (fun z9=>[some ⟨.of 30,13,[[vi 0,vi 0,vi 0,vs (⟨#[]⟩),vs (⟨#[]⟩),vi 0,.v (.slice none 0 0),vi 0,vi 0,vi 0,vi 0,vi 0,vi 0]]⟩,some ⟨.of 30,13,[[vi z9.1,vi z9.2.1,vi z9.2.2.1,vs z9.2.2.2.1,vs z9.2.2.2.2.1,vi z9.2.2.2.2.2.1,.ms 2,vi z9.2.2.2.2.2.2.1,vi z9.2.2.2.2.2.2.2.1,vi z9.2.2.2.2.2.2.2.2.1,vi z9.2.2.2.2.2.2.2.2.2.1,vi z9.2.2.2.2.2.2.2.2.2.2.1,vi z9.2.2.2.2.2.2.2.2.2.2.2.1]]⟩,some ⟨.of 3,1,z9.2.2.2.2.2.2.2.2.2.2.2.2.map cInt⟩])).bind (Zu (fun z9=>
 cond (decide (s=⟨#[]⟩))
 (some ((⟨0,(⟨(⟨0,0,⟨#[]⟩⟩:Zw),⟨#[]⟩,0,[],0⟩:Zi),0,0,0,(⟨0,0⟩:Zg)⟩:YAct),false))
 ((Zq (⟨z9.1,(⟨(⟨z9.2.1,z9.2.2.1,z9.2.2.2.1⟩:Zw),z9.2.2.2.2.1,z9.2.2.2.2.2.1,z9.2.2.2.2.2.2.2.2.2.2.2.2,z9.2.2.2.2.2.2.1⟩:Zi),z9.2.2.2.2.2.2.2.1,z9.2.2.2.2.2.2.2.2.1,z9.2.2.2.2.2.2.2.2.2.1,(⟨z9.2.2.2.2.2.2.2.2.2.2.1,z9.2.2.2.2.2.2.2.2.2.2.2.1⟩:Zg)⟩:YAct)).bind fun y10=>
 cond (!decide (y10=s))
 (some ((⟨0,(⟨(⟨0,0,⟨#[]⟩⟩:Zw),⟨#[]⟩,0,[],0⟩:Zi),0,0,0,(⟨0,0⟩:Zg)⟩:YAct),false))
 (some ((⟨z9.1,(⟨(⟨z9.2.1,z9.2.2.1,z9.2.2.2.1⟩:Zw),z9.2.2.2.2.1,z9.2.2.2.2.2.1,z9.2.2.2.2.2.2.2.2.2.2.2.2,z9.2.2.2.2.2.2.1⟩:Zi),z9.2.2.2.2.2.2.2.1,z9.2.2.2.2.2.2.2.2.1,z9.2.2.2.2.2.2.2.2.2.1,(⟨z9.2.2.2.2.2.2.2.2.2.2.1,z9.2.2.2.2.2.2.2.2.2.2.2.1⟩:Zg)⟩:YAct),true)))) (fun r=>nomatch r))
instance (s:ByteArray):CT Tryz.prog (Z4 s):=⟨7,[vs s],[],fun r=>.tu [.ag [vi r.1.kind,vi r.1.parcel.label.service,vi r.1.parcel.label.serial,vs r.1.parcel.label.to_,vs r.1.parcel.from_,vi r.1.parcel.weight,.ms 0,vi r.1.parcel.value,vi r.1.order,vi r.1.amount,vi r.1.until_,vi r.1.trip.leg,vi r.1.trip.day],vb r.2],fun r=>[some ⟨.of 3,1,r.1.parcel.sides.map cInt⟩],fun H=>by replace H:=H0 H; unfold Z4 at H; exact Zd Tryz.func7 rfl Tryz.ntmps7 Tryz.results7 fun Q hQ hQn=>wk3⟩
end Go.Proofs.YtkfbakhnpfmfmaaGreatDoor
