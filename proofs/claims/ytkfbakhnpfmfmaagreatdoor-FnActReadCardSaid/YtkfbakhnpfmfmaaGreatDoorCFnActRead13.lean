/- A part of the proof of the statement in the last file of this claim: texts on the language of the program and on its functions. No condition. -/
import Derived.Test.YtkfbakhnpfmfmaaGreatDoorCFnActRead4
import Derived.Test.YtkfbakhnpfmfmaaGreatDoorCFnActRead6
import Derived.Test.YtkfbakhnpfmfmaaGreatDoorCFnActRead7
set_option linter.unusedVariables false
set_option linter.unusedSimpArgs false
set_option linter.unusedSectionVars false
namespace Go.Proofs.YtkfbakhnpfmfmaaGreatDoor
set_option maxRecDepth 10000
open Go.RowKit
set_option linter.unusedVariables false
set_option maxHeartbeats 16000000
def Zc7 (x:ZaF):Option Bool:=
 (Zl x.order 1 9999).bind fun y1=>
 cond y1
 ((Zl x.kind 1 3).bind fun y2=>
 cond y2
 ((Zl x.amount 1 100000).bind fun y3=>
 cond y3
 ((Zl x.at_ 0 100000).bind fun y4=>
 some y4)
 (some false))
 (some false))
 (some false)
instance (x:ZaF):CT Tryz.prog (Zc7 x):=⟨175,[.ag (Zbi x)],[],fun r=>vb r,fun r=>[],fun H=>by replace H:=H0 H; unfold Zc7 at H; exact Zd Tryz.func175 rfl Tryz.ntmps175 Tryz.results175 fun Q hQ hQn=>wk3⟩
def Zfv (l:List ZaF) (order:Int) (kind:Int) (s0:Int × Int):Option ((Int × Int) ⊕ Int):=
 cond (decide (s0.2<(l.length:Int)))
 ((jn 5 4 (
 (getI l s0.2).bind fun y1=>
 cond (decide (y1.order=order))
 ((getI l s0.2).bind fun y2=>
 cond (decide (y2.kind=kind))
 ((getI l s0.2).bind fun y3=>
 some (.inl (w64 (s0.1+y3.amount))))
 (some (.inl s0.1)))
 (some (.inl s0.1)):Option (Int ⊕ Empty)) (fun z4=>(.sl (l.map Zbi)::vi order::vi kind::(U 4 (vi z4::vi s0.2::(U 30 []))))) (fun z4=>[])).bind (Zu (fun z4=>
 some (.inl (z4,(w64 (s0.2+1))))) (fun r=>nomatch r)))
 (some (.inr s0.1))
instance (l:List ZaF) (order:Int) (kind:Int):Z1 (Zfv l order kind):=⟨fun s0=>(.sl (l.map Zbi)::vi order::vi kind::(U 4 (vi s0.1::vi s0.2::(U 30 [])))),fun s0=>[]⟩
def ZaE (l:List ZaF) (order:Int) (kind:Int):Option Int:=
 (Zj (Zfv l order kind) NN (0,0)).bind (fun o0=>
 some o0)
theorem Zli (l:List ZaF) (order:Int) (kind:Int) {r:Int} (H:ZaE l order kind=some r):Zd1 Tryz.prog 142 [.sl (l.map Zbi),vi order,vi kind] [] (vi r) []:=by
 replace H:=H0 H
 unfold ZaE at H
 refine Zd Tryz.func142 rfl Tryz.ntmps142 Tryz.results142 fun Q hQ hQn=>?_
 exact wk3
instance (l:List ZaF) (order:Int) (kind:Int):CT Tryz.prog (ZaE l order kind):=⟨142,[.sl (l.map Zbi),vi order,vi kind],[],fun r=>vi r,fun r=>[],Zli l order kind⟩
def ZeI (l:List ZaF) (order:Int) (kind:Int) (s0:Int × Int):Option ((Int × Int) ⊕ Int):=
 cond (decide (s0.2<(l.length:Int)))
 ((jn 5 4 (
 (getI l s0.2).bind fun y1=>
 cond (decide (y1.order=order))
 ((getI l s0.2).bind fun y2=>
 cond (decide (y2.kind=kind))
 (some (.inl (w64 (s0.1+1))))
 (some (.inl s0.1)))
 (some (.inl s0.1)):Option (Int ⊕ Empty)) (fun z3=>(.sl (l.map Zbi)::vi order::vi kind::(U 4 (vi z3::vi s0.2::(U 25 []))))) (fun z3=>[])).bind (Zu (fun z3=>
 some (.inl (z3,(w64 (s0.2+1))))) (fun r=>nomatch r)))
 (some (.inr s0.1))
instance (l:List ZaF) (order:Int) (kind:Int):Z1 (ZeI l order kind):=⟨fun s0=>(.sl (l.map Zbi)::vi order::vi kind::(U 4 (vi s0.1::vi s0.2::(U 25 [])))),fun s0=>[]⟩
def ZcQ (l:List ZaF) (order:Int) (kind:Int):Option Int:=
 (Zj (ZeI l order kind) NN (0,0)).bind (fun o0=>
 some o0)
instance (l:List ZaF) (order:Int) (kind:Int):CT Tryz.prog (ZcQ l order kind):=⟨176,[.sl (l.map Zbi),vi order,vi kind],[],fun r=>vi r,fun r=>[],fun H=>by replace H:=H0 H; unfold ZcQ at H; exact Zd Tryz.func176 rfl Tryz.ntmps176 Tryz.results176 fun Q hQ hQn=>wk3⟩
def Zdx (l:List ZaF) (s0:Int):Option (Int ⊕ (Unit ⊕ Bool)):=
 cond (decide (s0<(l.length:Int)))
 ((jn 6 5 (
 (getI l s0).bind fun y1=>
 (jn 7 9 (
 (Zc7 y1).bind fun y2=>
 cond (!y2)
 (some (.inr false))
 (cond (decide (0<s0))
 ((getI l (w64 (s0-1))).bind fun y3=>
 cond (decide (y1.at_<y3.at_))
 (some (.inr false))
 (some (.inl ())))
 (some (.inl ()))):Option (Unit ⊕ Bool)) (fun z4=>(.sl (l.map Zbi)::.un::.un::vi s0::.be 0 0 0::(U 76 []))) (fun z4=>[some ⟨.of 188,4,[[vi y1.order,vi y1.kind,vi y1.amount,vi y1.at_]]⟩])).bind (Zu (fun z4=>
 (chk (slOk 0 s0 l.length)).bind fun _=>
 (ZaE (subL l 0 s0) y1.order 1).bind fun y5=>
 cond (decide (y1.kind=1))
 (cond (decide (0<y5))
 (some (.inr false))
 (some (.inl ())))
 (cond (decide (y1.kind=2))
 ((ZaE (subL l 0 s0) y1.order 2).bind fun y6=>
 cond (decide (y5<(w64 (y6+y1.amount))))
 (some (.inr false))
 (some (.inl ())))
 ((ZcQ (subL l 0 s0) y1.order 3).bind fun y7=>
 cond (decide (0<y7))
 (some (.inr false))
 (cond (decide (y5<y1.amount))
 (some (.inr false))
 ((ZaE (subL l 0 s0) y1.order 2).bind fun y8=>
 cond (!decide (y8=y5))
 (some (.inr false))
 (some (.inl ()))))))) (fun r=>some (.inr r))):Option (Unit ⊕ Bool)) (fun z9=>(.sl (l.map Zbi)::.un::.un::vi s0::(U 77 []))) (fun z9=>[])).bind (Zu (fun z9=>
 some (.inl (w64 (s0+1)))) (fun r=>some (.inr (.inr r)))))
 (some (.inr (.inl ())))
instance (l:List ZaF):Z1 (Zdx l):=⟨fun s0=>(.sl (l.map Zbi)::.un::.un::vi s0::(U 77 [])),fun s0=>[]⟩
def Zae (l:List ZaF):Option Bool:=
 cond (decide (200<(l.length:Int)))
 (some false)
 ((Zj (Zdx l) NN 0).bind (Zu (fun o0=>
 some true) (fun r=>some r)))
theorem ZiK (l:List ZaF) {r:Bool} (H:Zae l=some r):Zd1 Tryz.prog 141 [.sl (l.map Zbi)] [] (vb r) []:=by
 replace H:=H0 H
 unfold Zae at H
 refine Zd Tryz.func141 rfl Tryz.ntmps141 Tryz.results141 fun Q hQ hQn=>?_
 exact wk3
instance (l:List ZaF):CT Tryz.prog (Zae l):=⟨141,[.sl (l.map Zbi)],[],fun r=>vb r,fun r=>[],ZiK l⟩
def ZC (l:List ZaF):Option (List ZaF):=
 (chk (Z9 ((([]:List ZaF):List ZaF).length+(l:List ZaF).length) 32)).bind fun _=>
 some ((([]:List ZaF):List ZaF)++l)
instance (l:List ZaF):CT Tryz.prog (ZC l):=⟨147,[.sl (l.map Zbi)],[],fun r=>.ms 0,fun r=>[some ⟨.of 188,4,r.map Zbi⟩],fun H=>by replace H:=H0 H; unfold ZC at H; exact Zd Tryz.func147 rfl Tryz.ntmps147 Tryz.results147 fun Q hQ hQn=>wk3⟩
def Zct (l:List ZaF) (x:ZaF):Option ((List ZaF) × Int):=
 (ZC l).bind fun y1=>
 (chk (Z9 ((y1:List ZaF).length+([x]:List ZaF).length) 32)).bind fun _=>
 cond (decide (200≤(l.length:Int)))
 ((ZC l).bind fun y2=>
 some (y2,5))
 ((Zae ((y1:List ZaF)++[x])).bind fun y3=>
 cond (!y3)
 ((ZC l).bind fun y4=>
 some (y4,1))
 (some (((y1:List ZaF)++[x]),0)))
instance (l:List ZaF) (x:ZaF):CT Tryz.prog (Zct l x):=⟨228,[.sl (l.map Zbi),.ag (Zbi x)],[],fun r=>.tu [.ms 0,vi r.2],fun r=>[some ⟨.of 188,4,r.1.map Zbi⟩],fun H=>by replace H:=H0 H; unfold Zct at H; exact Zd Tryz.func228 rfl Tryz.ntmps228 Tryz.results228 fun Q hQ hQn=>wk3⟩
def Zce (l:List ZaF) (order:Int) (amount:Int) (at3_:Int):Option ((List ZaF) × Int):=
 (Zae l).bind fun y1=>
 cond (!y1)
 ((ZC l).bind fun y2=>
 some (y2,1))
 ((Zc7 (⟨order,1,amount,at3_⟩:ZaF)).bind fun y3=>
 cond (!y3)
 ((ZC l).bind fun y4=>
 some (y4,1))
 ((ZaE l order 1).bind fun y5=>
 cond (decide (0<y5))
 ((ZC l).bind fun y6=>
 some (y6,2))
 ((Zct l (⟨order,1,amount,at3_⟩:ZaF)).bind fun y7=>
 some (y7.1,y7.2))))
instance (l:List ZaF) (order:Int) (amount:Int) (at3_:Int):CT Tryz.prog (Zce l order amount at3_):=⟨187,[.sl (l.map Zbi),vi order,vi amount,vi at3_],[],fun r=>.tu [.ms 0,vi r.2],fun r=>[some ⟨.of 188,4,r.1.map Zbi⟩],fun H=>by replace H:=H0 H; unfold Zce at H; exact Zd Tryz.func187 rfl Tryz.ntmps187 Tryz.results187 fun Q hQ hQn=>wk3⟩
def ZaT (l:List ZaF) (order:Int):Option Int:=
 (Zae l).bind fun y1=>
 cond (!y1)
 (some 0)
 ((ZaE l order 1).bind fun y2=>
 (ZaE l order 2).bind fun y3=>
 some (w64 (y2-y3)))
instance (l:List ZaF) (order:Int):CT Tryz.prog (ZaT l order):=⟨108,[.sl (l.map Zbi),vi order],[],fun r=>vi r,fun r=>[],fun H=>by replace H:=H0 H; unfold ZaT at H; exact Zd Tryz.func108 rfl Tryz.ntmps108 Tryz.results108 fun Q hQ hQn=>wk3⟩
def ZdG (l:List ZaF) (order:Int) (amount:Int) (at3_:Int):Option ((List ZaF) × Int):=
 (Zae l).bind fun y1=>
 cond (!y1)
 ((ZC l).bind fun y2=>
 some (y2,1))
 ((Zc7 (⟨order,2,amount,at3_⟩:ZaF)).bind fun y3=>
 cond (!y3)
 ((ZC l).bind fun y4=>
 some (y4,1))
 ((ZaE l order 1).bind fun y5=>
 cond (decide (y5=0))
 ((ZC l).bind fun y6=>
 some (y6,3))
 ((ZaT l order).bind fun y7=>
 cond (decide (y7<amount))
 ((ZC l).bind fun y8=>
 some (y8,4))
 ((Zct l (⟨order,2,amount,at3_⟩:ZaF)).bind fun y9=>
 some (y9.1,y9.2)))))
instance (l:List ZaF) (order:Int) (amount:Int) (at3_:Int):CT Tryz.prog (ZdG l order amount at3_):=⟨188,[.sl (l.map Zbi),vi order,vi amount,vi at3_],[],fun r=>.tu [.ms 0,vi r.2],fun r=>[some ⟨.of 188,4,r.1.map Zbi⟩],fun H=>by replace H:=H0 H; unfold ZdG at H; exact Zd Tryz.func188 rfl Tryz.ntmps188 Tryz.results188 fun Q hQ hQn=>wk3⟩
def Zcb (l:List Int) (s0:Int):Option (Int ⊕ (Unit ⊕ Bool)):=
 cond (decide (s0<(l.length:Int)))
 ((jn 4 3 (
 (getI l s0).bind fun y1=>
 (Zl y1 0 100).bind fun y2=>
 cond (!y2)
 (some (.inr false))
 (cond (decide (0<s0))
 ((getI l (w64 (s0-1))).bind fun y3=>
 (getI l s0).bind fun y4=>
 cond (decide (y4<y3))
 (some (.inr false))
 (some (.inl ())))
 (some (.inl ()))):Option (Unit ⊕ Bool)) (fun z5=>(.sl (l.map cInt)::.un::.un::vi s0::(U 31 []))) (fun z5=>[])).bind (Zu (fun z5=>
 some (.inl (w64 (s0+1)))) (fun r=>some (.inr (.inr r)))))
 (some (.inr (.inl ())))
instance (l:List Int):Z1 (Zcb l):=⟨fun s0=>(.sl (l.map cInt)::.un::.un::vi s0::(U 31 [])),fun s0=>[]⟩
def ZQ (l:List Int):Option Bool:=
 (Zj (Zcb l) NN 0).bind (Zu (fun o0=>
 (Zl (l.length:Int) 1 6).bind fun y6=>
 some y6) (fun r=>some r))
theorem Zho (l:List Int) {r:Bool} (H:ZQ l=some r):Zd1 Tryz.prog 151 [.sl (l.map cInt)] [] (vb r) []:=by
 replace H:=H0 H
 unfold ZQ at H
 refine Zd Tryz.func151 rfl Tryz.ntmps151 Tryz.results151 fun Q hQ hQn=>?_
 exact wk3
instance (l:List Int):CT Tryz.prog (ZQ l):=⟨151,[.sl (l.map cInt)],[],fun r=>vb r,fun r=>[],Zho l⟩
def Zb3 (charge:Int) (due:Int) (ended:Int) (percents:List Int):Option Int:=
 (ZQ percents).bind fun y1=>
 cond (!y1)
 (some 0)
 ((Zl charge 0 100000).bind fun y2=>
 cond (!y2)
 (some 0)
 ((Zl due 0 200000).bind fun y3=>
 cond (!y3)
 (some 0)
 ((Zl ended 0 200000).bind fun y4=>
 cond (!y4)
 (some 0)
 (cond (decide (ended≤due))
 (some 0)
 ((jn 4 6 (
 cond (decide ((percents.length:Int)≤(IntKind.i64.wrap (Int.tdiv (w64 ((w64 (ended-due))-1)) 1440))))
 (some (.inl (w64 ((percents.length:Int)-1))))
 (some (.inl (IntKind.i64.wrap (Int.tdiv (w64 ((w64 (ended-due))-1)) 1440)))):Option (Int ⊕ Empty)) (fun z5=>(vi charge::.un::.un::.sl (percents.map cInt)::(U 5 (vi z5::(U 42 []))))) (fun z5=>[])).bind (Zu (fun z5=>
 (getI percents z5).bind fun y6=>
 some (IntKind.i64.wrap (Int.tdiv (w64 (charge*y6)) 100))) (fun r=>nomatch r)))))))
instance (charge:Int) (due:Int) (ended:Int) (percents:List Int):CT Tryz.prog (Zb3 charge due ended percents):=⟨229,[vi charge,vi due,vi ended,.sl (percents.map cInt)],[],fun r=>vi r,fun r=>[],fun H=>by replace H:=H0 H; unfold Zb3 at H; exact Zd Tryz.func229 rfl Tryz.ntmps229 Tryz.results229 fun Q hQ hQn=>wk3⟩
def Zck (l:List ZaF) (order:Int) (due:Int) (ended:Int) (percents:List Int) (at5_:Int):Option ((List ZaF) × Int):=
 (ZaE l order 1).bind fun y1=>
 (Zae l).bind fun y2=>
 cond (!y2)
 ((ZC l).bind fun y3=>
 some (y3,1))
 ((ZQ percents).bind fun y4=>
 cond (!y4)
 ((ZC l).bind fun y5=>
 some (y5,1))
 ((Zl order 1 9999).bind fun y6=>
 cond (!y6)
 ((ZC l).bind fun y7=>
 some (y7,1))
 ((Zl at5_ 0 100000).bind fun y8=>
 cond (!y8)
 ((ZC l).bind fun y9=>
 some (y9,1))
 (cond (decide (y1=0))
 ((ZC l).bind fun y10=>
 some (y10,3))
 ((ZaT l order).bind fun y11=>
 cond (decide (0<y11))
 ((ZC l).bind fun y12=>
 some (y12,3))
 ((ZcQ l order 3).bind fun y13=>
 cond (decide (0<y13))
 ((ZC l).bind fun y14=>
 some (y14,2))
 ((Zb3 y1 due ended percents).bind fun y15=>
 cond (decide (y15=0))
 ((ZC l).bind fun y16=>
 some (y16,4))
 ((Zb3 y1 due ended percents).bind fun y17=>
 (Zct l (⟨order,3,y17,at5_⟩:ZaF)).bind fun y18=>
 some (y18.1,y18.2)))))))))
instance (l:List ZaF) (order:Int) (due:Int) (ended:Int) (percents:List Int) (at5_:Int):CT Tryz.prog (Zck l order due ended percents at5_):=⟨189,[.sl (l.map Zbi),vi order,vi due,vi ended,.sl (percents.map cInt),vi at5_],[],fun r=>.tu [.ms 0,vi r.2],fun r=>[some ⟨.of 188,4,r.1.map Zbi⟩],fun H=>by replace H:=H0 H; unfold Zck at H; exact Zd Tryz.func189 rfl Tryz.ntmps189 Tryz.results189 fun Q hQ hQn=>wk3⟩
def Zgz (l:YLeg):Option Bool:=
 (Zah l.from_).bind fun y1=>
 cond y1
 ((Zah l.to_).bind fun y2=>
 cond y2
 (cond (!decide (l.from_=l.to_))
 ((ZB l.start 0 1439).bind fun y3=>
 cond y3
 ((ZB l.takes 1 4320).bind fun y4=>
 cond y4
 ((ZB l.days 1 127).bind fun y5=>
 cond y5
 ((ZB l.room 0 1000000).bind fun y6=>
 some y6)
 (some false))
 (some false))
 (some false))
 (some false))
 (some false))
 (some false)
def Zem (n:Za) (s0:Int):Option (Int ⊕ (Unit ⊕ Bool)):=
 cond (decide (s0<(n.legs.length:Int)))
 ((getI n.legs s0).bind fun y1=>
 (Zgz y1).bind fun y2=>
 cond (!y2)
 (some (.inr (.inr false)))
 (some (.inl (w64 (s0+1)))))
 (some (.inr (.inl ())))
def Zen (n:Za) (s1:Int):Option (Int ⊕ (Unit ⊕ Bool)):=
 cond (decide (s1<(n.off.length:Int)))
 ((getI n.off s1).bind fun y3=>
 (ZB y3 0 60).bind fun y4=>
 cond (!y4)
 (some (.inr (.inr false)))
 (cond (decide (0<s1))
 ((getI n.off (w64 (s1-1))).bind fun y5=>
 cond (decide (y3≤y5))
 (some (.inr (.inr false)))
 (some (.inl (w64 (s1+1)))))
 (some (.inl (w64 (s1+1))))))
 (some (.inr (.inl ())))
def Zfa (n:Za):Option Bool:=
 (Zj (Zem n) NN 0).bind (Zu (fun o0=>
 (Zj (Zen n) NN 0).bind (Zu (fun o1=>
 cond (decide ((n.legs.length:Int)≤20))
 (cond (decide ((n.off.length:Int)≤10))
 ((ZB n.change 0 240).bind fun y6=>
 some y6)
 (some false))
 (some false)) (fun r=>some r))) (fun r=>some r))
def Zfk (n:Za) (t:Zg):Option Int:=
 (getI n.legs t.leg).bind fun y1=>
 some (w64 ((w64 (t.day*1440))+y1.start))
def Zhl (n:Za) (t:Zg):Option Int:=
 (Zfk n t).bind fun y1=>
 (getI n.legs t.leg).bind fun y2=>
 some (w64 (y1+y2.takes))
def ZeX (n:Za) (day:Int) (s0:Int):Option (Int ⊕ (Unit ⊕ Bool)):=
 cond (decide (s0<(n.off.length:Int)))
 ((getI n.off s0).bind fun y3=>
 cond (decide (y3=day))
 (some (.inr (.inr false)))
 (some (.inl (w64 (s0+1)))))
 (some (.inr (.inl ())))
def Zhm (n:Za) (leg:Int) (day:Int):Option Bool:=
 cond (decide (leg<0))
 (some false)
 (cond (decide ((n.legs.length:Int)≤leg))
 (some false)
 ((ZB day 0 60).bind fun y1=>
 cond (!y1)
 (some false)
 ((getI n.legs leg).bind fun y2=>
 (chk (decide (0≤(Int.tmod day 7)))).bind fun _=>
 cond (decide ((IntKind.i64.wrap (BitVec.ofInt IntKind.i64.bits (Int.fdiv y2.days (2 ^ (min (Int.toNat (Int.tmod day 7)) IntKind.i64.bits))) &&& BitVec.ofInt IntKind.i64.bits 1).toNat)=0))
 (some false)
 ((Zj (ZeX n day) NN 0).bind (Zu (fun o0=>
 some true) (fun r=>some r))))))
def Zf6 (n:Za) (leg:Int) (day:Int):Option Bool:=
 (Zfa n).bind fun y1=>
 cond y1
 ((Zhm n leg day).bind fun y2=>
 some y2)
 (some false)
def Zf5 (n:Za) (t:Zg):Option Bool:=
 (Zf6 n t.leg t.day).bind fun y1=>
 some y1
def ZeP (l:List Zg) (t:Zg) (s0:Int):Option (Int ⊕ (Unit ⊕ Bool)):=
 cond (decide (s0<(l.length:Int)))
 ((getI l s0).bind fun y1=>
 cond (decide (y1=t))
 (some (.inr (.inr true)))
 (some (.inl (w64 (s0+1)))))
 (some (.inr (.inl ())))
def ZfL (l:List Zg) (t:Zg):Option Bool:=
 (Zj (ZeP l t) NN 0).bind (Zu (fun o0=>
 some false) (fun r=>some r))
def Zb7 (a:Int) (b:Int):Option Int:=
 cond (decide (a<b))
 (some (-1))
 (cond (decide (b<a))
 (some 1)
 (some 0))
def ZdB (list:List Int) (s0:Int):Option (Int ⊕ (Unit ⊕ Int)):=
 cond (decide (s0<(list.length:Int)))
 ((getI list s0).bind fun y1=>
 cond (!decide (y1=0))
 (some (.inr (.inr y1)))
 (some (.inl (w64 (s0+1)))))
 (some (.inr (.inl ())))
def ZgA (list:List Int):Option Int:=
 (Zj (ZdB list) NN 0).bind (Zu (fun o0=>
 some 0) (fun r=>some r))
def ZjG (w:Ze) (o:Zh):Option ByteArray:=
 cond (decide (o.state=2))
 ((getI o.way o.gone).bind fun y1=>
 (getI w.network.legs y1.leg).bind fun y2=>
 some y2.to_)
 (some o.place)
def Zf8 (o:Zh):Option Int:=
 cond (decide (o.state=2))
 (some (if (o.way.length:Int)<(w64 (o.gone+1)) then (o.way.length:Int) else (w64 (o.gone+1))))
 (some o.gone)
def Zdu (l:List Zai) (zones:Int) (s0:Int):Option (Int ⊕ (Unit ⊕ Bool)):=
 cond (decide (s0<(l.length:Int)))
 ((jn 3 12 (
 (getI l s0).bind fun y1=>
 cond (decide (y1.zone<0))
 (some (.inr false))
 (cond (decide (zones≤y1.zone))
 (some (.inr false))
 ((ZB y1.service 1 3).bind fun y2=>
 cond (!y2)
 (some (.inr false))
 ((ZB y1.limit 1 1000000000).bind fun y3=>
 cond (!y3)
 (some (.inr false))
 ((ZB y1.price 0 100000).bind fun y4=>
 cond (!y4)
 (some (.inr false))
 (cond (decide (s0=0))
 (some (.inl ()))
 ((getI l (w64 (s0-1))).bind fun y5=>
 (Zb7 y5.zone y1.zone).bind fun y6=>
 (Zb7 y5.service y1.service).bind fun y7=>
 (Zb7 y5.limit y1.limit).bind fun y8=>
 (ZgA ([y6,y7,y8])).bind fun y9=>
 cond (decide (0≤y9))
 (some (.inr false))
 (cond (decide (y5.zone=y1.zone))
 (cond (decide (y5.service=y1.service))
 (cond (decide (y1.price<y5.price))
 (some (.inr false))
 (some (.inl ())))
 (some (.inl ())))
 (some (.inl ()))))))))):Option (Unit ⊕ Bool)) (fun z10=>(.sl (l.map Zb5)::vi zones::.un::.un::.un::.un::.un::.un::.sl (l.map Zb5)::vi (l.length:Int)::vi s0::.un::.un::.un::.un::.un::.un::.un::.un::.un::.un::.un::.un::.un::.un::.un::.un::.un::.un::.un::.un::.un::.un::.un::.un::.un::.un::.un::.un::.un::.un::.un::.un::.un::.un::.un::.un::.un::.un::.un::.un::.un::.un::.un::.un::.un::.un::.un::.un::.un::.un::.un::.un::.un::.un::.un::.un::.un::.un::.un::.un::.un::.un::.un::.un::.un::.un::.un::.un::.un::.un::.un::.un::.un::.un::.un::.un::.un::.un::.un::[])) (fun z10=>[])).bind (Zu (fun z10=>
 some (.inl (w64 (s0+1)))) (fun r=>some (.inr (.inr r)))))
 (some (.inr (.inl ())))
def Zfr (l:List Zai) (zones:Int):Option Bool:=
 (Zj (Zdu l zones) NN 0).bind (Zu (fun o0=>
 some (decide ((l.length:Int)≤24))) (fun r=>some r))
def Zdv (l:List Zbg) (s0:Int):Option (Int ⊕ (Unit ⊕ Bool)):=
 cond (decide (s0<(l.length:Int)))
 ((jn 3 6 (
 (getI l s0).bind fun y1=>
 (Zah y1.first).bind fun y2=>
 cond (!y2)
 (some (.inr false))
 ((Zah y1.last).bind fun y3=>
 cond (!y3)
 (some (.inr false))
 (cond (!sLe y1.first y1.last)
 (some (.inr false))
 (cond (decide (0<s0))
 ((getI l (w64 (s0-1))).bind fun y4=>
 cond (sLe y1.first y4.last)
 (some (.inr false))
 (some (.inl ())))
 (some (.inl ()))))):Option (Unit ⊕ Bool)) (fun z5=>[.sl (l.map ZcB),.un,.un,.un,.un,.sl (l.map ZcB),vi (l.length:Int),vi s0,.un,.un,.un,.un,.un,.un,.un,.un,.un,.un,.un,.un,.un,.un,.un,.un,.un,.un,.un,.un,.un,.un,.un,.un,.un,.un,.un,.un,.un,.un,.un,.un,.un,.un,.un,.un,.un,.un,.un,.un]) (fun z5=>[])).bind (Zu (fun z5=>
 some (.inl (w64 (s0+1)))) (fun r=>some (.inr (.inr r)))))
 (some (.inr (.inl ())))
def ZeA (l:List Zbg):Option Bool:=
 (Zj (Zdv l) NN 0).bind (Zu (fun o0=>
 some (decide ((l.length:Int)≤8))) (fun r=>some r))
def Zft (sides:List Int):Option Int:=
 (Za7 sides).bind fun y1=>
 cond (!y1)
 (some 0)
 ((getI sides 0).bind fun y2=>
 (getI sides 1).bind fun y3=>
 (getI sides 2).bind fun y4=>
 some (w64 ((w64 (y2*y3))*y4)))
def Zc3 (p:Zi):Option Int:=
 (ZaG p).bind fun y1=>
 cond (!y1)
 (some 0)
 ((Zft p.sides).bind fun y2=>
 some (if (IntKind.i64.wrap (Int.tdiv (w64 (y2+4999)) 5000)) > p.weight then (IntKind.i64.wrap (Int.tdiv (w64 (y2+4999)) 5000)) else p.weight))
def Zfb (l:List Zbg) (place_:ByteArray) (s0:Int):Option (Int ⊕ (Unit ⊕ Int)):=
 cond (decide (s0<(l.length:Int)))
 ((jn 5 8 (
 (getI l s0).bind fun y3=>
 cond (sLe y3.first place_)
 (cond (sLe place_ y3.last)
 (some (.inr s0))
 (some (.inl ())))
 (some (.inl ())):Option (Unit ⊕ Int)) (fun z4=>[.un,vs place_,.un,.un,.un,.un,.un,.un,.un,.un,.un,.un,.un,.un,.un,.sl (l.map ZcB),vi (l.length:Int),vi s0,.un,.un,.un,.un,.un,.un,.un,.un,.un,.un,.un,.un,.un,.un,.un,.un]) (fun z4=>[])).bind (Zu (fun z4=>
 some (.inl (w64 (s0+1)))) (fun r=>some (.inr (.inr r)))))
 (some (.inr (.inl ())))
def Zf7 (l:List Zbg) (place_:ByteArray):Option Int:=
 (ZeA l).bind fun y1=>
 cond (!y1)
 (some (-1))
 ((Zah place_).bind fun y2=>
 cond (!y2)
 (some (-1))
 ((Zj (Zfb l place_) NN 0).bind (Zu (fun o0=>
 some (-1)) (fun r=>some r))))
def ZeO (rates:List Zai) (p:Zi) (y4:Int) (s0:Int):Option (Int ⊕ (Unit ⊕ (Int × Bool))):=
 cond (decide (s0<(rates.length:Int)))
 ((jn 6 9 (
 (getI rates s0).bind fun y5=>
 cond (decide (y5.zone=y4))
 (cond (decide (y5.service=p.label.service))
 ((Zc3 p).bind fun y6=>
 cond (decide (y6≤y5.limit))
 (some (.inr (y5.price,true)))
 (some (.inl ())))
 (some (.inl ())))
 (some (.inl ())):Option (Unit ⊕ (Int × Bool))) (fun z7=>(.un::.un::.un::.un::.un::.be 0 0 0::.un::.un::vi y4::.un::.un::.un::.un::.un::.un::.un::.un::.un::.un::.un::.un::.un::.un::.un::.un::.un::.un::.un::.un::.un::.un::.sl (rates.map Zb5)::vi (rates.length:Int)::vi s0::.un::.un::.un::.un::.un::.un::.un::.un::.un::.un::.un::.un::.un::.un::.un::.un::.un::.un::.un::.un::.un::.un::.un::.un::.un::[])) (fun z7=>[some ⟨.of 100,7,[[vi p.label.service,vi p.label.serial,vs p.label.to_,vs p.from_,vi p.weight,.sl (p.sides.map cInt),vi p.value]]⟩])).bind (Zu (fun z7=>
 some (.inl (w64 (s0+1)))) (fun r=>some (.inr (.inr r)))))
 (some (.inr (.inl ())))
def Zha (zones:List Zbg) (rates:List Zai) (p:Zi):Option (Int × Bool):=
 (ZeA zones).bind fun y1=>
 cond (!y1)
 (some (0,false))
 ((Zfr rates (zones.length:Int)).bind fun y2=>
 cond (!y2)
 (some (0,false))
 ((ZaG p).bind fun y3=>
 cond (!y3)
 (some (0,false))
 ((Zf7 zones p.label.to_).bind fun y4=>
 (Zj (ZeO rates p y4) NN 0).bind (Zu (fun o0=>
 some (0,false)) (fun r=>some r)))))
def Zec (a:Zai) (b:Zai):Option Bool:=
 cond (decide (a.zone<b.zone))
 (some true)
 (cond (decide (b.zone=a.zone))
 (cond (decide (a.service<b.service))
 (some true)
 (cond (decide (b.service=a.service))
 (cond (decide (a.limit<b.limit))
 (some (decide (a.price≤b.price)))
 (some false))
 (some false)))
 (some false))
instance (a:Zai) (b:Zai):CT Tryz.prog (Zec a b):=⟨184,[.ag (Zb5 a),.ag (Zb5 b)],[],fun r=>vb r,fun r=>[],fun H=>by replace H:=H0 H; unfold Zec at H; exact Zd Tryz.func184 rfl Tryz.ntmps184 Tryz.results184 fun Q hQ hQn=>wk3⟩
def Zcc (l:List Zai) (zones:Int) (s0:Int):Option (Int ⊕ (Unit ⊕ Bool)):=
 cond (decide (s0<(l.length:Int)))
 ((jn 4 3 (
 (getI l s0).bind fun y1=>
 cond (decide (y1.zone<0))
 (some (.inr false))
 ((getI l s0).bind fun y2=>
 cond (decide (zones≤y2.zone))
 (some (.inr false))
 ((getI l s0).bind fun y3=>
 (Zl y3.service 1 3).bind fun y4=>
 cond (!y4)
 (some (.inr false))
 ((getI l s0).bind fun y5=>
 (Zl y5.limit 1 1000000000).bind fun y6=>
 cond (!y6)
 (some (.inr false))
 ((getI l s0).bind fun y7=>
 (Zl y7.price 0 100000).bind fun y8=>
 cond (!y8)
 (some (.inr false))
 (cond (decide (0<s0))
 ((getI l (w64 (s0-1))).bind fun y9=>
 (getI l s0).bind fun y10=>
 (Zec y9 y10).bind fun y11=>
 cond (!y11)
 (some (.inr false))
 (some (.inl ())))
 (some (.inl ()))))))):Option (Unit ⊕ Bool)) (fun z12=>(.sl (l.map Zb5)::vi zones::(U 3 (vi s0::(U 68 []))))) (fun z12=>[])).bind (Zu (fun z12=>
 some (.inl (w64 (s0+1)))) (fun r=>some (.inr (.inr r)))))
 (some (.inr (.inl ())))
instance (l:List Zai) (zones:Int):Z1 (Zcc l zones):=⟨fun s0=>(.sl (l.map Zb5)::vi zones::(U 3 (vi s0::(U 68 [])))),fun s0=>[]⟩
def ZbV (l:List Zai) (zones:Int):Option Bool:=
 (Zj (Zcc l zones) NN 0).bind (Zu (fun o0=>
 some (decide ((l.length:Int)≤24))) (fun r=>some r))
instance (l:List Zai) (zones:Int):CT Tryz.prog (ZbV l zones):=⟨150,[.sl (l.map Zb5),vi zones],[],fun r=>vb r,fun r=>[],fun H=>by replace H:=H0 H; unfold ZbV at H; exact Zd Tryz.func150 rfl Tryz.ntmps150 Tryz.results150 fun Q hQ hQn=>wk3⟩
def Zcd (l:List Zbg) (s0:Int):Option (Int ⊕ (Unit ⊕ Bool)):=
 cond (decide (s0<(l.length:Int)))
 ((jn 4 3 (
 (getI l s0).bind fun y1=>
 (Zy y1.first).bind fun y2=>
 cond (!y2)
 (some (.inr false))
 ((getI l s0).bind fun y3=>
 (Zy y3.last).bind fun y4=>
 cond (!y4)
 (some (.inr false))
 ((getI l s0).bind fun y5=>
 (getI l s0).bind fun y6=>
 cond (!sLe y5.first y6.last)
 (some (.inr false))
 (cond (decide (0<s0))
 ((getI l (w64 (s0-1))).bind fun y7=>
 (getI l s0).bind fun y8=>
 cond (!sLt y7.last y8.first)
 (some (.inr false))
 (some (.inl ())))
 (some (.inl ()))))):Option (Unit ⊕ Bool)) (fun z9=>(.sl (l.map ZcB)::.un::.un::vi s0::(U 56 []))) (fun z9=>[])).bind (Zu (fun z9=>
 some (.inl (w64 (s0+1)))) (fun r=>some (.inr (.inr r)))))
 (some (.inr (.inl ())))
instance (l:List Zbg):Z1 (Zcd l):=⟨fun s0=>(.sl (l.map ZcB)::.un::.un::vi s0::(U 56 [])),fun s0=>[]⟩
def Zbm (l:List Zbg):Option Bool:=
 (Zj (Zcd l) NN 0).bind (Zu (fun o0=>
 some (decide ((l.length:Int)≤8))) (fun r=>some r))
instance (l:List Zbg):CT Tryz.prog (Zbm l):=⟨149,[.sl (l.map ZcB)],[],fun r=>vb r,fun r=>[],fun H=>by replace H:=H0 H; unfold Zbm at H; exact Zd Tryz.func149 rfl Tryz.ntmps149 Tryz.results149 fun Q hQ hQn=>wk3⟩
def ZcP (sides:List Int):Option Int:=
 (Zbf sides).bind fun y1=>
 cond (!y1)
 (some 0)
 ((getI sides 0).bind fun y2=>
 (getI sides 1).bind fun y3=>
 (getI sides 2).bind fun y4=>
 some (w64 ((w64 (y2*y3))*y4)))
instance (sides:List Int):CT Tryz.prog (ZcP sides):=⟨242,[.sl (sides.map cInt)],[],fun r=>vi r,fun r=>[],fun H=>by replace H:=H0 H; unfold ZcP at H; exact Zd Tryz.func242 rfl Tryz.ntmps242 Tryz.results242 fun Q hQ hQn=>wk3⟩
def ZaO (p:Zi):Option Int:=
 (Zaf p).bind fun y1=>
 cond (!y1)
 (some 0)
 ((ZcP p.sides).bind fun y2=>
 cond (decide (p.weight<(IntKind.i64.wrap (Int.tdiv (w64 (y2+4999)) 5000))))
 (some (IntKind.i64.wrap (Int.tdiv (w64 (y2+4999)) 5000)))
 (some p.weight))
instance (p:Zi):CT Tryz.prog (ZaO p):=⟨223,[.ag (Zar p)],[],fun r=>vi r,fun r=>[],fun H=>by replace H:=H0 H; unfold ZaO at H; exact Zd Tryz.func223 rfl Tryz.ntmps223 Tryz.results223 fun Q hQ hQn=>wk3⟩
def ZbB (l:List Zbg) (place_:ByteArray) (s0:Int):Option (Int ⊕ (Unit ⊕ Int)):=
 cond (decide (s0<(l.length:Int)))
 ((jn 6 5 (
 (getI l s0).bind fun y3=>
 cond (sLe y3.first place_)
 ((getI l s0).bind fun y4=>
 cond (sLe place_ y4.last)
 (some (.inr s0))
 (some (.inl ())))
 (some (.inl ())):Option (Unit ⊕ Int)) (fun z5=>(.sl (l.map ZcB)::vs place_::(U 3 (vi s0::(U 31 []))))) (fun z5=>[])).bind (Zu (fun z5=>
 some (.inl (w64 (s0+1)))) (fun r=>some (.inr (.inr r)))))
 (some (.inr (.inl ())))
instance (l:List Zbg) (place_:ByteArray):Z1 (ZbB l place_):=⟨fun s0=>(.sl (l.map ZcB)::vs place_::(U 3 (vi s0::(U 31 [])))),fun s0=>[]⟩
def ZdT (l:List Zbg) (place_:ByteArray):Option Int:=
 (Zbm l).bind fun y1=>
 cond (!y1)
 (some (-1))
 ((Zy place_).bind fun y2=>
 cond (!y2)
 (some (-1))
 ((Zj (ZbB l place_) NN 0).bind (Zu (fun o0=>
 some (-1)) (fun r=>some r))))
instance (l:List Zbg) (place_:ByteArray):CT Tryz.prog (ZdT l place_):=⟨222,[.sl (l.map ZcB),vs place_],[],fun r=>vi r,fun r=>[],fun H=>by replace H:=H0 H; unfold ZdT at H; exact Zd Tryz.func222 rfl Tryz.ntmps222 Tryz.results222 fun Q hQ hQn=>wk3⟩
def Zbb (rates:List Zai) (p:Zi) (y4:Int) (s0:Int):Option (Int ⊕ (Unit ⊕ (Int × Bool))):=
 cond (decide (s0<(rates.length:Int)))
 ((jn 7 6 (
 (getI rates s0).bind fun y5=>
 cond (decide (y5.zone=y4))
 ((getI rates s0).bind fun y6=>
 cond (decide (y6.service=p.label.service))
 ((ZaO p).bind fun y7=>
 (getI rates s0).bind fun y8=>
 cond (decide (y7≤y8.limit))
 ((getI rates s0).bind fun y9=>
 some (.inr (y9.price,true)))
 (some (.inl ())))
 (some (.inl ())))
 (some (.inl ())):Option (Unit ⊕ (Int × Bool))) (fun z10=>(.un::.sl (rates.map Zb5)::(U 3 (.be 0 0 0::.un::.un::vi y4::vi s0::(U 59 []))))) (fun z10=>[some ⟨.of 26,7,[[vi p.label.service,vi p.label.serial,vs p.label.to_,vs p.from_,vi p.weight,.sl (p.sides.map cInt),vi p.value]]⟩])).bind (Zu (fun z10=>
 some (.inl (w64 (s0+1)))) (fun r=>some (.inr (.inr r)))))
 (some (.inr (.inl ())))
instance (rates:List Zai) (p:Zi) (y4:Int):Z1 (Zbb rates p y4):=⟨fun s0=>(.un::.sl (rates.map Zb5)::(U 3 (.be 0 0 0::.un::.un::vi y4::vi s0::(U 59 [])))),fun s0=>[some ⟨.of 26,7,[[vi p.label.service,vi p.label.serial,vs p.label.to_,vs p.from_,vi p.weight,.sl (p.sides.map cInt),vi p.value]]⟩]⟩
def ZbJ (zones:List Zbg) (rates:List Zai) (p:Zi):Option (Int × Bool):=
 (Zbm zones).bind fun y1=>
 cond (!y1)
 (some (0,false))
 ((ZbV rates (zones.length:Int)).bind fun y2=>
 cond (!y2)
 (some (0,false))
 ((Zaf p).bind fun y3=>
 cond (!y3)
 (some (0,false))
 ((ZdT zones p.label.to_).bind fun y4=>
 (Zj (Zbb rates p y4) NN 0).bind (Zu (fun o0=>
 some (0,false)) (fun r=>some r)))))
instance (zones:List Zbg) (rates:List Zai) (p:Zi):CT Tryz.prog (ZbJ zones rates p):=⟨185,[.sl (zones.map ZcB),.sl (rates.map Zb5),.ag (Zar p)],[],fun r=>.tu [vi r.1,vb r.2],fun r=>[],fun H=>by replace H:=H0 H; unfold ZbJ at H; exact Zd Tryz.func185 rfl Tryz.ntmps185 Tryz.results185 fun Q hQ hQn=>wk3⟩
def ZfV (w:Ze) (o:Zh):Option Bool:=
 cond (!decide (o.state=3))
 ((Zf8 o).bind fun y1=>
 cond (decide (y1=(o.way.length:Int)))
 ((ZjG w o).bind fun y2=>
 some (!decide (y2=o.to_)))
 (some false))
 (some false)
def ZaN (w:Ze) (s0:Int × Int):Option ((Int × Int) ⊕ Int):=
 cond (decide (s0.2<(w.orders.length:Int)))
 ((getI w.orders s0.2).bind fun y1=>
 cond (decide (y1.state=2))
 ((getI y1.way y1.gone).bind fun y2=>
 (Zhl w.network y2).bind fun y3=>
 cond (decide (0≤y3))
 (cond (decide (s0.1<0))
 (some (.inl (y3,(w64 (s0.2+1)))))
 (cond (decide (y3<s0.1))
 (some (.inl (y3,(w64 (s0.2+1)))))
 (some (.inl (s0.1,(w64 (s0.2+1)))))))
 (some (.inl (s0.1,(w64 (s0.2+1))))))
 (cond (decide (y1.state=1))
 (cond (decide (y1.gone<(y1.way.length:Int)))
 ((getI y1.way y1.gone).bind fun y4=>
 (Zfk w.network y4).bind fun y5=>
 cond (decide (0≤y5))
 (cond (decide (s0.1<0))
 (some (.inl (y5,(w64 (s0.2+1)))))
 (cond (decide (y5<s0.1))
 (some (.inl (y5,(w64 (s0.2+1)))))
 (some (.inl (s0.1,(w64 (s0.2+1)))))))
 (some (.inl (s0.1,(w64 (s0.2+1))))))
 (cond (decide (0≤(-1)))
 (cond (decide (s0.1<0))
 (some (.inl ((-1),(w64 (s0.2+1)))))
 (cond (decide ((-1)<s0.1))
 (some (.inl ((-1),(w64 (s0.2+1)))))
 (some (.inl (s0.1,(w64 (s0.2+1)))))))
 (some (.inl (s0.1,(w64 (s0.2+1)))))))
 (cond (decide (0≤(-1)))
 (cond (decide (s0.1<0))
 (some (.inl ((-1),(w64 (s0.2+1)))))
 (cond (decide ((-1)<s0.1))
 (some (.inl ((-1),(w64 (s0.2+1)))))
 (some (.inl (s0.1,(w64 (s0.2+1)))))))
 (some (.inl (s0.1,(w64 (s0.2+1))))))))
 (some (.inr s0.1))
def Zef (w:Ze):Option Int:=
 (Zj (ZaN w) NN ((-1),0)).bind (fun o0=>
 some o0)
def ZiH (l:List Int) (n:Int) (s0:Int):Option (Int ⊕ (Unit ⊕ Bool)):=
 cond (decide (s0<(l.length:Int)))
 ((getI l s0).bind fun y1=>
 cond (decide (y1=n))
 (some (.inr (.inr true)))
 (some (.inl (w64 (s0+1)))))
 (some (.inr (.inl ())))
def ZhJ (l:List Int) (n:Int):Option Bool:=
 (Zj (ZiH l n) NN 0).bind (Zu (fun o0=>
 some false) (fun r=>some r))
def Zca (w:Ze) (s:ZU):Option Ze:=
 (ZhJ w.skip (if 1000000000<(w64 (w.made+1)) then 1000000000 else (w64 (w.made+1)))).bind fun y1=>
 cond (!y1)
 (cond (decide ((w.scans.length:Int)<200))
 ((chk (Z9 ((w.scans:List ZU).length+([s]:List ZU).length) 56)).bind fun _=>
 some (⟨w.network,w.orders,w.bookings,w.closed,w.now,((w.scans:List ZU)++[s]),w.skip,(if 1000000000<(w64 (w.made+1)) then 1000000000 else (w64 (w.made+1)))⟩:Ze))
 (some (⟨w.network,w.orders,w.bookings,w.closed,w.now,w.scans,w.skip,(if 1000000000<(w64 (w.made+1)) then 1000000000 else (w64 (w.made+1)))⟩:Ze)))
 (some (⟨w.network,w.orders,w.bookings,w.closed,w.now,w.scans,w.skip,(if 1000000000<(w64 (w.made+1)) then 1000000000 else (w64 (w.made+1)))⟩:Ze))
def ZbS (w:Ze) (at1_:Int) (s0:Int × Int × Int × Int × (List YLeg) × (List Int) × (List Zh) × (List Zc) × (List Zg) × (List Int) × (List ZU)):Option ((Int × Int × Int × Int × (List YLeg) × (List Int) × (List Zh) × (List Zc) × (List Zg) × (List Int) × (List ZU)) ⊕ (Int × Int × Int × (List YLeg) × (List Int) × (List Zh) × (List Zc) × (List Zg) × (List Int) × (List ZU))):=
 cond (decide (s0.1<(w.orders.length:Int)))
 ((getI s0.2.2.2.2.2.2.1 s0.1).bind fun y1=>
 cond (!decide (y1.state=2))
 (some (.inl ((w64 (s0.1+1)),s0.2.1,s0.2.2.1,s0.2.2.2.1,s0.2.2.2.2.1,s0.2.2.2.2.2.1,s0.2.2.2.2.2.2.1,s0.2.2.2.2.2.2.2.1,s0.2.2.2.2.2.2.2.2.1,s0.2.2.2.2.2.2.2.2.2.1,s0.2.2.2.2.2.2.2.2.2.2)))
 ((getI y1.way y1.gone).bind fun y2=>
 (Zhl (⟨s0.2.2.2.2.1,s0.2.2.2.2.2.1,w.network.change⟩:Za) y2).bind fun y3=>
 cond (!decide (y3=at1_))
 (some (.inl ((w64 (s0.1+1)),s0.2.1,s0.2.2.1,s0.2.2.2.1,s0.2.2.2.2.1,s0.2.2.2.2.2.1,s0.2.2.2.2.2.2.1,s0.2.2.2.2.2.2.2.1,s0.2.2.2.2.2.2.2.2.1,s0.2.2.2.2.2.2.2.2.2.1,s0.2.2.2.2.2.2.2.2.2.2)))
 ((rgI s0.2.2.2.2.2.2.1 s0.1).bind fun y4=>
 (getI y4.way y4.gone).bind fun y5=>
 (rgI s0.2.2.2.2.2.2.1 s0.1).bind fun y6=>
 (getI s0.2.2.2.2.1 y5.leg).bind fun y7=>
 (rgI s0.2.2.2.2.2.2.1 s0.1).bind fun y8=>
 (frzL (s0.2.2.2.2.2.2.1.set (Int.toNat s0.1) (⟨y6.from_,y6.to_,y6.service,y6.weight,y6.at_,y6.due,y6.way,(w64 (y6.gone+1)),1,y7.to_,y6.ended⟩:Zh)) (fun y9=>(.be 0 0 0::vi at1_::.un::.un::.be 9 0 0::vi s0.1::.be 3 (Int.toNat s0.1) 0::.be 10 0 0::(U 10 (vi (w.orders.length:Int)::vi s0.1::(U 167 []))))) (fun y9=>[some ⟨.of 41,10,[[.ms 1,.ms 2,vi s0.2.1,.ms 3,.ms 4,.ms 5,vi s0.2.2.1,.ms 8,.ms 7,vi s0.2.2.2.1]]⟩,some ⟨.of 67,6,s0.2.2.2.2.1.map cLeg⟩,some ⟨.of 3,1,s0.2.2.2.2.2.1.map cInt⟩,some ⟨.of 62,11,y9.map ZV⟩,some ⟨.of 135,4,s0.2.2.2.2.2.2.2.1.map Zk⟩,some ⟨.of 55,2,s0.2.2.2.2.2.2.2.2.1.map ZS⟩,none,some ⟨.of 3,1,s0.2.2.2.2.2.2.2.2.2.1.map cInt⟩,some ⟨.of 130,6,s0.2.2.2.2.2.2.2.2.2.2.map Zax⟩,some ⟨.of 35,3,[[.ms 1,.ms 2,vi w.network.change]]⟩,some ⟨.of 55,2,[[vi y5.leg,vi y5.day]]⟩])).bind fun y9=>
 (rhoM [0,1,2,3,4,5,8,7]).bind fun _=>
 (Zca (⟨(⟨s0.2.2.2.2.1,s0.2.2.2.2.2.1,s0.2.1⟩:Za),y9,s0.2.2.2.2.2.2.2.1,s0.2.2.2.2.2.2.2.2.1,s0.2.2.1,s0.2.2.2.2.2.2.2.2.2.2,s0.2.2.2.2.2.2.2.2.2.1,s0.2.2.2.1⟩:Ze) (⟨(w64 (s0.1+1)),at1_,2,⟨#[]⟩,y5⟩:ZU)).bind fun y10=>
 (rgI y10.orders s0.1).bind fun y11=>
 cond (decide (y11.place=y11.to_))
 ((frzL (y10.orders.set (Int.toNat s0.1) (⟨y11.from_,y11.to_,y11.service,y11.weight,y11.at_,y11.due,y11.way,y11.gone,3,y11.place,at1_⟩:Zh)) (fun y12=>(.be 0 0 0::vi at1_::.un::.un::.be 9 0 0::vi s0.1::.be 3 (Int.toNat s0.1) 0::(U 11 (vi (w.orders.length:Int)::vi s0.1::(U 167 []))))) (fun y12=>[some ⟨.of 41,10,[[.ms 1,.ms 2,vi y10.network.change,.ms 3,.ms 4,.ms 5,vi y10.now,.ms 8,.ms 7,vi y10.made]]⟩,some ⟨.of 67,6,y10.network.legs.map cLeg⟩,some ⟨.of 3,1,y10.network.off.map cInt⟩,some ⟨.of 62,11,y12.map ZV⟩,some ⟨.of 135,4,y10.bookings.map Zk⟩,some ⟨.of 55,2,y10.closed.map ZS⟩,none,some ⟨.of 3,1,y10.skip.map cInt⟩,some ⟨.of 130,6,y10.scans.map Zax⟩,some ⟨.of 35,3,[[.ms 1,.ms 2,vi w.network.change]]⟩])).bind fun y12=>
 (rgI y12 s0.1).bind fun y13=>
 (rhoM [0,1,2,3,4,5,8,7]).bind fun _=>
 (Zca (⟨y10.network,y12,y10.bookings,y10.closed,y10.now,y10.scans,y10.skip,y10.made⟩:Ze) (⟨(w64 (s0.1+1)),at1_,4,y13.place,(⟨0,0⟩:Zg)⟩:ZU)).bind fun y14=>
 some (.inl ((w64 (s0.1+1)),y14.network.change,y14.now,y14.made,y14.network.legs,y14.network.off,y14.orders,y14.bookings,y14.closed,y14.skip,y14.scans)))
 (some (.inl ((w64 (s0.1+1)),y10.network.change,y10.now,y10.made,y10.network.legs,y10.network.off,y10.orders,y10.bookings,y10.closed,y10.skip,y10.scans))))))
 (some (.inr (s0.2.1,s0.2.2.1,s0.2.2.2.1,s0.2.2.2.2.1,s0.2.2.2.2.2.1,s0.2.2.2.2.2.2.1,s0.2.2.2.2.2.2.2.1,s0.2.2.2.2.2.2.2.2.1,s0.2.2.2.2.2.2.2.2.2.1,s0.2.2.2.2.2.2.2.2.2.2)))
def ZbT (w:Ze) (at1_:Int) (o0:Int × Int × Int × (List YLeg) × (List Int) × (List Zh) × (List Zc) × (List Zg) × (List Int) × (List ZU)) (s1:Int × Int × Int × Int × (List YLeg) × (List Int) × (List Zh) × (List Zc) × (List Zg) × (List Int) × (List ZU)):Option ((Int × Int × Int × Int × (List YLeg) × (List Int) × (List Zh) × (List Zc) × (List Zg) × (List Int) × (List ZU)) ⊕ (Int × Int × Int × (List YLeg) × (List Int) × (List Zh) × (List Zc) × (List Zg) × (List Int) × (List ZU))):=
 cond (decide (s1.1<(o0.2.2.2.2.2.1.length:Int)))
 ((getI s1.2.2.2.2.2.2.1 s1.1).bind fun y15=>
 cond (decide (y15.state=1))
 (cond (decide (y15.gone<(y15.way.length:Int)))
 ((getI y15.way y15.gone).bind fun y16=>
 (Zfk (⟨s1.2.2.2.2.1,s1.2.2.2.2.2.1,w.network.change⟩:Za) y16).bind fun y17=>
 cond (decide (y17=at1_))
 ((rgI s1.2.2.2.2.2.2.1 s1.1).bind fun y18=>
 (frzL (s1.2.2.2.2.2.2.1.set (Int.toNat s1.1) (⟨y18.from_,y18.to_,y18.service,y18.weight,y18.at_,y18.due,y18.way,y18.gone,2,⟨#[]⟩,y18.ended⟩:Zh)) (fun y19=>(.be 0 0 0::vi at1_::.un::.un::.be 9 0 0::(U 3 (vi s1.1::.be 3 (Int.toNat s1.1) 0::(U 107 (vi (o0.2.2.2.2.2.1.length:Int)::vi s1.1::(U 68 []))))))) (fun y19=>[some ⟨.of 41,10,[[.ms 1,.ms 2,vi s1.2.1,.ms 3,.ms 4,.ms 5,vi s1.2.2.1,.ms 8,.ms 7,vi s1.2.2.2.1]]⟩,some ⟨.of 67,6,s1.2.2.2.2.1.map cLeg⟩,some ⟨.of 3,1,s1.2.2.2.2.2.1.map cInt⟩,some ⟨.of 62,11,y19.map ZV⟩,some ⟨.of 135,4,s1.2.2.2.2.2.2.2.1.map Zk⟩,some ⟨.of 55,2,s1.2.2.2.2.2.2.2.2.1.map ZS⟩,none,some ⟨.of 3,1,s1.2.2.2.2.2.2.2.2.2.1.map cInt⟩,some ⟨.of 130,6,s1.2.2.2.2.2.2.2.2.2.2.map Zax⟩,some ⟨.of 35,3,[[.ms 1,.ms 2,vi w.network.change]]⟩])).bind fun y19=>
 (drwL 8 [15]).bind fun _=>
 (rgI y19 s1.1).bind fun y20=>
 (getI y20.way y20.gone).bind fun y21=>
 (rhoM [0,1,2,3,4,5,8,7]).bind fun _=>
 (Zca (⟨(⟨s1.2.2.2.2.1,s1.2.2.2.2.2.1,s1.2.1⟩:Za),y19,s1.2.2.2.2.2.2.2.1,s1.2.2.2.2.2.2.2.2.1,s1.2.2.1,s1.2.2.2.2.2.2.2.2.2.2,s1.2.2.2.2.2.2.2.2.2.1,s1.2.2.2.1⟩:Ze) (⟨(w64 (s1.1+1)),at1_,3,⟨#[]⟩,y21⟩:ZU)).bind fun y22=>
 some (.inl ((w64 (s1.1+1)),y22.network.change,y22.now,y22.made,y22.network.legs,y22.network.off,y22.orders,y22.bookings,y22.closed,y22.skip,y22.scans)))
 (some (.inl ((w64 (s1.1+1)),s1.2.1,s1.2.2.1,s1.2.2.2.1,s1.2.2.2.2.1,s1.2.2.2.2.2.1,s1.2.2.2.2.2.2.1,s1.2.2.2.2.2.2.2.1,s1.2.2.2.2.2.2.2.2.1,s1.2.2.2.2.2.2.2.2.2.1,s1.2.2.2.2.2.2.2.2.2.2))))
 (some (.inl ((w64 (s1.1+1)),s1.2.1,s1.2.2.1,s1.2.2.2.1,s1.2.2.2.2.1,s1.2.2.2.2.2.1,s1.2.2.2.2.2.2.1,s1.2.2.2.2.2.2.2.1,s1.2.2.2.2.2.2.2.2.1,s1.2.2.2.2.2.2.2.2.2.1,s1.2.2.2.2.2.2.2.2.2.2))))
 (some (.inl ((w64 (s1.1+1)),s1.2.1,s1.2.2.1,s1.2.2.2.1,s1.2.2.2.2.1,s1.2.2.2.2.2.1,s1.2.2.2.2.2.2.1,s1.2.2.2.2.2.2.2.1,s1.2.2.2.2.2.2.2.2.1,s1.2.2.2.2.2.2.2.2.2.1,s1.2.2.2.2.2.2.2.2.2.2))))
 (some (.inr (s1.2.1,s1.2.2.1,s1.2.2.2.1,s1.2.2.2.2.1,s1.2.2.2.2.2.1,s1.2.2.2.2.2.2.1,s1.2.2.2.2.2.2.2.1,s1.2.2.2.2.2.2.2.2.1,s1.2.2.2.2.2.2.2.2.2.1,s1.2.2.2.2.2.2.2.2.2.2)))
def Zgg (w:Ze) (at1_:Int):Option Ze:=
 (Zj (ZbS w at1_) NN (0,w.network.change,w.now,w.made,w.network.legs,w.network.off,w.orders,w.bookings,w.closed,w.skip,w.scans)).bind (fun o0=>
 (Zj (ZbT w at1_ o0) NN (0,o0.1,o0.2.1,o0.2.2.1,o0.2.2.2.1,o0.2.2.2.2.1,o0.2.2.2.2.2.1,o0.2.2.2.2.2.2.1,o0.2.2.2.2.2.2.2.1,o0.2.2.2.2.2.2.2.2.1,o0.2.2.2.2.2.2.2.2.2)).bind (fun o1=>
 some (⟨(⟨o1.2.2.2.1,o1.2.2.2.2.1,o1.1⟩:Za),o1.2.2.2.2.2.1,o1.2.2.2.2.2.2.1,o1.2.2.2.2.2.2.2.1,at1_,o1.2.2.2.2.2.2.2.2.2,o1.2.2.2.2.2.2.2.2.1,o1.2.2.1⟩:Ze)))
def Zb1 (c:Zp) (n:Za):Option (Zg × Zp):=
 (rhoM [0]).bind fun _=>
 (Zb c (n.legs.length:Int)).bind fun y1=>
 (rhoM [0]).bind fun _=>
 (Zb y1.2 10).bind fun y2=>
 (ZdW n y1.1 (w64 (y2.1*1440))).bind fun y3=>
 cond (decide (0≤y3))
 ((rhoM [0]).bind fun _=>
 (ZN y2.2 4).bind fun y4=>
 cond (!y4.1)
 (some ((⟨y1.1,y3⟩:Zg),y4.2))
 (some ((⟨y1.1,y2.1⟩:Zg),y4.2)))
 (some ((⟨y1.1,y2.1⟩:Zg),y2.2))
instance (c:Zp) (n:Za):CT Tryz.prog (Zb1 c n):=⟨143,[.be 0 0 0,.ag (Z2 n)],[some ⟨.of 102,3,[[.sl (c.b.map cB8),vi c.i,vi c.h]]⟩],fun r=>.ag [vi r.1.leg,vi r.1.day],fun r=>[some ⟨.of 102,3,[[.sl (r.2.b.map cB8),vi r.2.i,vi r.2.h]]⟩],fun H=>by replace H:=H0 H; unfold Zb1 at H; exact Zd Tryz.func143 rfl Tryz.ntmps143 Tryz.results143 fun Q hQ hQn=>wk7⟩
def ZaS (c:Zp) (w:Ze):Option (Zg × Zp):=
 cond (decide (0<(w.bookings.length:Int)))
 ((rhoM [0]).bind fun _=>
 (ZN c 4).bind fun y1=>
 cond (!y1.1)
 ((drwL 8 [6]).bind fun _=>
 (rhoM [0]).bind fun _=>
 (Zb y1.2 (w.bookings.length:Int)).bind fun y2=>
 (getI w.bookings y2.1).bind fun y3=>
 some (y3.trip,y2.2))
 ((rhoM [0]).bind fun _=>
 (Zb1 y1.2 w.network).bind fun y4=>
 some (y4.1,y4.2)))
 ((rhoM [0]).bind fun _=>
 (Zb1 c w.network).bind fun y5=>
 some (y5.1,y5.2))
instance (c:Zp) (w:Ze):CT Tryz.prog (ZaS c w):=⟨109,[.be 0 0 0,.ag (Ze0 w)],[some ⟨.of 102,3,[[.sl (c.b.map cB8),vi c.i,vi c.h]]⟩],fun r=>.ag [vi r.1.leg,vi r.1.day],fun r=>[some ⟨.of 102,3,[[.sl (r.2.b.map cB8),vi r.2.i,vi r.2.h]]⟩],fun H=>by replace H:=H0 H; unfold ZaS at H; exact Zd Tryz.func109 rfl Tryz.ntmps109 Tryz.results109 fun Q hQ hQn=>wk7⟩
def Za4 (p:Zi):Option Zi:=
 (Zad p.sides).bind fun y1=>
 some (⟨p.label,p.from_,p.weight,y1,p.value⟩:Zi)
instance (p:Zi):CT Tryz.prog (Za4 p):=⟨118,[.ag (Zar p)],[],fun r=>.ag [vi r.label.service,vi r.label.serial,vs r.label.to_,vs r.from_,vi r.weight,.sl (r.sides.map cInt),vi r.value],fun r=>[],fun H=>by replace H:=H0 H; unfold Za4 at H; exact Zd Tryz.func118 rfl Tryz.ntmps118 Tryz.results118 fun Q hQ hQn=>wk3⟩
def Zbw (o:Zr) (a:YAct):Option (Int × Zr):=
 (Zl a.order 1 (o.parcels.length:Int)).bind fun y1=>
 cond (!y1)
 (some (4,o))
 ((ZdG o.lines a.order a.amount o.world.now).bind fun y2=>
 cond (decide (a.kind=6))
 ((getI o.world.orders (w64 (a.order-1))).bind fun y3=>
 cond (!decide (y3.state=3))
 (some (4,o))
 ((Zck o.lines a.order y3.due y3.ended o.percents o.world.now).bind fun y4=>
 cond (!decide (y4.2=0))
 (some (4,o))
 (some (0,(⟨o.world,o.zones,o.rates,o.percents,o.parcels,y4.1,o.journal⟩:Zr)))))
 (cond (!decide (y2.2=0))
 (some (4,o))
 (some (0,(⟨o.world,o.zones,o.rates,o.percents,o.parcels,y2.1,o.journal⟩:Zr)))))
instance (o:Zr) (a:YAct):CT Tryz.prog (Zbw o a):=⟨154,[.be 0 0 0,.ag (cAct a)],[some ⟨.of 92,16,[[.sl (o.world.network.legs.map cLeg),.sl (o.world.network.off.map cInt),vi o.world.network.change,.sl (o.world.orders.map ZV),.sl (o.world.bookings.map Zk),.sl (o.world.closed.map ZS),vi o.world.now,.sl (o.world.scans.map Zax),.sl (o.world.skip.map cInt),vi o.world.made,.ms 1,.ms 2,.ms 3,.ms 4,.ms 5,.ms 6]]⟩,some ⟨.of 135,2,o.zones.map ZcB⟩,some ⟨.of 137,4,o.rates.map Zb5⟩,some ⟨.of 3,1,o.percents.map cInt⟩,some ⟨.of 26,7,o.parcels.map Zar⟩,some ⟨.of 188,4,o.lines.map Zbi⟩,some ⟨.of 30,13,o.journal.map cAct⟩],fun r=>vi r.1,fun r=>[some ⟨.of 92,16,[[.sl (r.2.world.network.legs.map cLeg),.sl (r.2.world.network.off.map cInt),vi r.2.world.network.change,.sl (r.2.world.orders.map ZV),.sl (r.2.world.bookings.map Zk),.sl (r.2.world.closed.map ZS),vi r.2.world.now,.sl (r.2.world.scans.map Zax),.sl (r.2.world.skip.map cInt),vi r.2.world.made,.ms 1,.ms 2,.ms 3,.ms 4,.ms 7,.ms 6]]⟩,some ⟨.of 135,2,r.2.zones.map ZcB⟩,some ⟨.of 137,4,r.2.rates.map Zb5⟩,some ⟨.of 3,1,r.2.percents.map cInt⟩,some ⟨.of 26,7,r.2.parcels.map Zar⟩,none,some ⟨.of 30,13,r.2.journal.map cAct⟩,some ⟨.of 188,4,r.2.lines.map Zbi⟩],fun H=>by replace H:=H0 H; unfold Zbw at H; exact Zd Tryz.func154 rfl Tryz.ntmps154 Tryz.results154 fun Q hQ hQn=>wk7⟩
def ZbQ (o:Zr) (y1:Ze) (y2:(List Int)) (y3:(List ZaF)) (s0:Int × (List Zi)):Option ((Int × (List Zi)) ⊕ (List Zi)):=
 cond (decide (s0.1<(o.parcels.length:Int)))
 ((getI o.parcels s0.1).bind fun y4=>
 (Za4 y4).bind fun y5=>
 (chk (Z9 ((s0.2:List Zi).length+([y5]:List Zi).length) 88)).bind fun _=>
 some (.inl ((w64 (s0.1+1)),((s0.2:List Zi)++[y5]))))
 (some (.inr s0.2))
instance (o:Zr) (y1:Ze) (y2:(List Int)) (y3:(List ZaF)):Z1 (ZbQ o y1 y2 y3):=⟨fun s0=>(.un::.be 0 0 0::.be 1 0 0::.be 2 0 0::vi s0.1::(U 61 [])),fun s0=>[some ⟨.of 92,16,[[.sl (o.world.network.legs.map cLeg),.sl (o.world.network.off.map cInt),vi o.world.network.change,.sl (o.world.orders.map ZV),.sl (o.world.bookings.map Zk),.sl (o.world.closed.map ZS),vi o.world.now,.sl (o.world.scans.map Zax),.sl (o.world.skip.map cInt),vi o.world.made,.sl (o.zones.map ZcB),.sl (o.rates.map Zb5),.sl (o.percents.map cInt),.sl (o.parcels.map Zar),.sl (o.lines.map Zbi),.sl (o.journal.map cAct)]]⟩,some ⟨.of 92,16,[[.v (.slice none 0 0),.v (.slice none 0 0),vi 0,.v (.slice none 0 0),.v (.slice none 0 0),.v (.slice none 0 0),vi 0,.v (.slice none 0 0),.v (.slice none 0 0),vi 0,.v (.slice none 0 0),.v (.slice none 0 0),.v (.slice none 0 0),.v (.slice none 0 0),.v (.slice none 0 0),.v (.slice none 0 0)]]⟩,some ⟨.of 92,16,[[.ms 3,.ms 4,vi y1.network.change,.ms 5,.ms 6,.ms 7,vi y1.now,.ms 8,.ms 9,vi y1.made,.ms 10,.ms 11,.ms 12,.ms 13,.ms 14,.v (.slice none 0 0)]]⟩,some ⟨.of 133,6,y1.network.legs.map cLeg⟩,some ⟨.of 3,1,y1.network.off.map cInt⟩,some ⟨.of 226,11,y1.orders.map ZV⟩,some ⟨.of 175,4,y1.bookings.map Zk⟩,some ⟨.of 28,2,y1.closed.map ZS⟩,some ⟨.of 233,6,y1.scans.map Zax⟩,some ⟨.of 3,1,y1.skip.map cInt⟩,some ⟨.of 135,2,((([]:List Zbg):List Zbg)++o.zones).map ZcB⟩,some ⟨.of 137,4,((([]:List Zai):List Zai)++o.rates).map Zb5⟩,some ⟨.of 3,1,y2.map cInt⟩,some ⟨.of 26,7,s0.2.map Zar⟩,some ⟨.of 188,4,y3.map Zbi⟩]⟩
def ZbR (o:Zr) (y1:Ze) (y2:(List Int)) (y3:(List ZaF)) (o0:(List Zi)) (s1:Int × (List YAct)):Option ((Int × (List YAct)) ⊕ (List YAct)):=
 cond (decide (s1.1<(o.journal.length:Int)))
 ((getI o.journal s1.1).bind fun y6=>
 (Za4 y6.parcel).bind fun y7=>
 (chk (Z9 ((s1.2:List YAct).length+([(⟨y6.kind,y7,y6.order,y6.amount,y6.until_,y6.trip⟩:YAct)]:List YAct).length) 136)).bind fun _=>
 some (.inl ((w64 (s1.1+1)),((s1.2:List YAct)++[(⟨y6.kind,y7,y6.order,y6.amount,y6.until_,y6.trip⟩:YAct)]))))
 (some (.inr s1.2))
instance (o:Zr) (y1:Ze) (y2:(List Int)) (y3:(List ZaF)) (o0:(List Zi)):Z1 (ZbR o y1 y2 y3 o0):=⟨fun s1=>(.un::.be 0 0 0::.be 1 0 0::.be 2 0 0::.un::vi s1.1::(U 60 [])),fun s1=>[some ⟨.of 92,16,[[.sl (o.world.network.legs.map cLeg),.sl (o.world.network.off.map cInt),vi o.world.network.change,.sl (o.world.orders.map ZV),.sl (o.world.bookings.map Zk),.sl (o.world.closed.map ZS),vi o.world.now,.sl (o.world.scans.map Zax),.sl (o.world.skip.map cInt),vi o.world.made,.sl (o.zones.map ZcB),.sl (o.rates.map Zb5),.sl (o.percents.map cInt),.sl (o.parcels.map Zar),.sl (o.lines.map Zbi),.sl (o.journal.map cAct)]]⟩,some ⟨.of 92,16,[[.v (.slice none 0 0),.v (.slice none 0 0),vi 0,.v (.slice none 0 0),.v (.slice none 0 0),.v (.slice none 0 0),vi 0,.v (.slice none 0 0),.v (.slice none 0 0),vi 0,.v (.slice none 0 0),.v (.slice none 0 0),.v (.slice none 0 0),.v (.slice none 0 0),.v (.slice none 0 0),.v (.slice none 0 0)]]⟩,some ⟨.of 92,16,[[.ms 3,.ms 4,vi y1.network.change,.ms 5,.ms 6,.ms 7,vi y1.now,.ms 8,.ms 9,vi y1.made,.ms 10,.ms 11,.ms 12,.ms 13,.ms 14,.ms 15]]⟩,some ⟨.of 133,6,y1.network.legs.map cLeg⟩,some ⟨.of 3,1,y1.network.off.map cInt⟩,some ⟨.of 226,11,y1.orders.map ZV⟩,some ⟨.of 175,4,y1.bookings.map Zk⟩,some ⟨.of 28,2,y1.closed.map ZS⟩,some ⟨.of 233,6,y1.scans.map Zax⟩,some ⟨.of 3,1,y1.skip.map cInt⟩,some ⟨.of 135,2,((([]:List Zbg):List Zbg)++o.zones).map ZcB⟩,some ⟨.of 137,4,((([]:List Zai):List Zai)++o.rates).map Zb5⟩,some ⟨.of 3,1,y2.map cInt⟩,some ⟨.of 26,7,o0.map Zar⟩,some ⟨.of 188,4,y3.map Zbi⟩,some ⟨.of 30,13,s1.2.map cAct⟩]⟩
def Za1 (o:Zr):Option Zr:=
 (drwL 8 []).bind fun _=>
 (Zam o.world).bind fun y1=>
 (chk (Z9 ((([]:List Zbg):List Zbg).length+(o.zones:List Zbg).length) 32)).bind fun _=>
 (chk (Z9 ((([]:List Zai):List Zai).length+(o.rates:List Zai).length) 32)).bind fun _=>
 (Zad o.percents).bind fun y2=>
 (ZC o.lines).bind fun y3=>
 (Zj (ZbQ o y1 y2 y3) NN (0,[])).bind (fun o0=>
 (Zj (ZbR o y1 y2 y3 o0) NN (0,[])).bind (fun o1=>
 some (⟨y1,((([]:List Zbg):List Zbg)++o.zones),((([]:List Zai):List Zai)++o.rates),y2,o0,y3,o1⟩:Zr)))
instance (o:Zr):CT Tryz.prog (Za1 o):=⟨115,[.ag (Ze8 o)],[],fun r=>.ag [.sl (r.world.network.legs.map cLeg),.sl (r.world.network.off.map cInt),vi r.world.network.change,.sl (r.world.orders.map ZV),.sl (r.world.bookings.map Zk),.sl (r.world.closed.map ZS),vi r.world.now,.sl (r.world.scans.map Zax),.sl (r.world.skip.map cInt),vi r.world.made,.ms 0,.ms 1,.ms 2,.ms 3,.ms 4,.ms 5],fun r=>[some ⟨.of 135,2,r.zones.map ZcB⟩,some ⟨.of 137,4,r.rates.map Zb5⟩,some ⟨.of 3,1,r.percents.map cInt⟩,some ⟨.of 26,7,r.parcels.map Zar⟩,some ⟨.of 188,4,r.lines.map Zbi⟩,some ⟨.of 30,13,r.journal.map cAct⟩],fun H=>by replace H:=H0 H; unfold Za1 at H; exact Zd Tryz.func115 rfl Tryz.ntmps115 Tryz.results115 fun Q hQ hQn=>wk7⟩
def ZdU (o:Zr) (i:Int):Option Bool:=
 (getI o.parcels i).bind fun y1=>
 (getI o.world.orders i).bind fun y2=>
 (ZbJ o.zones o.rates y1).bind fun y3=>
 cond y3.2
 (cond (decide (y2.from_=y1.from_))
 (cond (decide (y2.to_=y1.label.to_))
 (cond (decide (y2.service=y1.label.service))
 (cond (decide (y2.weight=y1.weight))
 ((ZaE o.lines (w64 (i+1)) 1).bind fun y4=>
 some (decide (y4=y3.1)))
 (some false))
 (some false))
 (some false))
 (some false))
 (some false)
instance (o:Zr) (i:Int):CT Tryz.prog (ZdU o i):=⟨152,[.ag (Ze8 o),vi i],[],fun r=>vb r,fun r=>[],fun H=>by replace H:=H0 H; unfold ZdU at H; exact Zd Tryz.func152 rfl Tryz.ntmps152 Tryz.results152 fun Q hQ hQn=>wk3⟩
def Zb0 (c:Zp) (o:Zr):Option (YAct × Zp):=
 (rhoM [0]).bind fun _=>
 (Zb c 9).bind fun y1=>
 cond (decide (y1.1=0))
 (cond (decide (y1.1=0))
 ((rhoM [0]).bind fun _=>
 (ZaC y1.2).bind fun y2=>
 (rhoM [0]).bind fun _=>
 (Zb y2.2 6000).bind fun y3=>
 (rhoM [0]).bind fun _=>
 (Zb y3.2 300).bind fun y4=>
 (rhoM [0]).bind fun _=>
 (Zb y4.2 200).bind fun y5=>
 (rhoM [0]).bind fun _=>
 (Zb y5.2 200).bind fun y6=>
 (rhoM [0]).bind fun _=>
 (Zas y6.2 o.world.network).bind fun y7=>
 (rhoM [0]).bind fun _=>
 (Zas y7.2 o.world.network).bind fun y8=>
 cond (decide (y7.1=y8.1))
 (some ((⟨1,(⟨(⟨y2.1.label.service,y2.1.label.serial,y8.1⟩:Zw),⟨#[79,83,76]⟩,(w64 (200+y3.1)),[(w64 (100+y4.1)),(w64 (100+y5.1)),(w64 (50+y6.1))],y2.1.value⟩:Zi),0,0,0,(⟨0,0⟩:Zg)⟩:YAct),y8.2))
 (some ((⟨1,(⟨(⟨y2.1.label.service,y2.1.label.serial,y8.1⟩:Zw),y7.1,(w64 (200+y3.1)),[(w64 (100+y4.1)),(w64 (100+y5.1)),(w64 (50+y6.1))],y2.1.value⟩:Zi),0,0,0,(⟨0,0⟩:Zg)⟩:YAct),y8.2)))
 (cond (decide (y1.1=3))
 ((rhoM [0]).bind fun _=>
 (Zb y1.2 (w64 ((o.parcels.length:Int)+1))).bind fun y9=>
 (ZaT o.lines (w64 (1+y9.1))).bind fun y10=>
 (rhoM [0,3]).bind fun _=>
 (ZL y9.2 ([0,0,0,100])).bind fun y11=>
 (Zds 1 (w64 (y10-y11.1))).bind fun y12=>
 some ((⟨2,(⟨(⟨0,0,⟨#[]⟩⟩:Zw),⟨#[]⟩,0,[],0⟩:Zi),(w64 (1+y9.1)),y12,0,(⟨0,0⟩:Zg)⟩:YAct),y11.2.1))
 (cond (decide (y1.1=4))
 ((rhoM [0]).bind fun _=>
 (ZaS y1.2 o.world).bind fun y13=>
 some ((⟨4,(⟨(⟨0,0,⟨#[]⟩⟩:Zw),⟨#[]⟩,0,[],0⟩:Zi),0,0,0,y13.1⟩:YAct),y13.2))
 (cond (decide (y1.1=5))
 (some ((⟨5,(⟨(⟨0,0,⟨#[]⟩⟩:Zw),⟨#[]⟩,0,[],0⟩:Zi),0,0,0,(⟨0,0⟩:Zg)⟩:YAct),y1.2))
 (cond (decide (y1.1=6))
 ((rhoM [0]).bind fun _=>
 (Zb y1.2 (w64 ((o.parcels.length:Int)+1))).bind fun y14=>
 some ((⟨6,(⟨(⟨0,0,⟨#[]⟩⟩:Zw),⟨#[]⟩,0,[],0⟩:Zi),(w64 (1+y14.1)),0,0,(⟨0,0⟩:Zg)⟩:YAct),y14.2))
 ((drwL 8 [4]).bind fun _=>
 (rhoM [0]).bind fun _=>
 (Zb y1.2 90).bind fun y15=>
 some ((⟨3,(⟨(⟨0,0,⟨#[]⟩⟩:Zw),⟨#[]⟩,0,[],0⟩:Zi),0,0,(w64 (o.world.now+(w64 (30*y15.1)))),(⟨0,0⟩:Zg)⟩:YAct),y15.2)))))))
 (cond (decide (y1.1=1))
 (cond (decide (y1.1=1))
 ((rhoM [0]).bind fun _=>
 (ZaC y1.2).bind fun y16=>
 (rhoM [0]).bind fun _=>
 (Zb y16.2 6000).bind fun y17=>
 (rhoM [0]).bind fun _=>
 (Zb y17.2 300).bind fun y18=>
 (rhoM [0]).bind fun _=>
 (Zb y18.2 200).bind fun y19=>
 (rhoM [0]).bind fun _=>
 (Zb y19.2 200).bind fun y20=>
 (rhoM [0]).bind fun _=>
 (Zas y20.2 o.world.network).bind fun y21=>
 (rhoM [0]).bind fun _=>
 (Zas y21.2 o.world.network).bind fun y22=>
 cond (decide (y21.1=y22.1))
 (some ((⟨1,(⟨(⟨y16.1.label.service,y16.1.label.serial,y22.1⟩:Zw),⟨#[79,83,76]⟩,(w64 (200+y17.1)),[(w64 (100+y18.1)),(w64 (100+y19.1)),(w64 (50+y20.1))],y16.1.value⟩:Zi),0,0,0,(⟨0,0⟩:Zg)⟩:YAct),y22.2))
 (some ((⟨1,(⟨(⟨y16.1.label.service,y16.1.label.serial,y22.1⟩:Zw),y21.1,(w64 (200+y17.1)),[(w64 (100+y18.1)),(w64 (100+y19.1)),(w64 (50+y20.1))],y16.1.value⟩:Zi),0,0,0,(⟨0,0⟩:Zg)⟩:YAct),y22.2)))
 (cond (decide (y1.1=3))
 ((rhoM [0]).bind fun _=>
 (Zb y1.2 (w64 ((o.parcels.length:Int)+1))).bind fun y23=>
 (ZaT o.lines (w64 (1+y23.1))).bind fun y24=>
 (rhoM [0,3]).bind fun _=>
 (ZL y23.2 ([0,0,0,100])).bind fun y25=>
 (Zds 1 (w64 (y24-y25.1))).bind fun y26=>
 some ((⟨2,(⟨(⟨0,0,⟨#[]⟩⟩:Zw),⟨#[]⟩,0,[],0⟩:Zi),(w64 (1+y23.1)),y26,0,(⟨0,0⟩:Zg)⟩:YAct),y25.2.1))
 (cond (decide (y1.1=4))
 ((rhoM [0]).bind fun _=>
 (ZaS y1.2 o.world).bind fun y27=>
 some ((⟨4,(⟨(⟨0,0,⟨#[]⟩⟩:Zw),⟨#[]⟩,0,[],0⟩:Zi),0,0,0,y27.1⟩:YAct),y27.2))
 (cond (decide (y1.1=5))
 (some ((⟨5,(⟨(⟨0,0,⟨#[]⟩⟩:Zw),⟨#[]⟩,0,[],0⟩:Zi),0,0,0,(⟨0,0⟩:Zg)⟩:YAct),y1.2))
 (cond (decide (y1.1=6))
 ((rhoM [0]).bind fun _=>
 (Zb y1.2 (w64 ((o.parcels.length:Int)+1))).bind fun y28=>
 some ((⟨6,(⟨(⟨0,0,⟨#[]⟩⟩:Zw),⟨#[]⟩,0,[],0⟩:Zi),(w64 (1+y28.1)),0,0,(⟨0,0⟩:Zg)⟩:YAct),y28.2))
 ((drwL 8 [4]).bind fun _=>
 (rhoM [0]).bind fun _=>
 (Zb y1.2 90).bind fun y29=>
 some ((⟨3,(⟨(⟨0,0,⟨#[]⟩⟩:Zw),⟨#[]⟩,0,[],0⟩:Zi),0,0,(w64 (o.world.now+(w64 (30*y29.1)))),(⟨0,0⟩:Zg)⟩:YAct),y29.2)))))))
 (cond (decide (y1.1=2))
 ((rhoM [0]).bind fun _=>
 (ZaC y1.2).bind fun y30=>
 (rhoM [0]).bind fun _=>
 (Zb y30.2 6000).bind fun y31=>
 (rhoM [0]).bind fun _=>
 (Zb y31.2 300).bind fun y32=>
 (rhoM [0]).bind fun _=>
 (Zb y32.2 200).bind fun y33=>
 (rhoM [0]).bind fun _=>
 (Zb y33.2 200).bind fun y34=>
 (rhoM [0]).bind fun _=>
 (Zas y34.2 o.world.network).bind fun y35=>
 (rhoM [0]).bind fun _=>
 (Zas y35.2 o.world.network).bind fun y36=>
 cond (decide (y35.1=y36.1))
 (some ((⟨1,(⟨(⟨y30.1.label.service,y30.1.label.serial,y36.1⟩:Zw),⟨#[79,83,76]⟩,(w64 (200+y31.1)),[(w64 (100+y32.1)),(w64 (100+y33.1)),(w64 (50+y34.1))],y30.1.value⟩:Zi),0,0,0,(⟨0,0⟩:Zg)⟩:YAct),y36.2))
 (some ((⟨1,(⟨(⟨y30.1.label.service,y30.1.label.serial,y36.1⟩:Zw),y35.1,(w64 (200+y31.1)),[(w64 (100+y32.1)),(w64 (100+y33.1)),(w64 (50+y34.1))],y30.1.value⟩:Zi),0,0,0,(⟨0,0⟩:Zg)⟩:YAct),y36.2)))
 (cond (decide (y1.1=3))
 ((rhoM [0]).bind fun _=>
 (Zb y1.2 (w64 ((o.parcels.length:Int)+1))).bind fun y37=>
 (ZaT o.lines (w64 (1+y37.1))).bind fun y38=>
 (rhoM [0,3]).bind fun _=>
 (ZL y37.2 ([0,0,0,100])).bind fun y39=>
 (Zds 1 (w64 (y38-y39.1))).bind fun y40=>
 some ((⟨2,(⟨(⟨0,0,⟨#[]⟩⟩:Zw),⟨#[]⟩,0,[],0⟩:Zi),(w64 (1+y37.1)),y40,0,(⟨0,0⟩:Zg)⟩:YAct),y39.2.1))
 (cond (decide (y1.1=4))
 ((rhoM [0]).bind fun _=>
 (ZaS y1.2 o.world).bind fun y41=>
 some ((⟨4,(⟨(⟨0,0,⟨#[]⟩⟩:Zw),⟨#[]⟩,0,[],0⟩:Zi),0,0,0,y41.1⟩:YAct),y41.2))
 (cond (decide (y1.1=5))
 (some ((⟨5,(⟨(⟨0,0,⟨#[]⟩⟩:Zw),⟨#[]⟩,0,[],0⟩:Zi),0,0,0,(⟨0,0⟩:Zg)⟩:YAct),y1.2))
 (cond (decide (y1.1=6))
 ((rhoM [0]).bind fun _=>
 (Zb y1.2 (w64 ((o.parcels.length:Int)+1))).bind fun y42=>
 some ((⟨6,(⟨(⟨0,0,⟨#[]⟩⟩:Zw),⟨#[]⟩,0,[],0⟩:Zi),(w64 (1+y42.1)),0,0,(⟨0,0⟩:Zg)⟩:YAct),y42.2))
 ((drwL 8 [4]).bind fun _=>
 (rhoM [0]).bind fun _=>
 (Zb y1.2 90).bind fun y43=>
 some ((⟨3,(⟨(⟨0,0,⟨#[]⟩⟩:Zw),⟨#[]⟩,0,[],0⟩:Zi),0,0,(w64 (o.world.now+(w64 (30*y43.1)))),(⟨0,0⟩:Zg)⟩:YAct),y43.2))))))))
instance (c:Zp) (o:Zr):CT Tryz.prog (Zb0 c o):=⟨78,[.be 0 0 0,.ag (Ze8 o)],[some ⟨.of 102,3,[[.sl (c.b.map cB8),vi c.i,vi c.h]]⟩],fun r=>.ag [vi r.1.kind,vi r.1.parcel.label.service,vi r.1.parcel.label.serial,vs r.1.parcel.label.to_,vs r.1.parcel.from_,vi r.1.parcel.weight,.sl (r.1.parcel.sides.map cInt),vi r.1.parcel.value,vi r.1.order,vi r.1.amount,vi r.1.until_,vi r.1.trip.leg,vi r.1.trip.day],fun r=>[some ⟨.of 102,3,[[.sl (r.2.b.map cB8),vi r.2.i,vi r.2.h]]⟩],fun H=>by replace H:=H0 H; unfold Zb0 at H; exact Zd Tryz.func78 rfl Tryz.ntmps78 Tryz.results78 fun Q hQ hQn=>wk7⟩
def ZbU (c:Zp) (o:Zr):Option (YAct × Zp):=
 (rhoM [0]).bind fun _=>
 (Zb0 c o).bind fun y1=>
 (rhoM [0]).bind fun _=>
 (Zb y1.2 12).bind fun y2=>
 cond (decide (y2.1=0))
 ((rhoM [0]).bind fun _=>
 (Zb y2.2 9).bind fun y3=>
 some ((⟨y3.1,y1.1.parcel,y1.1.order,y1.1.amount,y1.1.until_,y1.1.trip⟩:YAct),y3.2))
 (cond (decide (y2.1=1))
 ((rhoM [0,4]).bind fun _=>
 (ZL y2.2 ([0,1,9999,10000])).bind fun y4=>
 some ((⟨y1.1.kind,y1.1.parcel,y4.1,y1.1.amount,y1.1.until_,y1.1.trip⟩:YAct),y4.2.1))
 (cond (decide (y2.1=2))
 ((rhoM [0,4]).bind fun _=>
 (ZL y2.2 ([0,1,100000,100001])).bind fun y5=>
 some ((⟨y1.1.kind,y1.1.parcel,y1.1.order,y5.1,y1.1.until_,y1.1.trip⟩:YAct),y5.2.1))
 (cond (decide (y2.1=3))
 ((rhoM [0,4]).bind fun _=>
 (ZL y2.2 ([(-1),0,100000,100001])).bind fun y6=>
 some ((⟨y1.1.kind,y1.1.parcel,y1.1.order,y1.1.amount,y6.1,y1.1.trip⟩:YAct),y6.2.1))
 (cond (decide (y2.1=4))
 ((rhoM [0,4]).bind fun _=>
 (ZL y2.2 ([(-1),0,19,20])).bind fun y7=>
 (rhoM [0,5]).bind fun _=>
 (ZL y7.2.1 ([0,60,61])).bind fun y8=>
 some ((⟨y1.1.kind,y1.1.parcel,y1.1.order,y1.1.amount,y1.1.until_,(⟨y7.1,y8.1⟩:Zg)⟩:YAct),y8.2.1))
 (cond (decide (y2.1=5))
 (some ((⟨y1.1.kind,(⟨y1.1.parcel.label,y1.1.parcel.from_,(w64 (y1.1.parcel.weight+1)),y1.1.parcel.sides,y1.1.parcel.value⟩:Zi),y1.1.order,y1.1.amount,y1.1.until_,y1.1.trip⟩:YAct),y2.2))
 (some (y1.1,y2.2)))))))
instance (c:Zp) (o:Zr):CT Tryz.prog (ZbU c o):=⟨58,[.be 0 0 0,.ag (Ze8 o)],[some ⟨.of 102,3,[[.sl (c.b.map cB8),vi c.i,vi c.h]]⟩],fun r=>.ag [vi r.1.kind,vi r.1.parcel.label.service,vi r.1.parcel.label.serial,vs r.1.parcel.label.to_,vs r.1.parcel.from_,vi r.1.parcel.weight,.sl (r.1.parcel.sides.map cInt),vi r.1.parcel.value,vi r.1.order,vi r.1.amount,vi r.1.until_,vi r.1.trip.leg,vi r.1.trip.day],fun r=>[some ⟨.of 102,3,[[.sl (r.2.b.map cB8),vi r.2.i,vi r.2.h]]⟩],fun H=>by replace H:=H0 H; unfold ZbU at H; exact Zd Tryz.func58 rfl Tryz.ntmps58 Tryz.results58 fun Q hQ hQn=>wk7⟩
end Go.Proofs.YtkfbakhnpfmfmaaGreatDoor
