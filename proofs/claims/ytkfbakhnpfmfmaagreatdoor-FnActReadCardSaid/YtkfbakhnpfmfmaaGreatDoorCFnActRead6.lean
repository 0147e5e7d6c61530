/- A part of the proof of the statement in the last file of this claim: texts on the language of the program and on its functions. No condition. -/
import Derived.Test.YtkfbakhnpfmfmaaGreatDoorCFnActRead4
set_option linter.unusedVariables false
set_option linter.unusedSimpArgs false
set_option linter.unusedSectionVars false
namespace Go.Proofs.YtkfbakhnpfmfmaaGreatDoor
set_option maxRecDepth 10000
open Go.RowKit
set_option linter.unusedVariables false
set_option maxHeartbeats 16000000
def Za2 (c:Zp):Option (Int × Zp):=
 cond (decide (c.i<(c.b.length:Int)))
 ((getI c.b c.i).bind fun y1=>
 some ((IntKind.i64.wrap (BitVec.ofInt IntKind.i64.bits (w64 ((IntKind.i64.wrap (BitVec.ofInt IntKind.i64.bits (IntKind.i64.wrap (BitVec.ofInt IntKind.i64.bits (Int.fdiv (w64 ((w64 (c.h*6364136223846793005))+1442695040888963407)) (2 ^ (min (Int.toNat 35) IntKind.i64.bits))) ^^^ BitVec.ofInt IntKind.i64.bits (Int.fdiv (w64 ((w64 (c.h*6364136223846793005))+1442695040888963407)) (2 ^ (min (Int.toNat 45) IntKind.i64.bits)))).toNat) &&& BitVec.ofInt IntKind.i64.bits 255).toNat)+(IntKind.i64.wrap y1.v))) &&& BitVec.ofInt IntKind.i64.bits 255).toNat),(⟨c.b,(w64 (c.i+1)),(w64 ((w64 (c.h*6364136223846793005))+1442695040888963407))⟩:Zp)))
 (some ((IntKind.i64.wrap (BitVec.ofInt IntKind.i64.bits (IntKind.i64.wrap (BitVec.ofInt IntKind.i64.bits (Int.fdiv (w64 ((w64 (c.h*6364136223846793005))+1442695040888963407)) (2 ^ (min (Int.toNat 35) IntKind.i64.bits))) ^^^ BitVec.ofInt IntKind.i64.bits (Int.fdiv (w64 ((w64 (c.h*6364136223846793005))+1442695040888963407)) (2 ^ (min (Int.toNat 45) IntKind.i64.bits)))).toNat) &&& BitVec.ofInt IntKind.i64.bits 255).toNat),(⟨c.b,c.i,(w64 ((w64 (c.h*6364136223846793005))+1442695040888963407))⟩:Zp)))
instance (c:Zp):CT Tryz.prog (Za2 c):=⟨110,[.be 0 0 0],[some ⟨.of 102,3,[[.sl (c.b.map cB8),vi c.i,vi c.h]]⟩],fun r=>vi r.1,fun r=>[some ⟨.of 102,3,[[.sl (r.2.b.map cB8),vi r.2.i,vi r.2.h]]⟩],fun H=>by replace H:=H0 H; unfold Za2 at H; exact Zd Tryz.func110 rfl Tryz.ntmps110 Tryz.results110 fun Q hQ hQn=>wk7⟩
def Zb (c:Zp) (n:Int):Option (Int × Zp):=
 cond (decide (n≤0))
 (some (0,c))
 (cond (decide (n≤256))
 ((rhoM [0]).bind fun _=>
 (Za2 c).bind fun y1=>
 (chk (decide (n≠0))).bind fun _=>
 some ((Int.tmod y1.1 n),y1.2))
 ((rhoM [0]).bind fun _=>
 (Za2 c).bind fun y2=>
 (rhoM [0]).bind fun _=>
 (Za2 y2.2).bind fun y3=>
 (rhoM [0]).bind fun _=>
 (Za2 y3.2).bind fun y4=>
 (chk (decide (n≠0))).bind fun _=>
 some ((Int.tmod (w64 ((w64 ((w64 (y2.1*65536))+(w64 (y3.1*256))))+y4.1)) n),y4.2)))
instance (c:Zp) (n:Int):CT Tryz.prog (Zb c n):=⟨79,[.be 0 0 0,vi n],[some ⟨.of 102,3,[[.sl (c.b.map cB8),vi c.i,vi c.h]]⟩],fun r=>vi r.1,fun r=>[some ⟨.of 102,3,[[.sl (r.2.b.map cB8),vi r.2.i,vi r.2.h]]⟩],fun H=>by replace H:=H0 H; unfold Zb at H; exact Zd Tryz.func79 rfl Tryz.ntmps79 Tryz.results79 fun Q hQ hQn=>wk7⟩
def ZL (c:Zp) (list:List Int):Option (Int × Zp × (List Int)):=
 (rhoM [0]).bind fun _=>
 (Zb c (list.length:Int)).bind fun y1=>
 (getI list y1.1).bind fun y2=>
 some (y2,y1.2,list)
instance (c:Zp) (list:List Int):CT Tryz.prog (ZL c list):=⟨80,[.be 0 0 0,.ms 1],[some ⟨.of 102,3,[[.sl (c.b.map cB8),vi c.i,vi c.h]]⟩,some ⟨.of 3,1,list.map cInt⟩],fun r=>vi r.1,fun r=>[some ⟨.of 102,3,[[.sl (r.2.1.b.map cB8),vi r.2.1.i,vi r.2.1.h]]⟩,some ⟨.of 3,1,r.2.2.map cInt⟩],fun H=>by replace H:=H0 H; unfold ZL at H; exact Zd Tryz.func80 rfl Tryz.ntmps80 Tryz.results80 fun Q hQ hQn=>wk7⟩
def ZN (c:Zp) (n:Int):Option (Bool × Zp):=
 (rhoM [0]).bind fun _=>
 (Zb c n).bind fun y1=>
 some ((decide (y1.1=0)),y1.2)
instance (c:Zp) (n:Int):CT Tryz.prog (ZN c n):=⟨112,[.be 0 0 0,vi n],[some ⟨.of 102,3,[[.sl (c.b.map cB8),vi c.i,vi c.h]]⟩],fun r=>vb r.1,fun r=>[some ⟨.of 102,3,[[.sl (r.2.b.map cB8),vi r.2.i,vi r.2.h]]⟩],fun H=>by replace H:=H0 H; unfold ZN at H; exact Zd Tryz.func112 rfl Tryz.ntmps112 Tryz.results112 fun Q hQ hQn=>wk7⟩
def ZcI (c:Zp) (list:List ByteArray):Option (ByteArray × Zp × (List ByteArray)):=
 (rhoM [0]).bind fun _=>
 (Zb c (list.length:Int)).bind fun y1=>
 (getI list y1.1).bind fun y2=>
 some (y2,y1.2,list)
instance (c:Zp) (list:List ByteArray):CT Tryz.prog (ZcI c list):=⟨174,[.be 0 0 0,.ms 1],[some ⟨.of 102,3,[[.sl (c.b.map cB8),vi c.i,vi c.h]]⟩,some ⟨.of 9,1,list.map cStr⟩],fun r=>vs r.1,fun r=>[some ⟨.of 102,3,[[.sl (r.2.1.b.map cB8),vi r.2.1.i,vi r.2.1.h]]⟩,some ⟨.of 9,1,r.2.2.map cStr⟩],fun H=>by replace H:=H0 H; unfold ZcI at H; exact Zd Tryz.func174 rfl Tryz.ntmps174 Tryz.results174 fun Q hQ hQn=>wk7⟩
def Zav (c:Zp):Option (ByteArray × Zp):=
 (rhoM [0,1]).bind fun _=>
 (ZcI c ([⟨#[65,77,83]⟩,⟨#[66,82,85]⟩,⟨#[67,68,71]⟩,⟨#[68,85,66]⟩,⟨#[69,68,73]⟩,⟨#[70,82,65]⟩,⟨#[71,79,84]⟩])).bind fun y1=>
 some (y1.1,y1.2.1)
instance (c:Zp):CT Tryz.prog (Zav c):=⟨138,[.be 0 0 0],[some ⟨.of 102,3,[[.sl (c.b.map cB8),vi c.i,vi c.h]]⟩],fun r=>vs r.1,fun r=>[some ⟨.of 102,3,[[.sl (r.2.b.map cB8),vi r.2.i,vi r.2.h]]⟩],fun H=>by replace H:=H0 H; unfold Zav at H; exact Zd Tryz.func138 rfl Tryz.ntmps138 Tryz.results138 fun Q hQ hQn=>wk7⟩
def Zl (x:Int) (least:Int) (most:Int):Option Bool:=
 cond (decide (least≤x))
 (some (decide (x≤most)))
 (some false)
instance (x:Int) (least:Int) (most:Int):CT Tryz.prog (Zl x least most):=⟨46,[vi x,vi least,vi most],[],fun r=>vb r,fun r=>[],fun H=>by replace H:=H0 H; unfold Zl at H; exact Zd Tryz.func46 rfl Tryz.ntmps46 Tryz.results46 fun Q hQ hQn=>wk3⟩
def ZbM (s:ByteArray) (s0:Int):Option (Int ⊕ (Unit ⊕ Bool)):=
 cond (decide (s0<3))
 ((getB s s0).bind fun y1=>
 (Zl (IntKind.i64.wrap y1) 65 90).bind fun y2=>
 cond (!y2)
 (some (.inr (.inr false)))
 (some (.inl (w64 (s0+1)))))
 (some (.inr (.inl ())))
instance (s:ByteArray):Z1 (ZbM s):=⟨fun s0=>(vs s::.un::.un::vi s0::(U 13 [])),fun s0=>[]⟩
def Zy (s:ByteArray):Option Bool:=
 cond (!decide ((s.size:Int)=3))
 (some false)
 ((Zj (ZbM s) NN 0).bind (Zu (fun o0=>
 some true) (fun r=>some r)))
instance (s:ByteArray):CT Tryz.prog (Zy s):=⟨67,[vs s],[],fun r=>vb r,fun r=>[],fun H=>by replace H:=H0 H; unfold Zy at H; exact Zd Tryz.func67 rfl Tryz.ntmps67 Tryz.results67 fun Q hQ hQn=>wk3⟩
def Zad (l:List Int):Option (List Int):=
 (chk (Z9 ((([]:List Int):List Int).length+(l:List Int).length) 8)).bind fun _=>
 some ((([]:List Int):List Int)++l)
instance (l:List Int):CT Tryz.prog (Zad l):=⟨124,[.sl (l.map cInt)],[],fun r=>.ms 0,fun r=>[some ⟨.of 3,1,r.map cInt⟩],fun H=>by replace H:=H0 H; unfold Zad at H; exact Zd Tryz.func124 rfl Tryz.ntmps124 Tryz.results124 fun Q hQ hQn=>wk3⟩
def ZaD (l:YLeg):Option Bool:=
 (Zy l.from_).bind fun y1=>
 cond y1
 ((Zy l.to_).bind fun y2=>
 cond y2
 (cond (!decide (l.from_=l.to_))
 ((Zl l.start 0 1439).bind fun y3=>
 cond y3
 ((Zl l.takes 1 4320).bind fun y4=>
 cond y4
 ((Zl l.days 1 127).bind fun y5=>
 cond y5
 ((Zl l.room 0 1000000).bind fun y6=>
 some y6)
 (some false))
 (some false))
 (some false))
 (some false))
 (some false))
 (some false)
instance (l:YLeg):CT Tryz.prog (ZaD l):=⟨241,[.ag (cLeg l)],[],fun r=>vb r,fun r=>[],fun H=>by replace H:=H0 H; unfold ZaD at H; exact Zd Tryz.func241 rfl Tryz.ntmps241 Tryz.results241 fun Q hQ hQn=>wk3⟩
def Zz (n:Za) (s0:Int):Option (Int ⊕ (Unit ⊕ Bool)):=
 cond (decide (s0<(n.legs.length:Int)))
 ((getI n.legs s0).bind fun y1=>
 (ZaD y1).bind fun y2=>
 cond (!y2)
 (some (.inr (.inr false)))
 (some (.inl (w64 (s0+1)))))
 (some (.inr (.inl ())))
instance (n:Za):Z1 (Zz n):=⟨fun s0=>(.un::.be 0 0 0::.un::vi s0::(U 62 [])),fun s0=>[some ⟨.of 80,3,[[.sl (n.legs.map cLeg),.sl (n.off.map cInt),vi n.change]]⟩]⟩
def ZA (n:Za) (s1:Int):Option (Int ⊕ (Unit ⊕ Bool)):=
 cond (decide (s1<(n.off.length:Int)))
 ((getI n.off s1).bind fun y3=>
 (Zl y3 0 60).bind fun y4=>
 cond (!y4)
 (some (.inr (.inr false)))
 (cond (decide (0<s1))
 ((getI n.off (w64 (s1-1))).bind fun y5=>
 (getI n.off s1).bind fun y6=>
 cond (decide (y6≤y5))
 (some (.inr (.inr false)))
 (some (.inl (w64 (s1+1)))))
 (some (.inl (w64 (s1+1))))))
 (some (.inr (.inl ())))
instance (n:Za):Z1 (ZA n):=⟨fun s1=>(.un::.be 0 0 0::.un::.un::vi s1::(U 61 [])),fun s1=>[some ⟨.of 80,3,[[.sl (n.legs.map cLeg),.sl (n.off.map cInt),vi n.change]]⟩]⟩
def Zm (n:Za):Option Bool:=
 (Zj (Zz n) NN 0).bind (Zu (fun o0=>
 (Zj (ZA n) NN 0).bind (Zu (fun o1=>
 cond (decide ((n.legs.length:Int)≤20))
 (cond (decide ((n.off.length:Int)≤10))
 ((Zl n.change 0 240).bind fun y7=>
 some y7)
 (some false))
 (some false)) (fun r=>some r))) (fun r=>some r))
instance (n:Za):CT Tryz.prog (Zm n):=⟨213,[.ag (Z2 n)],[],fun r=>vb r,fun r=>[],fun H=>by replace H:=H0 H; unfold Zm at H; exact Zd Tryz.func213 rfl Tryz.ntmps213 Tryz.results213 fun Q hQ hQn=>wk3⟩
def Zt (n:Za) (t:Zg):Option Int:=
 (getI n.legs t.leg).bind fun y1=>
 some (w64 ((w64 (t.day*1440))+y1.start))
instance (n:Za) (t:Zg):CT Tryz.prog (Zt n t):=⟨193,[.ag (Z2 n),.ag (ZS t)],[],fun r=>vi r,fun r=>[],fun H=>by replace H:=H0 H; unfold Zt at H; exact Zd Tryz.func193 rfl Tryz.ntmps193 Tryz.results193 fun Q hQ hQn=>wk3⟩
def Zv (n:Za) (t:Zg):Option Int:=
 (Zt n t).bind fun y1=>
 (getI n.legs t.leg).bind fun y2=>
 some (w64 (y1+y2.takes))
instance (n:Za) (t:Zg):CT Tryz.prog (Zv n t):=⟨218,[.ag (Z2 n),.ag (ZS t)],[],fun r=>vi r,fun r=>[],fun H=>by replace H:=H0 H; unfold Zv at H; exact Zd Tryz.func218 rfl Tryz.ntmps218 Tryz.results218 fun Q hQ hQn=>wk3⟩
def ZeJ (l:List Int) (x:Int) (s0:Int):Option (Int ⊕ (Unit ⊕ Bool)):=
 cond (decide (s0<(l.length:Int)))
 ((getI l s0).bind fun y1=>
 cond (decide (y1=x))
 (some (.inr (.inr true)))
 (some (.inl (w64 (s0+1)))))
 (some (.inr (.inl ())))
instance (l:List Int) (x:Int):Z1 (ZeJ l x):=⟨fun s0=>(.sl (l.map cInt)::vi x::(U 3 (vi s0::(U 12 [])))),fun s0=>[]⟩
def ZcZ (l:List Int) (x:Int):Option Bool:=
 (Zj (ZeJ l x) NN 0).bind (Zu (fun o0=>
 some false) (fun r=>some r))
instance (l:List Int) (x:Int):CT Tryz.prog (ZcZ l x):=⟨216,[.sl (l.map cInt),vi x],[],fun r=>vb r,fun r=>[],fun H=>by replace H:=H0 H; unfold ZcZ at H; exact Zd Tryz.func216 rfl Tryz.ntmps216 Tryz.results216 fun Q hQ hQn=>wk3⟩
def ZW (n:Za) (leg:Int) (day:Int):Option Bool:=
 (Zl leg 0 (w64 ((n.legs.length:Int)-1))).bind fun y1=>
 cond y1
 ((Zl day 0 60).bind fun y2=>
 cond y2
 ((getI n.legs leg).bind fun y3=>
 (chk (decide (0≤(Int.tmod day 7)))).bind fun _=>
 cond (decide ((IntKind.i64.wrap (BitVec.ofInt IntKind.i64.bits (Int.fdiv y3.days (2 ^ (min (Int.toNat (Int.tmod day 7)) IntKind.i64.bits))) &&& BitVec.ofInt IntKind.i64.bits 1).toNat)=1))
 ((ZcZ n.off day).bind fun y4=>
 some (!y4))
 (some false))
 (some false))
 (some false)
instance (n:Za) (leg:Int) (day:Int):CT Tryz.prog (ZW n leg day):=⟨180,[.ag (Z2 n),vi leg,vi day],[],fun r=>vb r,fun r=>[],fun H=>by replace H:=H0 H; unfold ZW at H; exact Zd Tryz.func180 rfl Tryz.ntmps180 Tryz.results180 fun Q hQ hQn=>wk3⟩
def ZfE (l:List Zg) (t:Zg) (s0:Int):Option (Int ⊕ (Unit ⊕ Bool)):=
 cond (decide (s0<(l.length:Int)))
 ((getI l s0).bind fun y1=>
 cond (decide (y1=t))
 (some (.inr (.inr true)))
 (some (.inl (w64 (s0+1)))))
 (some (.inr (.inl ())))
instance (l:List Zg) (t:Zg):Z1 (ZfE l t):=⟨fun s0=>(.sl (l.map ZS)::.un::.un::.be 0 0 0::.un::vi s0::(U 12 [])),fun s0=>[some ⟨.of 28,2,[[vi t.leg,vi t.day]]⟩]⟩
def Zbp (l:List Zg) (t:Zg):Option Bool:=
 (Zj (ZfE l t) NN 0).bind (Zu (fun o0=>
 some false) (fun r=>some r))
instance (l:List Zg) (t:Zg):CT Tryz.prog (Zbp l t):=⟨181,[.sl (l.map ZS),.ag (ZS t)],[],fun r=>vb r,fun r=>[],fun H=>by replace H:=H0 H; unfold Zbp at H; exact Zd Tryz.func181 rfl Tryz.ntmps181 Tryz.results181 fun Q hQ hQn=>wk3⟩
def ZcS (a:Zc) (b:Zc):Option Bool:=
 cond (!decide (a.trip.day=b.trip.day))
 (some (decide (a.trip.day<b.trip.day)))
 (cond (!decide (a.trip.leg=b.trip.leg))
 (some (decide (a.trip.leg<b.trip.leg)))
 (some (decide (a.thing<b.thing))))
instance (a:Zc) (b:Zc):CT Tryz.prog (ZcS a b):=⟨214,[.ag (Zk a),.ag (Zk b)],[],fun r=>vb r,fun r=>[],fun H=>by replace H:=H0 H; unfold ZcS at H; exact Zd Tryz.func214 rfl Tryz.ntmps214 Tryz.results214 fun Q hQ hQn=>wk3⟩
def Zb2 (l:List Zc) (t:Zg) (s0:Int × Int):Option ((Int × Int) ⊕ Int):=
 cond (decide (s0.2<(l.length:Int)))
 ((getI l s0.2).bind fun y1=>
 cond (decide (y1.trip=t))
 ((getI l s0.2).bind fun y2=>
 some (.inl ((w64 (s0.1+y2.weight)),(w64 (s0.2+1)))))
 (some (.inl (s0.1,(w64 (s0.2+1))))))
 (some (.inr s0.1))
instance (l:List Zc) (t:Zg):Z1 (Zb2 l t):=⟨fun s0=>(.sl (l.map Zk)::.un::.un::.be 0 0 0::.un::vi s0.1::vi s0.2::(U 21 [])),fun s0=>[some ⟨.of 28,2,[[vi t.leg,vi t.day]]⟩]⟩
def Zc8 (l:List Zc) (t:Zg):Option Int:=
 (Zj (Zb2 l t) NN (0,0)).bind (fun o0=>
 some o0)
instance (l:List Zc) (t:Zg):CT Tryz.prog (Zc8 l t):=⟨215,[.sl (l.map Zk),.ag (ZS t)],[],fun r=>vi r,fun r=>[],fun H=>by replace H:=H0 H; unfold Zc8 at H; exact Zd Tryz.func215 rfl Tryz.ntmps215 Tryz.results215 fun Q hQ hQn=>wk3⟩
def Zbk (n:Za) (l:List Zc) (s0:Int):Option (Int ⊕ (Unit ⊕ Bool)):=
 cond (decide (s0<(l.length:Int)))
 ((getI l s0).bind fun y2=>
 (ZW n y2.trip.leg y2.trip.day).bind fun y3=>
 cond (!y3)
 (some (.inr (.inr false)))
 ((Zl y2.thing 1 9999).bind fun y4=>
 cond (!y4)
 (some (.inr (.inr false)))
 ((Zl y2.weight 1 1000000).bind fun y5=>
 cond (!y5)
 (some (.inr (.inr false)))
 (cond (decide (0<s0))
 ((getI l (w64 (s0-1))).bind fun y6=>
 (ZcS y6 y2).bind fun y7=>
 cond (!y7)
 (some (.inr (.inr false)))
 (some (.inl (w64 (s0+1)))))
 (some (.inl (w64 (s0+1))))))))
 (some (.inr (.inl ())))
instance (n:Za) (l:List Zc):Z1 (Zbk n l):=⟨fun s0=>(.un::.sl (l.map Zk)::.be 0 0 0::.un::.un::vi s0::(U 80 [])),fun s0=>[some ⟨.of 80,3,[[.sl (n.legs.map cLeg),.sl (n.off.map cInt),vi n.change]]⟩]⟩
def Zbl (n:Za) (l:List Zc) (s1:Int):Option (Int ⊕ (Unit ⊕ Bool)):=
 cond (decide (s1<(l.length:Int)))
 ((getI l s1).bind fun y8=>
 (Zc8 l y8.trip).bind fun y9=>
 (getI l s1).bind fun y10=>
 (getI n.legs y10.trip.leg).bind fun y11=>
 cond (decide (y11.room<y9))
 (some (.inr (.inr false)))
 (some (.inl (w64 (s1+1)))))
 (some (.inr (.inl ())))
instance (n:Za) (l:List Zc):Z1 (Zbl n l):=⟨fun s1=>(.un::.sl (l.map Zk)::.be 0 0 0::(U 4 (vi s1::(U 78 [])))),fun s1=>[some ⟨.of 80,3,[[.sl (n.legs.map cLeg),.sl (n.off.map cInt),vi n.change]]⟩]⟩
def Zaq (n:Za) (l:List Zc):Option Bool:=
 (Zm n).bind fun y1=>
 cond (!y1)
 (some false)
 (cond (decide (120<(l.length:Int)))
 (some false)
 ((Zj (Zbk n l) NN 0).bind (Zu (fun o0=>
 (Zj (Zbl n l) NN 0).bind (Zu (fun o1=>
 some true) (fun r=>some r))) (fun r=>some r))))
instance (n:Za) (l:List Zc):CT Tryz.prog (Zaq n l):=⟨179,[.ag (Z2 n),.sl (l.map Zk)],[],fun r=>vb r,fun r=>[],fun H=>by replace H:=H0 H; unfold Zaq at H; exact Zd Tryz.func179 rfl Tryz.ntmps179 Tryz.results179 fun Q hQ hQn=>wk3⟩
def ZeG (n:Za) (s0:Int × (List ByteArray)) (y2:YLeg) (s1:Int):Option (Int ⊕ Int):=
 cond (decide (s1<(s0.2.length:Int)))
 ((getI s0.2 s1).bind fun y3=>
 cond (sLt y3 y2.to_)
 (some (.inl (w64 (s1+1))))
 (some (.inr s1)))
 (some (.inr s1))
instance (n:Za) (s0:Int × (List ByteArray)) (y2:YLeg):Z1 (ZeG n s0 y2):=⟨fun s1=>(.un::.be 0 0 0::.un::.ms 1::vi s0.1::vs y2.to_::vi s1::(U 65 [])),fun s1=>[some ⟨.of 80,3,[[.sl (n.legs.map cLeg),.sl (n.off.map cInt),vi n.change]]⟩,some ⟨.of 9,1,s0.2.map cStr⟩]⟩
def ZeH (n:Za) (s0:Int × (List ByteArray)) (y1:YLeg) (s2:Int):Option (Int ⊕ Int):=
 cond (decide (s2<(s0.2.length:Int)))
 ((getI s0.2 s2).bind fun y5=>
 cond (sLt y5 y1.from_)
 (some (.inl (w64 (s2+1))))
 (some (.inr s2)))
 (some (.inr s2))
instance (n:Za) (s0:Int × (List ByteArray)) (y1:YLeg):Z1 (ZeH n s0 y1):=⟨fun s2=>(.un::.be 0 0 0::.un::.ms 1::vi s0.1::vs y1.from_::vi s2::(U 65 [])),fun s2=>[some ⟨.of 80,3,[[.sl (n.legs.map cLeg),.sl (n.off.map cInt),vi n.change]]⟩,some ⟨.of 9,1,s0.2.map cStr⟩]⟩
def Zbx (n:Za) (s0:Int × (List ByteArray)):Option ((Int × (List ByteArray)) ⊕ (List ByteArray)):=
 cond (decide (s0.1<(w64 (2*(n.legs.length:Int)))))
 ((getI n.legs (IntKind.i64.wrap (Int.tdiv s0.1 2))).bind fun y1=>
 cond (decide ((Int.tmod s0.1 2)=1))
 ((getI n.legs (IntKind.i64.wrap (Int.tdiv s0.1 2))).bind fun y2=>
 (Zj (ZeG n s0 y2) NN 0).bind (fun o1=>
 cond (decide (o1=(s0.2.length:Int)))
 ((chk (slOk 0 o1 s0.2.length)).bind fun _=>
 (chk (Z9 ((([]:List ByteArray):List ByteArray).length+((subL s0.2 0 o1):List ByteArray).length) 16)).bind fun _=>
 (chk (Z9 ((((([]:List ByteArray):List ByteArray)++(subL s0.2 0 o1)):List ByteArray).length+([y2.to_]:List ByteArray).length) 16)).bind fun _=>
 (chk (slOk o1 (s0.2.length:Int) s0.2.length)).bind fun _=>
 (chk (Z9 ((((((([]:List ByteArray):List ByteArray)++(subL s0.2 0 o1)):List ByteArray)++[y2.to_]):List ByteArray).length+((subL s0.2 o1 (s0.2.length:Int)):List ByteArray).length) 16)).bind fun _=>
 some (.inl ((w64 (s0.1+1)),((((((([]:List ByteArray):List ByteArray)++(subL s0.2 0 o1)):List ByteArray)++[y2.to_]):List ByteArray)++(subL s0.2 o1 (s0.2.length:Int))))))
 ((getI s0.2 o1).bind fun y4=>
 cond (!decide (y4=y2.to_))
 ((chk (slOk 0 o1 s0.2.length)).bind fun _=>
 (chk (Z9 ((([]:List ByteArray):List ByteArray).length+((subL s0.2 0 o1):List ByteArray).length) 16)).bind fun _=>
 (chk (Z9 ((((([]:List ByteArray):List ByteArray)++(subL s0.2 0 o1)):List ByteArray).length+([y2.to_]:List ByteArray).length) 16)).bind fun _=>
 (chk (slOk o1 (s0.2.length:Int) s0.2.length)).bind fun _=>
 (chk (Z9 ((((((([]:List ByteArray):List ByteArray)++(subL s0.2 0 o1)):List ByteArray)++[y2.to_]):List ByteArray).length+((subL s0.2 o1 (s0.2.length:Int)):List ByteArray).length) 16)).bind fun _=>
 some (.inl ((w64 (s0.1+1)),((((((([]:List ByteArray):List ByteArray)++(subL s0.2 0 o1)):List ByteArray)++[y2.to_]):List ByteArray)++(subL s0.2 o1 (s0.2.length:Int))))))
 (some (.inl ((w64 (s0.1+1)),s0.2))))))
 ((Zj (ZeH n s0 y1) NN 0).bind (fun o2=>
 cond (decide (o2=(s0.2.length:Int)))
 ((chk (slOk 0 o2 s0.2.length)).bind fun _=>
 (chk (Z9 ((([]:List ByteArray):List ByteArray).length+((subL s0.2 0 o2):List ByteArray).length) 16)).bind fun _=>
 (chk (Z9 ((((([]:List ByteArray):List ByteArray)++(subL s0.2 0 o2)):List ByteArray).length+([y1.from_]:List ByteArray).length) 16)).bind fun _=>
 (chk (slOk o2 (s0.2.length:Int) s0.2.length)).bind fun _=>
 (chk (Z9 ((((((([]:List ByteArray):List ByteArray)++(subL s0.2 0 o2)):List ByteArray)++[y1.from_]):List ByteArray).length+((subL s0.2 o2 (s0.2.length:Int)):List ByteArray).length) 16)).bind fun _=>
 some (.inl ((w64 (s0.1+1)),((((((([]:List ByteArray):List ByteArray)++(subL s0.2 0 o2)):List ByteArray)++[y1.from_]):List ByteArray)++(subL s0.2 o2 (s0.2.length:Int))))))
 ((getI s0.2 o2).bind fun y6=>
 cond (!decide (y6=y1.from_))
 ((chk (slOk 0 o2 s0.2.length)).bind fun _=>
 (chk (Z9 ((([]:List ByteArray):List ByteArray).length+((subL s0.2 0 o2):List ByteArray).length) 16)).bind fun _=>
 (chk (Z9 ((((([]:List ByteArray):List ByteArray)++(subL s0.2 0 o2)):List ByteArray).length+([y1.from_]:List ByteArray).length) 16)).bind fun _=>
 (chk (slOk o2 (s0.2.length:Int) s0.2.length)).bind fun _=>
 (chk (Z9 ((((((([]:List ByteArray):List ByteArray)++(subL s0.2 0 o2)):List ByteArray)++[y1.from_]):List ByteArray).length+((subL s0.2 o2 (s0.2.length:Int)):List ByteArray).length) 16)).bind fun _=>
 some (.inl ((w64 (s0.1+1)),((((((([]:List ByteArray):List ByteArray)++(subL s0.2 0 o2)):List ByteArray)++[y1.from_]):List ByteArray)++(subL s0.2 o2 (s0.2.length:Int))))))
 (some (.inl ((w64 (s0.1+1)),s0.2)))))))
 (some (.inr s0.2))
instance (n:Za):Z1 (Zbx n):=⟨fun s0=>(.un::.be 0 0 0::.un::.ms 1::vi s0.1::(U 67 [])),fun s0=>[some ⟨.of 80,3,[[.sl (n.legs.map cLeg),.sl (n.off.map cInt),vi n.change]]⟩,some ⟨.of 9,1,s0.2.map cStr⟩]⟩
def Z0 (n:Za):Option (List ByteArray):=
 (Zj (Zbx n) NN (0,([]:List ByteArray))).bind (fun o0=>
 some o0)
instance (n:Za):CT Tryz.prog (Z0 n):=⟨140,[.ag (Z2 n)],[],fun r=>.ms 0,fun r=>[some ⟨.of 9,1,r.map cStr⟩],fun H=>by replace H:=H0 H; unfold Z0 at H; exact Zd Tryz.func140 rfl Tryz.ntmps140 Tryz.results140 fun Q hQ hQn=>wk3⟩
def ZdX (l:List ByteArray) (p:ByteArray) (s0:Int):Option (Int ⊕ (Unit ⊕ Int)):=
 cond (decide (s0<(l.length:Int)))
 ((getI l s0).bind fun y1=>
 cond (decide (y1=p))
 (some (.inr (.inr s0)))
 (some (.inl (w64 (s0+1)))))
 (some (.inr (.inl ())))
instance (l:List ByteArray) (p:ByteArray):Z1 (ZdX l p):=⟨fun s0=>(.sl (l.map cStr)::vs p::(U 3 (vi s0::(U 13 [])))),fun s0=>[]⟩
def ZE (l:List ByteArray) (p:ByteArray):Option Int:=
 (Zj (ZdX l p) NN 0).bind (Zu (fun o0=>
 some (-1)) (fun r=>some r))
instance (l:List ByteArray) (p:ByteArray):CT Tryz.prog (ZE l p):=⟨217,[.sl (l.map cStr),vs p],[],fun r=>vi r,fun r=>[],fun H=>by replace H:=H0 H; unfold ZE at H; exact Zd Tryz.func217 rfl Tryz.ntmps217 Tryz.results217 fun Q hQ hQn=>wk3⟩
def Za3 (x:Zh):Option Int:=
 cond (decide (x.state=2))
 (some (w64 (x.gone+1)))
 (some x.gone)
instance (x:Zh):CT Tryz.prog (Za3 x):=⟨194,[.ag (ZV x)],[],fun r=>vi r,fun r=>[],fun H=>by replace H:=H0 H; unfold Za3 at H; exact Zd Tryz.func194 rfl Tryz.ntmps194 Tryz.results194 fun Q hQ hQn=>wk3⟩
def Zcp (l:List Zc):Option (List Zc):=
 (chk (Z9 ((([]:List Zc):List Zc).length+(l:List Zc).length) 32)).bind fun _=>
 some ((([]:List Zc):List Zc)++l)
instance (l:List Zc):CT Tryz.prog (Zcp l):=⟨178,[.sl (l.map Zk)],[],fun r=>.ms 0,fun r=>[some ⟨.of 175,4,r.map Zk⟩],fun H=>by replace H:=H0 H; unfold Zcp at H; exact Zd Tryz.func178 rfl Tryz.ntmps178 Tryz.results178 fun Q hQ hQn=>wk3⟩
def Za9 (w:Ze) (y1:(List Int)) (s0:Int × (List Zh)):Option ((Int × (List Zh)) ⊕ (List Zh)):=
 cond (decide (s0.1<(w.orders.length:Int)))
 ((getI w.orders s0.1).bind fun y2=>
 (chk (Z9 ((([]:List Zg):List Zg).length+(y2.way:List Zg).length) 16)).bind fun _=>
 (frz (.un::.be 0 0 0::.be 1 0 0::.be 2 0 0::vi s0.1::.be 6 0 0::(U 59 [])) [some ⟨.of 86,10,[[.sl (w.network.legs.map cLeg),.sl (w.network.off.map cInt),vi w.network.change,.sl (w.orders.map ZV),.sl (w.bookings.map Zk),.sl (w.closed.map ZS),vi w.now,.sl (w.scans.map Zax),.sl (w.skip.map cInt),vi w.made]]⟩,some ⟨.of 86,10,[[.v (.slice none 0 0),.v (.slice none 0 0),vi 0,.v (.slice none 0 0),.v (.slice none 0 0),.v (.slice none 0 0),vi 0,.v (.slice none 0 0),.v (.slice none 0 0),vi 0]]⟩,some ⟨.of 86,10,[[.ms 3,.ms 4,vi w.network.change,.ms 5,.sl (w.bookings.map Zk),.sl (w.closed.map ZS),vi w.now,.sl (w.scans.map Zax),.sl (w.skip.map cInt),vi w.made]]⟩,some ⟨.of 133,6,((([]:List YLeg):List YLeg)++w.network.legs).map cLeg⟩,some ⟨.of 3,1,y1.map cInt⟩,some ⟨.of 226,11,s0.2.map ZV⟩,some ⟨.of 226,11,[[vs y2.from_,vs y2.to_,vi y2.service,vi y2.weight,vi y2.at_,vi y2.due,.sl (((([]:List Zg):List Zg)++y2.way).map ZS),vi y2.gone,vi y2.state,vs y2.place,vi y2.ended]]⟩]).bind fun _=>
 (chk (Z9 ((s0.2:List Zh).length+([(⟨y2.from_,y2.to_,y2.service,y2.weight,y2.at_,y2.due,((([]:List Zg):List Zg)++y2.way),y2.gone,y2.state,y2.place,y2.ended⟩:Zh)]:List Zh).length) 128)).bind fun _=>
 some (.inl ((w64 (s0.1+1)),((s0.2:List Zh)++[(⟨y2.from_,y2.to_,y2.service,y2.weight,y2.at_,y2.due,((([]:List Zg):List Zg)++y2.way),y2.gone,y2.state,y2.place,y2.ended⟩:Zh)]))))
 (some (.inr s0.2))
instance (w:Ze) (y1:(List Int)):Z1 (Za9 w y1):=⟨fun s0=>(.un::.be 0 0 0::.be 1 0 0::.be 2 0 0::vi s0.1::(U 60 [])),fun s0=>[some ⟨.of 86,10,[[.sl (w.network.legs.map cLeg),.sl (w.network.off.map cInt),vi w.network.change,.sl (w.orders.map ZV),.sl (w.bookings.map Zk),.sl (w.closed.map ZS),vi w.now,.sl (w.scans.map Zax),.sl (w.skip.map cInt),vi w.made]]⟩,some ⟨.of 86,10,[[.v (.slice none 0 0),.v (.slice none 0 0),vi 0,.v (.slice none 0 0),.v (.slice none 0 0),.v (.slice none 0 0),vi 0,.v (.slice none 0 0),.v (.slice none 0 0),vi 0]]⟩,some ⟨.of 86,10,[[.ms 3,.ms 4,vi w.network.change,.ms 5,.sl (w.bookings.map Zk),.sl (w.closed.map ZS),vi w.now,.sl (w.scans.map Zax),.sl (w.skip.map cInt),vi w.made]]⟩,some ⟨.of 133,6,((([]:List YLeg):List YLeg)++w.network.legs).map cLeg⟩,some ⟨.of 3,1,y1.map cInt⟩,some ⟨.of 226,11,s0.2.map ZV⟩]⟩
def Zam (w:Ze):Option Ze:=
 (chk (Z9 ((([]:List YLeg):List YLeg).length+(w.network.legs:List YLeg).length) 64)).bind fun _=>
 (Zad w.network.off).bind fun y1=>
 (Zj (Za9 w y1) NN (0,([]:List Zh))).bind (fun o0=>
 (Zcp w.bookings).bind fun y3=>
 (chk (Z9 ((([]:List Zg):List Zg).length+(w.closed:List Zg).length) 16)).bind fun _=>
 (chk (Z9 ((([]:List ZU):List ZU).length+(w.scans:List ZU).length) 56)).bind fun _=>
 (Zad w.skip).bind fun y4=>
 some (⟨(⟨((([]:List YLeg):List YLeg)++w.network.legs),y1,w.network.change⟩:Za),o0,y3,((([]:List Zg):List Zg)++w.closed),w.now,((([]:List ZU):List ZU)++w.scans),y4,w.made⟩:Ze))
instance (w:Ze):CT Tryz.prog (Zam w):=⟨146,[.ag (Ze0 w)],[],fun r=>.ag [.ms 0,.ms 1,vi r.network.change,.ms 2,.ms 3,.ms 4,vi r.now,.ms 5,.ms 6,vi r.made],fun r=>[some ⟨.of 133,6,r.network.legs.map cLeg⟩,some ⟨.of 3,1,r.network.off.map cInt⟩,some ⟨.of 226,11,r.orders.map ZV⟩,some ⟨.of 175,4,r.bookings.map Zk⟩,some ⟨.of 28,2,r.closed.map ZS⟩,some ⟨.of 233,6,r.scans.map Zax⟩,some ⟨.of 3,1,r.skip.map cInt⟩],fun H=>by replace H:=H0 H; unfold Zam at H; exact Zd Tryz.func146 rfl Tryz.ntmps146 Tryz.results146 fun Q hQ hQn=>wk3⟩
def Zds (a:Int) (b:Int):Option Int:=
 cond (decide (a<b))
 (some b)
 (some a)
instance (a:Int) (b:Int):CT Tryz.prog (Zds a b):=⟨107,[vi a,vi b],[],fun r=>vi r,fun r=>[],fun H=>by replace H:=H0 H; unfold Zds at H; exact Zd Tryz.func107 rfl Tryz.ntmps107 Tryz.results107 fun Q hQ hQn=>wk3⟩
def Zeh (n:Za) (leg:Int) (at2_:Int) (s0:Int):Option (Int ⊕ (Unit ⊕ Int)):=
 cond (decide (s0≤60))
 ((ZW n leg s0).bind fun y1=>
 cond y1
 ((Zt n (⟨leg,s0⟩:Zg)).bind fun y2=>
 cond (decide (at2_≤y2))
 (some (.inr (.inr s0)))
 (some (.inl (w64 (s0+1)))))
 (some (.inl (w64 (s0+1)))))
 (some (.inr (.inl ())))
instance (n:Za) (leg:Int) (at2_:Int):Z1 (Zeh n leg at2_):=⟨fun s0=>(.un::vi leg::vi at2_::.be 0 0 0::(U 3 (vi s0::(U 18 [])))),fun s0=>[some ⟨.of 80,3,[[.sl (n.legs.map cLeg),.sl (n.off.map cInt),vi n.change]]⟩]⟩
def ZdW (n:Za) (leg:Int) (at2_:Int):Option Int:=
 (Zj (Zeh n leg at2_) NN 0).bind (Zu (fun o0=>
 some (-1)) (fun r=>some r))
instance (n:Za) (leg:Int) (at2_:Int):CT Tryz.prog (ZdW n leg at2_):=⟨177,[.ag (Z2 n),vi leg,vi at2_],[],fun r=>vi r,fun r=>[],fun H=>by replace H:=H0 H; unfold ZdW at H; exact Zd Tryz.func177 rfl Tryz.ntmps177 Tryz.results177 fun Q hQ hQn=>wk3⟩
def Zas (c:Zp) (n:Za):Option (ByteArray × Zp):=
 (Z0 n).bind fun y1=>
 (rhoM [0]).bind fun _=>
 (ZN c 9).bind fun y2=>
 cond y2.1
 ((rhoM [0]).bind fun _=>
 (Zav y2.2).bind fun y3=>
 some (y3.1,y3.2))
 ((rhoM [0]).bind fun _=>
 (Zb y2.2 (y1.length:Int)).bind fun y4=>
 (getI y1 y4.1).bind fun y5=>
 some (y5,y4.2))
instance (c:Zp) (n:Za):CT Tryz.prog (Zas c n):=⟨106,[.be 0 0 0,.ag (Z2 n)],[some ⟨.of 102,3,[[.sl (c.b.map cB8),vi c.i,vi c.h]]⟩],fun r=>vs r.1,fun r=>[some ⟨.of 102,3,[[.sl (r.2.b.map cB8),vi r.2.i,vi r.2.h]]⟩],fun H=>by replace H:=H0 H; unfold Zas at H; exact Zd Tryz.func106 rfl Tryz.ntmps106 Tryz.results106 fun Q hQ hQn=>wk7⟩
def ZcH (c:Zp):Option (Zw × Zp):=
 (rhoM [0]).bind fun _=>
 (Zb c 3).bind fun y1=>
 (rhoM [0]).bind fun _=>
 (Zb y1.2 1000).bind fun y2=>
 (rhoM [0]).bind fun _=>
 (Zav y2.2).bind fun y3=>
 (rhoM [0]).bind fun _=>
 (ZN y3.2 3).bind fun y4=>
 cond y4.1
 ((rhoM [0,3]).bind fun _=>
 (ZL y4.2 ([0,7,999999999,100000000,123456789])).bind fun y5=>
 some ((⟨(w64 (1+y1.1)),y5.1,y3.1⟩:Zw),y5.2.1))
 (some ((⟨(w64 (1+y1.1)),y2.1,y3.1⟩:Zw),y4.2))
instance (c:Zp):CT Tryz.prog (ZcH c):=⟨137,[.be 0 0 0],[some ⟨.of 102,3,[[.sl (c.b.map cB8),vi c.i,vi c.h]]⟩],fun r=>.ag [vi r.1.service,vi r.1.serial,vs r.1.to_],fun r=>[some ⟨.of 102,3,[[.sl (r.2.b.map cB8),vi r.2.i,vi r.2.h]]⟩],fun H=>by replace H:=H0 H; unfold ZcH at H; exact Zd Tryz.func137 rfl Tryz.ntmps137 Tryz.results137 fun Q hQ hQn=>wk7⟩
def ZcJ (c:Zp):Option ((List Int) × Zp):=
 (rhoM [0]).bind fun _=>
 (Zb c 600).bind fun y1=>
 (rhoM [0]).bind fun _=>
 (Zb y1.2 400).bind fun y2=>
 (rhoM [0]).bind fun _=>
 (Zb y2.2 300).bind fun y3=>
 some ([(w64 (1+y1.1)),(w64 (1+y2.1)),(w64 (1+y3.1))],y3.2)
instance (c:Zp):CT Tryz.prog (ZcJ c):=⟨139,[.be 0 0 0],[some ⟨.of 102,3,[[.sl (c.b.map cB8),vi c.i,vi c.h]]⟩],fun r=>.ms 1,fun r=>[some ⟨.of 102,3,[[.sl (r.2.b.map cB8),vi r.2.i,vi r.2.h]]⟩,some ⟨.of 3,1,r.1.map cInt⟩],fun H=>by replace H:=H0 H; unfold ZcJ at H; exact Zd Tryz.func139 rfl Tryz.ntmps139 Tryz.results139 fun Q hQ hQn=>wk7⟩
def ZaC (c:Zp):Option (Zi × Zp):=
 (rhoM [0]).bind fun _=>
 (ZcH c).bind fun y1=>
 (rhoM [0]).bind fun _=>
 (Zav y1.2).bind fun y2=>
 (rhoM [0]).bind fun _=>
 (Zb y2.2 30000).bind fun y3=>
 (rhoM [0]).bind fun _=>
 (ZcJ y3.2).bind fun y4=>
 (rhoM [0]).bind fun _=>
 (Zb y4.2 500001).bind fun y5=>
 cond (decide (y2.1=y1.1.to_))
 ((rhoM [0]).bind fun _=>
 (ZN y5.2 3).bind fun y6=>
 cond y6.1
 ((rhoM [0,4]).bind fun _=>
 (ZL y6.2 ([1,500,1000,1001,5000,30000])).bind fun y7=>
 some ((⟨y1.1,⟨#[79,83,76]⟩,y7.1,y4.1,y5.1⟩:Zi),y7.2.1))
 (some ((⟨y1.1,⟨#[79,83,76]⟩,(w64 (1+y3.1)),y4.1,y5.1⟩:Zi),y6.2)))
 ((rhoM [0]).bind fun _=>
 (ZN y5.2 3).bind fun y8=>
 cond y8.1
 ((rhoM [0,4]).bind fun _=>
 (ZL y8.2 ([1,500,1000,1001,5000,30000])).bind fun y9=>
 some ((⟨y1.1,y2.1,y9.1,y4.1,y5.1⟩:Zi),y9.2.1))
 (some ((⟨y1.1,y2.1,(w64 (1+y3.1)),y4.1,y5.1⟩:Zi),y8.2)))
instance (c:Zp):CT Tryz.prog (ZaC c):=⟨105,[.be 0 0 0],[some ⟨.of 102,3,[[.sl (c.b.map cB8),vi c.i,vi c.h]]⟩],fun r=>.ag [vi r.1.label.service,vi r.1.label.serial,vs r.1.label.to_,vs r.1.from_,vi r.1.weight,.sl (r.1.sides.map cInt),vi r.1.value],fun r=>[some ⟨.of 102,3,[[.sl (r.2.b.map cB8),vi r.2.i,vi r.2.h]]⟩],fun H=>by replace H:=H0 H; unfold ZaC at H; exact Zd Tryz.func105 rfl Tryz.ntmps105 Tryz.results105 fun Q hQ hQn=>wk7⟩
end Go.Proofs.YtkfbakhnpfmfmaaGreatDoor
