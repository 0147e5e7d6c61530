/- A part of the proof of the statement in the last file of this claim: texts on the language of the program and on its functions. No condition. -/
import Derived.Test.YtgdcengoopjplaaGreatDoorCFormatJournal4
import Derived.Test.YtgdcengoopjplaaGreatDoorCFormatJournal5
import Derived.Lib.Hide
namespace Go.Proofs.YtgdcengoopjplaaGreatDoor
set_option maxRecDepth 10000
open Go.RowKit
set_option linter.unusedVariables false
set_option maxHeartbeats 16000000
def Zw (p:Zm):Option ByteArray:=
 (Zz p).bind fun y1=>
 cond (!y1)
 (some (⟨#[]⟩))
 ((ZD p.label).bind fun y2=>
 (chk (Zo y2 (⟨#[32]⟩))).bind fun _=>
 (chk (Zo (y2++⟨#[32]⟩) p.from_)).bind fun _=>
 (chk (Zo ((y2++⟨#[32]⟩)++p.from_) (⟨#[32]⟩))).bind fun _=>
 (Za p.weight).bind fun y3=>
 (chk (Zo (((y2++⟨#[32]⟩)++p.from_)++⟨#[32]⟩) y3)).bind fun _=>
 (chk (Zo ((((y2++⟨#[32]⟩)++p.from_)++⟨#[32]⟩)++y3) (⟨#[32]⟩))).bind fun _=>
 (getI p.sides 0).bind fun y4=>
 (Za y4).bind fun y5=>
 (chk (Zo (((((y2++⟨#[32]⟩)++p.from_)++⟨#[32]⟩)++y3)++⟨#[32]⟩) y5)).bind fun _=>
 (chk (Zo ((((((y2++⟨#[32]⟩)++p.from_)++⟨#[32]⟩)++y3)++⟨#[32]⟩)++y5) (⟨#[120]⟩))).bind fun _=>
 (getI p.sides 1).bind fun y6=>
 (Za y6).bind fun y7=>
 (chk (Zo (((((((y2++⟨#[32]⟩)++p.from_)++⟨#[32]⟩)++y3)++⟨#[32]⟩)++y5)++⟨#[120]⟩) y7)).bind fun _=>
 (chk (Zo ((((((((y2++⟨#[32]⟩)++p.from_)++⟨#[32]⟩)++y3)++⟨#[32]⟩)++y5)++⟨#[120]⟩)++y7) (⟨#[120]⟩))).bind fun _=>
 (getI p.sides 2).bind fun y8=>
 (Za y8).bind fun y9=>
 (chk (Zo (((((((((y2++⟨#[32]⟩)++p.from_)++⟨#[32]⟩)++y3)++⟨#[32]⟩)++y5)++⟨#[120]⟩)++y7)++⟨#[120]⟩) y9)).bind fun _=>
 (chk (Zo ((((((((((y2++⟨#[32]⟩)++p.from_)++⟨#[32]⟩)++y3)++⟨#[32]⟩)++y5)++⟨#[120]⟩)++y7)++⟨#[120]⟩)++y9) (⟨#[32]⟩))).bind fun _=>
 (Za p.value).bind fun y10=>
 (chk (Zo (((((((((((y2++⟨#[32]⟩)++p.from_)++⟨#[32]⟩)++y3)++⟨#[32]⟩)++y5)++⟨#[120]⟩)++y7)++⟨#[120]⟩)++y9)++⟨#[32]⟩) y10)).bind fun _=>
 some ((((((((((((y2++⟨#[32]⟩)++p.from_)++⟨#[32]⟩)++y3)++⟨#[32]⟩)++y5)++⟨#[120]⟩)++y7)++⟨#[120]⟩)++y9)++⟨#[32]⟩)++y10))
instance (p:Zm):CT Tryz.prog (Zw p):=⟨58,[.ag (Zat p)],[],fun r=>vs r,fun r=>[],fun H=>by replace H:=H0 H; unfold Zw at H; exact Zb Tryz.func58 rfl Tryz.ntmps58 Tryz.results58 fun Q hQ hQn=>wk3⟩
def Zam (a:YAct):Option ByteArray:=
 (ZaX a).bind fun y1=>
 cond (!y1)
 (some (⟨#[]⟩))
 (cond (decide (a.kind=1))
 ((Zw a.parcel).bind fun y2=>
 (chk (Zo (⟨#[116,97,107,101,32]⟩) y2)).bind fun _=>
 some (⟨#[116,97,107,101,32]⟩++y2))
 (cond (decide (a.kind=2))
 ((Za a.order).bind fun y3=>
 (chk (Zo (⟨#[112,97,121,32]⟩) y3)).bind fun _=>
 (chk (Zo (⟨#[112,97,121,32]⟩++y3) (⟨#[32]⟩))).bind fun _=>
 (Za a.amount).bind fun y4=>
 (chk (Zo ((⟨#[112,97,121,32]⟩++y3)++⟨#[32]⟩) y4)).bind fun _=>
 some (((⟨#[112,97,121,32]⟩++y3)++⟨#[32]⟩)++y4))
 (cond (decide (a.kind=3))
 ((Za a.until_).bind fun y5=>
 (chk (Zo (⟨#[114,117,110,32]⟩) y5)).bind fun _=>
 some (⟨#[114,117,110,32]⟩++y5))
 (cond (decide (a.kind=4))
 ((Za a.trip.leg).bind fun y6=>
 (chk (Zo (⟨#[115,104,117,116,32]⟩) y6)).bind fun _=>
 (chk (Zo (⟨#[115,104,117,116,32]⟩++y6) (⟨#[47]⟩))).bind fun _=>
 (Za a.trip.day).bind fun y7=>
 (chk (Zo ((⟨#[115,104,117,116,32]⟩++y6)++⟨#[47]⟩) y7)).bind fun _=>
 some (((⟨#[115,104,117,116,32]⟩++y6)++⟨#[47]⟩)++y7))
 (cond (decide (a.kind=5))
 (some (⟨#[114,101,116,114,121]⟩))
 ((Za a.order).bind fun y8=>
 (chk (Zo (⟨#[114,101,102,117,110,100,32]⟩) y8)).bind fun _=>
 some (⟨#[114,101,102,117,110,100,32]⟩++y8)))))))
instance (a:YAct):CT Tryz.prog (Zam a):=⟨30,[.ag (cAct a)],[],fun r=>vs r,fun r=>[],fun H=>by replace H:=H0 H; unfold Zam at H; exact Zb Tryz.func30 rfl Tryz.ntmps30 Tryz.results30 fun Q hQ hQn=>wk3⟩
end Go.Proofs.YtgdcengoopjplaaGreatDoor
namespace Go.Proofs.YtgdcengoopjplaaGreatDoor
set_option maxRecDepth 10000
open Go.RowKit Go.Sort
set_option linter.unusedVariables false
set_option linter.unusedSimpArgs false
set_option maxHeartbeats 4000000
def ZhI (p:Zm):Prop:=in64 p.label.service∧in64 p.label.serial∧p.label.to_.size≤2000000∧p.from_.size≤2000000∧in64 p.weight∧p.sides.length≤2000000∧(∀ x∈p.sides,in64 x)∧in64 p.value
theorem bOk {a b:ByteArray} (ha:a.size+b.size≤100000000):chk (Zo a b)=some ():=ZcQ (Zb8 (by unfold B60; omega))
theorem Zdu {p:Zm} (h:ZhI p):∃ b:List UInt8,b.length≤3000000∧Zv p=some (txt b)∧Zw p=some (txt b):=by
 obtain ⟨h1,h2,h3,h4,h5,h6,h7,h8⟩:=h
 obtain ⟨e,v,hv⟩:=Zfq (p:=p) (by unfold B60; omega) (by unfold B60; omega) (by unfold NN; omega)
 have hi:ZR p=some v:=e.trans hv
 cases v with
 | false=>
  refine ⟨[],by simp,?_,?_⟩
  ·unfold Zv; simp only [hi,Option.bind_some,Bool.not_false,cond_true]; rfl
  ·unfold Zw; simp only [hv,Option.bind_some,Bool.not_false,cond_true]; rfl
 | true=>
  have h3s:ZcP p.sides=true:=by
   cases ht:ZcP p.sides with
   | true=>rfl
   | false=>
    exfalso
    revert hv
    unfold Zz
    obtain ⟨_,b1,hb1⟩:=Zek (l:=p.label) (by unfold B60; omega)
    obtain ⟨_,b2,hb2⟩:=Zcx (s:=p.from_) (by omega)
    rw [hb1,hb2,Zgi (by unfold NN; omega),ht,Zbp]
    simp only [Option.bind_some]
    cases b1 <;> cases b2 <;> cases (!decide (p.from_=p.label.to_)) <;> cases (decide (1≤p.weight) && decide (p.weight≤30000)) <;> simp
  have hl3:=ZfH h3s
  obtain ⟨x,y,z,hs⟩:∃ x y z,p.sides=[x,y,z]:=by
   match hp:p.sides,hl3 with
   | [x,y,z],_=>exact ⟨x,y,z,rfl⟩
  have i1:in64 x:=h7 x (by rw [hs]; simp)
  have i2:in64 y:=h7 y (by rw [hs]; simp)
  have i3:in64 z:=h7 z (by rw [hs]; simp)
  have l1:=ZK i1
  have l2:=ZK i2
  have l3:=ZK i3
  have l4:=ZK h5
  have l5:=ZK h8
  obtain ⟨b,hb,f1,f2⟩:=Zhd (l:=p.label) h1 h2 (by unfold B60; omega)
  have g0:getI p.sides 0=some x:=by rw [hs]; rfl
  have g1:getI p.sides 1=some y:=by rw [hs]; rfl
  have g2:getI p.sides 2=some z:=by rw [hs]; rfl
  have ex:(⟨#[120]⟩:ByteArray)=txt [120]:=rfl
  have es:(⟨#[32]⟩:ByteArray)=txt [32]:=rfl
  have hfl:p.from_.data.toList.length=p.from_.size:=by rw [Array.length_toList]; rfl
  have hft:p.from_=txt p.from_.data.toList:=(Zcq _).symm
  generalize p.from_.data.toList=fl at *
  refine ⟨b++[32]++fl++[32]++Lib.itoa p.weight++[32]++Lib.itoa x++[120]++Lib.itoa y++[120]++Lib.itoa z++[32]++Lib.itoa p.value,by simp only [List.length_append,List.length_cons,List.length_nil]; omega,?_,?_⟩
  ·unfold Zv
   simp only [hi,g0,g1,g2,fI i1,fI i2,fI i3,fI h5,fI h8,f1,Option.bind_some,Bool.not_true,cond_false,ex,es,hft,Zaq]
   repeat rw [bOk (by simp only [Ze,List.length_append,List.length_cons,List.length_nil]; omega),Option.bind_some]
   simp only [List.append_assoc]
  ·unfold Zw
   simp only [hv,g0,g1,g2,fS i1,fS i2,fS i3,fS h5,fS h8,f2,Option.bind_some,Bool.not_true,cond_false,ex,es,hft,Zaq]
   repeat rw [bOk (by simp only [Ze,List.length_append,List.length_cons,List.length_nil]; omega),Option.bind_some]
def ActI (a:YAct):Prop:=ZhI a.parcel∧in64 a.order∧in64 a.amount∧in64 a.until_∧in64 a.trip.leg∧in64 a.trip.day
theorem Zgk {a:YAct} (h:ActI a):∃ b:ByteArray,Zl a=some b∧Zam a=some b:=by
 obtain ⟨hp,h1,h2,h3,h4,h5⟩:=h
 have hp':=hp
 obtain ⟨p1,p2,p3,p4,p5,p6,p7,p8⟩:=hp'
 obtain ⟨v,hi,hv⟩:=Zgl (a:=a) (by unfold B60; omega) (by unfold B60; omega) (by unfold NN; omega)
 obtain ⟨b,hb,f1,f2⟩:=Zdu hp
 have l1:=ZK h1
 have l2:=ZK h2
 have l3:=ZK h3
 have l4:=ZK h4
 have l5:=ZK h5
 unfold Zl Zam Zaw
 have lit:∀ l:List UInt8,(⟨l.toArray⟩:ByteArray)=txt l:=fun l=>rfl
 have et:(⟨#[116,97,107,101,32]⟩:ByteArray)=txt [116,97,107,101,32]:=rfl
 have ep:(⟨#[112,97,121,32]⟩:ByteArray)=txt [112,97,121,32]:=rfl
 have es:(⟨#[32]⟩:ByteArray)=txt [32]:=rfl
 have er:(⟨#[114,117,110,32]⟩:ByteArray)=txt [114,117,110,32]:=rfl
 have eh:(⟨#[115,104,117,116,32]⟩:ByteArray)=txt [115,104,117,116,32]:=rfl
 have el:(⟨#[47]⟩:ByteArray)=txt [47]:=rfl
 have ef:(⟨#[114,101,102,117,110,100,32]⟩:ByteArray)=txt [114,101,102,117,110,100,32]:=rfl
 simp only [hi,hv,f1,f2,fI h1,fI h2,fI h3,fI h4,fI h5,fS h1,fS h2,fS h3,fS h4,fS h5,Option.bind_some,et,ep,es,er,eh,el,ef,Zaq]
 repeat rw [bOk (by simp only [Ze,List.length_append,List.length_cons,List.length_nil]; omega),Option.bind_some]
 simp only [List.append_assoc]
 cases v <;> cases decide (a.kind=1) <;> cases decide (a.kind=2) <;> cases decide (a.kind=3) <;> cases decide (a.kind=4) <;> cases decide (a.kind=5) <;> exact ⟨_,rfl,rfl⟩
end Go.Proofs.YtgdcengoopjplaaGreatDoor
namespace Go.Proofs.YtgdcengoopjplaaGreatDoor
set_option maxRecDepth 10000
open Go.RowKit
set_option linter.unusedVariables false
set_option maxHeartbeats 16000000
def ZaN (a:Zn) (b:Zn):Option Bool:=
 cond (!decide (a.service=b.service))
 (some false)
 (cond (!decide (a.serial=b.serial))
 (some false)
 (cond (!decide (a.to_=b.to_))
 (some false)
 (some true)))
instance (a:Zn) (b:Zn):CT Tryz.prog (ZaN a b):=⟨63,[.ag (ZaT a),.ag (ZaT b)],[],fun r=>vb r,fun r=>[],fun H=>by replace H:=H0 H; unfold ZaN at H; exact Zb Tryz.func63 rfl Tryz.ntmps63 Tryz.results63 fun Q hQ hQn=>wk3⟩
def ZaP (a:Zn):Option Zn:=
 some a
instance (a:Zn):CT Tryz.prog (ZaP a):=⟨104,[.ag (ZaT a)],[],fun r=>.ag [vi r.service,vi r.serial,vs r.to_],fun r=>[],fun H=>by replace H:=H0 H; unfold ZaP at H; exact Zb Tryz.func104 rfl Tryz.ntmps104 Tryz.results104 fun Q hQ hQn=>wk3⟩
def ZaO (a:Zn) (left:Int):Option Int:=
 cond (decide ((w64 (left-(a.to_.size:Int)))<0))
 (some (-1))
 (some (w64 (left-(a.to_.size:Int))))
instance (a:Zn) (left:Int):CT Tryz.prog (ZaO a left):=⟨102,[.ag (ZaT a),vi left],[],fun r=>vi r,fun r=>[],fun H=>by replace H:=H0 H; unfold ZaO at H; exact Zb Tryz.func102 rfl Tryz.ntmps102 Tryz.results102 fun Q hQ hQn=>wk3⟩
def Zai (a:List Int) (b:List Int) (s0:Int):Option (Int ⊕ (Unit ⊕ Bool)):=
 cond (decide (s0<(a.length:Int)))
 ((getI a s0).bind fun y1=>
 (getI b s0).bind fun y2=>
 cond (!decide (y1=y2))
 (some (.inr (.inr false)))
 (some (.inl (w64 (s0+1)))))
 (some (.inr (.inl ())))
instance (a:List Int) (b:List Int):Zbe (Zai a b):=⟨fun s0=>(.sl (a.map cInt)::.sl (b.map cInt)::(U 3 (vi s0::(U 20 [])))),fun s0=>[]⟩
def ZaG (a:List Int) (b:List Int):Option Bool:=
 cond (!decide ((a.length:Int)=(b.length:Int)))
 (some false)
 ((Zg (Zai a b) NN 0).bind (Zac (fun o0=>
 some true) (fun r=>some r)))
theorem ZdJ (a:List Int) (b:List Int) {r:Bool} (H:ZaG a b=some r):Za8 Tryz.prog 64 [.sl (a.map cInt),.sl (b.map cInt)] [] (vb r) []:=by
 replace H:=H0 H
 unfold ZaG at H
 refine Zb Tryz.func64 rfl Tryz.ntmps64 Tryz.results64 fun Q hQ hQn=>?_
 exact wk3
instance (a:List Int) (b:List Int):CT Tryz.prog (ZaG a b):=⟨64,[.sl (a.map cInt),.sl (b.map cInt)],[],fun r=>vb r,fun r=>[],ZdJ a b⟩
def Zak (a:List Int) (s0:Int × (List Int)):Option ((Int × (List Int)) ⊕ (List Int)):=
 cond (decide (s0.1<(a.length:Int)))
 ((getI a s0.1).bind fun y1=>
 (getI s0.2 s0.1).bind fun y2=>
 some (.inl ((w64 (s0.1+1)),(s0.2.set (Int.toNat s0.1) y1))))
 (some (.inr s0.2))
instance (a:List Int):Zbe (Zak a):=⟨fun s0=>(.sl (a.map cInt)::.un::.un::.ms 0::vi s0.1::(U 17 [])),fun s0=>[some ⟨.of 3,1,s0.2.map cInt⟩]⟩
def ZaH (a:List Int):Option (List Int):=
 (chk (mkOk (a.length:Int) 8)).bind fun _=>
 (Zg (Zak a) NN (0,(List.replicate (Int.toNat (a.length:Int)) 0))).bind (fun o0=>
 some o0)
theorem ZdK (a:List Int) {r:(List Int)} (H:ZaH a=some r):Za8 Tryz.prog 105 [.sl (a.map cInt)] [] (.ms 0) [some ⟨.of 3,1,r.map cInt⟩]:=by
 replace H:=H0 H
 unfold ZaH at H
 refine Zb Tryz.func105 rfl Tryz.ntmps105 Tryz.results105 fun Q hQ hQn=>?_
 exact wk3
instance (a:List Int):CT Tryz.prog (ZaH a):=⟨105,[.sl (a.map cInt)],[],fun r=>.ms 0,fun r=>[some ⟨.of 3,1,r.map cInt⟩],ZdK a⟩
def Za4 (a:List Int) (left:Int):Option Int:=
 cond (decide ((w64 (left-(a.length:Int)))<0))
 (some (-1))
 (some (w64 (left-(a.length:Int))))
instance (a:List Int) (left:Int):CT Tryz.prog (Za4 a left):=⟨103,[.sl (a.map cInt),vi left],[],fun r=>vi r,fun r=>[],fun H=>by replace H:=H0 H; unfold Za4 at H; exact Zb Tryz.func103 rfl Tryz.ntmps103 Tryz.results103 fun Q hQ hQn=>wk3⟩
def Zax (a:Zm) (b:Zm):Option Bool:=
 (ZaN a.label b.label).bind fun y1=>
 cond (!y1)
 (some false)
 (cond (!decide (a.from_=b.from_))
 (some false)
 (cond (!decide (a.weight=b.weight))
 (some false)
 ((ZaG a.sides b.sides).bind fun y2=>
 cond (!y2)
 (some false)
 (cond (!decide (a.value=b.value))
 (some false)
 (some true)))))
instance (a:Zm) (b:Zm):CT Tryz.prog (Zax a b):=⟨35,[.ag (Zat a),.ag (Zat b)],[],fun r=>vb r,fun r=>[],fun H=>by replace H:=H0 H; unfold Zax at H; exact Zb Tryz.func35 rfl Tryz.ntmps35 Tryz.results35 fun Q hQ hQn=>wk3⟩
def Zaz (a:Zm):Option Zm:=
 (ZaP a.label).bind fun y1=>
 (ZaH a.sides).bind fun y2=>
 some (⟨y1,a.from_,a.weight,y2,a.value⟩:Zm)
instance (a:Zm):CT Tryz.prog (Zaz a):=⟨80,[.ag (Zat a)],[],fun r=>.ag [vi r.label.service,vi r.label.serial,vs r.label.to_,vs r.from_,vi r.weight,.sl (r.sides.map cInt),vi r.value],fun r=>[],fun H=>by replace H:=H0 H; unfold Zaz at H; exact Zb Tryz.func80 rfl Tryz.ntmps80 Tryz.results80 fun Q hQ hQn=>wk3⟩
def Zay (a:Zm) (left:Int):Option Int:=
 (ZaO a.label left).bind fun y1=>
 cond (decide (y1<0))
 (some (-1))
 (cond (decide ((w64 (y1-(a.from_.size:Int)))<0))
 (some (-1))
 ((Za4 a.sides (w64 (y1-(a.from_.size:Int)))).bind fun y2=>
 cond (decide (y2<0))
 (some (-1))
 (some y2)))
instance (a:Zm) (left:Int):CT Tryz.prog (Zay a left):=⟨79,[.ag (Zat a),vi left],[],fun r=>vi r,fun r=>[],fun H=>by replace H:=H0 H; unfold Zay at H; exact Zb Tryz.func79 rfl Tryz.ntmps79 Tryz.results79 fun Q hQ hQn=>wk3⟩
def Za3 (a:ZaY) (b:ZaY):Option Bool:=
 cond (!decide (a.leg=b.leg))
 (some false)
 (cond (!decide (a.day=b.day))
 (some false)
 (some true))
instance (a:ZaY) (b:ZaY):CT Tryz.prog (Za3 a b):=⟨36,[.ag (Zb0 a),.ag (Zb0 b)],[],fun r=>vb r,fun r=>[],fun H=>by replace H:=H0 H; unfold Za3 at H; exact Zb Tryz.func36 rfl Tryz.ntmps36 Tryz.results36 fun Q hQ hQn=>wk3⟩
def Za5 (a:ZaY):Option ZaY:=
 some a
instance (a:ZaY):CT Tryz.prog (Za5 a):=⟨81,[.ag (Zb0 a)],[],fun r=>.ag [vi r.leg,vi r.day],fun r=>[],fun H=>by replace H:=H0 H; unfold Za5 at H; exact Zb Tryz.func81 rfl Tryz.ntmps81 Tryz.results81 fun Q hQ hQn=>wk3⟩
def ZaU (a:YAct) (b:YAct):Option Bool:=
 cond (!decide (a.kind=b.kind))
 (some false)
 ((Zax a.parcel b.parcel).bind fun y1=>
 cond (!y1)
 (some false)
 (cond (!decide (a.order=b.order))
 (some false)
 (cond (!decide (a.amount=b.amount))
 (some false)
 (cond (!decide (a.until_=b.until_))
 (some false)
 ((Za3 a.trip b.trip).bind fun y2=>
 cond (!y2)
 (some false)
 (some true))))))
instance (a:YAct) (b:YAct):CT Tryz.prog (ZaU a b):=⟨9,[.ag (cAct a),.ag (cAct b)],[],fun r=>vb r,fun r=>[],fun H=>by replace H:=H0 H; unfold ZaU at H; exact Zb Tryz.func9 rfl Tryz.ntmps9 Tryz.results9 fun Q hQ hQn=>wk3⟩
def ZaW (a:YAct):Option YAct:=
 (Zaz a.parcel).bind fun y1=>
 (Za5 a.trip).bind fun y2=>
 some (⟨a.kind,y1,a.order,a.amount,a.until_,y2⟩:YAct)
instance (a:YAct):CT Tryz.prog (ZaW a):=⟨53,[.ag (cAct a)],[],fun r=>.ag [vi r.kind,vi r.parcel.label.service,vi r.parcel.label.serial,vs r.parcel.label.to_,vs r.parcel.from_,vi r.parcel.weight,.sl (r.parcel.sides.map cInt),vi r.parcel.value,vi r.order,vi r.amount,vi r.until_,vi r.trip.leg,vi r.trip.day],fun r=>[],fun H=>by replace H:=H0 H; unfold ZaW at H; exact Zb Tryz.func53 rfl Tryz.ntmps53 Tryz.results53 fun Q hQ hQn=>wk3⟩
def ZaV (a:YAct) (left:Int):Option Int:=
 (Zay a.parcel left).bind fun y1=>
 cond (decide (y1<0))
 (some (-1))
 (some y1)
instance (a:YAct) (left:Int):CT Tryz.prog (ZaV a left):=⟨52,[.ag (cAct a),vi left],[],fun r=>vi r,fun r=>[],fun H=>by replace H:=H0 H; unfold ZaV at H; exact Zb Tryz.func52 rfl Tryz.ntmps52 Tryz.results52 fun Q hQ hQn=>wk3⟩
def Zah (a:List YAct) (b:List YAct) (s0:Int):Option (Int ⊕ (Unit ⊕ Bool)):=
 cond (decide (s0<(a.length:Int)))
 ((getI a s0).bind fun y1=>
 (getI b s0).bind fun y2=>
 (ZaU y1 y2).bind fun y3=>
 cond (!y3)
 (some (.inr (.inr false)))
 (some (.inl (w64 (s0+1)))))
 (some (.inr (.inl ())))
instance (a:List YAct) (b:List YAct):Zbe (Zah a b):=⟨fun s0=>(.sl (a.map cAct)::.sl (b.map cAct)::(U 3 (vi s0::(U 21 [])))),fun s0=>[]⟩
def Za2 (a:List YAct) (b:List YAct):Option Bool:=
 cond (!decide ((a.length:Int)=(b.length:Int)))
 (some false)
 ((Zg (Zah a b) NN 0).bind (Zac (fun o0=>
 some true) (fun r=>some r)))
instance (a:List YAct) (b:List YAct):CT Tryz.prog (Za2 a b):=⟨14,[.sl (a.map cAct),.sl (b.map cAct)],[],fun r=>vb r,fun r=>[],fun H=>by replace H:=H0 H; unfold Za2 at H; exact Zb Tryz.func14 rfl Tryz.ntmps14 Tryz.results14 fun Q hQ hQn=>wk3⟩
def Zaj (a:List YAct) (s0:Int × (List YAct)):Option ((Int × (List YAct)) ⊕ (List YAct)):=
 cond (decide (s0.1<(a.length:Int)))
 ((getI a s0.1).bind fun y1=>
 (ZaW y1).bind fun y2=>
 (getI s0.2 s0.1).bind fun y3=>
 some (.inl ((w64 (s0.1+1)),(s0.2.set (Int.toNat s0.1) y2))))
 (some (.inr s0.2))
instance (a:List YAct):Zbe (Zaj a):=⟨fun s0=>(.sl (a.map cAct)::.un::.un::.ms 0::vi s0.1::(U 18 [])),fun s0=>[some ⟨.of 30,13,s0.2.map cAct⟩]⟩
def Zab (a:List YAct):Option (List YAct):=
 (chk (mkOk (a.length:Int) 136)).bind fun _=>
 (Zg (Zaj a) NN (0,(List.replicate (Int.toNat (a.length:Int)) (⟨0,(⟨(⟨0,0,⟨#[]⟩⟩:Zn),⟨#[]⟩,0,[],0⟩:Zm),0,0,0,(⟨0,0⟩:ZaY)⟩:YAct)))).bind (fun o0=>
 some o0)
instance (a:List YAct):CT Tryz.prog (Zab a):=⟨24,[.sl (a.map cAct)],[],fun r=>.ms 0,fun r=>[some ⟨.of 30,13,r.map cAct⟩],fun H=>by replace H:=H0 H; unfold Zab at H; exact Zb Tryz.func24 rfl Tryz.ntmps24 Tryz.results24 fun Q hQ hQn=>wk3⟩
def ZG (a:List YAct) (s0:Int × Int):Option ((Int × Int) ⊕ (Int ⊕ Int)):=
 cond (decide (s0.2<(a.length:Int)))
 ((getI a s0.2).bind fun y1=>
 (ZaV y1 s0.1).bind fun y2=>
 cond (decide (y2<0))
 (some (.inr (.inr (-1))))
 (some (.inl (y2,(w64 (s0.2+1))))))
 (some (.inr (.inl s0.1)))
instance (a:List YAct):Zbe (ZG a):=⟨fun s0=>(.sl (a.map cAct)::vi s0.1::(U 3 (vi s0.2::(U 21 [])))),fun s0=>[]⟩
def Zaa (a:List YAct) (left:Int):Option Int:=
 cond (decide ((w64 (left-(a.length:Int)))<0))
 (some (-1))
 ((Zg (ZG a) NN ((w64 (left-(a.length:Int))),0)).bind (Zac (fun o0=>
 some o0) (fun r=>some r)))
instance (a:List YAct) (left:Int):CT Tryz.prog (Zaa a left):=⟨22,[.sl (a.map cAct),vi left],[],fun r=>vi r,fun r=>[],fun H=>by replace H:=H0 H; unfold Zaa at H; exact Zb Tryz.func22 rfl Tryz.ntmps22 Tryz.results22 fun Q hQ hQn=>wk3⟩
set_option linter.unusedSimpArgs false
theorem Ziq {n:Nat} {b:Int} (h:n≤1048576) (hb:0≤b) (hb2:b≤134217728):mkOk (n:Int) b=true:=by
 refine decide_eq_true ⟨by omega,by omega,?_⟩
 have:b*(n:Int)≤134217728*1048576:=Int.mul_le_mul hb2 (by omega) (by omega) (by omega)
 omega
theorem Zg1 {α:Type} (f:α→Nat) (xs:List α):xs.length≤totS f xs:=by unfold totS; omega
theorem Zky {α:Type} (f:α→Nat) {xs:List α} {y:α} (h:y∈xs):f y≤totS f xs:=by
 have:f y≤(xs.map f).sum:=by
  induction xs with
  | nil=>cases h
  | cons x xs ih=>
   simp only [List.map_cons,List.sum_cons]
   rcases List.mem_cons.1 h with rfl | h
   ·omega
   ·have:=ih h; omega
 unfold totS; omega
theorem Zlr {α:Type} {xs:List α} {f:α→Nat} {body:Int × Int→Option ((Int × Int) ⊕ (Int ⊕ Int))}
 (h1:∀ (i:Nat) (l:Int) x,xs[i]?=some x→0≤l→l≤1048576→body (l,(i:Int))=some (if l<f x then .inr (.inr (-1)) else .inl (l-f x,((i+1:Nat):Int))))
 (h2:∀ l,body (l,(xs.length:Int))=some (.inr (.inl l))) (hN:xs.length<NN) {l:Int} (hl:0≤l) (hl2:l≤1048576):
 Zg body NN (l,0)=some (if l<((xs.map f).sum:Nat) then .inr (-1) else .inl (l-((xs.map f).sum:Nat))):=by
 have key:∀ (ys:List α) (i N:Nat) (l:Int),xs.drop i=ys→i≤xs.length→ys.length<N→0≤l→l≤1048576→Zg body N (l,(i:Int))=some (if l<((ys.map f).sum:Nat) then .inr (-1) else .inl (l-((ys.map f).sum:Nat))):=by
  intro ys
  induction ys with
  | nil=>
   intro i N l hd hi hN h0 h1'
   cases N with
   | zero=>omega
   | succ N=>
    have:i=xs.length:=by have:=congrArg List.length hd; simp at this; omega
    subst this
    simp only [Zg,h2]
    show some (Sum.inl l)=_
    rw [if_neg (by simp; omega)]; simp
  | cons y ys ih=>
   intro i N l hd hi hN h0 h1'
   cases N with
   | zero=>simp at hN
   | succ N=>
    have hy:xs[i]?=some y:=by
     have:=congrArg (fun l=>l[0]?) hd
     simpa using this
    have hlt:i<xs.length:=(List.getElem?_eq_some_iff.1 hy).1
    have hd':xs.drop (i+1)=ys:=by
     have:=congrArg (List.drop 1) hd
     simpa [List.drop_drop] using this
    simp only [Zg,h1 i l y hy h0 h1',List.map_cons,List.sum_cons]
    by_cases hc:l<f y
    ·rw [if_pos hc,if_pos (by omega)]; rfl
    ·rw [if_neg hc]
     show Zg body N (l-f y,((i+1:Nat):Int))=_
     rw [ih (i+1) N _ hd' hlt (by simp at hN; omega) (by omega) (by omega)]
     by_cases hc2:l-f y<((ys.map f).sum:Nat)
     ·rw [if_pos hc2,if_pos (by omega)]
     ·rw [if_neg hc2,if_neg (by omega)]; congr 2; omega
 exact key xs 0 NN l rfl (Nat.zero_le _) hN hl hl2
theorem ZeI {l:Int} {n:Nat} (h:¬ szTo l n<0) (h0:0≤l):(n:Int)≤l∧szTo l n=l-n:=by
 rcases ZJ l n with ⟨_,e⟩ | ⟨h1,e⟩
 ·rw [e] at h; omega
 ·exact ⟨h1,e⟩
theorem Zid (x:Zn) (h:Zad x≤1048576):ZaN x x=some true:=by
 simp [ZaN]
theorem Zh0 (x:Zn) (h:Zad x≤1048576):ZaP x=some x:=by
 simp [ZaP]
theorem Zkx (x:Zn) {left:Int} (h0:0≤left) (h1:left≤1048576) (ok:Zf2 x):ZaO x left=some (szTo left (Zad x)):=by
 obtain ⟨k0,k1,k2⟩:=ok
 have ht:Zad x=x.to_.size:=rfl
 unfold ZaO
 unfold Ziy maxLen at k2
 rw [Zcs (by omega)]
 by_cases c0:left-((x.to_.size:Nat):Int)<0
 ·rw [decide_eq_true c0]; show some (-1)=_; rw [ht]; rcases ZJ left (x.to_.size) with ⟨h,e⟩ | ⟨h,e⟩; · rw [e]
  omega
 rw [decide_eq_false c0]; simp only [cond_false]
 obtain ⟨l1,hl1⟩:∃ l:Int,l=left-((x.to_.size:Nat):Int):=⟨_,rfl⟩
 rw [← hl1]
 rw [ht]; rcases ZJ left (x.to_.size) with ⟨h,e⟩ | ⟨h,e⟩
 ·omega
 ·rw [e]; (first | (congr 1; omega) | congr 1)
theorem ZjQ (a:List Int) (hl:a.length≤1048576):ZaG a a=some true:=by
 have e:Zg (Zai a a) NN 0=some (.inl ()):=by
  refine Zfd (xs:=a) (fun i x hx=>?_) ?_ (by unfold NN; omega)
  ·obtain ⟨hi,rfl⟩:=List.getElem?_eq_some_iff.1 hx
   have hw:=Zbi hi (by omega)
   simp [Zai,Zbd,hx,hi,hw]
  ·simp [Zai]
 unfold ZaG; simp [e]
theorem Zjx (a:List Int) (hl:a.length≤1048576):ZaH a=some a:=by
 have e:∀ z,Zg (Zak a) NN (0,List.replicate a.length z)=some a:=by
  intro z
  refine Zfa (fun i out x hx ho=>?_) (fun out=>?_) (by unfold NN; omega)
  ·obtain ⟨hi,rfl⟩:=List.getElem?_eq_some_iff.1 hx
   have hw:=Zbi hi (by omega)
   have hx3:out[i]?=some out[i]:=List.getElem?_eq_getElem (by omega)
   simp [Zak,Zbd,hx,hx3,hi,hw]
  ·simp [Zak]
 unfold ZaH; rw [ZcQ (Ziq hl (by decide) (by decide))]; simp [e]
theorem ZlV (a:List Int) {left:Int} (h0:0≤left) (h1:left≤1048576) (hl:a.length≤maxLen):Za4 a left=some (szTo left a.length):=by
 unfold maxLen at hl
 unfold Za4
 rw [Zcs (by omega)]
 rcases ZJ left a.length with ⟨h,e⟩ | ⟨h,e⟩
 ·rw [e,decide_eq_true (by omega)]; rfl
 ·rw [e,decide_eq_false (by omega)]; rfl
theorem Zhb (x:Zm) (h:ZA x≤1048576):Zax x x=some true:=by
 have e0:=Zid x.label (by unfold ZA at h; omega)
 have e1:=ZjQ x.sides (by unfold ZA at h; omega)
 simp [Zax,e0,e1]
theorem Zg5 (x:Zm) (h:ZA x≤1048576):Zaz x=some x:=by
 have e0:=Zh0 x.label (by unfold ZA at h; omega)
 have e1:=Zjx x.sides (by unfold ZA at h; omega)
 simp [Zaz,e0,e1]
theorem Zjb (x:Zm) {left:Int} (h0:0≤left) (h1:left≤1048576) (ok:Zeo x):Zay x left=some (szTo left (ZA x)):=by
 obtain ⟨k0,k1,k2,k3,k4⟩:=ok
 have ht:ZA x=Zad x.label+x.from_.size+x.sides.length:=rfl
 unfold Zay
 rw [Zkx x.label (by omega) (by omega) k0]; simp only [Option.bind_some]
 by_cases c0:szTo left (Zad x.label)<0
 ·rw [decide_eq_true c0]; show some (-1)=_; rw [ht]; rcases ZJ left (Zad x.label) with ⟨h2,e2⟩ | ⟨h2,e2⟩; rcases ZJ left (Zad x.label+x.from_.size+x.sides.length) with ⟨h,e⟩ | ⟨h,e⟩; · rw [e]
  all_goals omega
 rw [decide_eq_false c0]; simp only [cond_false]
 obtain ⟨d0,e0⟩:=ZeI c0 (by omega)
 rw [e0]
 obtain ⟨l1,hl1⟩:∃ l:Int,l=left-((Zad x.label:Nat):Int):=⟨_,rfl⟩
 rw [← hl1]
 unfold Ziy maxLen at k1
 rw [Zcs (by omega)]
 by_cases c1:l1-((x.from_.size:Nat):Int)<0
 ·rw [decide_eq_true c1]; show some (-1)=_; rw [ht]; rcases ZJ left (Zad x.label+x.from_.size+x.sides.length) with ⟨h,e⟩ | ⟨h,e⟩; · rw [e]
  omega
 rw [decide_eq_false c1]; simp only [cond_false]
 obtain ⟨l2,hl2⟩:∃ l:Int,l=l1-((x.from_.size:Nat):Int):=⟨_,rfl⟩
 rw [← hl2]
 rw [ZlV x.sides (by omega) (by omega) k3.1]; simp only [Option.bind_some]
 by_cases c2:szTo l2 (x.sides.length)<0
 ·rw [decide_eq_true c2]; show some (-1)=_; rw [ht]; rcases ZJ l2 (x.sides.length) with ⟨h2,e2⟩ | ⟨h2,e2⟩; rcases ZJ left (Zad x.label+x.from_.size+x.sides.length) with ⟨h,e⟩ | ⟨h,e⟩; · rw [e]
  all_goals omega
 rw [decide_eq_false c2]; simp only [cond_false]
 obtain ⟨d2,e2⟩:=ZeI c2 (by omega)
 rw [e2]
 obtain ⟨l3,hl3⟩:∃ l:Int,l=l2-((x.sides.length:Nat):Int):=⟨_,rfl⟩
 rw [← hl3]
 rw [ht]; rcases ZJ left (Zad x.label+x.from_.size+x.sides.length) with ⟨h,e⟩ | ⟨h,e⟩
 ·omega
 ·rw [e]; (first | (congr 1; omega) | congr 1)
theorem ZjR (x:ZaY):Za3 x x=some true:=by
 simp [Za3]
theorem Zjy (x:ZaY):Za5 x=some x:=by
 simp [Za5]
theorem Zle (x:YAct) (h:Zas x≤1048576):ZaU x x=some true:=by
 have e0:=Zhb x.parcel (by unfold Zas at h; omega)
 have e1:=ZjR x.trip
 simp [ZaU,e0,e1]
theorem ZkZ (x:YAct) (h:Zas x≤1048576):ZaW x=some x:=by
 have e0:=Zg5 x.parcel (by unfold Zas at h; omega)
 have e1:=Zjy x.trip
 simp [ZaW,e0,e1]
theorem Zm2 (x:YAct) {left:Int} (h0:0≤left) (h1:left≤1048576) (ok:okAct x):ZaV x left=some (szTo left (Zas x)):=by
 obtain ⟨k0,k1,k2,k3,k4,k5⟩:=ok
 have ht:Zas x=ZA x.parcel:=rfl
 unfold ZaV
 rw [Zjb x.parcel (by omega) (by omega) k1]; simp only [Option.bind_some]
 by_cases c0:szTo left (ZA x.parcel)<0
 ·rw [decide_eq_true c0]; show some (-1)=_; rw [ht]; rcases ZJ left (ZA x.parcel) with ⟨h2,e2⟩ | ⟨h2,e2⟩; rcases ZJ left (ZA x.parcel) with ⟨h,e⟩ | ⟨h,e⟩; · rw [e]
  all_goals omega
 rw [decide_eq_false c0]; simp only [cond_false]
 obtain ⟨d0,e0⟩:=ZeI c0 (by omega)
 rw [e0]
 obtain ⟨l1,hl1⟩:∃ l:Int,l=left-((ZA x.parcel:Nat):Int):=⟨_,rfl⟩
 rw [← hl1]
 rw [ht]; rcases ZJ left (ZA x.parcel) with ⟨h,e⟩ | ⟨h,e⟩
 ·omega
 ·rw [e]; (first | (congr 1; omega) | congr 1)
theorem ZjP (a:List YAct) (hl:a.length≤1048576) (he:∀ x∈a,ZaU x x=some true):Za2 a a=some true:=by
 have e:Zg (Zah a a) NN 0=some (.inl ()):=by
  refine Zfd (xs:=a) (fun i x hx=>?_) ?_ (by unfold NN; omega)
  ·obtain ⟨hi,rfl⟩:=List.getElem?_eq_some_iff.1 hx
   have hw:=Zbi hi (by omega)
   have hx2:=he _ (List.mem_of_getElem? hx)
   simp [Zah,Zbd,hx,hi,hw,hx2]
  ·simp [Zah]
 unfold Za2; simp [e]
theorem Zjw (a:List YAct) (hl:a.length≤1048576) (he:∀ x∈a,ZaW x=some x):Zab a=some a:=by
 have e:∀ z,Zg (Zaj a) NN (0,List.replicate a.length z)=some a:=by
  intro z
  refine Zfa (fun i out x hx ho=>?_) (fun out=>?_) (by unfold NN; omega)
  ·obtain ⟨hi,rfl⟩:=List.getElem?_eq_some_iff.1 hx
   have hw:=Zbi hi (by omega)
   have hx3:out[i]?=some out[i]:=List.getElem?_eq_getElem (by omega)
   have hx2:=he _ (List.mem_of_getElem? hx)
   simp [Zaj,Zbd,hx,hx3,hi,hw,hx2]
  ·simp [Zaj]
 unfold Zab; rw [ZcQ (Ziq hl (by decide) (by decide))]; simp [e]
theorem ZlU (a:List YAct) {left:Int} (h0:0≤left) (h1:left≤1048576) (hl:a.length≤maxLen) (he:∀ x∈a,∀ l:Int,0≤l→l≤1048576→ZaV x l=some (szTo l (Zas x))):Zaa a left=some (szTo left (totS Zas a)):=by
 unfold maxLen at hl
 unfold Zaa
 rw [Zcs (by omega)]
 by_cases hc:left-(a.length:Int)<0
 ·rw [decide_eq_true hc]; show some (-1)=_
  rcases ZJ left (totS Zas a) with ⟨h,e⟩ | ⟨h,e⟩
  ·rw [e]
  ·have:=Zg1 Zas a; omega
 ·rw [decide_eq_false hc]
  have e:Zg (ZG a) NN (left-(a.length:Int),0)=some (if left-(a.length:Int)<((a.map Zas).sum:Nat) then .inr (-1) else .inl (left-(a.length:Int)-((a.map Zas).sum:Nat))):=by
   refine Zlr (fun i l x hx h0 h1=>?_) (fun l=>?_) (by unfold NN; omega) (by omega) (by omega)
   ·obtain ⟨hi,rfl⟩:=List.getElem?_eq_some_iff.1 hx
    have hw:=Zbi hi (by omega)
    have hx2:=he _ (List.mem_of_getElem? hx) l h0 h1
    rcases ZJ l (Zas a[i]) with ⟨h,e⟩ | ⟨h,e⟩
    ·rw [e] at hx2; rw [if_pos h]; simp [ZG,Zbd,hx,hi,hx2]
    ·rw [e] at hx2; rw [if_neg (by omega)]; simp [ZG,Zbd,hx,hi,hx2,hw,show ¬ (l-(Zas a[i]:Int)<0) by omega]
   ·simp [ZG]
  show (Zg (ZG a) NN (left-(a.length:Int),0)).bind _=_
  rw [e]
  have ht:totS Zas a=a.length+(a.map Zas).sum:=rfl
  rcases ZJ left (totS Zas a) with ⟨h,e⟩ | ⟨h,e⟩
  ·rw [e,if_pos (by omega)]; rfl
  ·rw [e,if_neg (by omega)]; show some _=some _; congr 1; omega
def Zt (l:List YAct) (s0:ByteArray × Int):Option ((ByteArray × Int) ⊕ (ByteArray ⊕ ByteArray)):=
 cond (decide (s0.2<(l.length:Int)))
 ((getI l s0.2).bind fun y1=>
 (ZaX y1).bind fun y2=>
 cond (!y2)
 (some (.inr (.inr (⟨#[]⟩))))
 ((getI l s0.2).bind fun y3=>
 (Zam y3).bind fun y4=>
 (chk (Zo s0.1 y4)).bind fun _=>
 (chk (Zo (s0.1++y4) (⟨#[10]⟩))).bind fun _=>
 some (.inl (((s0.1++y4)++⟨#[10]⟩),(w64 (s0.2+1))))))
 (some (.inr (.inl s0.1)))
instance (l:List YAct):Zbe (Zt l):=⟨fun s0=>(.sl (l.map cAct)::.un::.un::vs s0.1::vi s0.2::(U 21 [])),fun s0=>[]⟩
def ZH (l:List YAct):Option ByteArray:=
 (Zg (Zt l) NN (⟨#[]⟩,0)).bind (Zac (fun o0=>
 some o0) (fun r=>some r))
instance (l:List YAct):CT Tryz.prog (ZH l):=⟨23,[.sl (l.map cAct)],[],fun r=>vs r,fun r=>[],fun H=>by replace H:=H0 H; unfold ZH at H; exact Zb Tryz.func23 rfl Tryz.ntmps23 Tryz.results23 fun Q hQ hQn=>wk3⟩
end Go.Proofs.YtgdcengoopjplaaGreatDoor
namespace Go.Proofs.YtgdcengoopjplaaGreatDoor
set_option maxRecDepth 10000
open Go.RowKit Go.Sort
set_option linter.unusedVariables false
set_option linter.unusedSimpArgs false
set_option maxHeartbeats 4000000
theorem Zgm {a:YAct} (h:ActI a) {b:ByteArray} (hb:Zl a=some b):b.size≤4000000:=by
 obtain ⟨hp,h1,h2,h3,h4,h5⟩:=h
 have hp':=hp
 obtain ⟨p1,p2,p3,p4,p5,p6,p7,p8⟩:=hp'
 obtain ⟨v,hi,hv⟩:=Zgl (a:=a) (by unfold B60; omega) (by unfold B60; omega) (by unfold NN; omega)
 obtain ⟨t,ht,f1,f2⟩:=Zdu hp
 have l1:=ZK h1
 have l2:=ZK h2
 have l3:=ZK h3
 have l4:=ZK h4
 have l5:=ZK h5
 unfold Zl Zaw at hb
 have et:(⟨#[116,97,107,101,32]⟩:ByteArray)=txt [116,97,107,101,32]:=rfl
 have ep:(⟨#[112,97,121,32]⟩:ByteArray)=txt [112,97,121,32]:=rfl
 have es:(⟨#[32]⟩:ByteArray)=txt [32]:=rfl
 have er:(⟨#[114,117,110,32]⟩:ByteArray)=txt [114,117,110,32]:=rfl
 have eh:(⟨#[115,104,117,116,32]⟩:ByteArray)=txt [115,104,117,116,32]:=rfl
 have el:(⟨#[47]⟩:ByteArray)=txt [47]:=rfl
 have ef:(⟨#[114,101,102,117,110,100,32]⟩:ByteArray)=txt [114,101,102,117,110,100,32]:=rfl
 have ey:(⟨#[114,101,116,114,121]⟩:ByteArray)=txt [114,101,116,114,121]:=rfl
 have e0:(⟨#[]⟩:ByteArray)=txt []:=rfl
 simp only [hi,f1,fI h1,fI h2,fI h3,fI h4,fI h5,Option.bind_some,et,ep,es,er,eh,el,ef,ey,e0,Zaq] at hb
 revert hb
 repeat rw [bOk (by simp only [Ze,List.length_append,List.length_cons,List.length_nil]; omega),Option.bind_some]
 cases v <;> cases decide (a.kind=1) <;> cases decide (a.kind=2) <;> cases decide (a.kind=3) <;> cases decide (a.kind=4) <;> cases decide (a.kind=5) <;> intro hb <;> (obtain rfl:=Option.some.inj hb) <;> (try rw [Zaq]) <;> (rw [Ze]; simp only [List.length_append,List.length_cons,List.length_nil]; omega)
def okJ (a:YAct):Bool:=match ZL a,Zl a with
 | some _,some t=>decide (t.size≤4000000)
 | _,_=>false
def isJ (a:YAct):Bool:=(ZL a).getD false
def Zbf (a:YAct):List UInt8:=((Zl a).getD ⟨#[]⟩).data.toList++[10]
def Zu (l:List YAct):Option ByteArray:=
 if l.length≤1048576∧l.all okJ=true then some (if l.all isJ=true then txt (l.flatMap Zbf) else ⟨#[]⟩) else none
theorem Zio {a:YAct} (h:okJ a=true):(Zbf a).length≤4000001:=by
 unfold okJ at h
 unfold Zbf
 cases h1:ZL a with
 | none=>rw [h1] at h; cases h
 | some b=>
  cases h2:Zl a with
  | none=>rw [h1,h2] at h; cases h
  | some t=>
   rw [h1,h2] at h
   have:=of_decide_eq_true h
   have e:t.data.toList.length=t.size:=by rw [Array.length_toList]; rfl
   simp only [Option.getD_some,List.length_append,List.length_cons,List.length_nil]
   omega
theorem Zdf {l:List YAct} (h:l.all okJ=true):(l.flatMap Zbf).length≤4000001*l.length:=by
 induction l with
 | nil=>simp
 | cons a l ih=>
  rw [List.all_cons,Bool.and_eq_true] at h
  have:=Zio h.1
  have:=ih h.2
  rw [List.flatMap_cons,List.length_append,List.length_cons]
  omega
theorem Zfe {l:List YAct} (hl:l.length≤1048576) (h:∀ a∈l,ActI a):∃ r,Zu l=some r∧ZH l=some r:=by
 have hok:l.all okJ=true:=by
  rw [List.all_eq_true]
  intro a ha
  have hA:=h a ha
  obtain ⟨hp,_⟩:=hA
  obtain ⟨p1,p2,p3,p4,p5,p6,p7,p8⟩:=hp
  obtain ⟨v,hi,hv⟩:=Zgl (a:=a) (by unfold B60; omega) (by unfold B60; omega) (by unfold NN; omega)
  obtain ⟨b,b1,b2⟩:=Zgk (h a ha)
  unfold okJ
  rw [hi,b1]
  exact decide_eq_true (Zgm (h a ha) b1)
 refine ⟨_,by unfold Zu; rw [if_pos ⟨hl,hok⟩],?_⟩
 have key:∀ (k N i:Nat),i+k=l.length→k<N→(l.take i).all isJ=true→
  Zg (Zt l) N (txt ((l.take i).flatMap Zbf),(i:Int))=some (if l.all isJ=true then .inl (txt (l.flatMap Zbf)) else .inr ⟨#[]⟩):=by
  intro k
  induction k with
  | zero=>
   intro N i hi hN ha
   cases N with
   | zero=>omega
   | succ N=>
    obtain rfl:i=l.length:=by omega
    rw [List.take_length] at ha ⊢
    simp only [Zg,Zt]
    rw [decide_eq_false (by omega),if_pos ha]
    rfl
  | succ k ih=>
   intro N i hi hN ha
   cases N with
   | zero=>omega
   | succ N=>
    have hlt:i<l.length:=by omega
    obtain ⟨a,hx⟩:∃ a,l[i]?=some a:=⟨_,List.getElem?_eq_getElem hlt⟩
    have hmem:a∈l:=List.mem_of_getElem? hx
    have hA:=h a hmem
    have hA':=hA
    obtain ⟨⟨p1,p2,p3,p4,p5,p6,p7,p8⟩,_⟩:=hA'
    obtain ⟨v,hi1,hv⟩:=Zgl (a:=a) (by unfold B60; omega) (by unfold B60; omega) (by unfold NN; omega)
    obtain ⟨b,b1,b2⟩:=Zgk hA
    have hbs:=Zgm hA b1
    have hg:getI l (i:Int)=some a:=by rw [Zbd]; exact hx
    have hw:w64 ((i:Int)+1)=((i+1:Nat):Int):=Zbi hlt (by omega)
    have htk:l.take (i+1)=l.take i++[a]:=by rw [List.take_add_one,hx]; rfl
    have hpre:((l.take i).flatMap Zbf).length≤4000001*i:=by
     have h1:(l.take i).all okJ=true:=by
      rw [List.all_eq_true]; intro x hx'; exact List.all_eq_true.1 hok x (List.mem_of_mem_take hx')
     have:=Zdf h1
     rw [List.length_take] at this
     omega
    simp only [Zg,Zt,hg,hv,b2,Option.bind_some,hw]
    rw [decide_eq_true (show (i:Int)<(l.length:Int) by omega)]
    cases v with
    | false=>
     have hn:l.all isJ=false:=by
      rw [List.all_eq_false]
      exact ⟨a,hmem,by unfold isJ; rw [hi1]; simp⟩
     rw [hn]
     rfl
    | true=>
     have hline:Zbf a=b.data.toList++[10]:=by unfold Zbf; rw [b1]; rfl
     have e10:(⟨#[10]⟩:ByteArray)=txt [10]:=rfl
     have hs:(txt ((l.take i).flatMap Zbf)).size≤4000001*i:=by rw [Ze]; exact hpre
     have c1:chk (Zo (txt ((l.take i).flatMap Zbf)) b)=some ():=ZcQ (Zb8 (by unfold B60; omega))
     have hbl:b.data.toList.length=b.size:=by rw [Array.length_toList]; rfl
     have eb:b=txt b.data.toList:=(Zcq b).symm
     have c2:chk (Zo (txt ((l.take i).flatMap Zbf)++b) (txt [10]))=some ():=ZcQ (Zb8 (by rw [ByteArray.size_append,Ze,Ze]; unfold B60; simp only [List.length_cons,List.length_nil]; omega))
     have e:(txt ((l.take i).flatMap Zbf)++b)++txt [10]=txt ((l.take (i+1)).flatMap Zbf):=by
      rw [htk,List.flatMap_append]
      have:([a]:List YAct).flatMap Zbf=b.data.toList++[10]:=by rw [List.flatMap_cons,hline]; simp
      rw [this]
      conv=>lhs; rw [eb]
      rw [Zaq,Zaq,List.append_assoc]
     simp only [e10,c1,c2,e,cond_true,Bool.not_true,cond_false,Option.bind_some]
     refine ih N (i+1) (by omega) (by omega) ?_
     rw [htk,List.all_append,ha]
     simp only [List.all_cons,List.all_nil,Bool.and_true,Bool.true_and]
     unfold isJ; rw [hi1]; rfl
 have:=key l.length NN 0 (by omega) (by unfold NN; omega) (by simp)
 simp only [List.take_zero,List.flatMap_nil] at this
 unfold ZH
 rw [show (⟨#[]⟩:ByteArray)=txt [] from rfl,show (0:Int)=((0:Nat):Int) from rfl,this]
 cases l.all isJ <;> rfl
end Go.Proofs.YtgdcengoopjplaaGreatDoor
namespace Go.Proofs.YtgdcengoopjplaaGreatDoor
set_option maxRecDepth 10000
open Go.RowKit
set_option linter.unusedVariables false
set_option linter.unusedSimpArgs false
set_option maxHeartbeats 2000000
theorem ZgR {b:Nat}:¬ own0 (fun _=>none) b:=by rintro ⟨l,B,h,_⟩; cases h
theorem Za8.val {P:Program} {f:FuncId} {args:List PV} {val:Value} (h:Za8 P f args [] (.v val) []) {w:World} (ht:Tab w (own0 fun _=>none)) {vs:Array Value} (hl:vs.size=args.length) (ha:∀ (i:Nat) (p:PV),args[i]?=some p→∃ x,vs[i]?=some x∧Rep w (E1 (fun b=>b<w.heap.size) (fun _=>none) 0) p x):
 Calls P f vs w fun e w'=>e=.returned val∧Up w w':=by
 have hok:Ok w (own0 fun _=>none) (E1 (fun b=>b<w.heap.size) (fun _=>none) 0) w []:=
  ⟨UpO.refl _ _,fun b h=>h,fun l B h=>(by cases h),fun l l' B B' h=>(by cases h),fun l h=>absurd h (Nat.not_lt_zero l),fun l B h=>(by cases h),fun l mb h=>(by simp at h),fun l B h=>(by cases h),ht,fun _ _ h=>h.elim⟩
 refine (h (fun b=>b<w.heap.size) (fun _=>none) w vs (fun _ _=>False) hok hl ha).mono ?_
 rintro e w' ⟨v,E',rfl,hk,_,_,_,hr⟩
 obtain ⟨rfl,_⟩:=hr.v_inv
 exact ⟨rfl,hk.up.os,hk.up.tape,hk.up.output,hk.up.size,fun b hb=>hk.up.block b hb ZgR⟩
theorem Zjc {w w':World} (h:TabF w) (hu:Up w w'):TabF w':=by
 unfold TabF Lib.TabIs World.var? at *
 cases hg : Tryz.prog.globalNamed "internal/strconv.uint64pow10" with
 | none=>rw [hg] at h; cases h
 | some g=>
  rw [hg] at h
  simp only [Option.bind_some] at h ⊢
  have hlt:g<w.heap.size:=by
   rcases Nat.lt_or_ge g w.heap.size with h' | h'
   ·exact h'
   ·rw [Array.getElem?_eq_none h'] at h; cases h
  rw [hu.block g hlt]
  exact h
theorem ZgZ {w:World} (h:TabF w):Tab w (own0 fun _=>none):=by
 refine ⟨fun b=>b<w.heap.size,fun b hb=>⟨hb,ZgR⟩,fun w' hw'=>?_⟩
 unfold TabF Lib.TabIs World.var? at *
 cases hg : Tryz.prog.globalNamed "internal/strconv.uint64pow10" with
 | none=>rw [hg] at h; cases h
 | some g=>
  rw [hg] at h
  simp only [Option.bind_some] at h ⊢
  have hlt:g<w.heap.size:=by
   rcases Nat.lt_or_ge g w.heap.size with h' | h'
   ·exact h'
   ·rw [Array.getElem?_eq_none h'] at h; cases h
  rw [hw' g hlt]
  exact h
end Go.Proofs.YtgdcengoopjplaaGreatDoor
namespace Go.Proofs.YtgdcengoopjplaaGreatDoor
set_option maxRecDepth 10000
open Go.RowKit Go.Lib
set_option linter.unusedVariables false
set_option linter.unusedSimpArgs false
set_option maxRecDepth 100000
set_option maxHeartbeats 4000000
theorem Za9 {w w':World} {b o:Nat} {v:Value} (h:w.cell? ⟨b,o,none⟩=some v) (hb:b<w.heap.size) (hu:Up w w'):w'.cell? ⟨b,o,none⟩=some v:=(hu.cell (p:=⟨b,o,none⟩) hb).trans h
theorem rc_v {w:World} {S:Nat→Prop} {a x:Value} (h:RepC w S (.v a) x):x=a:=by cases h; rfl
theorem ZnC {w:World} {S:Nat→Prop} {es:List (List PV)} {x:Value} (h:RepC w S (.sl es) x):∃ A n c,x=.slice A n c:=by
 cases h with
 | nil=>exact ⟨_,_,_,rfl⟩
 | sl=>exact ⟨_,_,_,rfl⟩
theorem ZkE {T e:TypeId} {B b:Nat} {bs:List Value} {w w':World} (h:IsBuilder T e B b bs w) (hu:Up w w'):IsBuilder T e B b bs w':=by
 have key:∀ {p:Value},BuilderAt T e B b p bs w→BuilderAt T e B b p bs w':=fun {p} h=>by
  have hlt:=h.lt
  obtain ⟨hB,v,hv,hown,hne⟩:=h
  exact ⟨hB,v,(hu.block b hlt).trans hv,hown.kept (row:=none) ⟨hu.os,hu.tape,hu.output,hu.size,fun k hk _=>hu.block k hk⟩ (Classical.em _),hne⟩
 exact h.elim (fun x=>.inl (key x)) (fun x=>.inr (key x))
def Zjj (a:YAct) (x6:Value):Array Value:=#[I a.kind,I a.parcel.label.service,I a.parcel.label.serial,.string a.parcel.label.to_,.string a.parcel.from_,I a.parcel.weight,x6,I a.parcel.value,I a.order,I a.amount,I a.until_,I a.trip.leg,I a.trip.day]
section
variable {l:List YAct} {w:World} {S:Nat→Prop} (hS:∀ b,S b→b<w.heap.size) {b off:Nat} {u:Nat→Nat→Value} (hSb:S b)
 (hc:∀ (i:Nat) (cs:List PV) (j:Nat) (p:PV),(l.map cAct)[i]?=some cs→cs[j]?=some p→w.cell? ⟨b,off+i*13+j,none⟩=some (u i j))
 (hr:∀ (i:Nat) (cs:List PV) (j:Nat) (p:PV),(l.map cAct)[i]?=some cs→cs[j]?=some p→RepC w S p (u i j))
include hS hSb hc hr
theorem ZhR {k:Nat} {a:YAct} (hx:l[k]?=some a) {wr:World} (hu:Up w wr):∃ A6 n6 c6,RepC w S (.sl (a.parcel.sides.map cInt)) (.slice A6 n6 c6)∧
 wr.cell? ⟨b,off+k*13,none⟩=some (I a.kind)∧wr.cell? ⟨b,off+k*13+1,none⟩=some (I a.parcel.label.service)∧wr.cell? ⟨b,off+k*13+2,none⟩=some (I a.parcel.label.serial)∧wr.cell? ⟨b,off+k*13+3,none⟩=some (.string a.parcel.label.to_)∧
 wr.cell? ⟨b,off+k*13+4,none⟩=some (.string a.parcel.from_)∧wr.cell? ⟨b,off+k*13+5,none⟩=some (I a.parcel.weight)∧wr.cell? ⟨b,off+k*13+6,none⟩=some (.slice A6 n6 c6)∧wr.cell? ⟨b,off+k*13+7,none⟩=some (I a.parcel.value)∧
 wr.cell? ⟨b,off+k*13+8,none⟩=some (I a.order)∧wr.cell? ⟨b,off+k*13+9,none⟩=some (I a.amount)∧wr.cell? ⟨b,off+k*13+10,none⟩=some (I a.until_)∧wr.cell? ⟨b,off+k*13+11,none⟩=some (I a.trip.leg)∧wr.cell? ⟨b,off+k*13+12,none⟩=some (I a.trip.day):=by
 have hbw:=hS b hSb
 have hcs:(l.map cAct)[k]?=some (cAct a):=by rw [List.getElem?_map,hx]; rfl
 have hcell:∀ (j:Nat) (p:PV),(cAct a)[j]?=some p→wr.cell? ⟨b,off+k*13+j,none⟩=some (u k j):=fun j p hp=>by
  rw [hu.cell (p:=⟨b,off+k*13+j,none⟩) hbw]; exact hc k _ j p hcs hp
 have hv:∀ (j:Nat) (x:Value),(cAct a)[j]?=some (.v x)→wr.cell? ⟨b,off+k*13+j,none⟩=some x:=fun j x hp=>by
  rw [hcell j _ hp,rc_v (hr k _ j _ hcs hp)]
 obtain ⟨A6,n6,c6,e6⟩:=ZnC (hr k _ 6 _ hcs rfl)
 have r6:=hr k _ 6 _ hcs rfl
 have c6':=hcell 6 _ rfl
 rw [e6] at r6 c6'
 exact ⟨A6,n6,c6,r6,hv 0 _ rfl,hv 1 _ rfl,hv 2 _ rfl,hv 3 _ rfl,hv 4 _ rfl,hv 5 _ rfl,c6',hv 7 _ rfl,hv 8 _ rfl,hv 9 _ rfl,hv 10 _ rfl,hv 11 _ rfl,hv 12 _ rfl⟩
omit hc hr hSb in
theorem Zjk {a:YAct} {A6:Option Addr} {n6 c6:Nat} (h6:RepC w S (.sl (a.parcel.sides.map cInt)) (.slice A6 n6 c6)) {W:World} (hu:Up w W):
 ∀ (i:Nat) (p:PV),[PV.ag (cAct a)][i]?=some p→∃ x,(#[.agg (Zjj a (.slice A6 n6 c6))]:Array Value)[i]?=some x∧Rep W (E1 (fun b=>b<W.heap.size) (fun _=>none) 0) p x:=by
 have h6':RepC W (fun b=>b<W.heap.size) (.sl (a.parcel.sides.map cInt)) (.slice A6 n6 c6):=h6.ext (fun b hb=>Nat.lt_of_lt_of_le (hS b hb) hu.size) (fun b o hb=>hu.cell (p:=⟨b,o,none⟩) (hS b hb))
 intro i p hp
 match i,hp with
 | 0,hp=>
  obtain rfl:=Option.some.inj hp
  refine ⟨_,rfl,.ag _ _ rfl (fun j x hx3=>?_) fun j p x hp hx3=>?_⟩
  ·match j,hx3 with
   | 0,h | 1,h | 2,h | 3,h | 4,h | 5,h | 6,h | 7,h | 8,h | 9,h | 10,h | 11,h | 12,h=>obtain rfl:=Option.some.inj h; rfl
   | j+13,h=>simp [Zjj] at h
  ·match j,hp,hx3 with
   | 6,hp,hx2=>obtain rfl:=Option.some.inj hx2; obtain rfl:=Option.some.inj hp; exact .c h6'
   | 0,hp,hx2 | 1,hp,hx2 | 2,hp,hx2 | 3,hp,hx2 | 4,hp,hx2 | 5,hp,hx2 | 7,hp,hx2 | 8,hp,hx2 | 9,hp,hx2 | 10,hp,hx2 | 11,hp,hx2 | 12,hp,hx2=>obtain rfl:=Option.some.inj hx2; obtain rfl:=Option.some.inj hp; exact .c (.v _ rfl)
   | j+13,hp,_=>simp [cAct] at hp
 | n+1,hp=>simp at hp
end
theorem Zix {a:YAct} (h:okJ a=true):ZL a=some (isJ a)∧∃ tt:ByteArray,Zl a=some tt∧tt.size≤4000000∧Zbf a=tt.data.toList++[10]:=by
 unfold okJ at h
 cases h1:ZL a with
 | none=>rw [h1] at h; cases h
 | some v=>
  cases h2:Zl a with
  | none=>rw [h1,h2] at h; cases h
  | some t=>
   rw [h1,h2] at h
   exact ⟨by unfold isJ; rw [h1]; rfl,t,rfl,of_decide_eq_true h,by unfold Zbf; rw [h2]; rfl⟩
theorem Zhc (l:List YAct) (hl:l.length≤1048576) (hok:l.all okJ=true) (w:World) (S:Nat→Prop) (hS:∀ b,S b→b<w.heap.size) (ht:TabF w)
 (b off c:Nat) (u:Nat→Nat→Value) (hSb:S b)
 (hc:∀ (i:Nat) (cs:List PV) (j:Nat) (p:PV),(l.map cAct)[i]?=some cs→cs[j]?=some p→w.cell? ⟨b,off+i*13+j,none⟩=some (u i j))
 (hr:∀ (i:Nat) (cs:List PV) (j:Nat) (p:PV),(l.map cAct)[i]?=some cs→cs[j]?=some p→RepC w S p (u i j)) (hn:l.length≤c) (hm:c≤maxLen):
 Calls Tryz.prog 25 #[.slice (some ⟨b,off,none⟩) l.length c] w fun e w'=>e=.returned (.string (if l.all isJ=true then txt (l.flatMap Zbf) else ⟨#[]⟩))∧Up w w':=by
 generalize hR:(if l.all isJ=true then txt (l.flatMap Zbf) else (⟨#[]⟩:ByteArray))=RR
 have HR:Hid ((if l.all isJ=true then txt (l.flatMap Zbf) else (⟨#[]⟩:ByteArray))=RR):=hR
 clear hR
 have hbw:=hS b hSb
 have hcells:=fun (k:Nat) (a:YAct) (hx:l[k]?=some a) (wr:World) (hu:Up w wr)=>ZhR hS hSb hc hr hx hu
 have HC:Hid _:=hcells
 have hargs:=fun (a:YAct) (A6:Option Addr) (n6 c6:Nat) (h6:RepC w S (.sl (a.parcel.sides.map cInt)) (.slice A6 n6 c6)) (W:World) (hu:Up w W)=>Zjk hS h6 hu
 have HA:Hid _:=hargs
 have HT:Hid (TabF w):=ht
 have HK:Hid (l.all okJ=true):=hok
 clear hcells hargs ht hok hc hr hS
 go_enter Tryz.func25,Tryz.ntmps25
 go_wp2
 go_loopw [10] (fun ii wr=>∃ (k:Nat),k≤l.length∧ii=.int .i64 k∧(l.take k).all isJ=true∧Lib.IsBuilder 81 5 w.heap.size w.heap.size (Lib.byteCells ((l.take k).flatMap Zbf)) wr∧Up w wr) (fun ii _=>l.length-(intOf ii).toNat)
 case atStart=>
  exact ⟨0,by omega,rfl,by simp,Lib.fresh_isBuilder 81 5 w,by (repeat (first | exact Up.rfl' _ | (refine Up.al _ ?_) | (refine Up.dr _ ?_) | (refine Up.dr1 ?_) | (refine Up.sc ?_ (by first | exact Nat.le_refl _ | (simp; done) | omega) _) | (refine Up.step (by assumption) ?_)))⟩
 case round=>
  obtain ⟨k,hk,rfl,hall,hI,hu⟩:=hrel
  have hws:=hu.size
  have HB:Hid (IsBuilder 81 5 w.heap.size w.heap.size (Lib.byteCells ((l.take k).flatMap Zbf)) wr):=hI
  have HL:Hid ((l.take k).all isJ=true):=hall
  clear hI hall
  by_cases hlt:k<l.length
  ·obtain ⟨a,hx⟩:∃ a,l[k]?=some a:=⟨_,List.getElem?_eq_getElem hlt⟩
   have hmem:a∈l:=List.mem_of_getElem? hx
   have htk:l.take (k+1)=l.take k++[a]:=by rw [List.take_add_one,hx]; rfl
   obtain ⟨hIs,tt,hFm,hts,hline⟩:=Zix (List.all_eq_true.1 HK.out a hmem)
   obtain ⟨A6,n6,c6,r6,d0,d1,d2,d3,d4,d5,d6,d7,d8,d9,d10,d11,d12⟩:=HC.out k a hx wr hu
   have hpre:((l.take k).flatMap Zbf).length≤4000001*k:=by
    have h1:(l.take k).all okJ=true:=by
     rw [List.all_eq_true]; intro x hx'; exact List.all_eq_true.1 HK.out x (List.mem_of_mem_take hx')
    have:=Zdf h1
    rw [List.length_take] at this
    omega
   have cI:=CT.ok (P:=Tryz.prog) hIs
   have cF:=CT.ok (P:=Tryz.prog) hFm
   simp only [CT.f,CT.args,CT.m0,CT.res,CT.mem] at cI cF
   have hIsC:=fun (W:World) (hu:Up w W)=>Za8.val cI (ZgZ (Zjc HT.out hu)) (vs:=#[.agg (Zjj a (.slice A6 n6 c6))]) rfl (HA.out a A6 n6 c6 r6 W hu)
   have hFmC:=fun (W:World) (hu:Up w W)=>Za8.val cF (ZgZ (Zjc HT.out hu)) (vs:=#[.agg (Zjj a (.slice A6 n6 c6))]) rfl (HA.out a A6 n6 c6 r6 W hu)
   have HI:Hid (∀ W:World,Up w W→Calls Tryz.prog 20 #[.agg #[I a.kind,I a.parcel.label.service,I a.parcel.label.serial,.string a.parcel.label.to_,.string a.parcel.from_,I a.parcel.weight,.slice A6 n6 c6,I a.parcel.value,I a.order,I a.amount,I a.until_,I a.trip.leg,I a.trip.day]] W fun e w'=>e=.returned (.bool (isJ a))∧Up W w'):=hIsC
   have HF:Hid (∀ W:World,Up w W→Calls Tryz.prog 19 #[.agg #[I a.kind,I a.parcel.label.service,I a.parcel.label.serial,.string a.parcel.label.to_,.string a.parcel.from_,I a.parcel.weight,.slice A6 n6 c6,I a.parcel.value,I a.order,I a.amount,I a.until_,I a.trip.leg,I a.trip.day]] W fun e w'=>e=.returned (.string tt)∧Up W w'):=hFmC
   have HM:Hid (a∈l):=hmem
   have HTK:Hid (l.take (k+1)=l.take k++[a]):=htk
   have HLN:Hid (Zbf a=tt.data.toList++[10]):=hline
   have HPR:Hid (((l.take k).flatMap Zbf).length≤4000001*k):=hpre
   clear hIsC hFmC hIs hFm cI cF r6 hx hmem htk hline hpre
   cases hj:isJ a with
   | false=>
    have HJ:Hid (isJ a=false):=hj
    clear hj
    go_wp2_with (go_at_call 20; refine (HI.out _ (by (repeat (first | exact Up.rfl' _ | (refine Up.al _ ?_) | (refine Up.dr _ ?_) | (refine Up.dr1 ?_) | (refine Up.sc ?_ (by first | exact Nat.le_refl _ | (simp; done) | omega) _) | (refine Up.step (by assumption) ?_))))).mono ?_; rintro e w5 ⟨rfl,hu5⟩; rw [HJ.out]; refine Hid.out ?_)
    have hu6:Up w w5:=Up.step hu5 (by (repeat (first | exact Up.rfl' _ | (refine Up.al _ ?_) | (refine Up.dr _ ?_) | (refine Up.dr1 ?_) | (refine Up.sc ?_ (by first | exact Nat.le_refl _ | (simp; done) | omega) _) | (refine Up.step (by assumption) ?_))))
    have hn:l.all isJ=false:=by
     rw [List.all_eq_false]
     exact ⟨a,HM.out,by rw [HJ.out]; simp⟩
    have HN:Hid (l.all isJ=false):=hn
    clear hn d0 d1 d2 d3 d4 d5 d6 d7 d8 d9 d10 d11 d12 hu5
    refine Lib.hid ?_
    go_wp2
    go_ret
    exact ⟨by rw [← HR.out,HN.out]; rfl,hu6⟩
   | true=>
    have HJ:Hid (isJ a=true):=hj
    clear hj
    go_wp2_with (go_at_call 20; refine (HI.out _ (by (repeat (first | exact Up.rfl' _ | (refine Up.al _ ?_) | (refine Up.dr _ ?_) | (refine Up.dr1 ?_) | (refine Up.sc ?_ (by first | exact Nat.le_refl _ | (simp; done) | omega) _) | (refine Up.step (by assumption) ?_))))).mono ?_; rintro e w5 ⟨rfl,hu5⟩; rw [HJ.out]; refine Hid.out ?_)
    have hu6:Up w w5:=Up.step hu5 (by (repeat (first | exact Up.rfl' _ | (refine Up.al _ ?_) | (refine Up.dr _ ?_) | (refine Up.dr1 ?_) | (refine Up.sc ?_ (by first | exact Nat.le_refl _ | (simp; done) | omega) _) | (refine Up.step (by assumption) ?_))))
    have e0:w5.cell? ⟨wr.heap.size,0,none⟩=some (I a.kind):=Za9 (by simp) (by simp) hu5
    have e1:w5.cell? ⟨wr.heap.size,1,none⟩=some (I a.parcel.label.service):=Za9 (by simp) (by simp) hu5
    have e2:w5.cell? ⟨wr.heap.size,2,none⟩=some (I a.parcel.label.serial):=Za9 (by simp) (by simp) hu5
    have e3:w5.cell? ⟨wr.heap.size,3,none⟩=some (.string a.parcel.label.to_):=Za9 (by simp) (by simp) hu5
    have e4:w5.cell? ⟨wr.heap.size,4,none⟩=some (.string a.parcel.from_):=Za9 (by simp) (by simp) hu5
    have e5:w5.cell? ⟨wr.heap.size,5,none⟩=some (I a.parcel.weight):=Za9 (by simp) (by simp) hu5
    have e6:w5.cell? ⟨wr.heap.size,6,none⟩=some (.slice A6 n6 c6):=Za9 (by simp) (by simp) hu5
    have e7:w5.cell? ⟨wr.heap.size,7,none⟩=some (I a.parcel.value):=Za9 (by simp) (by simp) hu5
    have e8:w5.cell? ⟨wr.heap.size,8,none⟩=some (I a.order):=Za9 (by simp) (by simp) hu5
    have e9:w5.cell? ⟨wr.heap.size,9,none⟩=some (I a.amount):=Za9 (by simp) (by simp) hu5
    have e10:w5.cell? ⟨wr.heap.size,10,none⟩=some (I a.until_):=Za9 (by simp) (by simp) hu5
    have e11:w5.cell? ⟨wr.heap.size,11,none⟩=some (I a.trip.leg):=Za9 (by simp) (by simp) hu5
    have e12:w5.cell? ⟨wr.heap.size,12,none⟩=some (I a.trip.day):=Za9 (by simp) (by simp) hu5
    have hI5:=ZkE HB.out (Up.step hu5 (by (repeat (first | exact Up.rfl' _ | (refine Up.al _ ?_) | (refine Up.dr _ ?_) | (refine Up.dr1 ?_) | (refine Up.sc ?_ (by first | exact Nat.le_refl _ | (simp; done) | omega) _) | (refine Up.step (by assumption) ?_)))))
    have HB5:=Lib.hid hI5
    clear hI5 hu5 d0 d1 d2 d3 d4 d5 d6 d7 d8 d9 d10 d11 d12
    refine Lib.hid ?_
    go_wp2_with (go_at_call 19; refine (HF.out _ (by (repeat (first | exact Up.rfl' _ | (refine Up.al _ ?_) | (refine Up.dr _ ?_) | (refine Up.dr1 ?_) | (refine Up.sc ?_ (by first | exact Nat.le_refl _ | (simp; done) | omega) _) | (refine Up.step (by assumption) ?_))))).mono ?_; rintro e w7 ⟨rfl,hu7⟩; refine Hid.out ?_)
    have hI7:=ZkE HB5.out hu7
    have hu8:Up w w7:=Up.step hu7 hu6
    have hb8:w.heap.size≤w7.heap.size:=hu8.size
    have HB7:=Lib.hid hI7
    clear hI7 hu7 e0 e1 e2 e3 e4 e5 e6 e7 e8 e9 e10 e11 e12
    refine Lib.hid ?_
    go_wp2_with (go_at_call 54; refine (ZhV w.heap.size w.heap.size _ _ _ HB7.out (by rw [Lib.byteCells_length]; simp only [ByteArray.size_append]; have:=HPR.out; have e1:(⟨#[10]⟩:ByteArray).size=1:=rfl; omega) hb8).mono ?_; rintro e W1 ⟨rfl,hI1,hb1⟩)
    go_roundw
    case rel=>
     refine ⟨k+1,by omega,by simp,?_,?_,Below.trans hu8 hb1⟩
     ·rw [HTK.out,List.all_append,HL.out]
      simp only [List.all_cons,List.all_nil,Bool.and_true,Bool.true_and]
      exact HJ.out
     ·rw [HTK.out,List.flatMap_append,Lib.byteCells_append]
      have e:([a]:List YAct).flatMap Zbf=tt.data.toList++[10]:=by rw [List.flatMap_cons,HLN.out]; simp
      rw [e]
      have e2:Lib.strCells (tt++⟨#[10]⟩)=Lib.byteCells (tt.data.toList++[10]):=by
       have:tt++⟨#[10]⟩=txt (tt.data.toList++[10]):=by
        conv=>lhs; rw [← Zcq tt,show (⟨#[10]⟩:ByteArray)=txt [10] from rfl]
        rw [Zaq]
       rw [this,Lib.strCells_eq]
       rfl
      rw [← e2]
      exact Or.inr hI1
    case measure=>simp [intOf]; omega
  ·have hkl:k=l.length:=by omega
   subst hkl
   have hall:=HL.out
   have hI:=HB.out
   rw [List.take_length] at hall hI
   go_wp2_with (go_at_call 55; refine (Tryz.Builder_String_any w.heap.size w.heap.size _ _ hI hws).mono ?_; rintro e W1 ⟨rfl,hb1⟩)
   go_ret
   exact ⟨by rw [← HR.out,hall]; rfl,Below.trans hu hb1⟩
theorem Zdl (A:Option Addr) (c:Nat) (w:World):
 Calls Tryz.prog 25 #[.slice A 0 c] w fun e w'=>e=.returned (.string (txt []))∧Up w w':=by
 go_enter Tryz.func25,Tryz.ntmps25
 go_wp2
 go_loopw [10] (fun ii wr=>ii=.int .i64 0∧Lib.IsBuilder 81 5 w.heap.size w.heap.size (Lib.byteCells []) wr∧Up w wr) (fun ii _=>0)
 case atStart=>
  exact ⟨rfl,Lib.fresh_isBuilder 81 5 w,by (repeat (first | exact Up.rfl' _ | (refine Up.al _ ?_) | (refine Up.dr _ ?_) | (refine Up.dr1 ?_) | (refine Up.sc ?_ (by first | exact Nat.le_refl _ | (simp; done) | omega) _) | (refine Up.step (by assumption) ?_)))⟩
 case round=>
  obtain ⟨rfl,hI,hu⟩:=hrel
  have hws:=hu.size
  go_wp2_with (go_at_call 55; refine (Tryz.Builder_String_any w.heap.size w.heap.size _ _ hI hws).mono ?_; rintro e W1 ⟨rfl,hb1⟩)
  go_ret
  exact ⟨rfl,Below.trans hu hb1⟩
theorem ZbP (l:List YAct) {r:ByteArray} (H:Zu l=some r):Za8 Tryz.prog 25 [.sl (l.map cAct)] [] (vs r) []:=by
 unfold Zu at H
 split at H
 case isFalse=>cases H
 rename_i hok
 obtain ⟨hl,hok⟩:=hok
 obtain rfl:=Option.some.inj H
 refine Zdb (fun w E=>.c (.v _ rfl)) fun S β w vs hsz ht hvl ha=>?_
 obtain ⟨x,hx,hr⟩:=ha 0 _ rfl
 obtain rfl:=ar1 hvl hx
 have hr:=hr.sl_inv
 generalize hq:PV.sl (l.map cAct)=q at hr
 cases hr with
 | v x h=>cases hq
 | ud=>cases hq
 | un=>cases hq
 | rp=>cases hq
 | fn=>cases hq
 | nil A c=>
  have h0:l=[]:=by simpa using hq
  subst h0
  exact Zdl A c w
 | sl es b off k c u hS hk hn hm hes hc h1 hr4=>
  obtain rfl:l.map cAct=es:=by simpa using hq
  by_cases h0:l=[]
  ·subst h0
   exact Zdl _ c w
  ·obtain ⟨a,hx⟩:∃ a,l[0]?=some a:=⟨l[0]'(List.length_pos_iff.2 h0),List.getElem?_eq_getElem _⟩
   obtain rfl:13=k:=hes 0 (cAct a) (by rw [List.getElem?_map,hx]; rfl)
   rw [List.length_map] at hn ⊢
   exact Zhc l hl hok w S hsz ht b off c u hS hc hr4 hn hm
instance (l:List YAct):CT Tryz.prog (Zu l):=⟨25,[.sl (l.map cAct)],[],fun r=>vs r,fun r=>[],ZbP l⟩
end Go.Proofs.YtgdcengoopjplaaGreatDoor
namespace Go.Proofs.YtgdcengoopjplaaGreatDoor
set_option maxRecDepth 10000
open Go.RowKit
set_option linter.unusedVariables false
set_option maxHeartbeats 16000000
def Zs (aL:List YAct):Option Bool:=
 (Zaa aL 1048576).bind fun y1=>
 cond (decide (y1<0))
 (some true)
 ((Zab aL).bind fun y2=>
 (ZH y2).bind fun y3=>
 (Zab aL).bind fun y4=>
 (Zu y4).bind fun y5=>
 cond (!decide (y5=y3))
 (some false)
 ((Zab aL).bind fun y6=>
 (Za2 y4 y6).bind fun y7=>
 cond (!y7)
 (some false)
 (some true)))
theorem Zar (aL:List YAct) {r:Bool} (H:Zs aL=some r):Za8 Tryz.prog 6 [.sl (aL.map cAct)] [] (vb r) []:=by
 replace H:=H0 H
 unfold Zs at H
 refine Zb Tryz.func6 rfl Tryz.ntmps6 Tryz.results6 fun Q hQ hQn=>?_
 exact wk3
instance (aL:List YAct):CT Tryz.prog (Zs aL):=⟨6,[.sl (aL.map cAct)],[],fun r=>vb r,fun r=>[],Zar aL⟩
end Go.Proofs.YtgdcengoopjplaaGreatDoor
