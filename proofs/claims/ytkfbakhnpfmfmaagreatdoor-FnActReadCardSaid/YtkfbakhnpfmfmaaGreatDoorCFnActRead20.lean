/- A part of the proof of the statement in the last file of this claim: texts on the language of the program and on its functions. No condition. -/
import Derived.Test.YtkfbakhnpfmfmaaGreatDoorCFnActRead19
import Derived.Test.YtkfbakhnpfmfmaaGreatDoorCFnActRead9
import Derived.Test.YtkfbakhnpfmfmaaGreatDoorCFnActRead8
set_option linter.unusedVariables false
set_option linter.unusedSimpArgs false
set_option linter.unusedSectionVars false
namespace Go.Proofs.YtkfbakhnpfmfmaaGreatDoor
set_option maxRecDepth 10000
open Go.RowKit Go.Sort
set_option linter.unusedVariables false
set_option linter.unusedSimpArgs false
set_option maxHeartbeats 4000000
def ZhY (p:Zi):Prop:=in64 p.label.service∧in64 p.label.serial∧p.label.to_.size≤2000000∧p.from_.size≤2000000∧in64 p.weight∧p.sides.length≤2000000∧(∀ x∈p.sides,in64 x)∧in64 p.value
theorem bOk {a b:ByteArray} (ha:a.size+b.size≤100000000):chk (ZaK a b)=some ():=Zff (Zj2 (by unfold B60; omega))
theorem ZjN {p:Zi} (h:ZhY p):∃ b:List UInt8,b.length≤3000000∧Zaa p=some (txt b)∧Zab p=some (txt b):=by
 obtain ⟨h1,h2,h3,h4,h5,h6,h7,h8⟩:=h
 obtain ⟨e,v,hv⟩:=ZfY (p:=p) (by unfold B60; omega) (by unfold B60; omega) (by unfold NN; omega)
 have hi:ZaG p=some v:=e.trans hv
 cases v with
 | false=>
  refine ⟨[],by simp,?_,?_⟩
  ·unfold Zaa; simp only [hi,Option.bind_some,Bool.not_false,cond_true]; rfl
  ·unfold Zab; simp only [hv,Option.bind_some,Bool.not_false,cond_true]; rfl
 | true=>
  have h3s:Zf1 p.sides=true:=by
   cases ht:Zf1 p.sides with
   | true=>rfl
   | false=>
    exfalso
    revert hv
    unfold Zaf
    obtain ⟨_,b1,hb1⟩:=ZhH (l:=p.label) (by unfold B60; omega)
    obtain ⟨_,b2,hb2⟩:=Zdq (s:=p.from_) (by omega)
    rw [hb1,hb2,Zj5 (by unfold NN; omega),ht,Zac]
    simp only [Option.bind_some]
    cases b1 <;> cases b2 <;> cases (!decide (p.from_=p.label.to_)) <;> cases (decide (1≤p.weight) && decide (p.weight≤30000)) <;> simp
  have hl3:=ZhW h3s
  obtain ⟨x,y,z,hs⟩:∃ x y z,p.sides=[x,y,z]:=by
   match hp:p.sides,hl3 with
   | [x,y,z],_=>exact ⟨x,y,z,rfl⟩
  have i1:in64 x:=h7 x (by rw [hs]; simp)
  have i2:in64 y:=h7 y (by rw [hs]; simp)
  have i3:in64 z:=h7 z (by rw [hs]; simp)
  have l1:=Zak i1
  have l2:=Zak i2
  have l3:=Zak i3
  have l4:=Zak h5
  have l5:=Zak h8
  obtain ⟨b,hb,f1,f2⟩:=ZkF (l:=p.label) h1 h2 (by unfold B60; omega)
  have g0:getI p.sides 0=some x:=by rw [hs]; rfl
  have g1:getI p.sides 1=some y:=by rw [hs]; rfl
  have g2:getI p.sides 2=some z:=by rw [hs]; rfl
  have ex:(⟨#[120]⟩:ByteArray)=txt [120]:=rfl
  have es:(⟨#[32]⟩:ByteArray)=txt [32]:=rfl
  have hfl:p.from_.data.toList.length=p.from_.size:=by rw [Array.length_toList]; rfl
  have hft:p.from_=txt p.from_.data.toList:=(Zge _).symm
  generalize p.from_.data.toList=fl at *
  refine ⟨b++[32]++fl++[32]++Lib.itoa p.weight++[32]++Lib.itoa x++[120]++Lib.itoa y++[120]++Lib.itoa z++[32]++Lib.itoa p.value,by simp only [List.length_append,List.length_cons,List.length_nil]; omega,?_,?_⟩
  ·unfold Zaa
   simp only [hi,g0,g1,g2,fI i1,fI i2,fI i3,fI h5,fI h8,f1,Option.bind_some,Bool.not_true,cond_false,ex,es,hft,ZaY]
   repeat rw [bOk (by simp only [Zo,List.length_append,List.length_cons,List.length_nil]; omega),Option.bind_some]
   simp only [List.append_assoc]
  ·unfold Zab
   simp only [hv,g0,g1,g2,fS i1,fS i2,fS i3,fS h5,fS h8,f2,Option.bind_some,Bool.not_true,cond_false,ex,es,hft,ZaY]
   repeat rw [bOk (by simp only [Zo,List.length_append,List.length_cons,List.length_nil]; omega),Option.bind_some]
def ActI (a:YAct):Prop:=ZhY a.parcel∧in64 a.order∧in64 a.amount∧in64 a.until_∧in64 a.trip.leg∧in64 a.trip.day
theorem ZsO {a:YAct} (h:ActI a):∃ b:ByteArray,Zq a=some b∧ZF a=some b:=by
 obtain ⟨hp,h1,h2,h3,h4,h5⟩:=h
 have hp':=hp
 obtain ⟨p1,p2,p3,p4,p5,p6,p7,p8⟩:=hp'
 obtain ⟨v,hi,hv⟩:=Zqm (a:=a) (by unfold B60; omega) (by unfold B60; omega) (by unfold NN; omega)
 obtain ⟨b,hb,f1,f2⟩:=ZjN hp
 have l1:=Zak h1
 have l2:=Zak h2
 have l3:=Zak h3
 have l4:=Zak h4
 have l5:=Zak h5
 unfold Zq ZF ZcE
 have lit:∀ l:List UInt8,(⟨l.toArray⟩:ByteArray)=txt l:=fun l=>rfl
 have et:(⟨#[116,97,107,101,32]⟩:ByteArray)=txt [116,97,107,101,32]:=rfl
 have ep:(⟨#[112,97,121,32]⟩:ByteArray)=txt [112,97,121,32]:=rfl
 have es:(⟨#[32]⟩:ByteArray)=txt [32]:=rfl
 have er:(⟨#[114,117,110,32]⟩:ByteArray)=txt [114,117,110,32]:=rfl
 have eh:(⟨#[115,104,117,116,32]⟩:ByteArray)=txt [115,104,117,116,32]:=rfl
 have el:(⟨#[47]⟩:ByteArray)=txt [47]:=rfl
 have ef:(⟨#[114,101,102,117,110,100,32]⟩:ByteArray)=txt [114,101,102,117,110,100,32]:=rfl
 simp only [hi,hv,f1,f2,fI h1,fI h2,fI h3,fI h4,fI h5,fS h1,fS h2,fS h3,fS h4,fS h5,Option.bind_some,et,ep,es,er,eh,el,ef,ZaY]
 repeat rw [bOk (by simp only [Zo,List.length_append,List.length_cons,List.length_nil]; omega),Option.bind_some]
 simp only [List.append_assoc]
 cases v <;> cases decide (a.kind=1) <;> cases decide (a.kind=2) <;> cases decide (a.kind=3) <;> cases decide (a.kind=4) <;> cases decide (a.kind=5) <;> exact ⟨_,rfl,rfl⟩
theorem ZpL {p:Zi} (h1:p.label.to_.size≤B60) (h2:p.from_.size≤B60) (h3:p.sides.length<NN) (h:Zaf p=some true):ZJ p.label=some true∧Zy p.from_=some true∧(1≤p.weight∧p.weight≤30000)∧Zf1 p.sides=true∧(0≤p.value∧p.value≤500000):=by
 obtain ⟨_,b1,hb1⟩:=ZhH h1
 obtain ⟨_,b2,hb2⟩:=Zdq h2
 obtain ⟨_,b3,hb3⟩:=ZoL h3
 revert h
 unfold Zaf
 simp only [hb1,hb2,hb3,Zj5 h3,Zac,Option.bind_some]
 cases b1 <;> cases b2 <;> cases (!decide (p.from_=p.label.to_)) <;> cases hw:(decide (1≤p.weight) && decide (p.weight≤30000)) <;> cases Zf1 p.sides <;> cases decide (b3≤3600) <;> simp_all
theorem ZtW {l:List Int} (h:Zf1 l=true):∃ x y z,l=[x,y,z]∧(1≤x∧x≤2000)∧(1≤y∧y≤2000)∧(1≤z∧z≤2000):=by
 have hl:=ZhW h
 match l,hl with
 | [x,y,z],_=>exact ⟨x,y,z,rfl,by simpa [Zf1] using h⟩
def ZfG:List Int→List UInt8
 | [x,y,z]=>Lib.itoa x++120::(Lib.itoa y++120::Lib.itoa z)
 | _=>[]
def Zdz (p:Zi) (n:Int):List UInt8:=labT p.label n++32::(p.from_.data.toList++32::(Lib.itoa p.weight++32::(ZfG p.sides++32::Lib.itoa p.value)))
theorem Zrd {l:List UInt8} (h:∀ c∈l,isDL c) {c:UInt8} (hc:c.toNat<48∨90<c.toNat):c ∉ l:=fun hm=>by have:=h c hm; unfold isDL at this; omega
theorem ZdA {n:Int} (h:0≤n) {c:UInt8} (hc:c.toNat<48∨57<c.toNat):c ∉ Lib.itoa n:=Zvy (ZoV h) hc
theorem Zsj {x y z:Int} (hx:0≤x) (hy:0≤y) (hz:0≤z):(32:UInt8) ∉ ZfG [x,y,z]:=by
 have a:=ZdA hx (c:=32) (by decide)
 have b:=ZdA hy (c:=32) (by decide)
 have c:=ZdA hz (c:=32) (by decide)
 unfold ZfG
 simp [a,b,c]
structure Zpo (p:Zi) (n:Int):Prop where
 lab:ZJ p.label=some true
 n0:0≤n
 n1:n≤99
 fli:ZM p.label=some (txt (labT p.label n))
 fls:Z5 p.label=some (txt (labT p.label n))
 fi:Zaa p=some (txt (Zdz p n))
 fs:Zab p=some (txt (Zdz p n))
 to3:p.label.to_.size=3
 fr:p.from_.size=3∧∀ c∈p.from_.data.toList,isDL c
 w:1≤p.weight∧p.weight≤30000
 v:0≤p.value∧p.value≤500000
 sd:∃ x y z,p.sides=[x,y,z]∧(1≤x∧x≤2000)∧(1≤y∧y≤2000)∧(1≤z∧z≤2000)
theorem ZaJ {n:Int} (h:0≤n∧n≤1000000000):in64 n:=⟨by omega,by omega⟩
theorem Zle {l:Zw} {n:Int} (h:ZJ l=some true) (hn:0≤n∧n≤99):(labT l n).length≤100:=by
 obtain ⟨r1,r2⟩:=ZjA h
 have a:=Zgl (l:=l) (ZaJ (by omega)) (ZaJ (by omega)) (by have:=(Ze1 h).1; omega)
 have b:=ZhO (n:=n) (d:=2) (ZaJ (by omega)) (by omega)
 unfold labT
 rw [List.length_append]; omega
theorem ZpN {p:Zi} (h1:p.label.to_.size≤B60) (h2:p.from_.size≤B60) (h3:p.sides.length<NN) (h:Zaf p=some true):∃ n,Zpo p n:=by
 obtain ⟨q1,q2,q3,q4,q5⟩:=ZpL h1 h2 h3 h
 obtain ⟨n,n0,n1,f1,f2⟩:=Zrg h1 q1
 obtain ⟨x,y,z,hs,hx,hy,hz⟩:=ZtW q4
 obtain ⟨g1,g2⟩:=Zo5 q2
 have hi:ZaG p=some true:=(ZfY h1 h2 h3).1.trans h
 have i1:in64 x:=ZaJ (by omega)
 have i2:in64 y:=ZaJ (by omega)
 have i3:in64 z:=ZaJ (by omega)
 have i4:in64 p.weight:=ZaJ (by omega)
 have i5:in64 p.value:=ZaJ (by omega)
 have l1:=Zak i1
 have l2:=Zak i2
 have l3:=Zak i3
 have l4:=Zak i4
 have l5:=Zak i5
 have lb:=Zle q1 ⟨n0,n1⟩
 have s0:getI p.sides 0=some x:=by rw [hs]; rfl
 have s1:getI p.sides 1=some y:=by rw [hs]; rfl
 have s2:getI p.sides 2=some z:=by rw [hs]; rfl
 have ex:(⟨#[120]⟩:ByteArray)=txt [120]:=rfl
 have es:(⟨#[32]⟩:ByteArray)=txt [32]:=rfl
 have hfl:p.from_.data.toList.length=p.from_.size:=by rw [Array.length_toList]; rfl
 have hft:p.from_=txt p.from_.data.toList:=(Zge _).symm
 refine ⟨n,q1,n0,n1,f1,f2,?_,?_,(Ze1 q1).1,⟨g1,g2⟩,q3,q5,x,y,z,hs,hx,hy,hz⟩
 ·unfold Zaa Zdz
  simp only [hi,s0,s1,s2,fI i1,fI i2,fI i3,fI i4,fI i5,f1,Option.bind_some,Bool.not_true,cond_false,ex,es]
  generalize p.from_.data.toList=fl at *
  rw [hft]
  simp only [ZaY]
  repeat rw [bOk (by simp only [Zo,List.length_append,List.length_cons,List.length_nil]; omega),Option.bind_some]
  simp [hs,ZfG]
 ·unfold Zab Zdz
  simp only [h,s0,s1,s2,fS i1,fS i2,fS i3,fS i4,fS i5,f2,Option.bind_some,Bool.not_true,cond_false,ex,es]
  generalize p.from_.data.toList=fl at *
  rw [hft]
  simp only [ZaY]
  repeat rw [bOk (by simp only [Zo,List.length_append,List.length_cons,List.length_nil]; omega),Option.bind_some]
  simp [hs,ZfG]
theorem ZkI {p:Zi} {n:Int} (h:Zpo p n):Zdo 32 (Zdz p n)=[labT p.label n,p.from_.data.toList,Lib.itoa p.weight,ZfG p.sides,Lib.itoa p.value]:=by
 obtain ⟨x,y,z,hs,hx,hy,hz⟩:=h.sd
 unfold Zdz
 rw [Za0 (Zrd (Zvl h.lab h.n0) (by decide)),Za0 (Zrd h.fr.2 (by decide)),Za0 (ZdA (by have:=h.w; omega) (by decide)),Za0 (by rw [hs]; exact Zsj (by omega) (by omega) (by omega)),ZbZ (ZdA h.v.1 (by decide))]
theorem ZnZ {x y z:Int} (hx:0≤x) (hy:0≤y) (hz:0≤z):Zdo 120 (ZfG [x,y,z])=[Lib.itoa x,Lib.itoa y,Lib.itoa z]:=by
 unfold ZfG
 rw [Za0 (ZdA hx (by decide)),Za0 (ZdA hy (by decide)),ZbZ (ZdA hz (by decide))]
theorem ZmC {p:Zi} {n:Int} (h:Zpo p n):(Zdz p n).length≤1000:=by
 obtain ⟨x,y,z,hs,hx,hy,hz⟩:=h.sd
 have l1:=Zak (n:=x) (ZaJ (by omega))
 have l2:=Zak (n:=y) (ZaJ (by omega))
 have l3:=Zak (n:=z) (ZaJ (by omega))
 have l4:=Zak (n:=p.weight) (ZaJ (by have:=h.w; omega))
 have l5:=Zak (n:=p.value) (ZaJ (by have:=h.v; omega))
 have lb:=Zle h.lab ⟨h.n0,h.n1⟩
 have hfl:p.from_.data.toList.length=p.from_.size:=by rw [Array.length_toList]; rfl
 have:=h.fr.1
 unfold Zdz
 rw [hs]
 simp only [ZfG,List.length_append,List.length_cons]
 omega
theorem w1':w64 ((0:Int)+1)=1:=by decide
theorem w2':w64 ((1:Int)+1)=2:=by decide
theorem w3':w64 ((2:Int)+1)=3:=by decide
theorem appI {a b:List Int} (h:a.length+b.length≤100000000):chk (Z9 (a.length+b.length) 8)=some ():=Zff (decide_eq_true ⟨by omega,by omega⟩)
theorem Zfn {n:Int} (h:0≤n∧n≤1000000000):ZK (txt (Lib.itoa n))=some (n,true):=Zq9 h.1 h.2 (by have:=Zak (ZaJ h); omega)
theorem Zrz {p:Zi} {n:Int} (h:Zpo p n):Zay (txt (Zdz p n))=some (p,true)∧ZbE (txt (Zdz p n))=some (p,true):=by
 obtain ⟨x,y,z,hs,hx,hy,hz⟩:=h.sd
 have hl:=ZmC h
 obtain ⟨r1,r2⟩:=Ztk (by have:=h.to3; unfold B60; omega) h.lab h.n0 h.n1 h.fli h.fls
 have hw:=h.w
 have hv:=h.v
 have hsl:(ZfG p.sides).length≤1000:=by
  unfold Zdz at hl
  simp only [List.length_append,List.length_cons] at hl
  omega
 have sp:=ZkI h
 have ss:Zdo 120 (ZfG p.sides)=[Lib.itoa x,Lib.itoa y,Lib.itoa z]:=by rw [hs]; exact ZnZ (by omega) (by omega) (by omega)
 have hft:=Zge p.from_
 constructor
 ·have e1:=ZlD (c:=32) (L:=Zdz p n) (by omega)
  have e2:=ZlD (c:=120) (L:=ZfG p.sides) (by omega)
  rw [sp] at e1
  rw [ss] at e2
  have it:∀ a b c d e,Zj (ZaW a b c d e [txt (Lib.itoa x),txt (Lib.itoa y),txt (Lib.itoa z)]) NN (0,[])=some [x,y,z]:=by
   intro a b c d e
   refine Zic (n:=4) ?_ (by unfold NN; omega)
   rw [itl (s':=(1,[x])),itl (s':=(2,[x,y])),itl (s':=(3,[x,y,z])),itr (o:=[x,y,z])]
   all_goals unfold ZaW
   ·rfl
   ·simp only [show decide ((2:Int)<(([txt (Lib.itoa x),txt (Lib.itoa y),txt (Lib.itoa z)]:List ByteArray).length:Int))=true from rfl,cond_true,show getI [txt (Lib.itoa x),txt (Lib.itoa y),txt (Lib.itoa z)] 2=some (txt (Lib.itoa z)) from rfl,Option.bind_some,Zfn (n:=z) ⟨by omega,by omega⟩,appI (a:=[x,y]) (b:=[z]) (by simp),w3']; rfl
   ·simp only [show decide ((1:Int)<(([txt (Lib.itoa x),txt (Lib.itoa y),txt (Lib.itoa z)]:List ByteArray).length:Int))=true from rfl,cond_true,show getI [txt (Lib.itoa x),txt (Lib.itoa y),txt (Lib.itoa z)] 1=some (txt (Lib.itoa y)) from rfl,Option.bind_some,Zfn (n:=y) ⟨by omega,by omega⟩,appI (a:=[x]) (b:=[y]) (by simp),w2']; rfl
   ·simp only [show decide ((0:Int)<(([txt (Lib.itoa x),txt (Lib.itoa y),txt (Lib.itoa z)]:List ByteArray).length:Int))=true from rfl,cond_true,show getI [txt (Lib.itoa x),txt (Lib.itoa y),txt (Lib.itoa z)] 0=some (txt (Lib.itoa x)) from rfl,Option.bind_some,Zfn (n:=x) ⟨by omega,by omega⟩,appI (a:=[]) (b:=[x]) (by simp),w1']; rfl
  have hne:decide (txt (Zdz p n)=⟨#[]⟩)=false:=decide_eq_false fun e=>by
   have:=congrArg ByteArray.size e
   rw [Zo] at this
   have h2:(Zdz p n).length=0:=this
   unfold Zdz at h2
   simp at h2
  unfold Zay
  rw [show (⟨#[32]⟩:ByteArray)=txt [32] from rfl,show (⟨#[120]⟩:ByteArray)=txt [120] from rfl,e1]
  simp only [List.map_cons,List.map_nil,Option.bind_some]
  simp only [show ∀ a b c d e:ByteArray,decide ((([a,b,c,d,e]:List ByteArray).length:Int)=5)=true from fun _ _ _ _ _=>rfl,show ∀ a b c d e:ByteArray,getI [a,b,c,d,e] 0=some a from fun _ _ _ _ _=>rfl,show ∀ a b c d e:ByteArray,getI [a,b,c,d,e] 1=some b from fun _ _ _ _ _=>rfl,show ∀ a b c d e:ByteArray,getI [a,b,c,d,e] 2=some c from fun _ _ _ _ _=>rfl,show ∀ a b c d e:ByteArray,getI [a,b,c,d,e] 3=some d from fun _ _ _ _ _=>rfl,show ∀ a b c d e:ByteArray,getI [a,b,c,d,e] 4=some e from fun _ _ _ _ _=>rfl,Bool.not_true,cond_false,Option.bind_some,r1,Zfn (n:=p.weight) ⟨by omega,by omega⟩,Zfn (n:=p.value) ⟨by omega,by omega⟩,e2,List.map_cons,List.map_nil,it,hne,hft]
  rw [← hs]
  show (Zaa p).bind _=_
  rw [h.fi]
  simp
 ·have e1:=ZdP (c:=32) (L:=Zdz p n) (by omega)
  have e2:=ZdP (c:=120) (L:=ZfG p.sides) (by omega)
  rw [sp] at e1
  rw [ss] at e2
  have it:∀ a b c d e,Zj (ZbG a b c d e [txt (Lib.itoa x),txt (Lib.itoa y),txt (Lib.itoa z)]) NN (0,[])=some [x,y,z]:=by
   intro a b c d e
   refine Zic (n:=4) ?_ (by unfold NN; omega)
   rw [itl (s':=(1,[x])),itl (s':=(2,[x,y])),itl (s':=(3,[x,y,z])),itr (o:=[x,y,z])]
   all_goals unfold ZbG
   ·rfl
   ·simp only [show decide ((2:Int)<(([txt (Lib.itoa x),txt (Lib.itoa y),txt (Lib.itoa z)]:List ByteArray).length:Int))=true from rfl,cond_true,show getI [txt (Lib.itoa x),txt (Lib.itoa y),txt (Lib.itoa z)] 2=some (txt (Lib.itoa z)) from rfl,Option.bind_some,ZdL (n:=z) (by omega) (by omega),appI (a:=[x,y]) (b:=[z]) (by simp),w3']; rfl
   ·simp only [show decide ((1:Int)<(([txt (Lib.itoa x),txt (Lib.itoa y),txt (Lib.itoa z)]:List ByteArray).length:Int))=true from rfl,cond_true,show getI [txt (Lib.itoa x),txt (Lib.itoa y),txt (Lib.itoa z)] 1=some (txt (Lib.itoa y)) from rfl,Option.bind_some,ZdL (n:=y) (by omega) (by omega),appI (a:=[x]) (b:=[y]) (by simp),w2']; rfl
   ·simp only [show decide ((0:Int)<(([txt (Lib.itoa x),txt (Lib.itoa y),txt (Lib.itoa z)]:List ByteArray).length:Int))=true from rfl,cond_true,show getI [txt (Lib.itoa x),txt (Lib.itoa y),txt (Lib.itoa z)] 0=some (txt (Lib.itoa x)) from rfl,Option.bind_some,ZdL (n:=x) (by omega) (by omega),appI (a:=[]) (b:=[x]) (by simp),w1']; rfl
  unfold ZbE
  have e1':ZX (txt (Zdz p n)) 32=_:=e1
  have e2':ZX (txt (ZfG p.sides)) 120=_:=e2
  rw [e1']
  simp only [List.map_cons,List.map_nil,Option.bind_some]
  simp only [show ∀ a b c d e:ByteArray,decide ((([a,b,c,d,e]:List ByteArray).length:Int)=5)=true from fun _ _ _ _ _=>rfl,show ∀ a b c d e:ByteArray,getI [a,b,c,d,e] 0=some a from fun _ _ _ _ _=>rfl,show ∀ a b c d e:ByteArray,getI [a,b,c,d,e] 1=some b from fun _ _ _ _ _=>rfl,show ∀ a b c d e:ByteArray,getI [a,b,c,d,e] 2=some c from fun _ _ _ _ _=>rfl,show ∀ a b c d e:ByteArray,getI [a,b,c,d,e] 3=some d from fun _ _ _ _ _=>rfl,show ∀ a b c d e:ByteArray,getI [a,b,c,d,e] 4=some e from fun _ _ _ _ _=>rfl,Bool.not_true,cond_false,Option.bind_some,r2,ZdL (n:=p.weight) (by omega) (by omega),ZdL (n:=p.value) (by omega) (by omega),e2',List.map_cons,List.map_nil,it,hft]
  rw [← hs]
  show (Zab p).bind _=_
  rw [h.fs]
  simp
abbrev zP:Zi:=⟨⟨0,0,⟨#[]⟩⟩,⟨#[]⟩,0,[],0⟩
abbrev zA:YAct:=⟨0,zP,0,0,0,⟨0,0⟩⟩
inductive ActF:YAct→Prop
 | take (p:Zi) (n:Int) (h:Zpo p n):ActF ⟨1,p,0,0,0,⟨0,0⟩⟩
 | pay (o m:Int) (h:1≤o∧o≤9999) (h2:1≤m∧m≤100000):ActF ⟨2,zP,o,m,0,⟨0,0⟩⟩
 | run (u:Int) (h:0≤u∧u≤100000):ActF ⟨3,zP,0,0,u,⟨0,0⟩⟩
 | shut (l d:Int) (h:0≤l∧l≤19) (h2:0≤d∧d≤60):ActF ⟨4,zP,0,0,0,⟨l,d⟩⟩
 | retry:ActF ⟨5,zP,0,0,0,⟨0,0⟩⟩
 | refund (o:Int) (h:1≤o∧o≤9999):ActF ⟨6,zP,o,0,0,⟨0,0⟩⟩
theorem ZuH {a:YAct} (h1:a.parcel.label.to_.size≤B60) (h2:a.parcel.from_.size≤B60) (h3:a.parcel.sides.length<NN) (h:Zap a=some true):ActF a:=by
 obtain ⟨e1,b1,hb1⟩:=ZfY h1 h2 h3
 obtain ⟨k,p,o,m,u,t⟩:=a
 obtain ⟨lg,d⟩:=t
 obtain ⟨lb,fr,w,sd,v⟩:=p
 simp only at h1 h2 h3 e1 hb1
 have sv:=fun b=>ZkQ (a:=⟨k,⟨lb,fr,w,sd,v⟩,o,m,u,⟨lg,d⟩⟩) (b:=b) h3
 unfold Zap at h
 simp only [Zey,ZeM,e1,hb1,Zac,Option.bind_some] at h
 by_cases k1:k=1
 ·subst k1
  simp only [decide_true,cond_true,Option.bind_some,Zu,sv] at h
  cases b1 with
  | false=>cases h
  | true=>
   simp at h
   obtain ⟨rfl,rfl,rfl,rfl,rfl⟩:=h
   obtain ⟨n,hn⟩:=ZpN h1 h2 h3 hb1
   exact .take _ n hn
 by_cases k2:k=2
 ·subst k2
  simp only [Int.reduceEq,decide_true,decide_false,cond_true,cond_false,Option.bind_some,Zu,sv,bndc] at h
  cases ha:(decide (1≤o) && decide (o≤9999)) <;> rw [ha] at h
  ·cases h
  cases hb:(decide (1≤m) && decide (m≤100000)) <;> rw [hb] at h
  ·cases h
  simp at h ha hb
  obtain ⟨⟨rfl,rfl,rfl,rfl,rfl⟩,rfl,rfl,rfl⟩:=h
  exact .pay o m ha hb
 by_cases k3:k=3
 ·subst k3
  simp only [Int.reduceEq,decide_true,decide_false,cond_true,cond_false,Option.bind_some,Zu,sv,bndc] at h
  cases ha:(decide (0≤u) && decide (u≤100000)) <;> rw [ha] at h
  ·cases h
  simp at h ha
  obtain ⟨⟨rfl,rfl,rfl,rfl,rfl⟩,rfl,rfl,rfl,rfl⟩:=h
  exact .run u ha
 by_cases k4:k=4
 ·subst k4
  simp only [Int.reduceEq,decide_true,decide_false,cond_true,cond_false,Option.bind_some,Zu,sv,bndc] at h
  cases ha:(decide (0≤lg) && decide (lg≤19)) <;> rw [ha] at h
  ·cases h
  cases hb:(decide (0≤d) && decide (d≤60)) <;> rw [hb] at h
  ·cases h
  simp at h ha hb
  obtain ⟨⟨rfl,rfl,rfl,rfl,rfl⟩,rfl,rfl,rfl⟩:=h
  exact .shut lg d ha hb
 by_cases k5:k=5
 ·subst k5
  simp only [Int.reduceEq,decide_true,decide_false,cond_true,cond_false,Option.bind_some,Zu,sv,bndc] at h
  simp at h
  obtain ⟨⟨rfl,rfl,rfl,rfl,rfl⟩,rfl,rfl,rfl,rfl,rfl⟩:=h
  exact .retry
 by_cases k6:k=6
 ·subst k6
  simp only [Int.reduceEq,decide_true,decide_false,cond_true,cond_false,Option.bind_some,Zu,sv,bndc] at h
  cases ha:(decide (1≤o) && decide (o≤9999)) <;> rw [ha] at h
  ·cases h
  simp at h ha
  obtain ⟨⟨rfl,rfl,rfl,rfl,rfl⟩,rfl,rfl,rfl,rfl⟩:=h
  exact .refund o ha
 simp only [decide_eq_false k1,decide_eq_false k2,decide_eq_false k3,decide_eq_false k4,decide_eq_false k5,decide_eq_false k6,cond_false,Option.bind_some,Zu] at h
 cases h
theorem dtx (a b:List UInt8):decide (txt a=(⟨b.toArray⟩:ByteArray))=decide (a=b):=by
 rw [decide_eq_decide]
 exact ⟨fun h=>by have:=congrArg (fun x:ByteArray=>x.data.toList) h; simpa [txt] using this,fun h=>by rw [h]; rfl⟩
structure RT (a:YAct) (s:ByteArray):Prop where
 fi:Zq a=some s
 fs:ZF a=some s
 ne:decide (s=⟨#[]⟩)=false
 pi:Z4 s=some (a,true)
 ps:Zau s=some (a,true)
theorem ZtL (hi:Zap ⟨5,zP,0,0,0,⟨0,0⟩⟩=some true) (hs:Zaj ⟨5,zP,0,0,0,⟨0,0⟩⟩=some true):∃ s,RT ⟨5,zP,0,0,0,⟨0,0⟩⟩ s:=by
 have f1:Zq ⟨5,zP,0,0,0,⟨0,0⟩⟩=some (txt [114,101,116,114,121]):=by
  unfold Zq
  rw [hi]; rfl
 have f2:ZF ⟨5,zP,0,0,0,⟨0,0⟩⟩=some (txt [114,101,116,114,121]):=by
  unfold ZF
  rw [hs]; rfl
 have ne:decide (txt [114,101,116,114,121]=⟨#[]⟩)=false:=by rw [dtx]; rfl
 refine ⟨txt [114,101,116,114,121],f1,f2,ne,?_,?_⟩
 ·have e1:=Zu3 (c:=32) (a:=[114,101,116,114,121]) (by decide) (by decide)
  unfold Z4
  rw [show (⟨#[32]⟩:ByteArray)=txt [32] from rfl,e1]
  simp only [Zey,Option.bind_some,dtx,Zu,ne]
  simp [f1,Zu]
 ·have e1:ZX (txt [114,101,116,114,121]) 32=_:=ZdP (c:=32) (L:=[114,101,116,114,121]) (by decide)
  rw [ZbZ (by decide)] at e1
  unfold Zau
  rw [e1]
  simp only [Zey,Option.bind_some,List.map_cons,List.map_nil,show ∀ a:ByteArray,getI [a] 0=some a from fun _=>rfl,dtx]
  simp [f2,hs,Zu,dtx]
theorem ZwW {o m:Int} (h:1≤o∧o≤9999) (h2:1≤m∧m≤100000) (hi:Zap ⟨2,zP,o,m,0,⟨0,0⟩⟩=some true) (hs:Zaj ⟨2,zP,o,m,0,⟨0,0⟩⟩=some true):∃ s,RT ⟨2,zP,o,m,0,⟨0,0⟩⟩ s:=by
 have et:∀ l:List UInt8,(⟨l.toArray⟩:ByteArray)=txt l:=fun _=>rfl
 have l0:=Zak (n:=o) (ZaJ (by omega))
 have l1:=Zak (n:=m) (ZaJ (by omega))
 have f1:Zq ⟨2,zP,o,m,0,⟨0,0⟩⟩=some (txt ([112,97,121]++32::(Lib.itoa o++32::Lib.itoa m))):=by
  unfold Zq
  simp only [hi,Option.bind_some,Bool.not_true,cond_false,Int.reduceEq,decide_true,decide_false,cond_true,et,ZaY,fI (n:=o) (ZaJ (by omega)),fI (n:=m) (ZaJ (by omega))]
  repeat rw [bOk (by simp only [Zo,List.length_append,List.length_cons,List.length_nil]; omega),Option.bind_some]
  simp
 have f2:ZF ⟨2,zP,o,m,0,⟨0,0⟩⟩=some (txt ([112,97,121]++32::(Lib.itoa o++32::Lib.itoa m))):=by
  unfold ZF
  simp only [hs,Option.bind_some,Bool.not_true,cond_false,Int.reduceEq,decide_true,decide_false,cond_true,et,ZaY,fS (n:=o) (ZaJ (by omega)),fS (n:=m) (ZaJ (by omega))]
  repeat rw [bOk (by simp only [Zo,List.length_append,List.length_cons,List.length_nil]; omega),Option.bind_some]
  simp
 have ne:decide (txt ([112,97,121]++32::(Lib.itoa o++32::Lib.itoa m))=⟨#[]⟩)=false:=by rw [dtx]; exact decide_eq_false (by simp)
 refine ⟨txt ([112,97,121]++32::(Lib.itoa o++32::Lib.itoa m)),f1,f2,ne,?_,?_⟩
 ·have e1:=Zji (c:=32) (a:=[112,97,121]) (b:=(Lib.itoa o++32::Lib.itoa m)) (by decide) (by simp; omega)
  unfold Z4
  rw [show (⟨#[32]⟩:ByteArray)=txt [32] from rfl,e1]
  simp only [Zey,Option.bind_some,dtx]
  rw [Zji (c:=32) (a:=Lib.itoa o) (b:=Lib.itoa m) (ZdA (n:=o) (by omega) (c:=32) (by decide)) (by omega)]
  simp only [Option.bind_some,Zfn (n:=o) ⟨by omega,by omega⟩,Zfn (n:=m) ⟨by omega,by omega⟩,Zu,ne]
  simp [f1,Zu]
 ·have e1:ZX (txt ([112,97,121]++32::(Lib.itoa o++32::Lib.itoa m))) 32=_:=ZdP (c:=32) (L:=[112,97,121]++32::(Lib.itoa o++32::Lib.itoa m)) (by simp; omega)
  rw [Za0 (by decide),Za0 (ZdA (n:=o) (by omega) (c:=32) (by decide)),ZbZ (ZdA (n:=m) (by omega) (by decide))] at e1
  unfold Zau
  rw [e1]
  simp only [Zey,Option.bind_some,List.map_cons,List.map_nil,show ∀ a b c:ByteArray,getI [a,b,c] 0=some a from fun _ _ _=>rfl,show ∀ a b c:ByteArray,getI [a,b,c] 1=some b from fun _ _ _=>rfl,show ∀ a b c:ByteArray,getI [a,b,c] 2=some c from fun _ _ _=>rfl,dtx]
  simp [ZdL (n:=o) (by omega) (by omega),ZdL (n:=m) (by omega) (by omega),f2,hs,Zu,dtx]
theorem ZwX {u:Int} (h:0≤u∧u≤100000) (hi:Zap ⟨3,zP,0,0,u,⟨0,0⟩⟩=some true) (hs:Zaj ⟨3,zP,0,0,u,⟨0,0⟩⟩=some true):∃ s,RT ⟨3,zP,0,0,u,⟨0,0⟩⟩ s:=by
 have et:∀ l:List UInt8,(⟨l.toArray⟩:ByteArray)=txt l:=fun _=>rfl
 have l0:=Zak (n:=u) (ZaJ (by omega))
 have f1:Zq ⟨3,zP,0,0,u,⟨0,0⟩⟩=some (txt ([114,117,110]++32::Lib.itoa u)):=by
  unfold Zq
  simp only [hi,Option.bind_some,Bool.not_true,cond_false,Int.reduceEq,decide_true,decide_false,cond_true,et,ZaY,fI (n:=u) (ZaJ (by omega))]
  repeat rw [bOk (by simp only [Zo,List.length_append,List.length_cons,List.length_nil]; omega),Option.bind_some]
  simp
 have f2:ZF ⟨3,zP,0,0,u,⟨0,0⟩⟩=some (txt ([114,117,110]++32::Lib.itoa u)):=by
  unfold ZF
  simp only [hs,Option.bind_some,Bool.not_true,cond_false,Int.reduceEq,decide_true,decide_false,cond_true,et,ZaY,fS (n:=u) (ZaJ (by omega))]
  repeat rw [bOk (by simp only [Zo,List.length_append,List.length_cons,List.length_nil]; omega),Option.bind_some]
  simp
 have ne:decide (txt ([114,117,110]++32::Lib.itoa u)=⟨#[]⟩)=false:=by rw [dtx]; exact decide_eq_false (by simp)
 refine ⟨txt ([114,117,110]++32::Lib.itoa u),f1,f2,ne,?_,?_⟩
 ·have e1:=Zji (c:=32) (a:=[114,117,110]) (b:=Lib.itoa u) (by decide) (by simp; omega)
  unfold Z4
  rw [show (⟨#[32]⟩:ByteArray)=txt [32] from rfl,e1]
  simp only [Zey,Option.bind_some,dtx]
  simp only [Option.bind_some,Zfn (n:=u) ⟨by omega,by omega⟩,Zu,ne]
  simp [f1,Zu]
 ·have e1:ZX (txt ([114,117,110]++32::Lib.itoa u)) 32=_:=ZdP (c:=32) (L:=[114,117,110]++32::Lib.itoa u) (by simp; omega)
  rw [Za0 (by decide),ZbZ (ZdA (n:=u) (by omega) (by decide))] at e1
  unfold Zau
  rw [e1]
  simp only [Zey,Option.bind_some,List.map_cons,List.map_nil,show ∀ a b:ByteArray,getI [a,b] 0=some a from fun _ _=>rfl,show ∀ a b:ByteArray,getI [a,b] 1=some b from fun _ _=>rfl,dtx]
  simp [ZdL (n:=u) (by omega) (by omega),f2,hs,Zu,dtx]
theorem Zr7 {o:Int} (h:1≤o∧o≤9999) (hi:Zap ⟨6,zP,o,0,0,⟨0,0⟩⟩=some true) (hs:Zaj ⟨6,zP,o,0,0,⟨0,0⟩⟩=some true):∃ s,RT ⟨6,zP,o,0,0,⟨0,0⟩⟩ s:=by
 have et:∀ l:List UInt8,(⟨l.toArray⟩:ByteArray)=txt l:=fun _=>rfl
 have l0:=Zak (n:=o) (ZaJ (by omega))
 have f1:Zq ⟨6,zP,o,0,0,⟨0,0⟩⟩=some (txt ([114,101,102,117,110,100]++32::Lib.itoa o)):=by
  unfold Zq
  simp only [hi,Option.bind_some,Bool.not_true,cond_false,Int.reduceEq,decide_true,decide_false,cond_true,et,ZaY,fI (n:=o) (ZaJ (by omega))]
  repeat rw [bOk (by simp only [Zo,List.length_append,List.length_cons,List.length_nil]; omega),Option.bind_some]
  simp
 have f2:ZF ⟨6,zP,o,0,0,⟨0,0⟩⟩=some (txt ([114,101,102,117,110,100]++32::Lib.itoa o)):=by
  unfold ZF
  simp only [hs,Option.bind_some,Bool.not_true,cond_false,Int.reduceEq,decide_true,decide_false,cond_true,et,ZaY,fS (n:=o) (ZaJ (by omega))]
  repeat rw [bOk (by simp only [Zo,List.length_append,List.length_cons,List.length_nil]; omega),Option.bind_some]
  simp
 have ne:decide (txt ([114,101,102,117,110,100]++32::Lib.itoa o)=⟨#[]⟩)=false:=by rw [dtx]; exact decide_eq_false (by simp)
 refine ⟨txt ([114,101,102,117,110,100]++32::Lib.itoa o),f1,f2,ne,?_,?_⟩
 ·have e1:=Zji (c:=32) (a:=[114,101,102,117,110,100]) (b:=Lib.itoa o) (by decide) (by simp; omega)
  unfold Z4
  rw [show (⟨#[32]⟩:ByteArray)=txt [32] from rfl,e1]
  simp only [Zey,Option.bind_some,dtx]
  simp only [Option.bind_some,Zfn (n:=o) ⟨by omega,by omega⟩,Zu,ne]
  simp [f1,Zu]
 ·have e1:ZX (txt ([114,101,102,117,110,100]++32::Lib.itoa o)) 32=_:=ZdP (c:=32) (L:=[114,101,102,117,110,100]++32::Lib.itoa o) (by simp; omega)
  rw [Za0 (by decide),ZbZ (ZdA (n:=o) (by omega) (by decide))] at e1
  unfold Zau
  rw [e1]
  simp only [Zey,Option.bind_some,List.map_cons,List.map_nil,show ∀ a b:ByteArray,getI [a,b] 0=some a from fun _ _=>rfl,show ∀ a b:ByteArray,getI [a,b] 1=some b from fun _ _=>rfl,dtx]
  simp [ZdL (n:=o) (by omega) (by omega),f2,hs,Zu,dtx]
theorem ZvX {l d:Int} (h:0≤l∧l≤19) (h2:0≤d∧d≤60) (hi:Zap ⟨4,zP,0,0,0,⟨l,d⟩⟩=some true) (hs:Zaj ⟨4,zP,0,0,0,⟨l,d⟩⟩=some true):∃ s,RT ⟨4,zP,0,0,0,⟨l,d⟩⟩ s:=by
 have et:∀ l:List UInt8,(⟨l.toArray⟩:ByteArray)=txt l:=fun _=>rfl
 have l0:=Zak (n:=l) (ZaJ (by omega))
 have l1:=Zak (n:=d) (ZaJ (by omega))
 have tt:ZcE ⟨l,d⟩=some (txt (Lib.itoa l++47::Lib.itoa d)):=by
  unfold ZcE
  simp only [fI (n:=l) (ZaJ (by omega)),fI (n:=d) (ZaJ (by omega)),Option.bind_some,et,ZaY]
  repeat rw [bOk (by simp only [Zo,List.length_append,List.length_cons,List.length_nil]; omega),Option.bind_some]
  simp
 have hn:(32:UInt8) ∉ Lib.itoa l++47::Lib.itoa d:=by
  have a:=ZdA (n:=l) (by omega) (c:=32) (by decide)
  have b:=ZdA (n:=d) (by omega) (c:=32) (by decide)
  simp [a,b]
 have hq:=ZdA (n:=l) (by omega) (c:=47) (by decide)
 have hq2:=ZdA (n:=d) (by omega) (c:=47) (by decide)
 have f1:Zq ⟨4,zP,0,0,0,⟨l,d⟩⟩=some (txt ([115,104,117,116]++32::(Lib.itoa l++47::Lib.itoa d))):=by
  unfold Zq
  simp only [hi,Option.bind_some,Bool.not_true,cond_false,Int.reduceEq,decide_true,decide_false,cond_true,et,ZaY,tt]
  repeat rw [bOk (by simp only [Zo,List.length_append,List.length_cons,List.length_nil]; omega),Option.bind_some]
  simp
 have f2:ZF ⟨4,zP,0,0,0,⟨l,d⟩⟩=some (txt ([115,104,117,116]++32::(Lib.itoa l++47::Lib.itoa d))):=by
  unfold ZF
  simp only [hs,Option.bind_some,Bool.not_true,cond_false,Int.reduceEq,decide_true,decide_false,cond_true,et,ZaY,fS (n:=l) (ZaJ (by omega)),fS (n:=d) (ZaJ (by omega))]
  repeat rw [bOk (by simp only [Zo,List.length_append,List.length_cons,List.length_nil]; omega),Option.bind_some]
  simp
 have ne:decide (txt ([115,104,117,116]++32::(Lib.itoa l++47::Lib.itoa d))=⟨#[]⟩)=false:=by rw [dtx]; exact decide_eq_false (by simp)
 refine ⟨txt ([115,104,117,116]++32::(Lib.itoa l++47::Lib.itoa d)),f1,f2,ne,?_,?_⟩
 ·have e1:=Zji (c:=32) (a:=[115,104,117,116]) (b:=(Lib.itoa l++47::Lib.itoa d)) (by decide) (by simp; omega)
  unfold Z4
  rw [show (⟨#[32]⟩:ByteArray)=txt [32] from rfl,e1]
  simp only [Zey,Option.bind_some,dtx]
  have rt:ZbP (txt (Lib.itoa l++47::Lib.itoa d))=some (⟨l,d⟩,true):=by
   unfold ZbP
   rw [show (⟨#[47]⟩:ByteArray)=txt [47] from rfl,Zji (c:=47) hq (by omega)]
   simp only [Option.bind_some,Zfn (n:=l) ⟨by omega,by omega⟩,Zfn (n:=d) ⟨by omega,by omega⟩,cond_true]
  simp only [Option.bind_some,rt,Zu,ne]
  simp [f1,Zu]
 ·have e1:ZX (txt ([115,104,117,116]++32::(Lib.itoa l++47::Lib.itoa d))) 32=_:=ZdP (c:=32) (L:=[115,104,117,116]++32::(Lib.itoa l++47::Lib.itoa d)) (by simp; omega)
  rw [Za0 (by decide),ZbZ hn] at e1
  unfold Zau
  rw [e1]
  simp only [Zey,Option.bind_some,List.map_cons,List.map_nil,show ∀ a b:ByteArray,getI [a,b] 0=some a from fun _ _=>rfl,show ∀ a b:ByteArray,getI [a,b] 1=some b from fun _ _=>rfl,dtx]
  obtain ⟨r,hr,_⟩:=Zo4 (s:=txt (Lib.itoa l++47::Lib.itoa d)) (by rw [Zo]; simp; omega)
  have rt:Zat (txt (Lib.itoa l++47::Lib.itoa d))=some ⟨l,d⟩:=by
   have e2:ZX (txt (Lib.itoa l++47::Lib.itoa d)) 47=_:=ZdP (c:=47) (L:=Lib.itoa l++47::Lib.itoa d) (by simp; omega)
   rw [Za0 hq,ZbZ hq2] at e2
   unfold Zat
   rw [e2]
   simp [show ∀ a b:ByteArray,getI [a,b] 0=some a from fun _ _=>rfl,show ∀ a b:ByteArray,getI [a,b] 1=some b from fun _ _=>rfl,ZdL (n:=l) (by omega) (by omega),ZdL (n:=d) (by omega) (by omega)]
  simp [hr,rt,f2,hs,Zu,dtx]
theorem ZvY {p:Zi} {n:Int} (g:Zpo p n) (hi:Zap ⟨1,p,0,0,0,⟨0,0⟩⟩=some true) (hs:Zaj ⟨1,p,0,0,0,⟨0,0⟩⟩=some true):∃ s,RT ⟨1,p,0,0,0,⟨0,0⟩⟩ s:=by
 have et:∀ l:List UInt8,(⟨l.toArray⟩:ByteArray)=txt l:=fun _=>rfl
 have hl:=ZmC g
 obtain ⟨r1,r2⟩:=Zrz g
 have f1:Zq ⟨1,p,0,0,0,⟨0,0⟩⟩=some (txt ([116,97,107,101]++32::Zdz p n)):=by
  unfold Zq
  simp only [hi,Option.bind_some,Bool.not_true,cond_false,Int.reduceEq,decide_true,decide_false,cond_true,et,ZaY,g.fi]
  repeat rw [bOk (by simp only [Zo,List.length_append,List.length_cons,List.length_nil]; omega),Option.bind_some]
  simp
 have f2:ZF ⟨1,p,0,0,0,⟨0,0⟩⟩=some (txt ([116,97,107,101]++32::Zdz p n)):=by
  unfold ZF
  simp only [hs,Option.bind_some,Bool.not_true,cond_false,Int.reduceEq,decide_true,decide_false,cond_true,et,ZaY,g.fs]
  repeat rw [bOk (by simp only [Zo,List.length_append,List.length_cons,List.length_nil]; omega),Option.bind_some]
  simp
 have ne:decide (txt ([116,97,107,101]++32::Zdz p n)=⟨#[]⟩)=false:=by rw [dtx]; exact decide_eq_false (by simp)
 refine ⟨txt ([116,97,107,101]++32::Zdz p n),f1,f2,ne,?_,?_⟩
 ·have e1:=Zji (c:=32) (a:=[116,97,107,101]) (b:=Zdz p n) (by decide) (by simp; omega)
  unfold Z4
  rw [show (⟨#[32]⟩:ByteArray)=txt [32] from rfl,e1]
  simp only [Zey,Option.bind_some,dtx]
  simp only [Option.bind_some,r1,Zu,ne]
  simp [f1,Zu]
 ·have e1:ZX (txt ([116,97,107,101]++32::Zdz p n)) 32=_:=ZdP (c:=32) (L:=[116,97,107,101]++32::Zdz p n) (by simp; omega)
  rw [Za0 (by decide),ZkI g] at e1
  unfold Zau
  rw [e1]
  simp only [Zey,Option.bind_some,List.map_cons,List.map_nil,show ∀ a b c d e f:ByteArray,getI [a,b,c,d,e,f] 0=some a from fun _ _ _ _ _ _=>rfl,show ∀ a b c d e f:ByteArray,getI [a,b,c,d,e,f] 1=some b from fun _ _ _ _ _ _=>rfl,show ∀ a b c d e f:ByteArray,getI [a,b,c,d,e,f] 2=some c from fun _ _ _ _ _ _=>rfl,show ∀ a b c d e f:ByteArray,getI [a,b,c,d,e,f] 3=some d from fun _ _ _ _ _ _=>rfl,show ∀ a b c d e f:ByteArray,getI [a,b,c,d,e,f] 4=some e from fun _ _ _ _ _ _=>rfl,show ∀ a b c d e f:ByteArray,getI [a,b,c,d,e,f] 5=some f from fun _ _ _ _ _ _=>rfl,dtx]
  obtain ⟨r,hr,_⟩:=Zo4 (s:=txt (labT p.label n)) (by rw [Zo]; have:=Zle g.lab ⟨g.n0,g.n1⟩; omega)
  have hsz:(txt ([116,97,107,101]++32::Zdz p n)).size=5+(Zdz p n).length:=by rw [Zo]; simp; omega
  have hsub:subS (txt ([116,97,107,101]++32::Zdz p n)) 5 ((5+(Zdz p n).length:Nat):Int)=txt (Zdz p n):=by
   have:=ZlJ (a:=[116,97,107,101,32]) (b:=Zdz p n) (c:=[]) (i:=5) (j:=5+(Zdz p n).length) rfl rfl
   simpa using this
  have hsl:chk (slOk 5 ((5+(Zdz p n).length:Nat):Int) ((5+(Zdz p n).length:Nat):Int))=some ():=Zff (decide_eq_true ⟨by omega,by omega,by omega⟩)
  have hlt:decide ((5:Int)<((5+(Zdz p n).length:Nat):Int))=true:=decide_eq_true (by have:0<(Zdz p n).length:=(by unfold Zdz; simp; omega); omega)
  rw [hsz]
  simp only [hr,hlt,hsl,hsub,r2,Option.bind_some]
  simp [hr,f2,hs,Zu,dtx]
theorem Zwf {a:YAct} (hF:ActF a) (hi:Zap a=some true) (hs:Zaj a=some true):∃ s,RT a s:=by
 cases hF with
 | take p n h=>exact ZvY h hi hs
 | pay o m h h2=>exact ZwW h h2 hi hs
 | run u h=>exact ZwX h hi hs
 | shut l d h h2=>exact ZvX h h2 hi hs
 | retry=>exact ZtL hi hs
 | refund o h=>exact Zr7 h hi hs
theorem Zip (c:UInt8):∀ l:List UInt8,(Zdo c l).length≤l.length+1∧0<(Zdo c l).length
 | []=>by simp [Zdo]
 | x::xs=>by
  have:=Zip c xs
  unfold Zdo
  split
  ·simp; omega
  ·cases h:Zdo c xs with
   | nil=>rw [h] at this; simp at this
   | cons p ps=>rw [h] at this; simp at this ⊢; omega
theorem ZkS (c:UInt8):∀ (l p:List UInt8),p∈Zdo c l→p.length≤l.length
 | [],p,h=>by simp [Zdo] at h; simp [h]
 | x::xs,p,h=>by
  have ih:=ZkS c xs
  unfold Zdo at h
  split at h
  ·rcases List.mem_cons.1 h with rfl | h
   ·simp
   ·have:=ih p h; simp; omega
  ·cases hs:Zdo c xs with
   | nil=>have:=(Zip c xs).2; rw [hs] at this; simp at this
   | cons q qs=>
    rw [hs] at h ih
    rcases List.mem_cons.1 h with rfl | h
    ·have:=ih q (by simp); simp; omega
    ·have:=ih p (by simp [h]); simp; omega
structure ZuG (s:ByteArray) (l:List ByteArray):Prop where
 pos:0<l.length
 len:l.length≤s.size+1
 mem:∀ y∈l,y.size≤s.size
theorem Zts (s:ByteArray) (c:UInt8):ZuG s ((Zdo c s.data.toList).map txt):=by
 have hs:s.data.toList.length=s.size:=by rw [Array.length_toList]; rfl
 have h:=Zip c s.data.toList
 refine ⟨by simpa using h.2,by rw [List.length_map]; omega,fun y hy=>?_⟩
 obtain ⟨p,hp,rfl⟩:=List.mem_map.1 hy
 have:=ZkS c _ p hp
 rw [Zo]; omega
theorem Zm6 {s:ByteArray} (hs:s.size≤100000000) (c:UInt8):∃ l,Zbq s (txt [c])=some l∧ZuG s l:=by
 have:=ZlD (c:=c) (L:=s.data.toList) (by rw [Array.length_toList]; exact hs)
 rw [Zge] at this
 exact ⟨_,this,Zts s c⟩
theorem ZpO {PI:ByteArray→Option (Int × Bool)} {body:Int × List Int→Option ((Int × List Int) ⊕ List Int)} {l:List ByteArray}
 (hb:∀ i o,body (i,o)=cond (decide (i<(l.length:Int))) ((getI l i).bind fun y=>(PI y).bind fun z=>(chk (Z9 ((o:List Int).length+([z.1]:List Int).length) 8)).bind fun _=>some (.inl (w64 (i+1),o++[z.1]))) (some (.inr o)))
 (hPI:∀ y∈l,∃ r,PI y=some r∧in64 r.1) (hl:l.length≤2000000):∃ o,Zj body NN (0,[])=some o∧o.length≤l.length∧∀ x∈o,in64 x:=by
 have key:∀ (k i N:Nat) (o:List Int),i+k=l.length→k<N→o.length=i→(∀ x∈o,in64 x)→∃ o',Zj body N ((i:Int),o)=some o'∧o'.length≤l.length∧∀ x∈o',in64 x:=by
  intro k
  induction k with
  | zero=>
   intro i N o hi hN ho hx
   obtain ⟨N,rfl⟩:∃ M,N=M+1:=⟨N-1,by omega⟩
   refine ⟨o,?_,by omega,hx⟩
   rw [itr (o:=o)]
   rw [hb,decide_eq_false (by omega)]; rfl
  | succ k ih=>
   intro i N o hi hN ho hx
   obtain ⟨N,rfl⟩:∃ M,N=M+1:=⟨N-1,by omega⟩
   have hg:l[i]?=some l[i]:=List.getElem?_eq_getElem (by omega)
   obtain ⟨r,hr,hr2⟩:=hPI _ (List.getElem_mem (by omega:i<l.length))
   rw [itl (s':=(((i+1:Nat):Int),o++[r.1]))]
   ·refine ih (i+1) N _ (by omega) (by omega) (by simp; omega) fun x hx'=>?_
    rcases List.mem_append.1 hx' with h | h
    ·exact hx x h
    ·rw [List.mem_singleton.1 h]; exact hr2
   ·rw [hb,decide_eq_true (by omega),cond_true,Zx,hg,Option.bind_some,hr,Option.bind_some,appI (by simp; omega),Option.bind_some,Z8 (n:=l.length) (by omega) (by omega)]
 exact key l.length 0 NN [] (by omega) (by unfold NN; omega) rfl (by simp)
theorem zPI:ZhY zP:=⟨by decide,by decide,by decide,by decide,by decide,by decide,by simp,by decide⟩
theorem getS {l:List ByteArray} {s:ByteArray} {k:Nat} (h:ZuG s l) (hk:k<l.length):∃ y,getI l (k:Int)=some y∧y.size≤s.size∧y∈l:=by
 have hg:l[k]?=some l[k]:=List.getElem?_eq_getElem hk
 exact ⟨_,by rw [Zx,hg],h.mem _ (List.getElem_mem hk),List.getElem_mem hk⟩
theorem ZnR {s:ByteArray} (hs:s.size≤1048576):∃ r:Zi × Bool,Zay s=some r∧ZhY r.1:=by
 obtain ⟨l,hl,hP⟩:=Zm6 (s:=s) (by omega) 32
 unfold Zay
 rw [show (⟨#[32]⟩:ByteArray)=txt [32] from rfl,show (⟨#[120]⟩:ByteArray)=txt [120] from rfl,hl,Option.bind_some]
 by_cases h5:l.length=5
 ·obtain ⟨y0,g0,z0,_⟩:=getS hP (k:=0) (by omega)
  obtain ⟨y1,g1,z1,_⟩:=getS hP (k:=1) (by omega)
  obtain ⟨y2,g2,z2,_⟩:=getS hP (k:=2) (by omega)
  obtain ⟨y3,g3,z3,_⟩:=getS hP (k:=3) (by omega)
  obtain ⟨y4,g4,z4,_⟩:=getS hP (k:=4) (by omega)
  obtain ⟨a,ha,a1,a2,a3⟩:=Zpy (s:=y0) (by omega)
  obtain ⟨b,hb,b1⟩:=ZfC (s:=y2) (by omega)
  obtain ⟨c,hc,c1⟩:=ZfC (s:=y4) (by omega)
  obtain ⟨l2,hl2,hP2⟩:=Zm6 (s:=y3) (by omega) 120
  obtain ⟨o,ho,o1,o2⟩:=ZpO (PI:=ZK) (body:=ZaW s y1 a b c l2) (l:=l2) (fun i o=>rfl) (fun y hy=>ZfC (by have:=hP2.mem y hy; omega)) (by have:=hP2.len; omega)
  have hI:ZhY ⟨a.1,y1,b.1,o,c.1⟩:=⟨a1,a2,by simp only; omega,by simp only; omega,b1,by have:=hP2.len; simp only; omega,o2,c1⟩
  obtain ⟨t,_,f1,_⟩:=ZjN hI
  have e0:getI l 0=some y0:=g0
  have e1:getI l 1=some y1:=g1
  have e2:getI l 2=some y2:=g2
  have e3:getI l 3=some y3:=g3
  have e4:getI l 4=some y4:=g4
  simp only [show decide ((l.length:Int)=5)=true from decide_eq_true (by omega),Bool.not_true,cond_false,e0,e1,e2,e3,e4,Option.bind_some,ha,hb,hc,hl2,ho,f1]
  cases decide (s=⟨#[]⟩) with
  | true=>exact ⟨_,rfl,zPI⟩
  | false=>
   cases decide (txt t=s) with
   | true=>exact ⟨_,rfl,hI⟩
   | false=>exact ⟨_,rfl,zPI⟩
 ·rw [decide_eq_false (by omega)]
  exact ⟨_,rfl,zPI⟩
theorem ZsA {s:ByteArray} (hs:s.size≤1048576):∃ r:Zg × Bool,ZbP s=some r∧in64 r.1.leg∧in64 r.1.day:=by
 have hz:s.data.toList.length=s.size:=by rw [Array.length_toList]; rfl
 unfold ZbP Zaw
 rw [if_pos (by omega),Option.bind_some]
 have hc:∃ a b d,Lib.cut s.data.toList (⟨#[47]⟩:ByteArray).data.toList=(a,b,d)∧a.length≤s.size∧b.length≤s.size:=by
  rcases ZiZ 47 s.data.toList with h | ⟨a,b,e,h⟩
  ·exact ⟨_,_,_,ZqM h,by omega,by simp⟩
  ·rw [e] at hz
   simp at hz
   exact ⟨a,b,true,by rw [e]; exact Znm h,by omega,by omega⟩
 obtain ⟨a,b,d,e,ha,hb⟩:=hc
 obtain ⟨x,hx,x1⟩:=ZfC (s:=txt a) (by rw [Zo]; omega)
 obtain ⟨y,hy,y1⟩:=ZfC (s:=txt b) (by rw [Zo]; omega)
 simp only [e,hx,hy,Option.bind_some]
 cases d with
 | false=>exact ⟨_,rfl,x1,y1⟩
 | true=>cases x.2 <;> exact ⟨_,rfl,x1,y1⟩
def mkA (z:Int × Int × Int × ByteArray × ByteArray × Int × Int × Int × Int × Int × Int × Int × List Int):YAct:=⟨z.1,⟨⟨z.2.1,z.2.2.1,z.2.2.2.1⟩,z.2.2.2.2.1,z.2.2.2.2.2.1,z.2.2.2.2.2.2.2.2.2.2.2.2,z.2.2.2.2.2.2.1⟩,z.2.2.2.2.2.2.2.1,z.2.2.2.2.2.2.2.2.1,z.2.2.2.2.2.2.2.2.2.1,⟨z.2.2.2.2.2.2.2.2.2.2.1,z.2.2.2.2.2.2.2.2.2.2.2.1⟩⟩
abbrev ZT:=Int × Int × Int × ByteArray × ByteArray × Int × Int × Int × Int × Int × Int × Int × List Int
def TZ (x:Option (ZT ⊕ Empty)):Prop:=∃ z,x=some (.inl z)∧ActI (mkA z)
theorem Zir {b:Bool} {x y:Option (ZT ⊕ Empty)} (h1:b=true→TZ x) (h2:b=false→TZ y):TZ (cond b x y):=by
 cases b
 ·exact h2 rfl
 ·exact h1 rfl
theorem Zht {α:Type} {m:Option α} {a:α} {f:α→Option (ZT ⊕ Empty)} (h:m=some a) (h1:TZ (f a)):TZ (m.bind f):=by rw [h]; exact h1
theorem z64:in64 0:=by decide
theorem tz_z {k o m u l d:Int} (h1:in64 o) (h2:in64 m) (h3:in64 u) (h4:in64 l) (h5:in64 d):TZ (some (.inl (k,0,0,⟨#[]⟩,⟨#[]⟩,0,0,o,m,u,l,d,[]))):=⟨_,rfl,zPI,h1,h2,h3,h4,h5⟩
theorem tz_p {p:Zi} (h:ZhY p):TZ (some (.inl (1,p.label.service,p.label.serial,p.label.to_,p.from_,p.weight,p.value,0,0,0,0,0,p.sides))):=⟨_,rfl,h,z64,z64,z64,z64,z64⟩
theorem ZqN {s:ByteArray} (hs:s.size≤1048576) (c:UInt8):∃ r:ByteArray × ByteArray × Bool,Zaw s (txt [c])=some r∧r.1.size≤1048576∧r.2.1.size≤1048576:=by
 have hz:s.data.toList.length=s.size:=by rw [Array.length_toList]; rfl
 unfold Zaw
 rw [if_pos (by omega),ZiS]
 rcases ZiZ c s.data.toList with h | ⟨a,b,e,h⟩
 ·rw [ZqM h]; exact ⟨_,rfl,by simp only [Zo]; omega,by simp [Zo]⟩
 ·rw [e] at hz
  simp at hz
  rw [e,Znm h]
  exact ⟨_,rfl,by simp only [Zo]; omega,by simp only [Zo]; omega⟩
def Ans (F:YAct→Option ByteArray) (s:ByteArray) (r:YAct × Bool):Prop:=r=(zA,false)∨(r.2=true∧ActI r.1∧F r.1=some s)
theorem Zpx {s:ByteArray} (hs:s.size≤1048576):∃ r,Z4 s=some r∧Ans Zq s r∧(r.2=true→decide (s=⟨#[]⟩)=false):=by
 obtain ⟨c,hc,c1,c2⟩:=ZqN hs 32
 obtain ⟨p,hp,p1⟩:=ZnR (s:=c.2.1) c2
 obtain ⟨e,he,e1,e2⟩:=ZqN (s:=c.2.1) c2 32
 obtain ⟨i1,hi1,i1'⟩:=ZfC (s:=e.1) (by omega)
 obtain ⟨i2,hi2,i2'⟩:=ZfC (s:=e.2.1) (by omega)
 obtain ⟨i3,hi3,i3'⟩:=ZfC (s:=c.2.1) (by omega)
 obtain ⟨t,ht,t1,t2⟩:=ZsA (s:=c.2.1) c2
 unfold Z4
 rw [show (⟨#[32]⟩:ByteArray)=txt [32] from rfl,hc,Option.bind_some]
 simp only [Zey]
 have key:∀ (x:Option (ZT ⊕ Empty)) (K:ZT→Option (YAct × Bool)),TZ x→(∀ z,K z=cond (decide (s=⟨#[]⟩)) (some (zA,false)) ((Zq (mkA z)).bind fun y10=>cond (!decide (y10=s)) (some (zA,false)) (some (mkA z,true))))→
  ∃ r,x.bind (Zu K fun r=>nomatch r)=some r∧Ans Zq s r∧(r.2=true→decide (s=⟨#[]⟩)=false):=by
  rintro x K ⟨z,rfl,hI⟩ hK
  obtain ⟨b,f1,f2⟩:=ZsO hI
  show ∃ r,K z=some r∧_
  rw [hK,f1,Option.bind_some]
  cases hd:decide (s=⟨#[]⟩) with
  | true=>exact ⟨_,rfl,.inl rfl,fun h=>by cases h⟩
  | false=>
   cases hq:decide (b=s) with
   | false=>exact ⟨_,rfl,.inl rfl,fun h=>by cases h⟩
   | true=>exact ⟨_,rfl,.inr ⟨rfl,hI,by rw [f1,of_decide_eq_true hq]⟩,fun _=>rfl⟩
 refine key _ _ ?_ fun z=>rfl
 refine Zir (fun _=>Zht hp (tz_p p1)) fun _=>Zir (fun _=>Zht he (Zht hi1 (Zht hi2 (tz_z i1' i2' z64 z64 z64)))) fun _=>Zir (fun _=>Zht hi3 (tz_z z64 z64 i3' z64 z64)) fun _=>Zir (fun _=>Zht ht (tz_z z64 z64 z64 t1 t2)) fun _=>Zir (fun _=>tz_z z64 z64 z64 z64 z64) fun _=>Zir (fun _=>Zht hi3 (tz_z i3' z64 z64 z64 z64)) fun _=>tz_z z64 z64 z64 z64 z64
end Go.Proofs.YtkfbakhnpfmfmaaGreatDoor
