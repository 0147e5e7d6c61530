/- A part of the proof of the statement in the last file of this claim: texts on the language of the program and on its functions. No condition. -/
import Derived.Test.YtgdcengoopjplaaGreatDoorCFormatJournal6
import Derived.Test.YtgdcengoopjplaaGreatDoorCFormatJournal3
namespace Go.Proofs.YtgdcengoopjplaaGreatDoor
set_option maxRecDepth 10000
open Go.RowKit
set_option linter.unusedVariables false
set_option linter.unusedSimpArgs false
theorem ZkU {a:YAct} (ok:okAct a) (ht:Zas a≤1048576):ActI a:=by
 have e1:Zas a=ZA a.parcel:=rfl
 have e2:ZA a.parcel=Zad a.parcel.label+a.parcel.from_.size+a.parcel.sides.length:=rfl
 have e3:Zad a.parcel.label=a.parcel.label.to_.size:=rfl
 obtain ⟨o1,⟨⟨p1,p2,p3⟩,p4,p5,p6,p7⟩,o2,o3,o4,o5,o6⟩:=ok
 exact ⟨⟨Zbr p1,Zbr p2,by omega,by omega,Zbr p5,by omega,fun x hx=>Zbr (p6.2 x hx),Zbr p7⟩,Zbr o2,Zbr o3,Zbr o4,Zbr o5,Zbr o6⟩
theorem ZfU {l:List YAct} (ok:okS okAct l):Zaa l 1048576=some (-1)∨∃ y,Zaa l 1048576=some y∧¬ y<0∧totS Zas l≤1048576:=by
 rw [ZlU l (by omega) (by omega) ok.1 fun x hx l' g0 g1=>Zm2 x g0 g1 (ok.2 x hx)]
 by_cases h:szTo 1048576 (totS Zas l)<0
 ·left
  unfold szTo at *
  split at h
  ·rw [if_pos (by assumption)]
  ·omega
 ·right
  obtain ⟨h1,_⟩:=ZeI h (by omega)
  exact ⟨_,rfl,h,by omega⟩
theorem lawFnExactFormatJournal (l:List YAct) (ok:okS okAct l):CallOk Tryz.prog 6 [.sl (l.map cAct)] (vb true) []:=by
 refine Zar l ?_
 unfold Zs
 rcases ZfU ok with h | ⟨y,h,h1,ht⟩
 ·rw [h]; rfl
 ·have hlen:=Zg1 Zas l
  have hm:∀ x∈l,Zas x≤1048576:=fun x hx=>by have:=Zky Zas hx; omega
  obtain ⟨b,b1,b2⟩:=Zfe (l:=l) (by omega) fun a ha=>ZkU (ok.2 a ha) (hm a ha)
  have hc:=Zjw l (by omega) fun x hx=>ZkZ x (hm x hx)
  have he:=ZjP l (by omega) fun x hx=>Zle x (hm x hx)
  simp only [h,hc,b1,b2,he,Option.bind_some,decide_eq_false h1,cond_false,Bool.not_true,beq_self_eq_true,decide_true]
end Go.Proofs.YtgdcengoopjplaaGreatDoor
