/- A part of the proof of the statement in the last file of this claim: texts on the language of the program and on its functions. No condition. -/
import Derived.Test.YtkfbakhnpfmfmaaGreatDoorCFnActRead19
import Derived.Test.YtkfbakhnpfmfmaaGreatDoorCFnActRead13
import Derived.Test.YtkfbakhnpfmfmaaGreatDoorCFnActRead10
import Derived.Test.YtkfbakhnpfmfmaaGreatDoorCFnActRead6
import Derived.Test.YtkfbakhnpfmfmaaGreatDoorCFnActRead15
import Derived.Test.YtkfbakhnpfmfmaaGreatDoorCFnActRead14
import Derived.Test.YtkfbakhnpfmfmaaGreatDoorCFnActRead7
set_option linter.unusedVariables false
set_option linter.unusedSimpArgs false
set_option linter.unusedSectionVars false
namespace Go.Proofs.YtkfbakhnpfmfmaaGreatDoor
set_option maxRecDepth 10000
open Go.RowKit
set_option linter.unusedVariables false
set_option linter.unusedSimpArgs false
set_option linter.unusedSectionVars false
def allI {α:Type} (c:Nat→α→Bool):Nat→List α→Bool
 | _,[]=>true
 | i,x::xs=>c i x && allI c (i+1) xs
theorem Zcx {α:Type} {c:Nat→α→Bool}:∀ {xs:List α} {i:Nat},allI c i xs=true↔∀ (j:Nat) (x:α),xs[j]?=some x→c (i+j) x=true
 | [],i=>by simp [allI]
 | x::xs,i=>by
  simp only [allI,Bool.and_eq_true,Zcx]
  constructor
  ·rintro ⟨h1,h2⟩ j y hj
   cases j with
   | zero=>obtain rfl:x=y:=by simpa using hj
           exact h1
   | succ j=>have:=h2 j y (by simpa using hj); rwa [Nat.add_right_comm] at this
  ·intro h
   exact ⟨h 0 x rfl,fun j y hj=>by have:=h (j+1) y (by simpa using hj); rwa [← Nat.add_assoc,Nat.add_right_comm] at this⟩
theorem Zpq {α:Type} {c d:Nat→α→Bool} {xs:List α} {i:Nat} (h:∀ (j:Nat) (x:α),xs[j]?=some x→c (i+j) x=d (i+j) x):allI c i xs=allI d i xs:=by
 rw [Bool.eq_iff_iff,Zcx,Zcx]
 exact ⟨fun H j x hx=>by rw [← h j x hx]; exact H j x hx,fun H j x hx=>by rw [h j x hx]; exact H j x hx⟩
theorem Zex {A α σ γ:Type} {xs:List α} {body:σ→Option (σ ⊕ (γ ⊕ Bool))} (mk:A→Int→σ) (c:Nat→α→Bool) (f:A→α→A) (g:A→γ)
 (h1:∀ a (i:Nat) x,xs[i]?=some x→body (mk a i)=some (if c i x=true then .inl (mk (f a x) ((i+1:Nat):Int)) else .inr (.inr false)))
 (h2:∀ a,body (mk a (xs.length:Int))=some (.inr (.inl (g a)))) (hN:xs.length<NN) (a:A):Zj body NN (mk a 0)=some (if allI c 0 xs=true then .inl (g (xs.foldl f a)) else .inr false):=by
 rw [Zgu mk (fun i a x=>some (if c i x=true then .inl (f a x) else .inr (.inr false))) (fun a=>some (.inl (g a))) (fun a i x hx=>by rw [h1 a i x hx]; cases c i x <;> rfl) (fun a=>by rw [h2 a]; rfl) hN a]
 have key:∀ (xs:List α) (i:Nat) (a:A),runL (fun i a x=>some (if c i x=true then (.inl (f a x):A ⊕ (γ ⊕ Bool)) else .inr (.inr false))) (fun a=>some (.inl (g a))) i xs a=some (if allI c i xs=true then .inl (g (xs.foldl f a)) else .inr false):=by
  intro xs
  induction xs with
  | nil=>intro i a; rfl
  | cons x xs ih=>
   intro i a
   simp only [runL,allI]
   by_cases hcx:c i x=true
   ·simp only [hcx,if_true,Option.bind_some,Zu,ih,Bool.true_and,List.foldl_cons]
   ·simp only [Bool.not_eq_true] at hcx
    simp [hcx]
 exact key xs 0 a
/-! The parts of an order's test. -/
def Ze6 (n:Za) (t:Zg):Bool:=(ZW n t.leg t.day).getD false
def ZcC (n:Za) (t:Zg):ByteArray:=((getI n.legs t.leg).map (·.to_)).getD ⟨#[]⟩
def ZfH (l:List Zg) (t:Zg):Bool:=l.any fun y=>decide (y=t)
theorem ZlL {n:Za} (h:ZbC n) (t:Zg):ZW n t.leg t.day=some (Ze6 n t):=by
 obtain ⟨_,b,hb⟩:=Zhq h t.leg t.day
 unfold Ze6; rw [hb]; rfl
theorem Zdp {n:Za} (h:ZbC n) {t:Zg} (ht:Ze6 n t=true):∃ y,getI n.legs t.leg=some y∧y∈n.legs:=by
 have:=ZlL h t
 rw [ht] at this
 obtain ⟨y,hy⟩:=Zlz h this
 exact ⟨y,hy,ZiY hy⟩
def wayC (w:Ze) (id:Int) (o:Zh) (i:Nat) (t:Zg):Bool:=Ze6 w.network t && Zk0 w.bookings id t o.weight && !(decide (ZcC w.network t=o.to_) && decide (i+1<o.way.length))
def endV (n:Za) (o:Zh):ByteArray:=o.way.foldl (fun _ t=>ZcC n t) o.from_
def ZO (o:Zh):Int:=if o.state=2 then o.gone+1 else o.gone
def ZfW (w:Ze) (i:Nat) (o:Zh):Bool:=
 !decide (idxV (Zf w.network) o.from_<0) && !decide (idxV (Zf w.network) o.to_<0) && !decide (o.from_=o.to_) && (decide (1≤o.service) && decide (o.service≤3)) && (decide (1≤o.weight) && decide (o.weight≤30000)) && (decide (0≤o.at_) && decide (o.at_≤w.now)) && (decide (0≤o.due) && decide (o.due≤200000)) && (decide (0≤o.gone) && decide (o.gone≤(o.way.length:Int))) &&
  allI (wayC w ((i+1:Nat):Int) o) 0 o.way && (Zci w.network o.way o.from_ (endV w.network o) (w64 (o.at_+1))).getD false && (ZP w.network o w.now).getD false && !((o.way.drop (ZO o).toNat).any (ZfH w.closed))
structure WFit (w:Ze):Prop where
 net:ZbC w.network
 orders:w.orders.length≤1048576
 bookings:w.bookings.length≤1048576
 closed:w.closed.length≤1048576
 scans:w.scans.length≤1048576
 skip:w.skip.length≤1048576
 way:∀ o∈w.orders,o.way.length≤1048576
theorem ZkT {n:Za} {o:Zh} (hg:0≤o.gone∧o.gone≤o.way.length) (hl:o.way.length≤1048576) (hw:∀ t∈o.way,∃ y,getI n.legs t.leg=some y) (now:Int):∃ b,ZP n o now=some b:=by
 have hat:∀ (i:Int),0≤i→i<o.way.length→∃ t y,getI o.way i=some t∧getI n.legs t.leg=some y:=by
  intro i h0 h1
  have hlt:i.toNat<o.way.length:=by omega
  obtain ⟨y,hy⟩:=hw o.way[i.toNat] (List.getElem_mem hlt)
  exact ⟨o.way[i.toNat],y,by unfold getI; rw [if_pos h0]; exact List.getElem?_eq_getElem hlt,hy⟩
 have hw1:w64 (o.gone-1)=o.gone-1:=Zn (by omega)
 have hend:o.gone<o.way.length→∃ t s e,getI o.way o.gone=some t∧Zt n t=some s∧Zv n t=some e:=by
  intro h1
  obtain ⟨t,y,ht,hy⟩:=hat o.gone hg.1 h1
  obtain ⟨s,hs⟩:=Zes hy
  obtain ⟨e,he⟩:=Zd8 hy
  exact ⟨t,s,e,ht,hs,he⟩
 unfold ZP
 rw [hw1]
 by_cases h0:0<o.gone
 ·rw [decide_eq_true h0,cond_true]
  obtain ⟨t,y,ht,hy⟩:=hat (o.gone-1) (by omega) (by omega)
  obtain ⟨e,he⟩:=Zd8 hy
  simp only [ht,hy,he,Option.bind_some]
  cases decide (now<e) with
  | true=>exact ⟨_,rfl⟩
  | false=>
   simp only [cond_false]
   by_cases h1:o.gone<o.way.length
   ·obtain ⟨t2,s2,e2,ht2,hs2,he2⟩:=hend h1
    simp only [ht2,hs2,he2,Option.bind_some]
    cases decide (o.state=1) <;> cases decide (o.state=2) <;> cases decide (o.state=3) <;> cases decide (o.place=y.to_) <;> cases decide (y.to_=o.to_) <;> cases decide (o.ended=0) <;> cases decide (o.gone=(o.way.length:Int)) <;> cases decide (o.place=⟨#[]⟩) <;> cases decide (o.gone<(o.way.length:Int)) <;> cases decide (s2≤now) <;> cases decide (o.place=o.to_) <;> exact ⟨_,rfl⟩
   ·rw [decide_eq_true (show o.gone=(o.way.length:Int) by omega),decide_eq_false h1]
    cases decide (o.state=1) <;> cases decide (o.state=2) <;> cases decide (o.state=3) <;> cases decide (o.place=y.to_) <;> cases decide (y.to_=o.to_) <;> cases decide (o.ended=0) <;> cases decide (o.place=⟨#[]⟩) <;> cases decide (o.place=o.to_) <;> exact ⟨_,rfl⟩
 ·rw [decide_eq_false h0,cond_false]
  by_cases h1:o.gone<o.way.length
  ·obtain ⟨t2,s2,e2,ht2,hs2,he2⟩:=hend h1
   simp only [ht2,hs2,he2,Option.bind_some]
   cases decide (o.state=1) <;> cases decide (o.state=2) <;> cases decide (o.state=3) <;> cases decide (o.place=o.from_) <;> cases decide (o.from_=o.to_) <;> cases decide (o.ended=0) <;> cases decide (o.gone=(o.way.length:Int)) <;> cases decide (o.place=⟨#[]⟩) <;> cases decide (o.gone<(o.way.length:Int)) <;> cases decide (s2≤now) <;> cases decide (o.place=o.to_) <;> exact ⟨_,rfl⟩
  ·rw [decide_eq_true (show o.gone=(o.way.length:Int) by omega),decide_eq_false h1]
   cases decide (o.state=1) <;> cases decide (o.state=2) <;> cases decide (o.state=3) <;> cases decide (o.place=o.from_) <;> cases decide (o.from_=o.to_) <;> cases decide (o.ended=0) <;> cases decide (o.place=⟨#[]⟩) <;> cases decide (o.place=o.to_) <;> exact ⟨_,rfl⟩
theorem Znj {w:Ze} (hc:w.closed.length≤1048576) {o:Zh} (hl:o.way.length≤1048576) {k:Int} (h0:0≤k):Zj (Zby w o) NN k=some (if (o.way.drop k.toNat).any (ZfH w.closed)=true then .inr false else .inl ()):=by
 have key:∀ (ts:List Zg) (i N:Nat),o.way.drop i=ts→ts.length<N→Zj (Zby w o) N (i:Int)=some (if ts.any (ZfH w.closed)=true then .inr false else .inl ()):=by
  intro ts
  induction ts with
  | nil=>
   intro i N hd hN
   cases N with
   | zero=>omega
   | succ N=>
    have:o.way.length≤i:=by have:=congrArg List.length hd; simp at this; omega
    simp only [Zj,Zby]
    rw [decide_eq_false (show ¬ (i:Int)<o.way.length by omega)]
    rfl
  | cons t ts ih=>
   intro i N hd hN
   cases N with
   | zero=>simp at hN
   | succ N=>
    have ht:o.way[i]?=some t:=by
     have:=congrArg (fun l:List Zg=>l[0]?) hd
     simpa using this
    have hlt:=(List.getElem?_eq_some_iff.1 ht).1
    have hd':o.way.drop (i+1)=ts:=by
     have:=congrArg (List.drop 1) hd
     simpa [List.drop_drop] using this
    have hg:getI o.way (i:Int)=some t:=by rw [Zx]; exact ht
    simp only [Zj,Zby]
    rw [decide_eq_true (show (i:Int)<o.way.length by omega),cond_true,hg]
    simp only [Option.bind_some]
    rw [Zfp,Zgr hc,Z8 hlt (by omega)]
    have hcd:(w.closed.any fun y=>decide (y=t))=ZfH w.closed t:=rfl
    rw [hcd]
    by_cases hcl:ZfH w.closed t=true
    ·simp [hcl,List.any_cons]
    ·simp only [Bool.not_eq_true] at hcl
     simp only [hcl,List.any_cons,Option.bind_some,cond_false,Zu,Bool.false_or]
     exact ih (i+1) N hd' (by simp at hN; omega)
 have:=key (o.way.drop k.toNat) k.toNat NN rfl (by simp; unfold NN; omega)
 rw [show ((k.toNat:Nat):Int)=k by omega] at this
 exact this
theorem Zk2 {o:Zh} (h:0≤o.gone∧o.gone≤o.way.length) (hl:o.way.length≤1048576):Za3 o=some (ZO o)∧0≤ZO o∧Zf8 o=some (if (o.way.length:Int)<ZO o then (o.way.length:Int) else ZO o):=by
 unfold Za3 Zf8 ZO
 have hw:w64 (o.gone+1)=o.gone+1:=Zn (by omega)
 simp only [hw]
 by_cases h2:o.state=2
 ·rw [decide_eq_true h2,if_pos h2]; exact ⟨rfl,by omega,rfl⟩
 ·rw [decide_eq_false h2,if_neg h2]; exact ⟨rfl,by omega,by rw [if_neg (show ¬ (o.way.length:Int)<o.gone by omega)]; rfl⟩
section
variable {w:Ze} (hf:WFit w) (hb:Zet w.network w.bookings=true)
include hf hb
theorem ZtZ {o:Zh} (hl:o.way.length≤1048576) (i:Nat) (hi:i<1048576):Zj (Zcm w (i:Int) o) NN (o.from_,0)=some (if allI (wayC w ((i+1:Nat):Int) o) 0 o.way=true then .inl (endV w.network o) else .inr false):=by
 refine Zex (A:=ByteArray) (fun a i=>(a,i)) _ (fun _ t=>ZcC w.network t) id (fun a j t ht=>?_) (fun a=>?_) (by unfold NN; omega) o.from_
 ·have hlt:=(List.getElem?_eq_some_iff.1 ht).1
  have hg:getI o.way (j:Int)=some t:=by rw [Zx]; exact ht
  have hj:w64 ((j:Int)+1)=((j+1:Nat):Int):=Z8 hlt (by omega)
  have hi1:w64 ((i:Int)+1)=((i+1:Nat):Int):=by rw [Zn (by omega)]; omega
  unfold Zcm
  simp only [decide_eq_true (show (j:Int)<o.way.length by omega),cond_true,hg,Option.bind_some,hj,hi1,ZlL hf.net,ZsU hf.bookings]
  unfold wayC
  cases ht':Ze6 w.network t with
  | false=>simp
  | true=>
   obtain ⟨y,hy,_⟩:=Zdp hf.net ht'
   have hlt':ZcC w.network t=y.to_:=by unfold ZcC; rw [hy]; rfl
   simp only [hy,Option.bind_some,hlt',Bool.not_true,cond_false]
   cases Zk0 w.bookings ((i+1:Nat):Int) t o.weight with
   | false=>simp
   | true=>
    simp only [Bool.not_true,cond_false,Bool.true_and]
    by_cases h1:y.to_=o.to_
    ·by_cases h2:j+1<o.way.length
     ·simp [h1,h2,show ((j:Int)+1)<o.way.length by omega]
     ·simp [h1,h2,show ¬ ((j:Int)+1)<o.way.length by omega]
    ·simp [h1]
 ·unfold Zcm
  simp
theorem ZsG {o:Zh} (hl:o.way.length≤1048576) {i:Nat} (hg0:0≤o.gone∧o.gone≤o.way.length) (h:allI (wayC w ((i+1:Nat):Int) o) 0 o.way=true):ZP w.network o w.now=some ((ZP w.network o w.now).getD false):=by
 obtain ⟨b,hb'⟩:=ZkT (n:=w.network) hg0 hl (fun t ht=>by
  obtain ⟨j,hj,rfl⟩:=List.getElem_of_mem ht
  have:=Zcx.1 h j _ (List.getElem?_eq_getElem hj)
  unfold wayC at this
  simp only [Bool.and_eq_true] at this
  obtain ⟨y,hy,_⟩:=Zdp hf.net this.1.1
  exact ⟨y,hy⟩) w.now
 rw [hb']; rfl
theorem Zp5 {o:Zh} {i:Nat} (ho:getI w.orders (i:Int)=some o):ZdH w (i:Int)=some (ZfW w i o):=by
 have hl:=hf.way o (ZiY ho)
 have hi:i<1048576:=by have:=(List.getElem?_eq_some_iff.1 (by rw [← Zx]; exact ho)).1; have:=hf.orders; omega
 have hp:=(ZdN hf.net).2
 have hpl:=ZdM w.network
 have hll:=hf.net.legs
 unfold ZdH ZfW
 rw [ho,hp]
 simp only [Option.bind_some,Zac,ZfS (show (Zf w.network).length≤4194304 by omega)]
 cases decide (idxV (Zf w.network) o.from_<0) with
 | true=>rfl
 | false=>
 cases decide (idxV (Zf w.network) o.to_<0) with
 | true=>rfl
 | false=>
 cases decide (o.from_=o.to_) with
 | true=>rfl
 | false=>
 simp only [cond_false,Bool.not_false,Bool.true_and]
 cases decide (1≤o.service) && decide (o.service≤3) with
 | false=>rfl
 | true=>
 cases decide (1≤o.weight) && decide (o.weight≤30000) with
 | false=>rfl
 | true=>
 cases decide (0≤o.at_) && decide (o.at_≤w.now) with
 | false=>rfl
 | true=>
 cases decide (0≤o.due) && decide (o.due≤200000) with
 | false=>rfl
 | true=>
 simp only [cond_false,Bool.not_true,Bool.true_and]
 cases hg:decide (0≤o.gone) && decide (o.gone≤(o.way.length:Int)) with
 | false=>rfl
 | true=>
 simp only [Bool.and_eq_true,decide_eq_true_iff] at hg
 obtain ⟨c1,c2,c3⟩:=Zk2 hg hl
 simp only [Bool.not_true,cond_false,Bool.true_and]
 rw [ZtZ hf hb hl i hi]
 cases hal:allI (wayC w ((i+1:Nat):Int) o) 0 o.way with
 | false=>rfl
 | true=>
 have hst:=ZsG hf hb hl hg hal
 obtain ⟨r,hr⟩:=ZkD hf.net hl o.from_ (endV w.network o) (w64 (o.at_+1))
 simp only [if_true,Option.bind_some,Zu,hr,Option.getD_some,Bool.true_and]
 cases r with
 | false=>rfl
 | true=>
 rw [hst]
 simp only [Option.getD_some]
 cases (ZP w.network o w.now).getD false with
 | false=>rfl
 | true=>
 simp only [Bool.not_true,cond_false,Option.bind_some,c1,Znj hf.closed hl c2,Bool.true_and]
 cases (o.way.drop (ZO o).toNat).any (ZfH w.closed) <;> rfl
end
set_option maxHeartbeats 1000000
def plB (s:ByteArray):Bool:=(Zy s).getD false
theorem Ztt {s:ByteArray} (h:s.size≤B60):Zy s=some (plB s):=by
 obtain ⟨_,b,hb⟩:=Zdq h
 unfold plB; rw [hb]; rfl
theorem ZvM {s:ByteArray} (h:s.size≤B60):Zah s=some (plB s):=(Zdq h).1.trans (Ztt h)
theorem Zv0 (a b:ByteArray):sLe a b=!sLt b a:=by
 have h1:sLe a b=(sLt a b || (a.toList == b.toList)):=rfl
 rw [h1,baB]
 by_cases e:a=b
 ·subst e
  have:=Zr9 a
  simp [this]
 ·rw [decide_eq_false e,Bool.or_false]
  cases h:sLt a b with
  | true=>
   have:=ZuA a b h
   simp [this]
  | false=>
   have:=Zsa (a:=a) (b:=b) (by simp [h]) e
   simp [this]
def Zxb (o:Option Zbg) (z:Zbg):Bool:=match o with
 | some y=>sLt y.last z.first
 | none=>false
theorem ZsM (y z:Zbg):Zxb (some y) z=sLt y.last z.first:=rfl
def Zn9 (l:List Zbg) (i:Nat) (z:Zbg):Bool:=
 plB z.first && (plB z.last && (sLe z.first z.last && (decide (i=0) || Zxb l[i-1]? z)))
def Zj8 (l:List Zbg):Bool:=allI (Zn9 l) 0 l && decide ((l.length:Int)≤8)
def Zgf (l:List Zbg):Prop:=l.length≤1048576∧∀ z∈l,z.first.size≤B60∧z.last.size≤B60
theorem Zi6 {i n:Nat} (h0:0<i) (hi:i<n) (hn:n≤1048576):w64 ((i:Int)-1)=((i-1:Nat):Int):=by
 rw [Zn (by omega)]; omega
theorem ZlN {l:List Zbg} (hf:Zgf l):Zbm l=some (Zj8 l):=by
 have e:Zj (Zcd l) NN 0=some (if allI (Zn9 l) 0 l=true then .inl () else .inr false):=by
  refine Zex (A:=Unit) (fun _ i=>i) _ (fun a _=>a) (fun _=>()) (fun a i z hz=>?_) (fun a=>?_) (by have:=hf.1; unfold NN; omega) ()
  ·have hlt:=(List.getElem?_eq_some_iff.1 hz).1
   have hl:=hf.1
   obtain ⟨p1,p2⟩:=hf.2 z (List.mem_of_getElem? hz)
   have hg:getI l (i:Int)=some z:=by rw [Zx]; exact hz
   have hi:w64 ((i:Int)+1)=((i+1:Nat):Int):=Z8 hlt (by omega)
   unfold Zcd
   simp only [Zey,decide_eq_true (show (i:Int)<l.length by omega),cond_true,hg,Option.bind_some,hi,Ztt p1,Ztt p2]
   unfold Zn9
   by_cases h0:i=0
   ·subst h0
    rw [decide_eq_false (show ¬ (0<((0:Nat):Int)) by omega)]
    cases plB z.first <;> cases plB z.last <;> cases sLe z.first z.last <;> rfl
   ·have hp:=Zi6 (Nat.pos_of_ne_zero h0) hlt hl
    obtain ⟨y,hy⟩:∃ y,l[i-1]?=some y:=⟨_,List.getElem?_eq_getElem (by omega)⟩
    have hgy:getI l ((i-1:Nat):Int)=some y:=by rw [Zx]; exact hy
    rw [decide_eq_true (show 0<(i:Int) by omega),decide_eq_false h0,hp,hgy,hy,ZsM]
    simp only [Option.bind_some]
    cases plB z.first <;> cases plB z.last <;> cases sLe z.first z.last <;> cases sLt y.last z.first <;> rfl
  ·unfold Zcd
   simp
 unfold Zbm Zj8
 rw [e]
 cases allI (Zn9 l) 0 l <;> rfl
theorem ZsL {l:List Zbg} (hf:Zgf l):ZeA l=some (Zj8 l):=by
 have e:Zj (Zdv l) NN 0=some (if allI (Zn9 l) 0 l=true then .inl () else .inr false):=by
  refine Zex (A:=Unit) (fun _ i=>i) _ (fun a _=>a) (fun _=>()) (fun a i z hz=>?_) (fun a=>?_) (by have:=hf.1; unfold NN; omega) ()
  ·have hlt:=(List.getElem?_eq_some_iff.1 hz).1
   have hl:=hf.1
   obtain ⟨p1,p2⟩:=hf.2 z (List.mem_of_getElem? hz)
   have hg:getI l (i:Int)=some z:=by rw [Zx]; exact hz
   have hi:w64 ((i:Int)+1)=((i+1:Nat):Int):=Z8 hlt (by omega)
   unfold Zdv
   simp only [Zey,decide_eq_true (show (i:Int)<l.length by omega),cond_true,hg,Option.bind_some,hi,ZvM p1,ZvM p2]
   unfold Zn9
   by_cases h0:i=0
   ·subst h0
    rw [decide_eq_false (show ¬ (0<((0:Nat):Int)) by omega)]
    cases plB z.first <;> cases plB z.last <;> cases sLe z.first z.last <;> rfl
   ·have hp:=Zi6 (Nat.pos_of_ne_zero h0) hlt hl
    obtain ⟨y,hy⟩:∃ y,l[i-1]?=some y:=⟨_,List.getElem?_eq_getElem (by omega)⟩
    have hgy:getI l ((i-1:Nat):Int)=some y:=by rw [Zx]; exact hy
    rw [decide_eq_true (show 0<(i:Int) by omega),decide_eq_false h0,hp,hgy,hy,ZsM]
    simp only [Option.bind_some,Zv0 z.first y.last]
    cases plB z.first <;> cases plB z.last <;> cases sLe z.first z.last <;> cases sLt y.last z.first <;> rfl
  ·unfold Zdv
   simp
 unfold ZeA Zj8
 rw [e]
 cases allI (Zn9 l) 0 l <;> rfl
def Zg5 (a b:Zai):Bool:=decide (a.zone<b.zone) || (decide (b.zone=a.zone) && (decide (a.service<b.service) || (decide (b.service=a.service) && (decide (a.limit<b.limit) && decide (a.price≤b.price)))))
theorem ZuN (a b:Zai):Zec a b=some (Zg5 a b):=by
 unfold Zec Zg5
 cases decide (a.zone<b.zone) <;> cases decide (b.zone=a.zone) <;> cases decide (a.service<b.service) <;> cases decide (b.service=a.service) <;> cases decide (a.limit<b.limit) <;> rfl
def ZvW (o:Option Zai) (r:Zai):Bool:=match o with
 | some y=>Zg5 y r
 | none=>false
theorem ZnY (y r:Zai):ZvW (some y) r=Zg5 y r:=rfl
def ZmS (l:List Zai) (zones:Int) (i:Nat) (r:Zai):Bool:=
 !decide (r.zone<0) && (!decide (zones≤r.zone) && ((decide (1≤r.service) && decide (r.service≤3)) && ((decide (1≤r.limit) && decide (r.limit≤1000000000)) && ((decide (0≤r.price) && decide (r.price≤100000)) && (decide (i=0) || ZvW l[i-1]? r)))))
def ZjS (l:List Zai) (zones:Int):Bool:=allI (ZmS l zones) 0 l && decide ((l.length:Int)≤24)
theorem ZnX {l:List Zai} {zones:Int} (hl:l.length≤1048576):ZbV l zones=some (ZjS l zones):=by
 have e:Zj (Zcc l zones) NN 0=some (if allI (ZmS l zones) 0 l=true then .inl () else .inr false):=by
  refine Zex (A:=Unit) (fun _ i=>i) _ (fun a _=>a) (fun _=>()) (fun a i z hz=>?_) (fun a=>?_) (by unfold NN; omega) ()
  ·have hlt:=(List.getElem?_eq_some_iff.1 hz).1
   have hg:getI l (i:Int)=some z:=by rw [Zx]; exact hz
   have hi:w64 ((i:Int)+1)=((i+1:Nat):Int):=Z8 hlt (by omega)
   unfold Zcc
   simp only [Zey,decide_eq_true (show (i:Int)<l.length by omega),cond_true,hg,Option.bind_some,hi,Zac]
   unfold ZmS
   generalize (decide (1≤z.service) && decide (z.service≤3))=c1
   generalize (decide (1≤z.limit) && decide (z.limit≤1000000000))=c2
   generalize (decide (0≤z.price) && decide (z.price≤100000))=c3
   by_cases h0:i=0
   ·subst h0
    rw [decide_eq_false (show ¬ (0<((0:Nat):Int)) by omega)]
    cases decide (z.zone<0) <;> cases decide (zones≤z.zone) <;> cases c1 <;> cases c2 <;> cases c3 <;> rfl
   ·have hp:=Zi6 (Nat.pos_of_ne_zero h0) hlt hl
    obtain ⟨y,hy⟩:∃ y,l[i-1]?=some y:=⟨_,List.getElem?_eq_getElem (by omega)⟩
    have hgy:getI l ((i-1:Nat):Int)=some y:=by rw [Zx]; exact hy
    rw [decide_eq_true (show 0<(i:Int) by omega),decide_eq_false h0,hp,hgy,hy,ZnY]
    simp only [Option.bind_some,ZuN]
    cases decide (z.zone<0) <;> cases decide (zones≤z.zone) <;> cases c1 <;> cases c2 <;> cases c3 <;> cases Zg5 y z <;> rfl
  ·unfold Zcc
   simp
 unfold ZbV ZjS
 rw [e]
 cases allI (ZmS l zones) 0 l <;> rfl
theorem ZuL (a b:Zai) (h:¬ (0≤(if cmpI a.zone b.zone≠0 then cmpI a.zone b.zone else if cmpI a.service b.service≠0 then cmpI a.service b.service else cmpI a.limit b.limit))):Zg5 a b=!(decide (a.zone=b.zone) && (decide (a.service=b.service) && decide (b.price<a.price))):=by
 unfold cmpI at h
 unfold Zg5
 rw [Bool.eq_iff_iff]
 simp only [Bool.or_eq_true,Bool.and_eq_true,decide_eq_true_eq,Bool.not_eq_true',Bool.and_eq_false_iff,decide_eq_false_iff_not]
 repeat' split at h
 all_goals omega
theorem ZuM (a b:Zai) (h:0≤(if cmpI a.zone b.zone≠0 then cmpI a.zone b.zone else if cmpI a.service b.service≠0 then cmpI a.service b.service else cmpI a.limit b.limit)):Zg5 a b=false:=by
 unfold cmpI at h
 unfold Zg5
 rw [Bool.eq_false_iff]
 intro h2
 simp only [Bool.or_eq_true,Bool.and_eq_true,decide_eq_true_eq] at h2
 repeat' split at h
 all_goals omega
theorem ZvP {l:List Zai} {zones:Int} (hl:l.length≤1048576):Zfr l zones=some (ZjS l zones):=by
 have e:Zj (Zdu l zones) NN 0=some (if allI (ZmS l zones) 0 l=true then .inl () else .inr false):=by
  refine Zex (A:=Unit) (fun _ i=>i) _ (fun a _=>a) (fun _=>()) (fun a i z hz=>?_) (fun a=>?_) (by unfold NN; omega) ()
  ·have hlt:=(List.getElem?_eq_some_iff.1 hz).1
   have hg:getI l (i:Int)=some z:=by rw [Zx]; exact hz
   have hi:w64 ((i:Int)+1)=((i+1:Nat):Int):=Z8 hlt (by omega)
   unfold Zdu
   simp only [Zey,decide_eq_true (show (i:Int)<l.length by omega),cond_true,hg,Option.bind_some,hi,Zpn]
   unfold ZmS
   generalize (decide (1≤z.service) && decide (z.service≤3))=c1
   generalize (decide (1≤z.limit) && decide (z.limit≤1000000000))=c2
   generalize (decide (0≤z.price) && decide (z.price≤100000))=c3
   by_cases h0:i=0
   ·subst h0
    rw [decide_eq_true (show ((0:Nat):Int)=0 by omega)]
    cases decide (z.zone<0) <;> cases decide (zones≤z.zone) <;> cases c1 <;> cases c2 <;> cases c3 <;> rfl
   ·have hp:=Zi6 (Nat.pos_of_ne_zero h0) hlt hl
    obtain ⟨y,hy⟩:∃ y,l[i-1]?=some y:=⟨_,List.getElem?_eq_getElem (by omega)⟩
    have hgy:getI l ((i-1:Nat):Int)=some y:=by rw [Zx]; exact hy
    rw [decide_eq_false (show ¬ ((i:Int)=0) by omega),decide_eq_false h0,hp,hgy,hy,ZnY]
    simp only [Option.bind_some,Zws,ZwA]
    by_cases hc:0≤(if cmpI y.zone z.zone≠0 then cmpI y.zone z.zone else if cmpI y.service z.service≠0 then cmpI y.service z.service else cmpI y.limit z.limit)
    ·rw [decide_eq_true hc,ZuM y z hc]
     cases decide (z.zone<0) <;> cases decide (zones≤z.zone) <;> cases c1 <;> cases c2 <;> cases c3 <;> rfl
    ·rw [decide_eq_false hc,ZuL y z hc]
     cases decide (z.zone<0) <;> cases decide (zones≤z.zone) <;> cases c1 <;> cases c2 <;> cases c3 <;> cases decide (y.zone=z.zone) <;> cases decide (y.service=z.service) <;> cases decide (z.price<y.price) <;> rfl
  ·unfold Zdu
   simp
 unfold Zfr ZjS
 rw [e]
 cases allI (ZmS l zones) 0 l <;> rfl
theorem Zp9:@Zfb=@ZbB:=by
 funext l q i
 unfold Zfb ZbB
 simp only [Zey]
 cases getI l i <;> rfl
theorem Zng {l:List Zbg} (hl:l.length≤1048576) (q:ByteArray):∃ o,Zj (ZbB l q) NN 0=some o:=by
 refine Zi2 (n:=l.length) (by unfold NN; omega) (fun i hi=>?_) ?_
 ·have hg:getI l (i:Int)=some l[i]:=by rw [Zx]; exact List.getElem?_eq_getElem hi
  have hw:w64 ((i:Int)+1)=((i+1:Nat):Int):=Z8 hi (by omega)
  unfold ZbB
  simp only [Zey,decide_eq_true (show (i:Int)<l.length by omega),cond_true,hg,Option.bind_some,hw]
  cases sLe l[i].first q <;> cases sLe q l[i].last
  ·exact Zn3 rfl
  ·exact Zn3 rfl
  ·exact Zn3 rfl
  ·exact Zm9 rfl
 ·unfold ZbB
  rw [decide_eq_false (by omega)]
  exact ⟨_,rfl⟩
theorem ZsK {l:List Zbg} (hf:Zgf l) {q:ByteArray} (hq:q.size≤B60):Zf7 l q=ZdT l q∧∃ v,ZdT l q=some v:=by
 unfold Zf7 ZdT
 rw [ZsL hf,ZlN hf,Zp9,ZvM hq,Ztt hq]
 refine ⟨rfl,?_⟩
 obtain ⟨o,ho⟩:=Zng hf.1 q
 rw [ho]
 cases Zj8 l <;> cases plB q <;> (try exact ⟨_,rfl⟩)
 cases o <;> exact ⟨_,rfl⟩
theorem ZsF {l:List Int} (h:l.length<NN):Zft l=ZcP l∧∃ v,ZcP l=some v:=by
 unfold Zft ZcP
 rw [ZlK,Zj5 h]
 refine ⟨rfl,?_⟩
 cases ht:Zf1 l with
 | false=>exact ⟨_,rfl⟩
 | true=>
  match l,ZhW ht with
  | [x,y,z],_=>exact ⟨_,rfl⟩
theorem Zqv {p:Zi} (h1:p.label.to_.size≤B60) (h2:p.from_.size≤B60) (h3:p.sides.length<NN):Zc3 p=ZaO p∧∃ v,ZaO p=some v:=by
 obtain ⟨e1,b,hb⟩:=ZfY h1 h2 h3
 obtain ⟨e2,v,hv⟩:=ZsF h3
 unfold Zc3 ZaO
 rw [e1,hb,e2,hv]
 simp only [Option.bind_some]
 generalize IntKind.i64.wrap (Int.tdiv (w64 (v+4999)) 5000)=x
 cases b
 ·exact ⟨rfl,_,rfl⟩
 ·by_cases h:p.weight<x
  ·rw [if_pos h,decide_eq_true h]; exact ⟨rfl,_,rfl⟩
  ·rw [if_neg h,decide_eq_false h]; exact ⟨rfl,_,rfl⟩
theorem ZrK {rates:List Zai} {p:Zi} {z:Int} (hc:Zc3 p=ZaO p):ZeO rates p z=Zbb rates p z:=by
 funext i
 unfold ZeO Zbb
 simp only [Zey,hc]
 cases hg:getI rates i with
 | none=>simp
 | some y=>simp only [Option.bind_some]
theorem ZtD {zones:List Zbg} {rates:List Zai} {p:Zi} (hz:Zgf zones) (hr:rates.length≤1048576) (h1:p.label.to_.size≤B60) (h2:p.from_.size≤B60) (h3:p.sides.length<NN):
 Zha zones rates p=ZbJ zones rates p∧∃ v,ZbJ zones rates p=some v:=by
 obtain ⟨e1,b,hb⟩:=ZfY h1 h2 h3
 obtain ⟨e2,z,hv⟩:=ZsK hz h1
 obtain ⟨e3,cw,hcw⟩:=Zqv h1 h2 h3
 have hL:∃ o,Zj (Zbb rates p z) NN 0=some o:=by
  refine Zi2 (n:=rates.length) (by unfold NN; omega) (fun i hi=>?_) ?_
  ·have hg:getI rates (i:Int)=some rates[i]:=by rw [Zx]; exact List.getElem?_eq_getElem hi
   have hw:w64 ((i:Int)+1)=((i+1:Nat):Int):=Z8 hi (by omega)
   unfold Zbb
   simp only [Zey,decide_eq_true (show (i:Int)<rates.length by omega),cond_true,hg,Option.bind_some,hw,hcw]
   cases decide (rates[i].zone=z) <;> cases decide (rates[i].service=p.label.service) <;> cases decide (cw≤rates[i].limit) <;> (first | exact Zn3 rfl | exact Zm9 rfl)
  ·unfold Zbb
   rw [decide_eq_false (by omega)]
   exact ⟨_,rfl⟩
 obtain ⟨o,ho⟩:=hL
 unfold Zha ZbJ
 rw [ZsL hz,ZlN hz,ZvP hr,ZnX hr,e1,e2,hb,hv]
 simp only [Option.bind_some,ZrK e3,ho]
 refine ⟨trivial,?_⟩
 cases Zj8 zones
 ·exact ⟨_,rfl⟩
 cases ZjS rates (zones.length:Int)
 ·exact ⟨_,rfl⟩
 cases b
 ·exact ⟨_,rfl⟩
 cases o <;> exact ⟨_,rfl⟩
def Zni (w:Ze) (i:Nat) (t:Zg):Bool:=Ze6 w.network t && !ZfH (w.closed.take i) t
def Zsb (w:Ze) (i:Nat) (s:ZU):Bool:=(Z6 w.network s).getD false && !decide (w.now<s.at_)
def ZkV (w:Ze):Int:=w.orders.foldl (fun a o=>w64 (a+(o.way.length:Int))) 0
def Zcw (w:Ze):Bool:=
 Zet w.network w.bookings && (decide (0≤w.now) && decide (w.now≤100000)) && !decide (30<(w.orders.length:Int)) && !decide (20<(w.closed.length:Int)) && !decide (200<(w.scans.length:Int)) && !decide (50<(w.skip.length:Int)) && (decide ((w.scans.length:Int)≤w.made) && decide (w.made≤1000000000)) &&
  allI (Zni w) 0 w.closed && allI (Zsb w) 0 w.scans && allI (ZfW w) 0 w.orders && decide (ZkV w=(w.bookings.length:Int))
theorem Zsv {α:Type} (xs:List α) (i:Nat):subL xs 0 (i:Int)=xs.take i:=by simp [subL]
section
variable {w:Ze} (hf:WFit w) (hb:Zet w.network w.bookings=true)
include hf
theorem Zw2 (s:ZU):Z6 w.network s=some ((Z6 w.network s).getD false):=by
 obtain ⟨b,h⟩:=Zjy hf.net s
 rw [h]; rfl
theorem Znk:Zj (ZcL w) NN 0=some (if allI (Zni w) 0 w.closed=true then .inl () else .inr false):=by
 refine Zex (A:=Unit) (fun _ i=>i) _ (fun a _=>a) id (fun a i t ht=>?_) (fun a=>?_) (by have:=hf.closed; unfold NN; omega) ()
 ·have hlt:=(List.getElem?_eq_some_iff.1 ht).1
  have hcl:=hf.closed
  have hg:getI w.closed (i:Int)=some t:=by rw [Zx]; exact ht
  have hi:w64 ((i:Int)+1)=((i+1:Nat):Int):=Z8 hlt (by omega)
  have hs:chk (slOk 0 (i:Int) w.closed.length)=some ():=Zff (by unfold slOk; rw [decide_eq_true_iff]; omega)
  unfold ZcL
  simp only [decide_eq_true (show (i:Int)<w.closed.length by omega),cond_true,hg,Option.bind_some,hi,hs,ZlL hf.net,Zsv,Zfp,Zgr (show (w.closed.take i).length≤1048576 by simp; omega)]
  unfold Zni
  have hcd:((w.closed.take i).any fun y=>decide (y=t))=ZfH (w.closed.take i) t:=rfl
  rw [hcd]
  cases Ze6 w.network t <;> cases ZfH (w.closed.take i) t <;> rfl
 ·unfold ZcL
  simp
theorem Zp4:Zj (ZcM w) NN 0=some (if allI (Zsb w) 0 w.scans=true then .inl () else .inr false):=by
 refine Zex (A:=Unit) (fun _ i=>i) _ (fun a _=>a) id (fun a i s hs=>?_) (fun a=>?_) (by have:=hf.scans; unfold NN; omega) ()
 ·have hlt:=(List.getElem?_eq_some_iff.1 hs).1
  have hcl:=hf.scans
  have hg:getI w.scans (i:Int)=some s:=by rw [Zx]; exact hs
  have hi:w64 ((i:Int)+1)=((i+1:Nat):Int):=Z8 hlt (by omega)
  unfold ZcM
  rw [decide_eq_true (show (i:Int)<w.scans.length by omega),cond_true,hg]
  simp only [Option.bind_some]
  rw [Zw2 hf s]
  simp only [Option.bind_some,hi]
  unfold Zsb
  cases (Z6 w.network s).getD false <;> cases decide (w.now<s.at_) <;> rfl
 ·unfold ZcM
  simp
include hb
theorem ZnL:Zj (ZcN w) NN (0,0)=some (if allI (ZfW w) 0 w.orders=true then .inl (ZkV w) else .inr false):=by
 refine Zex (A:=Int) (fun a i=>(a,i)) _ (fun a (o:Zh)=>w64 (a+(o.way.length:Int))) id (fun a i o ho=>?_) (fun a=>?_) (by have:=hf.orders; unfold NN; omega) 0
 ·have hlt:=(List.getElem?_eq_some_iff.1 ho).1
  have hcl:=hf.orders
  have hg:getI w.orders (i:Int)=some o:=by rw [Zx]; exact ho
  have hi:w64 ((i:Int)+1)=((i+1:Nat):Int):=Z8 hlt (by omega)
  unfold ZcN
  simp only [decide_eq_true (show (i:Int)<w.orders.length by omega),cond_true,hg,Option.bind_some,hi,Zp5 hf hb hg]
  cases ZfW w i o <;> rfl
 ·unfold ZcN
  simp
end
theorem ZnD {γ:Type} {b:Bool} {x:γ} {K:γ→Option Bool} {r:Bool} (h:b=true→K x=some r) (h':b=false→r=false):(some (if b=true then (Sum.inl x:γ ⊕ Bool) else .inr false)).bind (Zu K (fun r=>some r))=some r:=by
 cases b with
 | true=>exact h rfl
 | false=>rw [h' rfl]; rfl
theorem Zev {w:Ze} (hf:WFit w):ZaI w=some (Zcw w):=by
 unfold ZaI Zcw
 rw [ZeV hf.net hf.bookings]
 simp only [Option.bind_some,Zac]
 cases hb:Zet w.network w.bookings with
 | false=>rfl
 | true=>
 cases decide (0≤w.now) && decide (w.now≤100000) with
 | false=>rfl
 | true=>
 cases decide (30<(w.orders.length:Int)) with
 | true=>rfl
 | false=>
 cases decide (20<(w.closed.length:Int)) with
 | true=>rfl
 | false=>
 cases decide (200<(w.scans.length:Int)) with
 | true=>rfl
 | false=>
 cases decide (50<(w.skip.length:Int)) with
 | true=>rfl
 | false=>
 cases decide ((w.scans.length:Int)≤w.made) && decide (w.made≤1000000000) with
 | false=>rfl
 | true=>
 simp only [Bool.not_true,Bool.not_false,cond_false,Bool.true_and]
 rw [Znk hf,Zp4 hf,ZnL hf hb]
 refine ZnD (fun h1=>?_) (fun h1=>by rw [h1]; rfl)
 refine ZnD (fun h2=>?_) (fun h2=>by rw [h1,h2]; rfl)
 refine ZnD (fun h3=>?_) (fun h3=>by rw [h1,h2,h3]; rfl)
 rw [h1,h2,h3]; rfl
theorem Zhu {w:Ze} (h:Zcw w=true) {i:Nat} {o:Zh} (ho:w.orders[i]?=some o):ZfW w i o=true:=by
 unfold Zcw at h
 simp only [Bool.and_eq_true] at h
 have:=Zcx.1 h.1.2 i o ho
 rwa [Nat.zero_add] at this
theorem Zj7 {w:Ze} (h:Zcw w=true):Zet w.network w.bookings=true:=by
 unfold Zcw at h
 simp only [Bool.and_eq_true] at h
 exact h.1.1.1.1.1.1.1.1.1.1
end Go.Proofs.YtkfbakhnpfmfmaaGreatDoor
