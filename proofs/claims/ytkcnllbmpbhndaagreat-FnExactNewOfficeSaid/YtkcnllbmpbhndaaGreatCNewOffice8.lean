/- A part of the proof of the statement in the last file of this claim: texts on the language of the program and on its functions. No condition. -/
import Derived.Test.YtkcnllbmpbhndaaGreatCNewOffice4
import Derived.Test.YtkcnllbmpbhndaaGreatCNewOffice5
import Derived.Test.YtkcnllbmpbhndaaGreatCNewOffice6
import Derived.Test.YtkcnllbmpbhndaaGreatCNewOffice7
import Derived.Test.YtkcnllbmpbhndaaGreatProg
import Derived.Laws.BytesArg
namespace Go.Proofs.YtkcnllbmpbhndaaGreat
set_option maxRecDepth 10000
open Go.RowKit
set_option linter.unusedVariables false
set_option maxHeartbeats 16000000
def Zcc (a:List YRate) (b:List YRate) (s0:Int):Option (Int ⊕ (Unit ⊕ Bool)):=
 cond (decide (s0<(a.length:Int)))
 ((getI a s0).bind fun y1=>
 (getI b s0).bind fun y2=>
 (Zdv y1 y2).bind fun y3=>
 cond (!y3)
 (some (.inr (.inr false)))
 (some (.inl (w64 (s0+1)))))
 (some (.inr (.inl ())))
instance (a:List YRate) (b:List YRate):Zo (Zcc a b):=⟨fun s0=>(.sl (a.map cRate)::.sl (b.map cRate)::(U 3 (vi s0::(U 21 [])))),fun s0=>[]⟩
def Zc3 (a:List YRate) (b:List YRate):Option Bool:=
 cond (!decide ((a.length:Int)=(b.length:Int)))
 (some false)
 ((Zc (Zcc a b) NN 0).bind (Zp (fun o0=>
 some true) (fun r=>some r)))
instance (a:List YRate) (b:List YRate):CT Tryz.prog (Zc3 a b):=⟨17,[.sl (a.map cRate),.sl (b.map cRate)],[],fun r=>vb r,fun r=>[],fun H=>by replace H:=H0 H; unfold Zc3 at H; exact Za Tryz.func17 rfl Tryz.ntmps17 Tryz.results17 fun Q hQ hQn=>wk3⟩
def Zch (a:List YRate) (s0:Int × (List YRate)):Option ((Int × (List YRate)) ⊕ (List YRate)):=
 cond (decide (s0.1<(a.length:Int)))
 ((getI a s0.1).bind fun y1=>
 (Zdy y1).bind fun y2=>
 (getI s0.2 s0.1).bind fun y3=>
 some (.inl ((w64 (s0.1+1)),(s0.2.set (Int.toNat s0.1) y2))))
 (some (.inr s0.2))
instance (a:List YRate):Zo (Zch a):=⟨fun s0=>(.sl (a.map cRate)::.un::.un::.ms 0::vi s0.1::(U 18 [])),fun s0=>[some ⟨.of 76,4,s0.2.map cRate⟩]⟩
def ZaX (a:List YRate):Option (List YRate):=
 (chk (mkOk (a.length:Int) 32)).bind fun _=>
 (Zc (Zch a) NN (0,(List.replicate (Int.toNat (a.length:Int)) (⟨0,0,0,0⟩:YRate)))).bind (fun o0=>
 some o0)
instance (a:List YRate):CT Tryz.prog (ZaX a):=⟨11,[.sl (a.map cRate)],[],fun r=>.ms 0,fun r=>[some ⟨.of 76,4,r.map cRate⟩],fun H=>by replace H:=H0 H; unfold ZaX at H; exact Za Tryz.func11 rfl Tryz.ntmps11 Tryz.results11 fun Q hQ hQn=>wk3⟩
def ZdV (a:List YRate) (left:Int):Option Int:=
 cond (decide ((w64 (left-(a.length:Int)))<0))
 (some (-1))
 (some (w64 (left-(a.length:Int))))
instance (a:List YRate) (left:Int):CT Tryz.prog (ZdV a left):=⟨6,[.sl (a.map cRate),vi left],[],fun r=>vi r,fun r=>[],fun H=>by replace H:=H0 H; unfold ZdV at H; exact Za Tryz.func6 rfl Tryz.ntmps6 Tryz.results6 fun Q hQ hQn=>wk3⟩
def Zfq (a:Zd8) (b:Zd8):Option Bool:=
 cond (!decide (a.service=b.service))
 (some false)
 (cond (!decide (a.serial=b.serial))
 (some false)
 (cond (!decide (a.to_=b.to_))
 (some false)
 (some true)))
instance (a:Zd8) (b:Zd8):CT Tryz.prog (Zfq a b):=⟨134,[.ag (ZfP a),.ag (ZfP b)],[],fun r=>vb r,fun r=>[],fun H=>by replace H:=H0 H; unfold Zfq at H; exact Za Tryz.func134 rfl Tryz.ntmps134 Tryz.results134 fun Q hQ hQn=>wk3⟩
def Zdg (a:Zt) (b:Zt):Option Bool:=
 (Zfq a.label b.label).bind fun y1=>
 cond (!y1)
 (some false)
 (cond (!decide (a.from_=b.from_))
 (some false)
 (cond (!decide (a.weight=b.weight))
 (some false)
 ((Zab a.sides b.sides).bind fun y2=>
 cond (!y2)
 (some false)
 (cond (!decide (a.value=b.value))
 (some false)
 (some true)))))
instance (a:Zt) (b:Zt):CT Tryz.prog (Zdg a b):=⟨86,[.ag (Z9 a),.ag (Z9 b)],[],fun r=>vb r,fun r=>[],fun H=>by replace H:=H0 H; unfold Zdg at H; exact Za Tryz.func86 rfl Tryz.ntmps86 Tryz.results86 fun Q hQ hQn=>wk3⟩
def Zbb (a:List Zt) (b:List Zt) (s0:Int):Option (Int ⊕ (Unit ⊕ Bool)):=
 cond (decide (s0<(a.length:Int)))
 ((getI a s0).bind fun y1=>
 (getI b s0).bind fun y2=>
 (Zdg y1 y2).bind fun y3=>
 cond (!y3)
 (some (.inr (.inr false)))
 (some (.inl (w64 (s0+1)))))
 (some (.inr (.inl ())))
instance (a:List Zt) (b:List Zt):Zo (Zbb a b):=⟨fun s0=>(.sl (a.map Z9)::.sl (b.map Z9)::(U 3 (vi s0::(U 21 [])))),fun s0=>[]⟩
def ZcQ (a:List Zt) (b:List Zt):Option Bool:=
 cond (!decide ((a.length:Int)=(b.length:Int)))
 (some false)
 ((Zc (Zbb a b) NN 0).bind (Zp (fun o0=>
 some true) (fun r=>some r)))
instance (a:List Zt) (b:List Zt):CT Tryz.prog (ZcQ a b):=⟨37,[.sl (a.map Z9),.sl (b.map Z9)],[],fun r=>vb r,fun r=>[],fun H=>by replace H:=H0 H; unfold ZcQ at H; exact Za Tryz.func37 rfl Tryz.ntmps37 Tryz.results37 fun Q hQ hQn=>wk3⟩
def Ze0 (a:ZR) (b:ZR):Option Bool:=
 cond (!decide (a.order=b.order))
 (some false)
 (cond (!decide (a.kind=b.kind))
 (some false)
 (cond (!decide (a.amount=b.amount))
 (some false)
 (cond (!decide (a.at_=b.at_))
 (some false)
 (some true))))
instance (a:ZR) (b:ZR):CT Tryz.prog (Ze0 a b):=⟨87,[.ag (Zap a),.ag (Zap b)],[],fun r=>vb r,fun r=>[],fun H=>by replace H:=H0 H; unfold Ze0 at H; exact Za Tryz.func87 rfl Tryz.ntmps87 Tryz.results87 fun Q hQ hQn=>wk3⟩
def Zcb (a:List ZR) (b:List ZR) (s0:Int):Option (Int ⊕ (Unit ⊕ Bool)):=
 cond (decide (s0<(a.length:Int)))
 ((getI a s0).bind fun y1=>
 (getI b s0).bind fun y2=>
 (Ze0 y1 y2).bind fun y3=>
 cond (!y3)
 (some (.inr (.inr false)))
 (some (.inl (w64 (s0+1)))))
 (some (.inr (.inl ())))
instance (a:List ZR) (b:List ZR):Zo (Zcb a b):=⟨fun s0=>(.sl (a.map Zap)::.sl (b.map Zap)::(U 3 (vi s0::(U 21 [])))),fun s0=>[]⟩
def ZdT (a:List ZR) (b:List ZR):Option Bool:=
 cond (!decide ((a.length:Int)=(b.length:Int)))
 (some false)
 ((Zc (Zcb a b) NN 0).bind (Zp (fun o0=>
 some true) (fun r=>some r)))
instance (a:List ZR) (b:List ZR):CT Tryz.prog (ZdT a b):=⟨38,[.sl (a.map Zap),.sl (b.map Zap)],[],fun r=>vb r,fun r=>[],fun H=>by replace H:=H0 H; unfold ZdT at H; exact Za Tryz.func38 rfl Tryz.ntmps38 Tryz.results38 fun Q hQ hQn=>wk3⟩
def Zfj (a:YAct) (b:YAct):Option Bool:=
 cond (!decide (a.kind=b.kind))
 (some false)
 ((Zdg a.parcel b.parcel).bind fun y1=>
 cond (!y1)
 (some false)
 (cond (!decide (a.order=b.order))
 (some false)
 (cond (!decide (a.amount=b.amount))
 (some false)
 (cond (!decide (a.until_=b.until_))
 (some false)
 ((ZcC a.trip b.trip).bind fun y2=>
 cond (!y2)
 (some false)
 (some true))))))
instance (a:YAct) (b:YAct):CT Tryz.prog (Zfj a b):=⟨88,[.ag (cAct a),.ag (cAct b)],[],fun r=>vb r,fun r=>[],fun H=>by replace H:=H0 H; unfold Zfj at H; exact Za Tryz.func88 rfl Tryz.ntmps88 Tryz.results88 fun Q hQ hQn=>wk3⟩
def ZcN (a:List YAct) (b:List YAct) (s0:Int):Option (Int ⊕ (Unit ⊕ Bool)):=
 cond (decide (s0<(a.length:Int)))
 ((getI a s0).bind fun y1=>
 (getI b s0).bind fun y2=>
 (Zfj y1 y2).bind fun y3=>
 cond (!y3)
 (some (.inr (.inr false)))
 (some (.inl (w64 (s0+1)))))
 (some (.inr (.inl ())))
instance (a:List YAct) (b:List YAct):Zo (ZcN a b):=⟨fun s0=>(.sl (a.map cAct)::.sl (b.map cAct)::(U 3 (vi s0::(U 21 [])))),fun s0=>[]⟩
def Zen (a:List YAct) (b:List YAct):Option Bool:=
 cond (!decide ((a.length:Int)=(b.length:Int)))
 (some false)
 ((Zc (ZcN a b) NN 0).bind (Zp (fun o0=>
 some true) (fun r=>some r)))
instance (a:List YAct) (b:List YAct):CT Tryz.prog (Zen a b):=⟨39,[.sl (a.map cAct),.sl (b.map cAct)],[],fun r=>vb r,fun r=>[],fun H=>by replace H:=H0 H; unfold Zen at H; exact Za Tryz.func39 rfl Tryz.ntmps39 Tryz.results39 fun Q hQ hQn=>wk3⟩
def Zba (a:Zj) (b:Zj):Option Bool:=
 (Zc5 a.world b.world).bind fun y1=>
 cond (!y1)
 (some false)
 ((ZbU a.zones b.zones).bind fun y2=>
 cond (!y2)
 (some false)
 ((Zc3 a.rates b.rates).bind fun y3=>
 cond (!y3)
 (some false)
 ((Zab a.percents b.percents).bind fun y4=>
 cond (!y4)
 (some false)
 ((ZcQ a.parcels b.parcels).bind fun y5=>
 cond (!y5)
 (some false)
 ((ZdT a.lines b.lines).bind fun y6=>
 cond (!y6)
 (some false)
 ((Zen a.journal b.journal).bind fun y7=>
 cond (!y7)
 (some false)
 (some true)))))))
instance (a:Zj) (b:Zj):CT Tryz.prog (Zba a b):=⟨13,[.ag (ZeU a),.ag (ZeU b)],[],fun r=>vb r,fun r=>[],fun H=>by replace H:=H0 H; unfold Zba at H; exact Za Tryz.func13 rfl Tryz.ntmps13 Tryz.results13 fun Q hQ hQn=>wk3⟩
set_option linter.unusedSimpArgs false
theorem Zj2 {n:Nat} {b:Int} (h:n≤1048576) (hb:0≤b) (hb2:b≤134217728):mkOk (n:Int) b=true:=by
 refine decide_eq_true ⟨by omega,by omega,?_⟩
 have:b*(n:Int)≤134217728*1048576:=Int.mul_le_mul hb2 (by omega) (by omega) (by omega)
 omega
theorem ZeE {α:Type} (f:α→Nat) (xs:List α):xs.length≤totS f xs:=by unfold totS; omega
theorem Zgj {α:Type} (f:α→Nat) {xs:List α} {y:α} (h:y∈xs):f y≤totS f xs:=by
 have:f y≤(xs.map f).sum:=by
  induction xs with
  | nil=>cases h
  | cons x xs ih=>
   simp only [List.map_cons,List.sum_cons]
   rcases List.mem_cons.1 h with rfl | h
   ·omega
   ·have:=ih h; omega
 unfold totS; omega
theorem Zpp {α:Type} {xs:List α} {f:α→Nat} {body:Int × Int→Option ((Int × Int) ⊕ (Int ⊕ Int))}
 (h1:∀ (i:Nat) (l:Int) x,xs[i]?=some x→0≤l→l≤1048576→body (l,(i:Int))=some (if l<f x then .inr (.inr (-1)) else .inl (l-f x,((i+1:Nat):Int))))
 (h2:∀ l,body (l,(xs.length:Int))=some (.inr (.inl l))) (hN:xs.length<NN) {l:Int} (hl:0≤l) (hl2:l≤1048576):
 Zc body NN (l,0)=some (if l<((xs.map f).sum:Nat) then .inr (-1) else .inl (l-((xs.map f).sum:Nat))):=by
 have key:∀ (ys:List α) (i N:Nat) (l:Int),xs.drop i=ys→i≤xs.length→ys.length<N→0≤l→l≤1048576→Zc body N (l,(i:Int))=some (if l<((ys.map f).sum:Nat) then .inr (-1) else .inl (l-((ys.map f).sum:Nat))):=by
  intro ys
  induction ys with
  | nil=>
   intro i N l hd hi hN h0 h1'
   cases N with
   | zero=>omega
   | succ N=>
    have:i=xs.length:=by have:=congrArg List.length hd; simp at this; omega
    subst this
    simp only [Zc,h2]
    show some (Sum.inl l)=_
    rw [if_neg (by simp; omega)]; simp
  | cons y ys ih=>
   intro i N l hd hi hN h0 h1'
   cases N with
   | zero=>simp at hN
   | succ N=>
    have hy:xs[i]?=some y:=by
     have:=congrArg (fun l=>l[0]?) hd
     simpa using this
    have hlt:i<xs.length:=(List.getElem?_eq_some_iff.1 hy).1
    have hd':xs.drop (i+1)=ys:=by
     have:=congrArg (List.drop 1) hd
     simpa [List.drop_drop] using this
    simp only [Zc,h1 i l y hy h0 h1',List.map_cons,List.sum_cons]
    by_cases hc:l<f y
    ·rw [if_pos hc,if_pos (by omega)]; rfl
    ·rw [if_neg hc]
     show Zc body N (l-f y,((i+1:Nat):Int))=_
     rw [ih (i+1) N _ hd' hlt (by simp at hN; omega) (by omega) (by omega)]
     by_cases hc2:l-f y<((ys.map f).sum:Nat)
     ·rw [if_pos hc2,if_pos (by omega)]
     ·rw [if_neg hc2,if_neg (by omega)]; congr 2; omega
 exact key xs 0 NN l rfl (Nat.zero_le _) hN hl hl2
theorem ZiZ {l:Int} {n:Nat} (h:¬ szTo l n<0) (h0:0≤l):(n:Int)≤l∧szTo l n=l-n:=by
 rcases Z8 l n with ⟨_,e⟩ | ⟨h1,e⟩
 ·rw [e] at h; omega
 ·exact ⟨h1,e⟩
theorem ZsM (x:YLeg) (h:ZaZ x≤1048576):Zea x x=some true:=by
 simp [Zea]
theorem Zsw (x:YLeg) (h:ZaZ x≤1048576):Zec x=some x:=by
 simp [Zec]
theorem Zus (x:YLeg) {left:Int} (h0:0≤left) (h1:left≤1048576) (ok:Zro x):Zeb x left=some (szTo left (ZaZ x)):=by
 obtain ⟨k0,k1,k2,k3,k4,k5⟩:=ok
 have ht:ZaZ x=x.from_.size+x.to_.size:=rfl
 unfold Zeb
 unfold Zj5 maxLen at k0
 rw [Zy (by omega)]
 by_cases c0:left-((x.from_.size:Nat):Int)<0
 ·rw [decide_eq_true c0]; show some (-1)=_; rw [ht]; rcases Z8 left (x.from_.size+x.to_.size) with ⟨h,e⟩ | ⟨h,e⟩; · rw [e]
  omega
 rw [decide_eq_false c0]; simp only [cond_false]
 obtain ⟨l1,hl1⟩:∃ l:Int,l=left-((x.from_.size:Nat):Int):=⟨_,rfl⟩
 rw [← hl1]
 unfold Zj5 maxLen at k1
 rw [Zy (by omega)]
 by_cases c1:l1-((x.to_.size:Nat):Int)<0
 ·rw [decide_eq_true c1]; show some (-1)=_; rw [ht]; rcases Z8 left (x.from_.size+x.to_.size) with ⟨h,e⟩ | ⟨h,e⟩; · rw [e]
  omega
 rw [decide_eq_false c1]; simp only [cond_false]
 obtain ⟨l2,hl2⟩:∃ l:Int,l=l1-((x.to_.size:Nat):Int):=⟨_,rfl⟩
 rw [← hl2]
 rw [ht]; rcases Z8 left (x.from_.size+x.to_.size) with ⟨h,e⟩ | ⟨h,e⟩
 ·omega
 ·rw [e]; (first | (congr 1; omega) | congr 1)
theorem ZqX (a:List YLeg) (hl:a.length≤1048576) (he:∀ x∈a,Zea x x=some true):Zeo a a=some true:=by
 have e:Zc (ZcP a a) NN 0=some (.inl ()):=by
  refine Zdb (xs:=a) (fun i x hx=>?_) ?_ (by unfold NN; omega)
  ·obtain ⟨hi,rfl⟩:=List.getElem?_eq_some_iff.1 hx
   have hw:=Zq hi (by omega)
   have hx2:=he _ (List.mem_of_getElem? hx)
   simp [ZcP,Zi,hx,hi,hw,hx2]
  ·simp [ZcP]
 unfold Zeo; simp [e]
theorem ZqN (a:List YLeg) (hl:a.length≤1048576) (he:∀ x∈a,Zec x=some x):ZcD a=some a:=by
 have e:∀ z,Zc (ZcY a) NN (0,List.replicate a.length z)=some a:=by
  intro z
  refine ZgV (fun i out x hx ho=>?_) (fun out=>?_) (by unfold NN; omega)
  ·obtain ⟨hi,rfl⟩:=List.getElem?_eq_some_iff.1 hx
   have hw:=Zq hi (by omega)
   have hx3:out[i]?=some out[i]:=List.getElem?_eq_getElem (by omega)
   have hx2:=he _ (List.mem_of_getElem? hx)
   simp [ZcY,Zi,hx,hx3,hi,hw,hx2]
  ·simp [ZcY]
 unfold ZcD; rw [Ze5 (Zj2 hl (by decide) (by decide))]; simp [e]
theorem Ztt (a:List YLeg) {left:Int} (h0:0≤left) (h1:left≤1048576) (hl:a.length≤maxLen) (he:∀ x∈a,∀ l:Int,0≤l→l≤1048576→Zeb x l=some (szTo l (ZaZ x))):Zeq a left=some (szTo left (totS ZaZ a)):=by
 unfold maxLen at hl
 unfold Zeq
 rw [Zy (by omega)]
 by_cases hc:left-(a.length:Int)<0
 ·rw [decide_eq_true hc]; show some (-1)=_
  rcases Z8 left (totS ZaZ a) with ⟨h,e⟩ | ⟨h,e⟩
  ·rw [e]
  ·have:=ZeE ZaZ a; omega
 ·rw [decide_eq_false hc]
  have e:Zc (ZaP a) NN (left-(a.length:Int),0)=some (if left-(a.length:Int)<((a.map ZaZ).sum:Nat) then .inr (-1) else .inl (left-(a.length:Int)-((a.map ZaZ).sum:Nat))):=by
   refine Zpp (fun i l x hx h0 h1=>?_) (fun l=>?_) (by unfold NN; omega) (by omega) (by omega)
   ·obtain ⟨hi,rfl⟩:=List.getElem?_eq_some_iff.1 hx
    have hw:=Zq hi (by omega)
    have hx2:=he _ (List.mem_of_getElem? hx) l h0 h1
    rcases Z8 l (ZaZ a[i]) with ⟨h,e⟩ | ⟨h,e⟩
    ·rw [e] at hx2; rw [if_pos h]; simp [ZaP,Zi,hx,hi,hx2]
    ·rw [e] at hx2; rw [if_neg (by omega)]; simp [ZaP,Zi,hx,hi,hx2,hw,show ¬ (l-(ZaZ a[i]:Int)<0) by omega]
   ·simp [ZaP]
  show (Zc (ZaP a) NN (left-(a.length:Int),0)).bind _=_
  rw [e]
  have ht:totS ZaZ a=a.length+(a.map ZaZ).sum:=rfl
  rcases Z8 left (totS ZaZ a) with ⟨h,e⟩ | ⟨h,e⟩
  ·rw [e,if_pos (by omega)]; rfl
  ·rw [e,if_neg (by omega)]; show some _=some _; congr 1; omega
theorem ZgS (a:List Int) (hl:a.length≤1048576):Zab a a=some true:=by
 have e:Zc (ZcO a a) NN 0=some (.inl ()):=by
  refine Zdb (xs:=a) (fun i x hx=>?_) ?_ (by unfold NN; omega)
  ·obtain ⟨hi,rfl⟩:=List.getElem?_eq_some_iff.1 hx
   have hw:=Zq hi (by omega)
   simp [ZcO,Zi,hx,hi,hw]
  ·simp [ZcO]
 unfold Zab; simp [e]
theorem ZjM (a:List Int) (hl:a.length≤1048576):ZI a=some a:=by
 have e:∀ z,Zc (ZcX a) NN (0,List.replicate a.length z)=some a:=by
  intro z
  refine ZgV (fun i out x hx ho=>?_) (fun out=>?_) (by unfold NN; omega)
  ·obtain ⟨hi,rfl⟩:=List.getElem?_eq_some_iff.1 hx
   have hw:=Zq hi (by omega)
   have hx3:out[i]?=some out[i]:=List.getElem?_eq_getElem (by omega)
   simp [ZcX,Zi,hx,hx3,hi,hw]
  ·simp [ZcX]
 unfold ZI; rw [Ze5 (Zj2 hl (by decide) (by decide))]; simp [e]
theorem Zts (a:List Int) {left:Int} (h0:0≤left) (h1:left≤1048576) (hl:a.length≤maxLen):Zep a left=some (szTo left a.length):=by
 unfold maxLen at hl
 unfold Zep
 rw [Zy (by omega)]
 rcases Z8 left a.length with ⟨h,e⟩ | ⟨h,e⟩
 ·rw [e,decide_eq_true (by omega)]; rfl
 ·rw [e,decide_eq_false (by omega)]; rfl
theorem Zil (x:YNetwork) (h:Zu x≤1048576):Zbp x x=some true:=by
 have e0:=ZqX x.legs (by unfold Zu at h; have:=ZeE ZaZ x.legs; omega) (fun y hy=>ZsM y (by unfold Zu at h; have:=Zgj ZaZ hy; omega))
 have e1:=ZgS x.off (by unfold Zu at h; have:=ZeE ZaZ x.legs; omega)
 simp [Zbp,e0,e1]
theorem ZlN (x:YNetwork) (h:Zu x≤1048576):Zd5 x=some x:=by
 have e0:=ZqN x.legs (by unfold Zu at h; have:=ZeE ZaZ x.legs; omega) (fun y hy=>Zsw y (by unfold Zu at h; have:=Zgj ZaZ hy; omega))
 have e1:=ZjM x.off (by unfold Zu at h; have:=ZeE ZaZ x.legs; omega)
 simp [Zd5,e0,e1]
theorem Zol (x:YNetwork) {left:Int} (h0:0≤left) (h1:left≤1048576) (ok:okNetwork x):ZcW x left=some (szTo left (Zu x)):=by
 obtain ⟨k0,k1,k2⟩:=ok
 have ht:Zu x=totS ZaZ x.legs+x.off.length:=rfl
 unfold ZcW
 rw [Ztt x.legs (by omega) (by omega) k0.1 (fun y hy l g0 g1=>Zus y g0 g1 (k0.2 y hy))]; simp only [Option.bind_some]
 by_cases c0:szTo left (totS ZaZ x.legs)<0
 ·rw [decide_eq_true c0]; show some (-1)=_; rw [ht]; rcases Z8 left (totS ZaZ x.legs) with ⟨h2,e2⟩ | ⟨h2,e2⟩; rcases Z8 left (totS ZaZ x.legs+x.off.length) with ⟨h,e⟩ | ⟨h,e⟩; · rw [e]
  all_goals omega
 rw [decide_eq_false c0]; simp only [cond_false]
 obtain ⟨d0,e0⟩:=ZiZ c0 (by omega)
 rw [e0]
 obtain ⟨l1,hl1⟩:∃ l:Int,l=left-((totS ZaZ x.legs:Nat):Int):=⟨_,rfl⟩
 rw [← hl1]
 rw [Zts x.off (by omega) (by omega) k1.1]; simp only [Option.bind_some]
 by_cases c1:szTo l1 (x.off.length)<0
 ·rw [decide_eq_true c1]; show some (-1)=_; rw [ht]; rcases Z8 l1 (x.off.length) with ⟨h2,e2⟩ | ⟨h2,e2⟩; rcases Z8 left (totS ZaZ x.legs+x.off.length) with ⟨h,e⟩ | ⟨h,e⟩; · rw [e]
  all_goals omega
 rw [decide_eq_false c1]; simp only [cond_false]
 obtain ⟨d1,e1⟩:=ZiZ c1 (by omega)
 rw [e1]
 obtain ⟨l2,hl2⟩:∃ l:Int,l=l1-((x.off.length:Nat):Int):=⟨_,rfl⟩
 rw [← hl2]
 rw [ht]; rcases Z8 left (totS ZaZ x.legs+x.off.length) with ⟨h,e⟩ | ⟨h,e⟩
 ·omega
 ·rw [e]; (first | (congr 1; omega) | congr 1)
theorem Zo8 (a:List Zm) (hl:a.length≤1048576) (he:∀ x∈a,ZcC x x=some true):Zc4 a a=some true:=by
 have e:Zc (Zce a a) NN 0=some (.inl ()):=by
  refine Zdb (xs:=a) (fun i x hx=>?_) ?_ (by unfold NN; omega)
  ·obtain ⟨hi,rfl⟩:=List.getElem?_eq_some_iff.1 hx
   have hw:=Zq hi (by omega)
   have hx2:=he _ (List.mem_of_getElem? hx)
   simp [Zce,Zi,hx,hi,hw,hx2]
  ·simp [Zce]
 unfold Zc4; simp [e]
theorem ZnR (a:List Zr) (hl:a.length≤1048576) (he:∀ x∈a,ZeC x x=some true):Zdf a a=some true:=by
 have e:Zc (Zbz a a) NN 0=some (.inl ()):=by
  refine Zdb (xs:=a) (fun i x hx=>?_) ?_ (by unfold NN; omega)
  ·obtain ⟨hi,rfl⟩:=List.getElem?_eq_some_iff.1 hx
   have hw:=Zq hi (by omega)
   have hx2:=he _ (List.mem_of_getElem? hx)
   simp [Zbz,Zi,hx,hi,hw,hx2]
  ·simp [Zbz]
 unfold Zdf; simp [e]
theorem ZkM (a:List Zb) (hl:a.length≤1048576) (he:∀ x∈a,Zd4 x x=some true):Zca a a=some true:=by
 have e:Zc (ZaS a a) NN 0=some (.inl ()):=by
  refine Zdb (xs:=a) (fun i x hx=>?_) ?_ (by unfold NN; omega)
  ·obtain ⟨hi,rfl⟩:=List.getElem?_eq_some_iff.1 hx
   have hw:=Zq hi (by omega)
   have hx2:=he _ (List.mem_of_getElem? hx)
   simp [ZaS,Zi,hx,hi,hw,hx2]
  ·simp [ZaS]
 unfold Zca; simp [e]
theorem Zo7 (a:List Z2) (hl:a.length≤1048576) (he:∀ x∈a,Ze1 x x=some true):ZdU a a=some true:=by
 have e:Zc (Zcd a a) NN 0=some (.inl ()):=by
  refine Zdb (xs:=a) (fun i x hx=>?_) ?_ (by unfold NN; omega)
  ·obtain ⟨hi,rfl⟩:=List.getElem?_eq_some_iff.1 hx
   have hw:=Zq hi (by omega)
   have hx2:=he _ (List.mem_of_getElem? hx)
   simp [Zcd,Zi,hx,hi,hw,hx2]
  ·simp [Zcd]
 unfold ZdU; simp [e]
theorem ZqY (x:YZone) (h:Z5 x≤1048576):Zdw x x=some true:=by
 simp [Zdw]
theorem ZqP (x:YZone) (h:Z5 x≤1048576):Zdz x=some x:=by
 simp [Zdz]
theorem Ztu (x:YZone) {left:Int} (h0:0≤left) (h1:left≤1048576) (ok:okZone x):Zdx x left=some (szTo left (Z5 x)):=by
 obtain ⟨k0,k1⟩:=ok
 have ht:Z5 x=x.first.size+x.last.size:=rfl
 unfold Zdx
 unfold Zj5 maxLen at k0
 rw [Zy (by omega)]
 by_cases c0:left-((x.first.size:Nat):Int)<0
 ·rw [decide_eq_true c0]; show some (-1)=_; rw [ht]; rcases Z8 left (x.first.size+x.last.size) with ⟨h,e⟩ | ⟨h,e⟩; · rw [e]
  omega
 rw [decide_eq_false c0]; simp only [cond_false]
 obtain ⟨l1,hl1⟩:∃ l:Int,l=left-((x.first.size:Nat):Int):=⟨_,rfl⟩
 rw [← hl1]
 unfold Zj5 maxLen at k1
 rw [Zy (by omega)]
 by_cases c1:l1-((x.last.size:Nat):Int)<0
 ·rw [decide_eq_true c1]; show some (-1)=_; rw [ht]; rcases Z8 left (x.first.size+x.last.size) with ⟨h,e⟩ | ⟨h,e⟩; · rw [e]
  omega
 rw [decide_eq_false c1]; simp only [cond_false]
 obtain ⟨l2,hl2⟩:∃ l:Int,l=l1-((x.last.size:Nat):Int):=⟨_,rfl⟩
 rw [← hl2]
 rw [ht]; rcases Z8 left (x.first.size+x.last.size) with ⟨h,e⟩ | ⟨h,e⟩
 ·omega
 ·rw [e]; (first | (congr 1; omega) | congr 1)
theorem Zo9 (a:List YZone) (hl:a.length≤1048576) (he:∀ x∈a,Zdw x x=some true):ZbU a a=some true:=by
 have e:Zc (Zcf a a) NN 0=some (.inl ()):=by
  refine Zdb (xs:=a) (fun i x hx=>?_) ?_ (by unfold NN; omega)
  ·obtain ⟨hi,rfl⟩:=List.getElem?_eq_some_iff.1 hx
   have hw:=Zq hi (by omega)
   have hx2:=he _ (List.mem_of_getElem? hx)
   simp [Zcf,Zi,hx,hi,hw,hx2]
  ·simp [Zcf]
 unfold ZbU; simp [e]
theorem ZoP (a:List YZone) (hl:a.length≤1048576) (he:∀ x∈a,Zdz x=some x):ZaY a=some a:=by
 have e:∀ z,Zc (Zci a) NN (0,List.replicate a.length z)=some a:=by
  intro z
  refine ZgV (fun i out x hx ho=>?_) (fun out=>?_) (by unfold NN; omega)
  ·obtain ⟨hi,rfl⟩:=List.getElem?_eq_some_iff.1 hx
   have hw:=Zq hi (by omega)
   have hx3:out[i]?=some out[i]:=List.getElem?_eq_getElem (by omega)
   have hx2:=he _ (List.mem_of_getElem? hx)
   simp [Zci,Zi,hx,hx3,hi,hw,hx2]
  ·simp [Zci]
 unfold ZaY; rw [Ze5 (Zj2 hl (by decide) (by decide))]; simp [e]
theorem ZrL (a:List YZone) {left:Int} (h0:0≤left) (h1:left≤1048576) (hl:a.length≤maxLen) (he:∀ x∈a,∀ l:Int,0≤l→l≤1048576→Zdx x l=some (szTo l (Z5 x))):ZdW a left=some (szTo left (totS Z5 a)):=by
 unfold maxLen at hl
 unfold ZdW
 rw [Zy (by omega)]
 by_cases hc:left-(a.length:Int)<0
 ·rw [decide_eq_true hc]; show some (-1)=_
  rcases Z8 left (totS Z5 a) with ⟨h,e⟩ | ⟨h,e⟩
  ·rw [e]
  ·have:=ZeE Z5 a; omega
 ·rw [decide_eq_false hc]
  have e:Zc (Zas a) NN (left-(a.length:Int),0)=some (if left-(a.length:Int)<((a.map Z5).sum:Nat) then .inr (-1) else .inl (left-(a.length:Int)-((a.map Z5).sum:Nat))):=by
   refine Zpp (fun i l x hx h0 h1=>?_) (fun l=>?_) (by unfold NN; omega) (by omega) (by omega)
   ·obtain ⟨hi,rfl⟩:=List.getElem?_eq_some_iff.1 hx
    have hw:=Zq hi (by omega)
    have hx2:=he _ (List.mem_of_getElem? hx) l h0 h1
    rcases Z8 l (Z5 a[i]) with ⟨h,e⟩ | ⟨h,e⟩
    ·rw [e] at hx2; rw [if_pos h]; simp [Zas,Zi,hx,hi,hx2]
    ·rw [e] at hx2; rw [if_neg (by omega)]; simp [Zas,Zi,hx,hi,hx2,hw,show ¬ (l-(Z5 a[i]:Int)<0) by omega]
   ·simp [Zas]
  show (Zc (Zas a) NN (left-(a.length:Int),0)).bind _=_
  rw [e]
  have ht:totS Z5 a=a.length+(a.map Z5).sum:=rfl
  rcases Z8 left (totS Z5 a) with ⟨h,e⟩ | ⟨h,e⟩
  ·rw [e,if_pos (by omega)]; rfl
  ·rw [e,if_neg (by omega)]; show some _=some _; congr 1; omega
theorem Zm8 (x:YRate):Zdv x x=some true:=by
 simp [Zdv]
theorem ZqO (x:YRate):Zdy x=some x:=by
 simp [Zdy]
theorem ZkN (a:List YRate) (hl:a.length≤1048576) (he:∀ x∈a,Zdv x x=some true):Zc3 a a=some true:=by
 have e:Zc (Zcc a a) NN 0=some (.inl ()):=by
  refine Zdb (xs:=a) (fun i x hx=>?_) ?_ (by unfold NN; omega)
  ·obtain ⟨hi,rfl⟩:=List.getElem?_eq_some_iff.1 hx
   have hw:=Zq hi (by omega)
   have hx2:=he _ (List.mem_of_getElem? hx)
   simp [Zcc,Zi,hx,hi,hw,hx2]
  ·simp [Zcc]
 unfold Zc3; simp [e]
theorem ZoO (a:List YRate) (hl:a.length≤1048576) (he:∀ x∈a,Zdy x=some x):ZaX a=some a:=by
 have e:∀ z,Zc (Zch a) NN (0,List.replicate a.length z)=some a:=by
  intro z
  refine ZgV (fun i out x hx ho=>?_) (fun out=>?_) (by unfold NN; omega)
  ·obtain ⟨hi,rfl⟩:=List.getElem?_eq_some_iff.1 hx
   have hw:=Zq hi (by omega)
   have hx3:out[i]?=some out[i]:=List.getElem?_eq_getElem (by omega)
   have hx2:=he _ (List.mem_of_getElem? hx)
   simp [Zch,Zi,hx,hx3,hi,hw,hx2]
  ·simp [Zch]
 unfold ZaX; rw [Ze5 (Zj2 hl (by decide) (by decide))]; simp [e]
theorem ZrK (a:List YRate) {left:Int} (h0:0≤left) (h1:left≤1048576) (hl:a.length≤maxLen):ZdV a left=some (szTo left a.length):=by
 unfold maxLen at hl
 unfold ZdV
 rw [Zy (by omega)]
 rcases Z8 left a.length with ⟨h,e⟩ | ⟨h,e⟩
 ·rw [e,decide_eq_true (by omega)]; rfl
 ·rw [e,decide_eq_false (by omega)]; rfl
theorem ZlR (a:List Zt) (hl:a.length≤1048576) (he:∀ x∈a,Zdg x x=some true):ZcQ a a=some true:=by
 have e:Zc (Zbb a a) NN 0=some (.inl ()):=by
  refine Zdb (xs:=a) (fun i x hx=>?_) ?_ (by unfold NN; omega)
  ·obtain ⟨hi,rfl⟩:=List.getElem?_eq_some_iff.1 hx
   have hw:=Zq hi (by omega)
   have hx2:=he _ (List.mem_of_getElem? hx)
   simp [Zbb,Zi,hx,hi,hw,hx2]
  ·simp [Zbb]
 unfold ZcQ; simp [e]
theorem Zo6 (a:List ZR) (hl:a.length≤1048576) (he:∀ x∈a,Ze0 x x=some true):ZdT a a=some true:=by
 have e:Zc (Zcb a a) NN 0=some (.inl ()):=by
  refine Zdb (xs:=a) (fun i x hx=>?_) ?_ (by unfold NN; omega)
  ·obtain ⟨hi,rfl⟩:=List.getElem?_eq_some_iff.1 hx
   have hw:=Zq hi (by omega)
   have hx2:=he _ (List.mem_of_getElem? hx)
   simp [Zcb,Zi,hx,hi,hw,hx2]
  ·simp [Zcb]
 unfold ZdT; simp [e]
theorem ZqW (a:List YAct) (hl:a.length≤1048576) (he:∀ x∈a,Zfj x x=some true):Zen a a=some true:=by
 have e:Zc (ZcN a a) NN 0=some (.inl ()):=by
  refine Zdb (xs:=a) (fun i x hx=>?_) ?_ (by unfold NN; omega)
  ·obtain ⟨hi,rfl⟩:=List.getElem?_eq_some_iff.1 hx
   have hw:=Zq hi (by omega)
   have hx2:=he _ (List.mem_of_getElem? hx)
   simp [ZcN,Zi,hx,hi,hw,hx2]
  ·simp [ZcN]
 unfold Zen; simp [e]
theorem ZiJ {n:YNetwork} (h:Zu n≤1048576):Zax n:=by
 unfold Zu at h
 refine ⟨by have:=ZeE ZaZ n.legs; omega,by omega,fun l hl=>?_⟩
 have h2:ZaZ l=l.from_.size+l.to_.size:=rfl
 have:=Zgj ZaZ hl
 unfold Znm B60
 omega
def Zbv (o:Zj) (s0:Int):Option (Int ⊕ (Unit ⊕ Bool)):=
 cond (decide (s0<(o.parcels.length:Int)))
 ((getI o.parcels s0).bind fun y6=>
 (getI o.world.orders s0).bind fun y7=>
 (ZdP o.zones o.rates y6).bind fun y8=>
 cond (!y8.2)
 (some (.inr (.inr false)))
 (cond (!decide (y7.from_=y6.from_))
 (some (.inr (.inr false)))
 (cond (!decide (y7.to_=y6.label.to_))
 (some (.inr (.inr false)))
 (cond (!decide (y7.service=y6.label.service))
 (some (.inr (.inr false)))
 (cond (!decide (y7.weight=y6.weight))
 (some (.inr (.inr false)))
 ((ZeN o.lines (w64 (s0+1)) 1).bind fun y9=>
 cond (!decide (y9=y8.1))
 (some (.inr (.inr false)))
 (some (.inl (w64 (s0+1))))))))))
 (some (.inr (.inl ())))
instance (o:Zj):Zo (Zbv o):=⟨fun s0=>(.un::.be 0 0 0::.un::.be 1 0 0::(U 57 (.sl (o.parcels.map Z9)::vi (o.parcels.length:Int)::vi s0::(U 92 [])))),fun s0=>[some ⟨.of 46,16,[[.sl (o.world.network.legs.map cLeg),.sl (o.world.network.off.map cInt),vi o.world.network.change,.sl (o.world.orders.map Zz),.sl (o.world.bookings.map Zd),.sl (o.world.closed.map Zv),vi o.world.now,.sl (o.world.scans.map ZK),.sl (o.world.skip.map cInt),vi o.world.made,.sl (o.zones.map cZone),.sl (o.rates.map cRate),.sl (o.percents.map cInt),.sl (o.parcels.map Z9),.sl (o.lines.map Zap),.sl (o.journal.map cAct)]]⟩,some ⟨.of 39,10,[[.sl (o.world.network.legs.map cLeg),.sl (o.world.network.off.map cInt),vi o.world.network.change,.sl (o.world.orders.map Zz),.sl (o.world.bookings.map Zd),.sl (o.world.closed.map Zv),vi o.world.now,.sl (o.world.scans.map ZK),.sl (o.world.skip.map cInt),vi o.world.made]]⟩]⟩
def Zbw (o:Zj) (s1:Int):Option (Int ⊕ (Unit ⊕ Bool)):=
 cond (decide (s1<(o.lines.length:Int)))
 ((getI o.lines s1).bind fun y10=>
 cond (decide ((o.world.orders.length:Int)<y10.order))
 (some (.inr (.inr false)))
 (cond (decide (o.world.now<y10.at_))
 (some (.inr (.inr false)))
 (some (.inl (w64 (s1+1))))))
 (some (.inr (.inl ())))
instance (o:Zj):Zo (Zbw o):=⟨fun s1=>(.un::.be 0 0 0::.un::.be 1 0 0::(U 121 (.sl (o.lines.map Zap)::vi (o.lines.length:Int)::vi s1::(U 28 [])))),fun s1=>[some ⟨.of 46,16,[[.sl (o.world.network.legs.map cLeg),.sl (o.world.network.off.map cInt),vi o.world.network.change,.sl (o.world.orders.map Zz),.sl (o.world.bookings.map Zd),.sl (o.world.closed.map Zv),vi o.world.now,.sl (o.world.scans.map ZK),.sl (o.world.skip.map cInt),vi o.world.made,.sl (o.zones.map cZone),.sl (o.rates.map cRate),.sl (o.percents.map cInt),.sl (o.parcels.map Z9),.sl (o.lines.map Zap),.sl (o.journal.map cAct)]]⟩,some ⟨.of 39,10,[[.sl (o.world.network.legs.map cLeg),.sl (o.world.network.off.map cInt),vi o.world.network.change,.sl (o.world.orders.map Zz),.sl (o.world.bookings.map Zd),.sl (o.world.closed.map Zv),vi o.world.now,.sl (o.world.scans.map ZK),.sl (o.world.skip.map cInt),vi o.world.made]]⟩]⟩
def Zbx (o:Zj) (s2:Int):Option (Int ⊕ (Unit ⊕ Bool)):=
 cond (decide (s2<(o.journal.length:Int)))
 ((getI o.journal s2).bind fun y11=>
 (ZeK y11).bind fun y12=>
 cond (!y12)
 (some (.inr (.inr false)))
 (some (.inl (w64 (s2+1)))))
 (some (.inr (.inl ())))
instance (o:Zj):Zo (Zbx o):=⟨fun s2=>(U 146 (.sl (o.journal.map cAct)::vi (o.journal.length:Int)::vi s2::(U 7 []))),fun s2=>[]⟩
def Zb3 (o:Zj):Option Bool:=
 (ZbS o.world).bind fun y1=>
 cond (!y1)
 (some false)
 ((Za6 o.zones).bind fun y2=>
 cond (!y2)
 (some false)
 ((Zb2 o.rates (o.zones.length:Int)).bind fun y3=>
 cond (!y3)
 (some false)
 ((Zbs o.percents).bind fun y4=>
 cond (!y4)
 (some false)
 ((Zdc o.lines).bind fun y5=>
 cond (!y5)
 (some false)
 (cond (!decide ((o.parcels.length:Int)=(o.world.orders.length:Int)))
 (some false)
 (cond (decide (150<(o.journal.length:Int)))
 (some false)
 ((Zc (Zbv o) NN 0).bind (Zp (fun o0=>
 (Zc (Zbw o) NN 0).bind (Zp (fun o1=>
 (Zc (Zbx o) NN 0).bind (Zp (fun o2=>
 some true) (fun r=>some r))) (fun r=>some r))) (fun r=>some r)))))))))
instance (o:Zj):CT Tryz.prog (Zb3 o):=⟨35,[.ag (ZeU o)],[],fun r=>vb r,fun r=>[],fun H=>by replace H:=H0 H; unfold Zb3 at H; exact Za Tryz.func35 rfl Tryz.ntmps35 Tryz.results35 fun Q hQ hQn=>wk3⟩
def ZdC (o:Zj) (i:Int):Option Bool:=
 (getI o.parcels i).bind fun y1=>
 (getI o.world.orders i).bind fun y2=>
 (ZbV o.zones o.rates y1).bind fun y3=>
 cond y3.2
 (cond (decide (y2.from_=y1.from_))
 (cond (decide (y2.to_=y1.label.to_))
 (cond (decide (y2.service=y1.label.service))
 (cond (decide (y2.weight=y1.weight))
 ((ZeQ o.lines (w64 (i+1)) 1).bind fun y4=>
 some (decide (y4=y3.1)))
 (some false))
 (some false))
 (some false))
 (some false))
 (some false)
instance (o:Zj) (i:Int):CT Tryz.prog (ZdC o i):=⟨66,[.ag (ZeU o),vi i],[],fun r=>vb r,fun r=>[],fun H=>by replace H:=H0 H; unfold ZdC at H; exact Za Tryz.func66 rfl Tryz.ntmps66 Tryz.results66 fun Q hQ hQn=>wk3⟩
def ZbK (o:Zj) (s0:Int):Option (Int ⊕ (Unit ⊕ Bool)):=
 cond (decide (s0<(o.parcels.length:Int)))
 ((ZdC o s0).bind fun y6=>
 cond (!y6)
 (some (.inr (.inr false)))
 (some (.inl (w64 (s0+1)))))
 (some (.inr (.inl ())))
instance (o:Zj):Zo (ZbK o):=⟨fun s0=>(.un::.be 0 0 0::.un::vi s0::(U 103 [])),fun s0=>[some ⟨.of 46,16,[[.sl (o.world.network.legs.map cLeg),.sl (o.world.network.off.map cInt),vi o.world.network.change,.sl (o.world.orders.map Zz),.sl (o.world.bookings.map Zd),.sl (o.world.closed.map Zv),vi o.world.now,.sl (o.world.scans.map ZK),.sl (o.world.skip.map cInt),vi o.world.made,.sl (o.zones.map cZone),.sl (o.rates.map cRate),.sl (o.percents.map cInt),.sl (o.parcels.map Z9),.sl (o.lines.map Zap),.sl (o.journal.map cAct)]]⟩]⟩
def ZbL (o:Zj) (s1:Int):Option (Int ⊕ (Unit ⊕ Bool)):=
 cond (decide (s1<(o.lines.length:Int)))
 ((getI o.lines s1).bind fun y7=>
 cond (decide ((o.parcels.length:Int)<y7.order))
 (some (.inr (.inr false)))
 ((getI o.lines s1).bind fun y8=>
 cond (decide (o.world.now<y8.at_))
 (some (.inr (.inr false)))
 (some (.inl (w64 (s1+1))))))
 (some (.inr (.inl ())))
instance (o:Zj):Zo (ZbL o):=⟨fun s1=>(.un::.be 0 0 0::.un::.un::vi s1::(U 102 [])),fun s1=>[some ⟨.of 46,16,[[.sl (o.world.network.legs.map cLeg),.sl (o.world.network.off.map cInt),vi o.world.network.change,.sl (o.world.orders.map Zz),.sl (o.world.bookings.map Zd),.sl (o.world.closed.map Zv),vi o.world.now,.sl (o.world.scans.map ZK),.sl (o.world.skip.map cInt),vi o.world.made,.sl (o.zones.map cZone),.sl (o.rates.map cRate),.sl (o.percents.map cInt),.sl (o.parcels.map Z9),.sl (o.lines.map Zap),.sl (o.journal.map cAct)]]⟩]⟩
def ZbM (o:Zj) (s2:Int):Option (Int ⊕ (Unit ⊕ Bool)):=
 cond (decide (s2<(o.journal.length:Int)))
 ((getI o.journal s2).bind fun y9=>
 (Zee y9).bind fun y10=>
 cond (!y10)
 (some (.inr (.inr false)))
 (some (.inl (w64 (s2+1)))))
 (some (.inr (.inl ())))
instance (o:Zj):Zo (ZbM o):=⟨fun s2=>(.un::.be 0 0 0::(U 3 (vi s2::(U 101 [])))),fun s2=>[some ⟨.of 46,16,[[.sl (o.world.network.legs.map cLeg),.sl (o.world.network.off.map cInt),vi o.world.network.change,.sl (o.world.orders.map Zz),.sl (o.world.bookings.map Zd),.sl (o.world.closed.map Zv),vi o.world.now,.sl (o.world.scans.map ZK),.sl (o.world.skip.map cInt),vi o.world.made,.sl (o.zones.map cZone),.sl (o.rates.map cRate),.sl (o.percents.map cInt),.sl (o.parcels.map Z9),.sl (o.lines.map Zap),.sl (o.journal.map cAct)]]⟩]⟩
def Zcl (o:Zj):Option Bool:=
 (Zc8 o.world).bind fun y1=>
 cond (!y1)
 (some false)
 ((Zbk o.zones).bind fun y2=>
 cond (!y2)
 (some false)
 ((Zck o.rates (o.zones.length:Int)).bind fun y3=>
 cond (!y3)
 (some false)
 ((ZbH o.percents).bind fun y4=>
 cond (!y4)
 (some false)
 ((Zdj o.lines).bind fun y5=>
 cond (!y5)
 (some false)
 (cond (!decide ((o.parcels.length:Int)=(o.world.orders.length:Int)))
 (some false)
 (cond (decide (150<(o.journal.length:Int)))
 (some false)
 ((Zc (ZbK o) NN 0).bind (Zp (fun o0=>
 (Zc (ZbL o) NN 0).bind (Zp (fun o1=>
 (Zc (ZbM o) NN 0).bind (Zp (fun o2=>
 some true) (fun r=>some r))) (fun r=>some r))) (fun r=>some r)))))))))
instance (o:Zj):CT Tryz.prog (Zcl o):=⟨29,[.ag (ZeU o)],[],fun r=>vb r,fun r=>[],fun H=>by replace H:=H0 H; unfold Zcl at H; exact Za Tryz.func29 rfl Tryz.ntmps29 Tryz.results29 fun Q hQ hQn=>wk3⟩
set_option maxHeartbeats 1000000
structure OFit (o:Zj):Prop where
 world:WFit o.world
 zones:Ze2 o.zones
 rates:o.rates.length≤1048576
 pcts:o.percents.length≤2000000
 lines:o.lines.length≤1048576
 parcels:o.parcels.length≤1048576
 journal:o.journal.length≤1048576
 pfit:∀ p∈o.parcels,p.label.to_.size≤B60∧p.from_.size≤B60∧p.sides.length<NN
 afit:∀ a∈o.journal,a.parcel.label.to_.size≤B60∧a.parcel.from_.size≤B60∧a.parcel.sides.length<NN
def ZmO (o:Zj) (i:Nat) (p:Zt) (v:Int × Bool) (x:Option Zr):Bool:=match x with
 | some x=>v.2 && (decide (x.from_=p.from_) && (decide (x.to_=p.label.to_) && (decide (x.service=p.label.service) && (decide (x.weight=p.weight) && decide (ZaV (o.lines.map lnOf) (((i+1:Nat):Int)) 1=v.1)))))
 | none=>false
theorem Zjj (o:Zj) (i:Nat) (p:Zt) (v:Int × Bool) (x:Zr):ZmO o i p v (some x)=(v.2 && (decide (x.from_=p.from_) && (decide (x.to_=p.label.to_) && (decide (x.service=p.label.service) && (decide (x.weight=p.weight) && decide (ZaV (o.lines.map lnOf) (((i+1:Nat):Int)) 1=v.1)))))):=rfl
def ZfF (o:Zj) (i:Nat) (p:Zt):Bool:=ZmO o i p ((ZbV o.zones o.rates p).getD (0,false)) o.world.orders[i]?
def Zl0 (o:Zj) (_:Nat) (x:ZR):Bool:=!decide ((o.parcels.length:Int)<x.order) && !decide (o.world.now<x.at_)
def actC (_:Nat) (a:YAct):Bool:=(Zee a).getD false
def Zfr (o:Zj):Bool:=
 Zf6 o.world && (Zg9 o.zones && (ZhL o.rates (o.zones.length:Int) && (Zhp o.percents && (ZeI (o.lines.map lnOf) && (decide ((o.parcels.length:Int)=(o.world.orders.length:Int)) && (!decide (150<(o.journal.length:Int)) && (allI (ZfF o) 0 o.parcels && (allI (Zl0 o) 0 o.lines && allI actC 0 o.journal))))))))
section
variable {o:Zj} (hf:OFit o)
include hf
theorem Zl7 (hl:o.parcels.length=o.world.orders.length):Zc (ZbK o) NN 0=some (if allI (ZfF o) 0 o.parcels=true then .inl () else .inr false):=by
 refine Zak (A:=Unit) (fun _ i=>i) _ (fun a _=>a) (fun _=>()) (fun a i p hp=>?_) (fun a=>?_) (by have:=hf.parcels; unfold NN; omega) ()
 ·have hlt:=(List.getElem?_eq_some_iff.1 hp).1
  have hpl:=hf.parcels
  have hg:getI o.parcels (i:Int)=some p:=by rw [Zi]; exact hp
  obtain ⟨x,hx⟩:∃ x,o.world.orders[i]?=some x:=⟨_,List.getElem?_eq_getElem (by omega)⟩
  have hgx:getI o.world.orders (i:Int)=some x:=by rw [Zi]; exact hx
  have hi:w64 ((i:Int)+1)=((i+1:Nat):Int):=Zq hlt (by omega)
  obtain ⟨p1,p2,p3⟩:=hf.pfit p (List.mem_of_getElem? hp)
  obtain ⟨_,v,hv⟩:=Znu hf.zones hf.rates p1 p2 p3
  have hsum:ZeQ o.lines ((i+1:Nat):Int) 1=some (ZaV (o.lines.map lnOf) (((i+1:Nat):Int)) 1):=if_pos (by have:=hf.lines; omega)
  unfold ZbK ZdC ZfF
  simp only [Zgz,decide_eq_true (show (i:Int)<o.parcels.length by omega),cond_true,hg,hgx,hx,Option.bind_some,hi,hv,hsum,Option.getD_some,Zjj]
  cases v.2 <;> cases decide (x.from_=p.from_) <;> cases decide (x.to_=p.label.to_) <;> cases decide (x.service=p.label.service) <;> cases decide (x.weight=p.weight) <;> cases decide (ZaV (o.lines.map lnOf) (((i+1:Nat):Int)) 1=v.1) <;> rfl
 ·unfold ZbK
  simp
theorem Zl6 (hl:o.parcels.length=o.world.orders.length):Zc (Zbv o) NN 0=some (if allI (ZfF o) 0 o.parcels=true then .inl () else .inr false):=by
 refine Zak (A:=Unit) (fun _ i=>i) _ (fun a _=>a) (fun _=>()) (fun a i p hp=>?_) (fun a=>?_) (by have:=hf.parcels; unfold NN; omega) ()
 ·have hlt:=(List.getElem?_eq_some_iff.1 hp).1
  have hpl:=hf.parcels
  have hg:getI o.parcels (i:Int)=some p:=by rw [Zi]; exact hp
  obtain ⟨x,hx⟩:∃ x,o.world.orders[i]?=some x:=⟨_,List.getElem?_eq_getElem (by omega)⟩
  have hgx:getI o.world.orders (i:Int)=some x:=by rw [Zi]; exact hx
  have hi:w64 ((i:Int)+1)=((i+1:Nat):Int):=Zq hlt (by omega)
  obtain ⟨p1,p2,p3⟩:=hf.pfit p (List.mem_of_getElem? hp)
  obtain ⟨e,v,hv⟩:=Znu hf.zones hf.rates p1 p2 p3
  have hsum:ZeN o.lines ((i+1:Nat):Int) 1=some (ZaV (o.lines.map lnOf) (((i+1:Nat):Int)) 1):=if_pos (by have:=hf.lines; omega)
  unfold Zbv ZfF
  simp only [Zgz,decide_eq_true (show (i:Int)<o.parcels.length by omega),cond_true,hg,hgx,hx,Option.bind_some,hi,e,hv,hsum,Option.getD_some,Zjj]
  cases v.2 <;> cases decide (x.from_=p.from_) <;> cases decide (x.to_=p.label.to_) <;> cases decide (x.service=p.label.service) <;> cases decide (x.weight=p.weight) <;> cases decide (ZaV (o.lines.map lnOf) (((i+1:Nat):Int)) 1=v.1) <;> rfl
 ·unfold Zbv
  simp
theorem Zl9:Zc (ZbL o) NN 0=some (if allI (Zl0 o) 0 o.lines=true then .inl () else .inr false):=by
 refine Zak (A:=Unit) (fun _ i=>i) _ (fun a _=>a) (fun _=>()) (fun a i p hp=>?_) (fun a=>?_) (by have:=hf.lines; unfold NN; omega) ()
 ·have hlt:=(List.getElem?_eq_some_iff.1 hp).1
  have hpl:=hf.lines
  have hg:getI o.lines (i:Int)=some p:=by rw [Zi]; exact hp
  have hi:w64 ((i:Int)+1)=((i+1:Nat):Int):=Zq hlt (by omega)
  unfold ZbL Zl0
  simp only [Zgz,decide_eq_true (show (i:Int)<o.lines.length by omega),cond_true,hg,Option.bind_some,hi]
  cases decide ((o.parcels.length:Int)<p.order) <;> cases decide (o.world.now<p.at_) <;> rfl
 ·unfold ZbL
  simp
theorem Zl8 (hl:o.parcels.length=o.world.orders.length):Zc (Zbw o) NN 0=some (if allI (Zl0 o) 0 o.lines=true then .inl () else .inr false):=by
 refine Zak (A:=Unit) (fun _ i=>i) _ (fun a _=>a) (fun _=>()) (fun a i p hp=>?_) (fun a=>?_) (by have:=hf.lines; unfold NN; omega) ()
 ·have hlt:=(List.getElem?_eq_some_iff.1 hp).1
  have hpl:=hf.lines
  have hg:getI o.lines (i:Int)=some p:=by rw [Zi]; exact hp
  have hi:w64 ((i:Int)+1)=((i+1:Nat):Int):=Zq hlt (by omega)
  unfold Zbw Zl0
  rw [hl]
  simp only [Zgz,decide_eq_true (show (i:Int)<o.lines.length by omega),cond_true,hg,Option.bind_some,hi]
  cases decide ((o.world.orders.length:Int)<p.order) <;> cases decide (o.world.now<p.at_) <;> rfl
 ·unfold Zbw
  simp
theorem Zmb:Zc (ZbM o) NN 0=some (if allI actC 0 o.journal=true then .inl () else .inr false):=by
 refine Zak (A:=Unit) (fun _ i=>i) _ (fun a _=>a) (fun _=>()) (fun a i p hp=>?_) (fun a=>?_) (by have:=hf.journal; unfold NN; omega) ()
 ·have hlt:=(List.getElem?_eq_some_iff.1 hp).1
  have hpl:=hf.journal
  have hg:getI o.journal (i:Int)=some p:=by rw [Zi]; exact hp
  have hi:w64 ((i:Int)+1)=((i+1:Nat):Int):=Zq hlt (by omega)
  obtain ⟨p1,p2,p3⟩:=hf.afit p (List.mem_of_getElem? hp)
  obtain ⟨b,_,hb⟩:=ZrQ p1 p2 p3
  unfold ZbM actC
  simp only [Zgz,decide_eq_true (show (i:Int)<o.journal.length by omega),cond_true,hg,Option.bind_some,hi,hb,Option.getD_some]
  cases b <;> rfl
 ·unfold ZbM
  simp
theorem Zma:Zc (Zbx o) NN 0=some (if allI actC 0 o.journal=true then .inl () else .inr false):=by
 refine Zak (A:=Unit) (fun _ i=>i) _ (fun a _=>a) (fun _=>()) (fun a i p hp=>?_) (fun a=>?_) (by have:=hf.journal; unfold NN; omega) ()
 ·have hlt:=(List.getElem?_eq_some_iff.1 hp).1
  have hpl:=hf.journal
  have hg:getI o.journal (i:Int)=some p:=by rw [Zi]; exact hp
  have hi:w64 ((i:Int)+1)=((i+1:Nat):Int):=Zq hlt (by omega)
  obtain ⟨p1,p2,p3⟩:=hf.afit p (List.mem_of_getElem? hp)
  obtain ⟨b,hb1,hb⟩:=ZrQ p1 p2 p3
  unfold Zbx actC
  simp only [Zgz,decide_eq_true (show (i:Int)<o.journal.length by omega),cond_true,hg,Option.bind_some,hi,hb1,hb,Option.getD_some]
  cases b <;> rfl
 ·unfold Zbx
  simp
theorem Zmq:Zcl o=some (Zfr o):=by
 have hp:ZbH o.percents=some (Zhp o.percents):=if_pos hf.pcts
 have hl:Zdj o.lines=some (ZeI (o.lines.map lnOf)):=if_pos (by have:=hf.lines; omega)
 unfold Zcl Zfr
 simp only [ZjG hf.world,ZmA hf.zones,Zp4 hf.rates,hp,hl,Option.bind_some]
 cases Zf6 o.world
 ·rfl
 cases Zg9 o.zones
 ·rfl
 cases ZhL o.rates (o.zones.length:Int)
 ·rfl
 cases Zhp o.percents
 ·rfl
 cases ZeI (o.lines.map lnOf)
 ·rfl
 by_cases he:(o.parcels.length:Int)=(o.world.orders.length:Int)
 ·rw [decide_eq_true he]
  cases decide (150<(o.journal.length:Int))
  ·simp only [Zl7 hf (by omega),Zl9 hf,Zmb hf,Bool.not_true,Bool.not_false,cond_false,Bool.true_and]
   cases allI (ZfF o) 0 o.parcels <;> cases allI (Zl0 o) 0 o.lines <;> cases allI actC 0 o.journal <;> rfl
  ·rfl
 ·rw [decide_eq_false he]; rfl
theorem ZlX:Zb3 o=some (Zfr o):=by
 have hp:Zbs o.percents=some (Zhp o.percents):=if_pos hf.pcts
 have hl:Zdc o.lines=some (ZeI (o.lines.map lnOf)):=if_pos (by have:=hf.lines; omega)
 unfold Zb3 Zfr
 simp only [Zjs hf.world,Zmz hf.zones,Zp3 hf.rates,hp,hl,Option.bind_some]
 cases Zf6 o.world
 ·rfl
 cases Zg9 o.zones
 ·rfl
 cases ZhL o.rates (o.zones.length:Int)
 ·rfl
 cases Zhp o.percents
 ·rfl
 cases ZeI (o.lines.map lnOf)
 ·rfl
 by_cases he:(o.parcels.length:Int)=(o.world.orders.length:Int)
 ·rw [decide_eq_true he]
  cases decide (150<(o.journal.length:Int))
  ·simp only [Zl6 hf (by omega),Zl8 hf (by omega),Zma hf,Bool.not_true,Bool.not_false,cond_false,Bool.true_and]
   cases allI (ZfF o) 0 o.parcels <;> cases allI (Zl0 o) 0 o.lines <;> cases allI actC 0 o.journal <;> rfl
  ·rfl
 ·rw [decide_eq_false he]; rfl
end
structure Mk (TO:TypeId→Nat→Prop) (D:Nat→Prop) (w w':World):Prop where
 os:w'.os=w.os
 tape:w'.tape=w.tape
 output:w'.output=w.output
 size:w.heap.size≤w'.heap.size
 low:∀ b,b<w.heap.size→¬ D b→w'.heap[b]?=w.heap[b]?
 row:∀ (b:Nat) (cs:Array Value) (T:TypeId),w.heap[b]?=some (.cells cs T (0,0))→∃ cs':Array Value,w'.heap[b]?=some (.cells cs' T (0,0))∧cs'.size=cs.size∧∀ j,TO T j→cs'[j]?=cs[j]?
section
variable {TO:TypeId→Nat→Prop} {D:Nat→Prop} {B:Nat} {w a b:World}
theorem Mk.rfl':Mk TO D w w:=⟨rfl,rfl,rfl,Nat.le_refl _,fun _ _ _=>rfl,fun b cs T h=>⟨cs,h,rfl,fun _ _=>rfl⟩⟩
theorem Mk.trans (h:Mk TO D w a) (k:Mk TO D a b):Mk TO D w b:=
 ⟨k.os.trans h.os,k.tape.trans h.tape,k.output.trans h.output,Nat.le_trans h.size k.size,fun x hx hd=>(k.low x (Nat.lt_of_lt_of_le hx h.size) hd).trans (h.low x hx hd),fun x cs T hx=>by
  obtain ⟨c1,h1,h2,h3⟩:=h.row x cs T hx
  obtain ⟨c2,k1,k2,k3⟩:=k.row x c1 T h1
  exact ⟨c2,k1,k2.trans h2,fun j hj=>(k3 j hj).trans (h3 j hj)⟩⟩
theorem Mk.up (h:Mk TO D w a) (k:Up a b):Mk TO D w b:=
 ⟨k.os.trans h.os,k.tape.trans h.tape,k.output.trans h.output,Nat.le_trans h.size k.size,fun x hx hd=>(k.block x (Nat.lt_of_lt_of_le hx h.size)).trans (h.low x hx hd),fun x cs T hx=>by
  obtain ⟨c1,h1,h2,h3⟩:=h.row x cs T hx
  exact ⟨c1,(k.block x (Array.getElem?_eq_some_iff.1 h1).1).trans h1,h2,h3⟩⟩
theorem Mk.set (h:Mk TO D w a) {g j:Nat} {cs:Array Value} {T:TypeId} (hg:a.heap[g]?=some (.cells cs T (0,0))) (hBg:D g) (hT:¬ TO T j) (v:Value):Mk TO D w (a.setCell ⟨g,j,none⟩ v):=by
 have hs:(a.setCell ⟨g,j,none⟩ v).heap[g]?=some (.cells (cs.setIfInBounds j v) T (0,0)):=heap_setCell_same a g j cs T v hg
 have ho:∀ x,x≠g→(a.setCell ⟨g,j,none⟩ v).heap[x]?=a.heap[x]?:=fun x hx=>heap_setCell_other a ⟨g,j,none⟩ x v hx
 have hz:(a.setCell ⟨g,j,none⟩ v).heap.size=a.heap.size:=by simp
 refine ⟨h.os,h.tape,h.output,by rw [hz]; exact h.size,fun x hx hd=>(ho x (by rintro rfl; exact hd hBg)).trans (h.low x hx hd),fun x c T' hx=>?_⟩
 obtain ⟨c1,h1,h2,h3⟩:=h.row x c T' hx
 by_cases e:x=g
 ·subst e
  rw [hg] at h1
  obtain ⟨rfl,rfl⟩:cs=c1∧T=T':=by simpa using h1
  refine ⟨_,hs,by simpa using h2,fun q hq=>?_⟩
  rw [Array.getElem?_setIfInBounds_ne (by intro e; subst e; exact hT hq)]
  exact h3 q hq
 ·exact ⟨c1,(ho x e).trans h1,h2,h3⟩
def ZgJ (w:World) (B:Nat) (T:TypeId) (k:Nat) (v:Value) (n:Nat):Prop:=
 (∃ c,v=.slice none 0 c∧n=0)∨∃ (g c:Nat) (cs:Array Value),v=.slice (some ⟨g,0,none⟩) n c∧B≤g∧w.heap[g]?=some (.cells cs T (0,0))∧n*k≤cs.size
theorem ZgJ.mk {T:TypeId} {k:Nat} {v:Value} {n B':Nat} (h:ZgJ w B' T k v n) (m:Mk TO D w a):ZgJ a B' T k v n:=by
 rcases h with h | ⟨g,c,cs,h1,h2,h3,h4⟩
 ·exact .inl h
 ·obtain ⟨c1,k1,k2,_⟩:=m.row g cs T h3
  exact .inr ⟨g,c,c1,h1,h2,k1,by omega⟩
theorem ZgJ.more {T:TypeId} {k:Nat} {v:Value} {n B':Nat} (h:ZgJ w B' T k v n) (hB:B≤B'):ZgJ w B T k v n:=by
 rcases h with h | ⟨g,c,cs,h1,h2,h3,h4⟩
 ·exact .inl h
 ·exact .inr ⟨g,c,cs,h1,Nat.le_trans hB h2,h3,h4⟩
theorem ZgJ.up {T:TypeId} {k:Nat} {v:Value} {n B':Nat} (h:ZgJ w B' T k v n) (m:Up w a):ZgJ a B' T k v n:=by
 rcases h with h | ⟨g,c,cs,h1,h2,h3,h4⟩
 ·exact .inl h
 ·exact .inr ⟨g,c,cs,h1,h2,(m.block g (Array.getElem?_eq_some_iff.1 h3).1).trans h3,h4⟩
def Zjf (w:World) (D:Nat→Prop) (T:TypeId) (k:Nat) (v:Value) (n:Nat):Prop:=
 (∃ c,v=.slice none 0 c∧n=0)∨∃ (g c:Nat) (cs:Array Value),v=.slice (some ⟨g,0,none⟩) n c∧D g∧w.heap[g]?=some (.cells cs T (0,0))∧n*k≤cs.size
theorem Zjf.mk {T:TypeId} {k:Nat} {v:Value} {n:Nat} {D':Nat→Prop} (h:Zjf w D' T k v n) (m:Mk TO D w a):Zjf a D' T k v n:=by
 rcases h with h | ⟨g,c,cs,h1,h2,h3,h4⟩
 ·exact .inl h
 ·obtain ⟨c1,k1,k2,_⟩:=m.row g cs T h3
  exact .inr ⟨g,c,c1,h1,h2,k1,by omega⟩
theorem Zjf.up {T:TypeId} {k:Nat} {v:Value} {n:Nat} {D':Nat→Prop} (h:Zjf w D' T k v n) (m:Up w a):Zjf a D' T k v n:=by
 rcases h with h | ⟨g,c,cs,h1,h2,h3,h4⟩
 ·exact .inl h
 ·exact .inr ⟨g,c,cs,h1,h2,(m.block g (Array.getElem?_eq_some_iff.1 h3).1).trans h3,h4⟩
def RowA (w:World) (g m:Nat) (T:TypeId):Prop:=∃ cs:Array Value,w.heap[g]?=some (.cells cs T (0,0))∧m≤cs.size
theorem RowA.mk {g m:Nat} {T:TypeId} (h:RowA w g m T) (k:Mk TO D w a):RowA a g m T:=by
 obtain ⟨cs,h1,h2⟩:=h
 obtain ⟨c1,k1,k2,_⟩:=k.row g cs T h1
 exact ⟨c1,k1,by omega⟩
theorem RowA.up {g m:Nat} {T:TypeId} (h:RowA w g m T) (k:Up w a):RowA a g m T:=by
 obtain ⟨cs,h1,h2⟩:=h
 exact ⟨cs,(k.block g (Array.getElem?_eq_some_iff.1 h1).1).trans h1,h2⟩
theorem RowA.cell {g m j:Nat} {T:TypeId} (h:RowA w g m T) (hj:j<m):(∃ u,w.cell? ⟨g,j,none⟩=some u)∧w.frozen? ⟨g,j,none⟩=false:=by
 obtain ⟨cs,h1,h2⟩:=h
 exact ⟨⟨cs[j]'(by omega),by rw [cell_of_row w g j cs T (0,0) h1]; exact Array.getElem?_eq_getElem _⟩,frozen_of_row w g j cs T h1⟩
theorem RowA.set {g m j:Nat} {T:TypeId} {g':Nat} (h:RowA w g m T) (hg:RowA w g' 0 T) (v:Value):RowA (w.setCell ⟨g',j,none⟩ v) g m T:=by
 obtain ⟨cs,h1,h2⟩:=h
 obtain ⟨cs',h1',_⟩:=hg
 by_cases e:g=g'
 ·subst e
  exact ⟨_,heap_setCell_same w g j cs T v h1,by simpa using h2⟩
 ·exact ⟨cs,(heap_setCell_other w ⟨g',j,none⟩ g v e).trans h1,h2⟩
theorem Mk.setR (h:Mk TO D w a) {g m j:Nat} {T:TypeId} (hg:RowA a g m T) (hBg:D g) (hT:¬ TO T j) (v:Value):Mk TO D w (a.setCell ⟨g,j,none⟩ v):=by
 obtain ⟨cs,h1,_⟩:=hg
 exact h.set h1 hBg hT v
theorem RowA.keep {g m j:Nat} {T:TypeId} (h:RowA w g m T) (v:Value):RowA (w.setCell ⟨g,j,none⟩ v) g m T:=h.set (by obtain ⟨cs,h1,_⟩:=h; exact ⟨cs,h1,Nat.zero_le _⟩) v
end
def digs:Nat→Nat→ByteArray→ByteArray
 | 0,_,s=>s
 | f+1,m,s=>if 0<m then digs f (m / 10) (strOfNums [48+(m:Int) % 10]++s) else s
def Zd7 (k:Int):ByteArray:=⟨#[109]⟩++digs k.toNat k.toNat ⟨#[]⟩
def Zg (k:Int):Option ByteArray:=if 1≤k∧k≤1099511627776 then some (Zd7 k) else none
theorem Zi6 (k:Int) (w:World) (h0:1≤k) (h1:k≤1099511627776):Calls Tryz.prog 44 #[.int .i64 k] w fun e w'=>e=.returned (.string (Zd7 k))∧Up w w':=by
 go_enter Tryz.func44,Tryz.ntmps44
 have hk:¬ k≤0:=by omega
 go_wp2
 go_loopw [3,0] (fun out kk wr=>∃ (m f:Nat) (s:ByteArray),kk=.int .i64 m∧out=.string s∧s.size+m≤1099511627777∧m≤f∧digs f m s=digs k.toNat k.toNat ⟨#[]⟩∧Up w wr) (fun _ kk _=>(intOf kk).toNat)
 case atStart=>exact ⟨k.toNat,k.toNat,⟨#[]⟩,by congr 1; omega,rfl,by show (0:Nat)+k.toNat≤_; omega,Nat.le_refl _,rfl,by (repeat (first | exact Up.rfl' _ | (refine Up.al _ ?_) | (refine Up.dr _ ?_) | (refine Up.dr1 ?_) | (refine Up.sc ?_ (by first | exact Nat.le_refl _ | (simp; done) | omega) _) | (refine Up.step (by assumption) ?_)))⟩
 case round=>
  obtain ⟨m,f,s,rfl,rfl,hm,hmf,hd,hb⟩:=hrel
  by_cases hlt:0<m
  ·obtain ⟨f,rfl⟩:∃ f',f=f'+1:=⟨f-1,by omega⟩
   have hd':digs f (m / 10) (strOfNums [48+(m:Int) % 10]++s)=digs k.toNat k.toNat ⟨#[]⟩:=by rw [← hd]; simp only [digs,hlt,if_true]
   have hcv:=run_convert_bytes_arg (P:=Tryz.prog) (wr.alloc (.cells #[.int .u8 (48+(m:Int) % 10)] 5)) 132 5 Tryz.underlying132 Tryz.underlying5 wr.heap.size 0 1 1 [48+(m:Int) % 10] rfl (fun i hi=>(by obtain rfl:i=0:=(by omega); simp [go_sem])) 9 Tryz.underlying9
   have hsz:(strOfNums [48+(m:Int) % 10]).size=1:=by simp [strOfNums,ByteArray.size]
   go_wp2
   exact ⟨⟨m / 10,f,_,by congr 1,rfl,by rw [ByteArray.size_append,hsz]; omega,by omega,hd',by (repeat (first | exact Up.rfl' _ | (refine Up.al _ ?_) | (refine Up.dr _ ?_) | (refine Up.dr1 ?_) | (refine Up.sc ?_ (by first | exact Nat.le_refl _ | (simp; done) | omega) _) | (refine Up.step (by assumption) ?_)))⟩,by simp [intOf]; omega⟩
  ·obtain rfl:m=0:=by omega
   go_wp2
   go_ret
   have hd':s=digs k.toNat k.toNat ⟨#[]⟩:=by rw [← hd]; cases f <;> simp [digs]
   exact ⟨by rw [hd']; rfl,hb⟩
theorem Zuh {w:World} {E:Env} {x y:Value} (h:Rep w E (.v x) y):y=x:=by
 cases h with
 | c h=>cases h with
  | v _ _=>rfl
theorem ZhQ (k:Int) {r:ByteArray} (H:Zg k=some r):ZdG Tryz.prog 44 [vi k] [] (vs r) []:=by
 unfold Zg at H
 split at H
 case isFalse=>cases H
 rename_i hok
 obtain rfl:=Option.some.inj H
 intro S β w vs ω hk hl ha
 obtain ⟨x,hx0,hr⟩:=ha 0 _ rfl
 have hv:vs=#[x]:=by
  have h1:vs.size=1:=hl
  apply Array.ext (by simp [h1])
  intro i h2 h3
  have:i=0:=by omega
  subst this
  have:=(Array.getElem?_eq_some_iff.1 hx0).2
  simpa using this
 subst hv
 obtain rfl:=Zuh hr
 refine (Zi6 k w hok.1 hok.2).mono ?_
 rintro e w' ⟨rfl,hu⟩
 have hnone:∀ l B,β l=some B→False:=fun l B hB=>by
  obtain ⟨mb,hmb⟩:=hk.dom l B hB
  simp at hmb
 exact ⟨_,E1 S β 0,rfl,⟨⟨hu.os,hu.tape,hu.output,hu.size,fun b hb _=>hu.block b hb⟩,fun b hb=>Nat.lt_of_lt_of_le (hk.sz b hb) hu.size,fun l B hB=>(hnone l B hB).elim,fun l l' B B' hB=>(hnone l B hB).elim,fun l hl=>hk.used l hl,fun l B hB=>(hnone l B hB).elim,fun l mb h=>(by simp at h),fun l B hB=>(hnone l B hB).elim,hk.tab,fun _ _ h=>h.elim⟩,fun b h=>h,fun b h=>.inl h,⟨fun l B hl=>absurd hl (Nat.not_lt_zero l),fun _ _ h=>h.elim⟩,.c (.v _ rfl)⟩
instance (k:Int):CT Tryz.prog (Zg k):=⟨44,[vi k],[],fun r=>vs r,fun r=>[],ZhQ k⟩
set_option maxRecDepth 4000
theorem Zsx {n0:Nat} {t t':List PV} {m:Mem} {a b c d e f g h i j k l a12:Option MB} (r0 r1 r2 r3 r4 r5 r6 r7 r8 r9 r10 r11 r12:Option Nat) (hl:lowB n0 0 [r0,r1,r2,r3,r4,r5,r6,r7,r8,r9,r10,r11,r12] [a,b,c,d,e,f,g,h,i,j,k,l,a12]=true) (hT:cutT (rho [r0,r1,r2,r3,r4,r5,r6,r7,r8,r9,r10,r11,r12]) m [a,b,c,d,e,f,g,h,i,j,k,l,a12] t t') (hM:Z1 [r0,r1,r2,r3,r4,r5,r6,r7,r8,r9,r10,r11,r12] m [a,b,c,d,e,f,g,h,i,j,k,l,a12] [r0,r1,r2,r3,r4,r5,r6,r7,r8,r9,r10,r11,r12] [a,b,c,d,e,f,g,h,i,j,k,l,a12]) (hi:injB [r0,r1,r2,r3,r4,r5,r6,r7,r8,r9,r10,r11,r12]=true):Cuts n0 t m t' [a,b,c,d,e,f,g,h,i,j,k,l,a12]:=ZcI hT hM hi hl
theorem Zsy {n0:Nat} {t t':List PV} {m:Mem} {a b c d e f g h i j k l a12 a13:Option MB} (r0 r1 r2 r3 r4 r5 r6 r7 r8 r9 r10 r11 r12 r13:Option Nat) (hl:lowB n0 0 [r0,r1,r2,r3,r4,r5,r6,r7,r8,r9,r10,r11,r12,r13] [a,b,c,d,e,f,g,h,i,j,k,l,a12,a13]=true) (hT:cutT (rho [r0,r1,r2,r3,r4,r5,r6,r7,r8,r9,r10,r11,r12,r13]) m [a,b,c,d,e,f,g,h,i,j,k,l,a12,a13] t t') (hM:Z1 [r0,r1,r2,r3,r4,r5,r6,r7,r8,r9,r10,r11,r12,r13] m [a,b,c,d,e,f,g,h,i,j,k,l,a12,a13] [r0,r1,r2,r3,r4,r5,r6,r7,r8,r9,r10,r11,r12,r13] [a,b,c,d,e,f,g,h,i,j,k,l,a12,a13]) (hi:injB [r0,r1,r2,r3,r4,r5,r6,r7,r8,r9,r10,r11,r12,r13]=true):Cuts n0 t m t' [a,b,c,d,e,f,g,h,i,j,k,l,a12,a13]:=ZcI hT hM hi hl
theorem Zsz {n0:Nat} {t t':List PV} {m:Mem} {a b c d e f g h i j k l a12 a13 a14:Option MB} (r0 r1 r2 r3 r4 r5 r6 r7 r8 r9 r10 r11 r12 r13 r14:Option Nat) (hl:lowB n0 0 [r0,r1,r2,r3,r4,r5,r6,r7,r8,r9,r10,r11,r12,r13,r14] [a,b,c,d,e,f,g,h,i,j,k,l,a12,a13,a14]=true) (hT:cutT (rho [r0,r1,r2,r3,r4,r5,r6,r7,r8,r9,r10,r11,r12,r13,r14]) m [a,b,c,d,e,f,g,h,i,j,k,l,a12,a13,a14] t t') (hM:Z1 [r0,r1,r2,r3,r4,r5,r6,r7,r8,r9,r10,r11,r12,r13,r14] m [a,b,c,d,e,f,g,h,i,j,k,l,a12,a13,a14] [r0,r1,r2,r3,r4,r5,r6,r7,r8,r9,r10,r11,r12,r13,r14] [a,b,c,d,e,f,g,h,i,j,k,l,a12,a13,a14]) (hi:injB [r0,r1,r2,r3,r4,r5,r6,r7,r8,r9,r10,r11,r12,r13,r14]=true):Cuts n0 t m t' [a,b,c,d,e,f,g,h,i,j,k,l,a12,a13,a14]:=ZcI hT hM hi hl
theorem ZsA {n0:Nat} {t t':List PV} {m:Mem} {a b c d e f g h i j k l a12 a13 a14 a15:Option MB} (r0 r1 r2 r3 r4 r5 r6 r7 r8 r9 r10 r11 r12 r13 r14 r15:Option Nat) (hl:lowB n0 0 [r0,r1,r2,r3,r4,r5,r6,r7,r8,r9,r10,r11,r12,r13,r14,r15] [a,b,c,d,e,f,g,h,i,j,k,l,a12,a13,a14,a15]=true) (hT:cutT (rho [r0,r1,r2,r3,r4,r5,r6,r7,r8,r9,r10,r11,r12,r13,r14,r15]) m [a,b,c,d,e,f,g,h,i,j,k,l,a12,a13,a14,a15] t t') (hM:Z1 [r0,r1,r2,r3,r4,r5,r6,r7,r8,r9,r10,r11,r12,r13,r14,r15] m [a,b,c,d,e,f,g,h,i,j,k,l,a12,a13,a14,a15] [r0,r1,r2,r3,r4,r5,r6,r7,r8,r9,r10,r11,r12,r13,r14,r15] [a,b,c,d,e,f,g,h,i,j,k,l,a12,a13,a14,a15]) (hi:injB [r0,r1,r2,r3,r4,r5,r6,r7,r8,r9,r10,r11,r12,r13,r14,r15]=true):Cuts n0 t m t' [a,b,c,d,e,f,g,h,i,j,k,l,a12,a13,a14,a15]:=ZcI hT hM hi hl
theorem ZsB {n0:Nat} {t t':List PV} {m:Mem} {a b c d e f g h i j k l a12 a13 a14 a15 a16:Option MB} (r0 r1 r2 r3 r4 r5 r6 r7 r8 r9 r10 r11 r12 r13 r14 r15 r16:Option Nat) (hl:lowB n0 0 [r0,r1,r2,r3,r4,r5,r6,r7,r8,r9,r10,r11,r12,r13,r14,r15,r16] [a,b,c,d,e,f,g,h,i,j,k,l,a12,a13,a14,a15,a16]=true) (hT:cutT (rho [r0,r1,r2,r3,r4,r5,r6,r7,r8,r9,r10,r11,r12,r13,r14,r15,r16]) m [a,b,c,d,e,f,g,h,i,j,k,l,a12,a13,a14,a15,a16] t t') (hM:Z1 [r0,r1,r2,r3,r4,r5,r6,r7,r8,r9,r10,r11,r12,r13,r14,r15,r16] m [a,b,c,d,e,f,g,h,i,j,k,l,a12,a13,a14,a15,a16] [r0,r1,r2,r3,r4,r5,r6,r7,r8,r9,r10,r11,r12,r13,r14,r15,r16] [a,b,c,d,e,f,g,h,i,j,k,l,a12,a13,a14,a15,a16]) (hi:injB [r0,r1,r2,r3,r4,r5,r6,r7,r8,r9,r10,r11,r12,r13,r14,r15,r16]=true):Cuts n0 t m t' [a,b,c,d,e,f,g,h,i,j,k,l,a12,a13,a14,a15,a16]:=ZcI hT hM hi hl
theorem ZsC {n0:Nat} {t t':List PV} {m:Mem} {a b c d e f g h i j k l a12 a13 a14 a15 a16 a17:Option MB} (r0 r1 r2 r3 r4 r5 r6 r7 r8 r9 r10 r11 r12 r13 r14 r15 r16 r17:Option Nat) (hl:lowB n0 0 [r0,r1,r2,r3,r4,r5,r6,r7,r8,r9,r10,r11,r12,r13,r14,r15,r16,r17] [a,b,c,d,e,f,g,h,i,j,k,l,a12,a13,a14,a15,a16,a17]=true) (hT:cutT (rho [r0,r1,r2,r3,r4,r5,r6,r7,r8,r9,r10,r11,r12,r13,r14,r15,r16,r17]) m [a,b,c,d,e,f,g,h,i,j,k,l,a12,a13,a14,a15,a16,a17] t t') (hM:Z1 [r0,r1,r2,r3,r4,r5,r6,r7,r8,r9,r10,r11,r12,r13,r14,r15,r16,r17] m [a,b,c,d,e,f,g,h,i,j,k,l,a12,a13,a14,a15,a16,a17] [r0,r1,r2,r3,r4,r5,r6,r7,r8,r9,r10,r11,r12,r13,r14,r15,r16,r17] [a,b,c,d,e,f,g,h,i,j,k,l,a12,a13,a14,a15,a16,a17]) (hi:injB [r0,r1,r2,r3,r4,r5,r6,r7,r8,r9,r10,r11,r12,r13,r14,r15,r16,r17]=true):Cuts n0 t m t' [a,b,c,d,e,f,g,h,i,j,k,l,a12,a13,a14,a15,a16,a17]:=ZcI hT hM hi hl
theorem ZsD {n0:Nat} {t t':List PV} {m:Mem} {a b c d e f g h i j k l a12 a13 a14 a15 a16 a17 a18:Option MB} (r0 r1 r2 r3 r4 r5 r6 r7 r8 r9 r10 r11 r12 r13 r14 r15 r16 r17 r18:Option Nat) (hl:lowB n0 0 [r0,r1,r2,r3,r4,r5,r6,r7,r8,r9,r10,r11,r12,r13,r14,r15,r16,r17,r18] [a,b,c,d,e,f,g,h,i,j,k,l,a12,a13,a14,a15,a16,a17,a18]=true) (hT:cutT (rho [r0,r1,r2,r3,r4,r5,r6,r7,r8,r9,r10,r11,r12,r13,r14,r15,r16,r17,r18]) m [a,b,c,d,e,f,g,h,i,j,k,l,a12,a13,a14,a15,a16,a17,a18] t t') (hM:Z1 [r0,r1,r2,r3,r4,r5,r6,r7,r8,r9,r10,r11,r12,r13,r14,r15,r16,r17,r18] m [a,b,c,d,e,f,g,h,i,j,k,l,a12,a13,a14,a15,a16,a17,a18] [r0,r1,r2,r3,r4,r5,r6,r7,r8,r9,r10,r11,r12,r13,r14,r15,r16,r17,r18] [a,b,c,d,e,f,g,h,i,j,k,l,a12,a13,a14,a15,a16,a17,a18]) (hi:injB [r0,r1,r2,r3,r4,r5,r6,r7,r8,r9,r10,r11,r12,r13,r14,r15,r16,r17,r18]=true):Cuts n0 t m t' [a,b,c,d,e,f,g,h,i,j,k,l,a12,a13,a14,a15,a16,a17,a18]:=ZcI hT hM hi hl
theorem ZsE {n0:Nat} {t t':List PV} {m:Mem} {a b c d e f g h i j k l a12 a13 a14 a15 a16 a17 a18 a19:Option MB} (r0 r1 r2 r3 r4 r5 r6 r7 r8 r9 r10 r11 r12 r13 r14 r15 r16 r17 r18 r19:Option Nat) (hl:lowB n0 0 [r0,r1,r2,r3,r4,r5,r6,r7,r8,r9,r10,r11,r12,r13,r14,r15,r16,r17,r18,r19] [a,b,c,d,e,f,g,h,i,j,k,l,a12,a13,a14,a15,a16,a17,a18,a19]=true) (hT:cutT (rho [r0,r1,r2,r3,r4,r5,r6,r7,r8,r9,r10,r11,r12,r13,r14,r15,r16,r17,r18,r19]) m [a,b,c,d,e,f,g,h,i,j,k,l,a12,a13,a14,a15,a16,a17,a18,a19] t t') (hM:Z1 [r0,r1,r2,r3,r4,r5,r6,r7,r8,r9,r10,r11,r12,r13,r14,r15,r16,r17,r18,r19] m [a,b,c,d,e,f,g,h,i,j,k,l,a12,a13,a14,a15,a16,a17,a18,a19] [r0,r1,r2,r3,r4,r5,r6,r7,r8,r9,r10,r11,r12,r13,r14,r15,r16,r17,r18,r19] [a,b,c,d,e,f,g,h,i,j,k,l,a12,a13,a14,a15,a16,a17,a18,a19]) (hi:injB [r0,r1,r2,r3,r4,r5,r6,r7,r8,r9,r10,r11,r12,r13,r14,r15,r16,r17,r18,r19]=true):Cuts n0 t m t' [a,b,c,d,e,f,g,h,i,j,k,l,a12,a13,a14,a15,a16,a17,a18,a19]:=ZcI hT hM hi hl
theorem ZsF {n0:Nat} {t t':List PV} {m:Mem} {a b c d e f g h i j k l a12 a13 a14 a15 a16 a17 a18 a19 a20:Option MB} (r0 r1 r2 r3 r4 r5 r6 r7 r8 r9 r10 r11 r12 r13 r14 r15 r16 r17 r18 r19 r20:Option Nat) (hl:lowB n0 0 [r0,r1,r2,r3,r4,r5,r6,r7,r8,r9,r10,r11,r12,r13,r14,r15,r16,r17,r18,r19,r20] [a,b,c,d,e,f,g,h,i,j,k,l,a12,a13,a14,a15,a16,a17,a18,a19,a20]=true) (hT:cutT (rho [r0,r1,r2,r3,r4,r5,r6,r7,r8,r9,r10,r11,r12,r13,r14,r15,r16,r17,r18,r19,r20]) m [a,b,c,d,e,f,g,h,i,j,k,l,a12,a13,a14,a15,a16,a17,a18,a19,a20] t t') (hM:Z1 [r0,r1,r2,r3,r4,r5,r6,r7,r8,r9,r10,r11,r12,r13,r14,r15,r16,r17,r18,r19,r20] m [a,b,c,d,e,f,g,h,i,j,k,l,a12,a13,a14,a15,a16,a17,a18,a19,a20] [r0,r1,r2,r3,r4,r5,r6,r7,r8,r9,r10,r11,r12,r13,r14,r15,r16,r17,r18,r19,r20] [a,b,c,d,e,f,g,h,i,j,k,l,a12,a13,a14,a15,a16,a17,a18,a19,a20]) (hi:injB [r0,r1,r2,r3,r4,r5,r6,r7,r8,r9,r10,r11,r12,r13,r14,r15,r16,r17,r18,r19,r20]=true):Cuts n0 t m t' [a,b,c,d,e,f,g,h,i,j,k,l,a12,a13,a14,a15,a16,a17,a18,a19,a20]:=ZcI hT hM hi hl
theorem ZsG {n0:Nat} {t t':List PV} {m:Mem} {a b c d e f g h i j k l a12 a13 a14 a15 a16 a17 a18 a19 a20 a21:Option MB} (r0 r1 r2 r3 r4 r5 r6 r7 r8 r9 r10 r11 r12 r13 r14 r15 r16 r17 r18 r19 r20 r21:Option Nat) (hl:lowB n0 0 [r0,r1,r2,r3,r4,r5,r6,r7,r8,r9,r10,r11,r12,r13,r14,r15,r16,r17,r18,r19,r20,r21] [a,b,c,d,e,f,g,h,i,j,k,l,a12,a13,a14,a15,a16,a17,a18,a19,a20,a21]=true) (hT:cutT (rho [r0,r1,r2,r3,r4,r5,r6,r7,r8,r9,r10,r11,r12,r13,r14,r15,r16,r17,r18,r19,r20,r21]) m [a,b,c,d,e,f,g,h,i,j,k,l,a12,a13,a14,a15,a16,a17,a18,a19,a20,a21] t t') (hM:Z1 [r0,r1,r2,r3,r4,r5,r6,r7,r8,r9,r10,r11,r12,r13,r14,r15,r16,r17,r18,r19,r20,r21] m [a,b,c,d,e,f,g,h,i,j,k,l,a12,a13,a14,a15,a16,a17,a18,a19,a20,a21] [r0,r1,r2,r3,r4,r5,r6,r7,r8,r9,r10,r11,r12,r13,r14,r15,r16,r17,r18,r19,r20,r21] [a,b,c,d,e,f,g,h,i,j,k,l,a12,a13,a14,a15,a16,a17,a18,a19,a20,a21]) (hi:injB [r0,r1,r2,r3,r4,r5,r6,r7,r8,r9,r10,r11,r12,r13,r14,r15,r16,r17,r18,r19,r20,r21]=true):Cuts n0 t m t' [a,b,c,d,e,f,g,h,i,j,k,l,a12,a13,a14,a15,a16,a17,a18,a19,a20,a21]:=ZcI hT hM hi hl
theorem ZsH {n0:Nat} {t t':List PV} {m:Mem} {a b c d e f g h i j k l a12 a13 a14 a15 a16 a17 a18 a19 a20 a21 a22:Option MB} (r0 r1 r2 r3 r4 r5 r6 r7 r8 r9 r10 r11 r12 r13 r14 r15 r16 r17 r18 r19 r20 r21 r22:Option Nat) (hl:lowB n0 0 [r0,r1,r2,r3,r4,r5,r6,r7,r8,r9,r10,r11,r12,r13,r14,r15,r16,r17,r18,r19,r20,r21,r22] [a,b,c,d,e,f,g,h,i,j,k,l,a12,a13,a14,a15,a16,a17,a18,a19,a20,a21,a22]=true) (hT:cutT (rho [r0,r1,r2,r3,r4,r5,r6,r7,r8,r9,r10,r11,r12,r13,r14,r15,r16,r17,r18,r19,r20,r21,r22]) m [a,b,c,d,e,f,g,h,i,j,k,l,a12,a13,a14,a15,a16,a17,a18,a19,a20,a21,a22] t t') (hM:Z1 [r0,r1,r2,r3,r4,r5,r6,r7,r8,r9,r10,r11,r12,r13,r14,r15,r16,r17,r18,r19,r20,r21,r22] m [a,b,c,d,e,f,g,h,i,j,k,l,a12,a13,a14,a15,a16,a17,a18,a19,a20,a21,a22] [r0,r1,r2,r3,r4,r5,r6,r7,r8,r9,r10,r11,r12,r13,r14,r15,r16,r17,r18,r19,r20,r21,r22] [a,b,c,d,e,f,g,h,i,j,k,l,a12,a13,a14,a15,a16,a17,a18,a19,a20,a21,a22]) (hi:injB [r0,r1,r2,r3,r4,r5,r6,r7,r8,r9,r10,r11,r12,r13,r14,r15,r16,r17,r18,r19,r20,r21,r22]=true):Cuts n0 t m t' [a,b,c,d,e,f,g,h,i,j,k,l,a12,a13,a14,a15,a16,a17,a18,a19,a20,a21,a22]:=ZcI hT hM hi hl
theorem ZsI {n0:Nat} {t t':List PV} {m:Mem} {a b c d e f g h i j k l a12 a13 a14 a15 a16 a17 a18 a19 a20 a21 a22 a23:Option MB} (r0 r1 r2 r3 r4 r5 r6 r7 r8 r9 r10 r11 r12 r13 r14 r15 r16 r17 r18 r19 r20 r21 r22 r23:Option Nat) (hl:lowB n0 0 [r0,r1,r2,r3,r4,r5,r6,r7,r8,r9,r10,r11,r12,r13,r14,r15,r16,r17,r18,r19,r20,r21,r22,r23] [a,b,c,d,e,f,g,h,i,j,k,l,a12,a13,a14,a15,a16,a17,a18,a19,a20,a21,a22,a23]=true) (hT:cutT (rho [r0,r1,r2,r3,r4,r5,r6,r7,r8,r9,r10,r11,r12,r13,r14,r15,r16,r17,r18,r19,r20,r21,r22,r23]) m [a,b,c,d,e,f,g,h,i,j,k,l,a12,a13,a14,a15,a16,a17,a18,a19,a20,a21,a22,a23] t t') (hM:Z1 [r0,r1,r2,r3,r4,r5,r6,r7,r8,r9,r10,r11,r12,r13,r14,r15,r16,r17,r18,r19,r20,r21,r22,r23] m [a,b,c,d,e,f,g,h,i,j,k,l,a12,a13,a14,a15,a16,a17,a18,a19,a20,a21,a22,a23] [r0,r1,r2,r3,r4,r5,r6,r7,r8,r9,r10,r11,r12,r13,r14,r15,r16,r17,r18,r19,r20,r21,r22,r23] [a,b,c,d,e,f,g,h,i,j,k,l,a12,a13,a14,a15,a16,a17,a18,a19,a20,a21,a22,a23]) (hi:injB [r0,r1,r2,r3,r4,r5,r6,r7,r8,r9,r10,r11,r12,r13,r14,r15,r16,r17,r18,r19,r20,r21,r22,r23]=true):Cuts n0 t m t' [a,b,c,d,e,f,g,h,i,j,k,l,a12,a13,a14,a15,a16,a17,a18,a19,a20,a21,a22,a23]:=ZcI hT hM hi hl
theorem zxs {p:Prop} (h:p:=by ((refine ZdG.weak (CT.ok hy) ?_); (repeat' (first | exact SubA.n | (refine SubA.c ?_ ?_) | exact SubV.c (SubC.r _) | exact SubV.c (SubC.nil _) | (refine SubV.ag ?_) | exact SubL.n | (refine SubL.c ?_ ?_) | exact SubC.r _ | exact SubC.nil _ | exact SubC.un _))); (first | done | fail)):p:=h
theorem zxc {p:Prop} (h:p:=by (try simp only [U_s,U_z]); (with_reducible refine cutS ?_); (first | (with_reducible apply ZrW) | (with_reducible apply ZrX) | (with_reducible apply ZrY) | (with_reducible apply ZrZ) | (with_reducible apply Zr0) | (with_reducible apply Zr1) | (with_reducible apply Zr2) | (with_reducible apply Zr3) | (with_reducible apply Zr4) | (with_reducible apply Zr5) | (with_reducible apply ZoX) | (with_reducible apply ZoY) | (with_reducible apply ZoZ) | (with_reducible apply Zsx) | (with_reducible apply Zsy) | (with_reducible apply Zsz) | (with_reducible apply ZsA) | (with_reducible apply ZsB) | (with_reducible apply ZsC) | (with_reducible apply ZsD) | (with_reducible apply ZsE) | (with_reducible apply ZsF) | (with_reducible apply ZsG) | (with_reducible apply ZsH) | (with_reducible apply ZsI)); (repeat' (first       | (with_reducible exact Zse) | (with_reducible refine Zsf ?_) | (with_reducible refine Zsg ?_) | (with_reducible refine Zo0 ?_)       | (with_reducible refine Zr7 ?_ ?_)       | (with_reducible exact Zm3)       | (with_reducible exact Zm4 rfl)       | exact Zm4 rfl       | (with_reducible exact Zm1)       | (with_reducible refine Zr6 ?_ ?_)       | exact .c _ rfl       | exact .un _       | exact ZoT rfl rfl       | exact ZoS rfl rfl       | exact Zij | exact Zjn       | exact Zjm rfl rfl       | (refine ZjN rfl ?_) | (refine ZkI rfl rfl ?_) | (refine ZmY rfl rfl rfl ?_)       | (refine ZmW rfl rfl ?_)       | (with_reducible refine ZmX ?_) | (with_reducible refine Zo1 ?_)       | (with_reducible refine Zo2 ?_)       | (with_reducible exact ZkE)       | (with_reducible refine ZoR ?_ ?_)       | (with_reducible refine ZoQ ?_)       | (with_reducible refine ZrT ?_)       | (with_reducible refine Zr8 ?_)       | (with_reducible exact ZjF)       | (refine ZiR rfl ?_ ?_)       | (refine ZiS rfl ?_) | (refine ZjE rfl ?_)       | (with_reducible refine ZiQ ?_)       | (with_reducible refine ZmT ?_)       | (with_reducible exact ZmS)       | (with_reducible refine ZmV ?_)       | (with_reducible exact ZrV)       | (with_reducible refine ZrU ?_ ?_)       | (with_reducible exact ZgO)       | (with_reducible refine ZhZ ?_)       | exact ZgO       | (refine ZhZ ?_)       | (refine ZmU ?_)       | (refine ZkH ?_)       | (refine ZkG rfl ?_)       | (refine Zjl rfl rfl rfl rfl ?_)       | (refine ZkF ?_ rfl rfl rfl rfl ?_)       | (simp only [cInt,cStr,Zkw,cB8,Zjk,ZfP,Z9,cZone,cRate,cLeg,cNetwork,Zv,Zd,ZK,Zz,ZeG,Zap,cAct,ZeU,Zie,Zic,Zid,Zhd,ZhA,Zhc])       | (with_unfolding_all rfl))); (all_goals first | (exact Zhg rfl) | exact none); (first | done | fail)):p:=h
theorem wk5 {p:Prop} (h:p:=by
 (simp only [List.length_cons,List.length_nil,Nat.reduceAdd,Nat.reduceSub,List.replicate_succ,List.replicate_zero,List.cons_append,List.nil_append,go_sem]);
 repeat' (first
  | ((with_reducible refine ZpD ?_ ?_ ?_); (focus (simp [isR])); (focus (simp only [go_sem])); (simp only [List.cons_append,List.nil_append]))
  | ((with_reducible refine Znw H rfl (by kernel_rfl) ?_); (clear H; intro H; simp only [go_sem,Nat.reduceAdd,Nat.reduceSub,Nat.reduceMul,Nat.reduceLT,Nat.reduceLeDiff,Nat.reduceEqDiff,if_true,eq_self]))
  | ((with_reducible refine Zui (rhoH H) ?_); (refine ZmN H rfl rfl ?_ ?_ ?_ ?_ ?_ ?_ ?_ ?_); (focus (first | rfl | (simp only [CT.args,List.map_cons,List.map_nil,renA,renC,ren1,Zqj,Zqi,Zqh]; done))); (focus (simp [CT.args,CT.m0,ZeY,ZY,lowA,lowC,low1,isR])); (focus (first | exact List.nodup_nil | decide)); (focus ((simp only [CT.m0]); (repeat' (first | exact Zgf | (refine Zge (by rfl) ?_) | (refine Zgg (by rfl) (by rfl) (by simp [ZY,lowC,low1,isR]) ?_))))); (focus (intro y_; simp [CT.mem,CT.m0])); (focus (intro y_; (simp only [CT.mem]); (repeat (first | exact ZkV | exact Zgo | exact Zhj | (refine hm_c Zgo ?_) | (refine hm_c (Za5 (by simp [ZY,isR])) ?_) | exact Za5 (by simp [ZY,isR]) | (refine Zir ?_))))); (focus (intro y_; (simp [CT.res,ZeZ,ZeY,ZY,isR]))); (clear H; intro y_ hy H; simp only [CT.res,CT.mem,Zev,List.drop_succ_cons,List.drop_zero,Option.map_none,go_sem,Nat.reduceAdd,Nat.reduceSub,Nat.reduceMul,Nat.reduceLT,Nat.reduceLeDiff,Nat.reduceEqDiff,if_true,eq_self]))
  | ((with_reducible refine jnS (jnH H) ?_); (first | ((refine ZpY H ?_ ?_ (fun K_ hL H=>?_) (fun o_ H=>?_)); (focus (decide +kernel)); (focus (decide +kernel))) | ((refine ZpX H ?_ ?_ (fun K_ hL H=>?_) (fun o_ H=>?_)); (focus (decide +kernel)); (focus (decide +kernel)))))
  | ((with_reducible refine rhoS (rhoH H) ?_); (refine ZoF H rfl rfl rfl ?_ ?_ ?_ ?_ ?_ ?_ ?_ ?_); (focus (first | rfl | (simp only [CT.args,List.map_cons,List.map_nil,renA,renC,ren1,Zqj,Zqi,Zqh]; done))); (focus (simp [CT.args,CT.m0,ZeY,ZY,lowA,lowC,low1,isR])); (focus (first | exact List.nodup_nil | decide)); (focus ((simp only [CT.m0]); (repeat' (first | exact Zgf | (refine Zge (by rfl) ?_) | (refine Zgg (by rfl) (by rfl) (by simp [ZY,lowC,low1,isR]) ?_))))); (focus (intro y_; simp [CT.mem,CT.m0])); (focus (intro y_; (simp only [CT.mem]); (repeat (first | exact ZkV | exact Zgo | exact Zhj | (refine hm_c Zgo ?_) | (refine hm_c (Za5 (by simp [ZY,isR])) ?_) | exact Za5 (by simp [ZY,isR]) | (refine Zir ?_))))); (focus (intro y_; (simp [CT.res,ZeZ,ZeY,ZY,isR]))); (clear H; intro y_ hy H; simp only [CT.res,CT.mem,Zev,List.drop_succ_cons,List.drop_zero,Option.map_none,go_sem,Nat.reduceAdd,Nat.reduceSub,Nat.reduceMul,Nat.reduceLT,Nat.reduceLeDiff,Nat.reduceEqDiff,if_true,eq_self]))
  | ((with_reducible refine Zny H ?_ ?_); (focus (exact zxc)); (clear H; intro z_ H))
  | ((with_reducible refine ZpW H ?_ ?_); (focus (exact zxc)); (clear H; intro H))
  | ((with_reducible refine Zp0 ?_); intro K_ hK)
  | ((with_reducible refine Zlm ?_))
  | ((with_reducible refine ZjB ?_); simp only [go_sem,Nat.reduceAdd,Nat.reduceSub,Nat.reduceMul,Nat.reduceLT,Nat.reduceLeDiff,Nat.reduceEqDiff,if_true,eq_self])
  | ((with_reducible refine Znz ?_); (try simp only [Zdr,Zcx]))
  | ((with_reducible refine Znx ?_); (simp only [Zhx,Zgu,Zdr,Zcx,if_true,if_false,eq_self,Nat.reduceEqDiff,Nat.one_ne_zero,Nat.zero_ne_one]); (try simp only [bexR,bsr,bsl] at H))
  | ((with_reducible refine ZpZ ?_); (try simp only [Zi0,Zhb]))
  | ((with_reducible refine hQ _ _ ?_); (try simp only [bexR,bsr,bsl] at H); replace H:=Hret H; subst H; simp only [Fin,resP,oneP,go_sem,Nat.reduceAdd,Nat.reduceSub,Nat.reduceMul,Nat.reduceLT,Nat.reduceLeDiff,Nat.reduceEqDiff,if_true,eq_self]; exact zxc)
  | ((with_reducible refine hQn _ _ ?_); (try simp only [bexR,bsr,bsl] at H); replace H:=Hret H; subst H; simp only [Fin,resP,oneP,go_sem,Nat.reduceAdd,Nat.reduceSub,Nat.reduceMul,Nat.reduceLT,Nat.reduceLeDiff,Nat.reduceEqDiff,if_true,eq_self]; exact zxc)
  | ((with_reducible refine ZtY ?_); (refine Zin (fun hg=>Hc1k H hg ?_) (fun hg=>Hc2k H hg ?_)) <;> (clear H; intro H; simp only [go_sem,Nat.reduceAdd,Nat.reduceSub,Nat.reduceMul,Nat.reduceLT,Nat.reduceLeDiff,Nat.reduceEqDiff,if_true,eq_self]))
  | ((with_reducible refine Zln ?_); simp only [ZlS,Zpe,Zpd,ZjQ]; (first | (with_reducible refine ZmQ ?_) | (with_reducible refine ZmP ?_) | ((refine Zii (fun hg=>Hc1k H hg ?_) (fun hg=>Hc2k H hg ?_)) <;> (clear H; intro H))))
  | ((with_reducible refine idxS ?_); replace H:=Zia H; obtain ⟨y_,hy,H⟩:=H; (with_reducible apply Zsd hy); (focus (first | (simp only [go_sem]; done) | (simp only [go_sem]; decide))); (focus (first | rfl | (simp only [go_sem]; rfl))); simp only [go_sem,Nat.reduceAdd,Nat.reduceSub,Nat.reduceMul,Nat.reduceLT,Nat.reduceLeDiff,Nat.reduceEqDiff,if_true,eq_self])
  | ((with_reducible refine idxM ?_); replace H:=Zia H; obtain ⟨y_,hy,H⟩:=H; (first | (refine Zph hy (by rfl) (by first | (simp only [go_sem]; done) | (simp only [go_sem]; decide)) (by first | rfl | (simp only [go_sem]; rfl)) ?_) | (refine Zng hy (by rfl) (by first | (simp only [go_sem]; done) | (simp only [go_sem]; decide)) (by first | rfl | (simp only [go_sem]; rfl)) ?_)); simp only [go_sem,Nat.reduceAdd,Nat.reduceSub,Nat.reduceMul,Nat.reduceLT,Nat.reduceLeDiff,Nat.reduceEqDiff,if_true,eq_self])
  | ((with_reducible refine idxB ?_); replace H:=Zia H; obtain ⟨y_,hy,H⟩:=H; (with_reducible apply Zpi hy); (focus (simp only [go_sem])); simp only [go_sem,Nat.reduceAdd,Nat.reduceSub,Nat.reduceMul,Nat.reduceLT,Nat.reduceLeDiff,Nat.reduceEqDiff,if_true,eq_self])
  | ((with_reducible refine ZtL ?_); replace H:=Zia H; obtain ⟨y_,hy,H⟩:=H; (first | ((with_reducible apply ZgM); (focus (exact CT.ok hy)); (focus (simp [isCA,isC,isC1])); (focus (exact Nat.le_of_ble_eq_true rfl)); (focus (exact xf)); (focus (first | exact Zq1 rfl | exact Zq2 rfl | exact Zna rfl | exact Znb rfl | exact (fun h=>(by cases h)) | (simp [CT.res,ZeZ,ZeY,ZY,isR]))); (simp only [CT.res,CT.mem,go_sem,Nat.reduceAdd,Nat.reduceSub,Nat.reduceMul,Nat.reduceLT,Nat.reduceLeDiff,Nat.reduceEqDiff,if_true,eq_self])) | ((with_reducible apply ZgM); (focus (exact zxs)); (focus (simp [isCA,isC,isC1])); (focus (exact Nat.le_of_ble_eq_true rfl)); (focus (exact xf)); (focus (first | exact Zq1 rfl | exact Zq2 rfl | exact Zna rfl | exact Znb rfl | exact (fun h=>(by cases h)) | (simp [CT.res,ZeZ,ZeY,ZY,isR]))); (simp only [CT.res,CT.mem,go_sem,Nat.reduceAdd,Nat.reduceSub,Nat.reduceMul,Nat.reduceLT,Nat.reduceLeDiff,Nat.reduceEqDiff,if_true,eq_self])) | ((with_reducible apply Zkx); (focus (first | (simp only [Zhw,ZhX,Zg6,ZhW,Ze8,ZiB,ZiA,ZfM,Zfo,Zft,List.forall_mem_nil,true_and,and_true,if_true]; (first | exact CT.ok hy | (simp only [all_nil,all_cons,isC,isC1,true_and,and_true,if_true]; exact CT.ok hy))) | (simp only [Zhw,ZhX,Zg6,ZhW,Ze8,ZiB,ZiA,ZfM,Zfo,Zft,List.forall_mem_nil,true_and,and_true,if_true]; (first | (exact zxs) | (simp only [all_nil,all_cons,isC,isC1,true_and,and_true,if_true]; (exact zxs)))) | (simp only [Zhw,ZhX,Zg6,ZhW,Ze8,ZiB,ZiA,ZfM,Zfo,Zft,List.forall_mem_nil,true_and,and_true,if_true]; (exact zxs)))); (focus (exact Nat.le_of_ble_eq_true rfl)); (focus (exact xf)); (focus (first | exact Zsc rfl | exact (fun _=>rfl) | (simp [CT.res,ZeZ,ZeY,ZY,isF]))); (simp only [CT.res,CT.mem,go_sem,Nat.reduceAdd,Nat.reduceSub,Nat.reduceMul,Nat.reduceLT,Nat.reduceLeDiff,Nat.reduceEqDiff,if_true,eq_self]))))
  | ((with_reducible refine slcS ?_); replace H:=Hchk H; obtain ⟨hc,H⟩:=H; (first | ((with_reducible apply ZnF hc); (focus rfl); (focus rfl); (focus (first | (simp only [go_sem]; done) | (simp only [go_sem]; decide))); (focus (first | rfl | (intro x_; rfl))); simp only [go_sem,Nat.reduceAdd,Nat.reduceSub,Nat.reduceMul,Nat.reduceLT,Nat.reduceLeDiff,Nat.reduceEqDiff,if_true,eq_self]) | ((refine Zls hc (by rfl) (by rfl) (by rfl) (by first | (simp only [go_sem]; done) | (simp only [go_sem]; decide)) (by first | rfl | (simp only [go_sem]; rfl)) ?_); simp only [go_sem,Nat.reduceAdd,Nat.reduceSub,Nat.reduceMul,Nat.reduceLT,Nat.reduceLeDiff,Nat.reduceEqDiff,if_true,eq_self]) | ((with_reducible apply Zlt hc); (focus rfl); (focus rfl); (focus (simp only [go_sem])); simp only [go_sem,Nat.reduceAdd,Nat.reduceSub,Nat.reduceMul,Nat.reduceLT,Nat.reduceLeDiff,Nat.reduceEqDiff,if_true,eq_self])))
  | ((with_reducible refine appS ?_); replace H:=Hchk H; obtain ⟨hc,H⟩:=H; (first | (refine ZoD hc (by first | (simp only [go_sem]; done) | (simp only [go_sem]; rfl)) (by first | (simp only [go_sem]; done) | (simp only [go_sem]; rfl)) (by first | (simp only [go_sem]; done) | (simp only [go_sem]; rfl)) (by first | (simp only [go_sem]; done) | (simp only [go_sem]; rfl)) (by rfl) (by first | rfl | exact Zkk (by rfl) (by rfl) (by rfl)) rfl rfl (by intro x_; rfl) rfl ?_) | (refine ZoE hc (by first | (simp only [go_sem]; done) | (simp only [go_sem]; rfl)) (by first | (simp only [go_sem]; done) | (simp only [go_sem]; rfl)) (by first | (simp only [go_sem]; done) | (simp only [go_sem]; rfl)) (by first | (simp only [go_sem]; done) | (simp only [go_sem]; rfl)) (by first | rfl | exact Zkk (by rfl) (by rfl) (by rfl)) rfl rfl (by intro x_; rfl) ?_) | (refine ZoC hc rfl (by first | (simp only [go_sem]; done) | (simp only [go_sem]; rfl)) (by first | (simp only [go_sem]; done) | (simp only [go_sem]; rfl)) (by first | (simp only [go_sem]; done) | (simp only [go_sem]; rfl)) (by first | (simp only [go_sem]; done) | (simp only [go_sem]; rfl)) (by rfl) (by rfl) (by rfl) (by rfl) rfl rfl (by rfl) ?_)); simp only [go_sem,Nat.reduceAdd,Nat.reduceSub,Nat.reduceMul,Nat.reduceLT,Nat.reduceLeDiff,Nat.reduceEqDiff,if_true,eq_self])
  | ((with_reducible refine mkS ?_); replace H:=Hchk H; obtain ⟨hc,H⟩:=H; (refine Zsh hc (by first | (simp only [go_sem]; done) | (simp only [go_sem]; rfl)) (by first | (simp only [go_sem]; done) | (simp only [go_sem]; rfl)) (by first | (simp only [go_sem]; done) | (simp only [go_sem]; rfl)) (by first | (simp only [go_sem]; done) | (simp only [go_sem]; rfl)) rfl rfl ?_); simp only [go_sem,Nat.reduceAdd,Nat.reduceSub,Nat.reduceMul,Nat.reduceLT,Nat.reduceLeDiff,Nat.reduceEqDiff,if_true,eq_self])
  | ((with_reducible refine optS ?_); (first | (with_reducible refine ZhH (by decide) ?_) | (replace H:=Hchk H; obtain ⟨hc,H⟩:=H; (first | (refine ZhH hc ?_) | (refine ZhH (of_decide_eq_true hc) ?_) | (refine ZhH ⟨rfl,of_decide_eq_true hc⟩ ?_)))); simp only [go_sem,Nat.reduceAdd,Nat.reduceSub,Nat.reduceMul,Nat.reduceLT,Nat.reduceLeDiff,Nat.reduceEqDiff,if_true,eq_self])
  | ((with_reducible refine Zt6 ?_); (refine Zlo (Hlp H) ?_ ?_); (focus (simp only [Zo.T,Zo.M,U_s,U_z]; exact zxc)); (clear H; intro n_ s_ H K_ hL; replace H:=Hrd H; simp only [Zo.T,Zo.M,U_s,U_z]))
  | ((with_reducible refine Znv (by kernel_rfl) ?_); simp only [go_sem,Nat.reduceAdd,Nat.reduceSub,Nat.reduceMul,Nat.reduceLT,Nat.reduceLeDiff,Nat.reduceEqDiff,if_true,eq_self])
  | ((with_reducible refine Zjo (by kernel_rfl) ?_); (try simp only [Zdr,Zcx]))
  | ((with_reducible refine hK _ _ ?_); clear hK)
  | (clear hK; (with_reducible refine hK _ _ ?_); clear hK)
  | (clear hK; clear hK; (with_reducible refine hK _ _ ?_); clear hK)
  | (clear hK; clear hK; clear hK; (with_reducible refine hK _ _ ?_); clear hK)
  | (clear hK; clear hK; clear hK; clear hK; (with_reducible refine hK _ _ ?_); clear hK)
  | (clear hK; clear hK; clear hK; clear hK; clear hK; (with_reducible refine hK _ _ ?_); clear hK)
  | ((with_reducible refine And.intro ?_ ?_); omega)
  | (simp only [Zl5,Zl3,Zl4,ZlJ]; simp only [go_sem,Nat.reduceAdd,Nat.reduceSub,Nat.reduceMul,Nat.reduceLT,Nat.reduceLeDiff,Nat.reduceEqDiff,if_true,eq_self])
  | ((first | simp only [lit3 hy,Option.map_some,List.drop_zero,go_sem] | simp only [Zrd hy,Option.map_some,List.drop_zero,go_sem] | simp only [ZjV hy,Zgp hy,ZhD hy,go_sem,Nat.reduceAdd,Nat.reduceSub,Nat.reduceMul,Nat.reduceLT,Nat.reduceLeDiff,Nat.reduceEqDiff,if_true,eq_self] | simp only [Zgp hy,ZhD hy,go_sem,Nat.reduceAdd,Nat.reduceSub,Nat.reduceMul,Nat.reduceLT,Nat.reduceLeDiff,Nat.reduceEqDiff,if_true,eq_self]))
  | ((with_reducible replace H:=HexL H); (with_reducible refine hL _ _ _ H ?_); (try simp only [Zo.T,Zo.M,U_s,U_z]); exact zxc)
  | ((with_reducible replace H:=HexL H); clear hL; (with_reducible refine hL _ _ _ H ?_); (try simp only [Zo.T,Zo.M,U_s,U_z]); exact zxc)
  | ((with_reducible refine jnX H hL ?_); exact zxc)
  | (with_reducible exact (ZtE H).elim)
  | ((with_reducible replace H:=rgH H); obtain ⟨y_,hy,H⟩:=H; (first | simp only [lit3 hy,Option.map_some,List.drop_zero,go_sem] | simp only [Zrd hy,Option.map_some,List.drop_zero,go_sem] | simp only [ZjV hy,Zgp hy,ZhD hy,go_sem,Nat.reduceAdd,Nat.reduceSub,Nat.reduceMul,Nat.reduceLT,Nat.reduceLeDiff,Nat.reduceEqDiff,if_true,eq_self] | simp only [Zgp hy,ZhD hy,go_sem,Nat.reduceAdd,Nat.reduceSub,Nat.reduceMul,Nat.reduceLT,Nat.reduceLeDiff,Nat.reduceEqDiff,if_true,eq_self])))):p:=h
set_option maxHeartbeats 16000000
def ZaC (s0:Int × Int × (List Int)):Option ((Int × Int × (List Int)) ⊕ (Int × (List Int))):=
 cond (decide (s0.2.1<(s0.2.2.length:Int)))
 ((getI s0.2.2 s0.2.1).bind fun y1=>
 some (.inl ((w64 (s0.1+1)),(w64 (s0.2.1+1)),(s0.2.2.set (Int.toNat s0.2.1) s0.1))))
 (some (.inr (s0.1,s0.2.2)))
instance:Zo (ZaC):=⟨fun s0=>(.ms 0::vi s0.1::(U 3 (vi s0.2.1::(U 13 [])))),fun s0=>[some ⟨.of 3,1,s0.2.2.map cInt⟩]⟩
def ZM (a:List Int) (k:Int):Option (Int × (List Int)):=
 (Zc (ZaC) NN (k,0,a)).bind (fun o0=>
 some (o0.1,o0.2))
instance (a:List Int) (k:Int):CT Tryz.prog (ZM a k):=⟨19,[.ms 0,vi k],[some ⟨.of 3,1,a.map cInt⟩],fun r=>vi r.1,fun r=>[some ⟨.of 3,1,r.2.map cInt⟩],fun H=>by replace H:=H0 H; unfold ZM at H; exact Za Tryz.func19 rfl Tryz.ntmps19 Tryz.results19 fun Q hQ hQn=>wk5⟩
def ZaD (s0:Int × Int × (List YLeg)):Option ((Int × Int × (List YLeg)) ⊕ (Int × (List YLeg))):=
 cond (decide (s0.2.1<(s0.2.2.length:Int)))
 ((Zg s0.1).bind fun y1=>
 (getI s0.2.2 s0.2.1).bind fun y2=>
 (frzL (s0.2.2.set (Int.toNat s0.2.1) (⟨y1,y2.to_,y2.start,y2.takes,y2.days,y2.room⟩:YLeg)) (fun y3=>(.ms 0::vi (w64 (s0.1+1))::(U 3 (vi s0.2.1::(U 51 []))))) (fun y3=>[some ⟨.of 115,6,y3.map cLeg⟩])).bind fun y3=>
 (Zg (w64 (s0.1+1))).bind fun y4=>
 (getI y3 s0.2.1).bind fun y5=>
 (frzL (y3.set (Int.toNat s0.2.1) (⟨y5.from_,y4,y5.start,y5.takes,y5.days,y5.room⟩:YLeg)) (fun y6=>(.ms 0::vi (w64 ((w64 (s0.1+1))+1))::(U 3 (vi s0.2.1::(U 51 []))))) (fun y6=>[some ⟨.of 115,6,y6.map cLeg⟩])).bind fun y6=>
 (getI y6 s0.2.1).bind fun y7=>
 (frzL (y6.set (Int.toNat s0.2.1) (⟨y7.from_,y7.to_,(w64 ((w64 (s0.1+1))+1)),y7.takes,y7.days,y7.room⟩:YLeg)) (fun y8=>(.ms 0::vi (w64 ((w64 ((w64 (s0.1+1))+1))+1))::(U 3 (vi s0.2.1::(U 51 []))))) (fun y8=>[some ⟨.of 115,6,y8.map cLeg⟩])).bind fun y8=>
 (getI y8 s0.2.1).bind fun y9=>
 (frzL (y8.set (Int.toNat s0.2.1) (⟨y9.from_,y9.to_,y9.start,(w64 ((w64 ((w64 (s0.1+1))+1))+1)),y9.days,y9.room⟩:YLeg)) (fun y10=>(.ms 0::vi (w64 ((w64 ((w64 ((w64 (s0.1+1))+1))+1))+1))::(U 3 (vi s0.2.1::(U 51 []))))) (fun y10=>[some ⟨.of 115,6,y10.map cLeg⟩])).bind fun y10=>
 (getI y10 s0.2.1).bind fun y11=>
 (frzL (y10.set (Int.toNat s0.2.1) (⟨y11.from_,y11.to_,y11.start,y11.takes,(w64 ((w64 ((w64 ((w64 (s0.1+1))+1))+1))+1)),y11.room⟩:YLeg)) (fun y12=>(.ms 0::vi (w64 ((w64 ((w64 ((w64 ((w64 (s0.1+1))+1))+1))+1))+1))::(U 3 (vi s0.2.1::(U 51 []))))) (fun y12=>[some ⟨.of 115,6,y12.map cLeg⟩])).bind fun y12=>
 (getI y12 s0.2.1).bind fun y13=>
 some (.inl ((w64 ((w64 ((w64 ((w64 ((w64 ((w64 (s0.1+1))+1))+1))+1))+1))+1)),(w64 (s0.2.1+1)),(y12.set (Int.toNat s0.2.1) (⟨y13.from_,y13.to_,y13.start,y13.takes,y13.days,(w64 ((w64 ((w64 ((w64 ((w64 (s0.1+1))+1))+1))+1))+1))⟩:YLeg)))))
 (some (.inr (s0.1,s0.2.2)))
instance:Zo (ZaD):=⟨fun s0=>(.ms 0::vi s0.1::(U 3 (vi s0.2.1::(U 51 [])))),fun s0=>[some ⟨.of 115,6,s0.2.2.map cLeg⟩]⟩
def ZbF (a:List YLeg) (k:Int):Option (Int × (List YLeg)):=
 (Zc (ZaD) NN (k,0,a)).bind (fun o0=>
 some (o0.1,o0.2))
instance (a:List YLeg) (k:Int):CT Tryz.prog (ZbF a k):=⟨43,[.ms 0,vi k],[some ⟨.of 115,6,a.map cLeg⟩],fun r=>vi r.1,fun r=>[some ⟨.of 115,6,r.2.map cLeg⟩],fun H=>by replace H:=H0 H; unfold ZbF at H; exact Za Tryz.func43 rfl Tryz.ntmps43 Tryz.results43 fun Q hQ hQn=>wk5⟩
def Z7 (a:YNetwork) (k:Int):Option (Int × YNetwork):=
 (rhoM [0]).bind fun _=>
 (ZbF a.legs k).bind fun y1=>
 (rhoM [1]).bind fun _=>
 (ZM a.off y1.1).bind fun y2=>
 some (y2.1,(⟨y1.2,y2.2,a.change⟩:YNetwork))
instance (a:YNetwork) (k:Int):CT Tryz.prog (Z7 a k):=⟨18,[.ag [.ms 0,.ms 1,vi a.change],vi k],[some ⟨.of 115,6,a.legs.map cLeg⟩,some ⟨.of 3,1,a.off.map cInt⟩],fun r=>vi r.1,fun r=>[some ⟨.of 115,6,r.2.legs.map cLeg⟩,some ⟨.of 3,1,r.2.off.map cInt⟩],fun H=>by replace H:=H0 H; unfold Z7 at H; exact Za Tryz.func18 rfl Tryz.ntmps18 Tryz.results18 fun Q hQ hQn=>wk5⟩
def Zer (k:Int) (s0:Unit):Option (Unit ⊕ Unit):=
 cond (decide (0<0))
 ((Zg k).bind fun y1=>
 none)
 (some (.inr ()))
instance (k:Int):Zo (Zer k):=⟨fun s0=>(.v (.slice none 0 0)::vi k::(U 3 (vi 0::(U 87 [])))),fun s0=>[]⟩
def ZaU (a:List Zr) (k:Int):Option Int:=
 (Zc (Zer k) NN ()).bind (fun o0=>
 some k)
instance (a:List Zr) (k:Int):CT Tryz.prog (ZaU a k):=⟨90,[.v (.slice none 0 0),vi k],[],fun r=>vi r,fun r=>[],fun H=>by replace H:=H0 H; unfold ZaU at H; exact Za Tryz.func90 rfl Tryz.ntmps90 Tryz.results90 fun Q hQ hQn=>wk5⟩
def ZdX (s0:Int × Int × (List Zb)):Option ((Int × Int × (List Zb)) ⊕ (Int × (List Zb))):=
 cond (decide (s0.2.1<(s0.2.2.length:Int)))
 ((getI s0.2.2 s0.2.1).bind fun y1=>
 (frzL (s0.2.2.set (Int.toNat s0.2.1) (⟨s0.1,y1.trip,y1.weight⟩:Zb)) (fun y2=>(.ms 0::vi (w64 (s0.1+1))::(U 3 (vi s0.2.1::(U 37 []))))) (fun y2=>[some ⟨.of 161,4,y2.map Zd⟩])).bind fun y2=>
 (getI y2 s0.2.1).bind fun y3=>
 (frzL (y2.set (Int.toNat s0.2.1) (⟨y3.thing,(⟨(w64 (s0.1+1)),y3.trip.day⟩:Zm),y3.weight⟩:Zb)) (fun y4=>(.ms 0::vi (w64 ((w64 (s0.1+1))+1))::(U 3 (vi s0.2.1::(U 37 []))))) (fun y4=>[some ⟨.of 161,4,y4.map Zd⟩])).bind fun y4=>
 (getI y4 s0.2.1).bind fun y5=>
 (frzL (y4.set (Int.toNat s0.2.1) (⟨y5.thing,(⟨y5.trip.leg,(w64 ((w64 (s0.1+1))+1))⟩:Zm),y5.weight⟩:Zb)) (fun y6=>(.ms 0::vi (w64 ((w64 ((w64 (s0.1+1))+1))+1))::(U 3 (vi s0.2.1::(U 37 []))))) (fun y6=>[some ⟨.of 161,4,y6.map Zd⟩])).bind fun y6=>
 (getI y6 s0.2.1).bind fun y7=>
 some (.inl ((w64 ((w64 ((w64 ((w64 (s0.1+1))+1))+1))+1)),(w64 (s0.2.1+1)),(y6.set (Int.toNat s0.2.1) (⟨y7.thing,y7.trip,(w64 ((w64 ((w64 (s0.1+1))+1))+1))⟩:Zb)))))
 (some (.inr (s0.1,s0.2.2)))
instance:Zo (ZdX):=⟨fun s0=>(.ms 0::vi s0.1::(U 3 (vi s0.2.1::(U 37 [])))),fun s0=>[some ⟨.of 161,4,s0.2.2.map Zd⟩]⟩
def Zam (a:List Zb) (k:Int):Option (Int × (List Zb)):=
 (Zc (ZdX) NN (k,0,a)).bind (fun o0=>
 some (o0.1,o0.2))
instance (a:List Zb) (k:Int):CT Tryz.prog (Zam a k):=⟨91,[.ms 0,vi k],[some ⟨.of 161,4,a.map Zd⟩],fun r=>vi r.1,fun r=>[some ⟨.of 161,4,r.2.map Zd⟩],fun H=>by replace H:=H0 H; unfold Zam at H; exact Za Tryz.func91 rfl Tryz.ntmps91 Tryz.results91 fun Q hQ hQn=>wk5⟩
def Zez (s0:Int × Int × (List Zm)):Option ((Int × Int × (List Zm)) ⊕ (Int × (List Zm))):=
 cond (decide (s0.2.1<(s0.2.2.length:Int)))
 ((getI s0.2.2 s0.2.1).bind fun y1=>
 (frzL (s0.2.2.set (Int.toNat s0.2.1) (⟨s0.1,y1.day⟩:Zm)) (fun y2=>(.ms 0::vi (w64 (s0.1+1))::(U 3 (vi s0.2.1::(U 21 []))))) (fun y2=>[some ⟨.of 104,2,y2.map Zv⟩])).bind fun y2=>
 (getI y2 s0.2.1).bind fun y3=>
 some (.inl ((w64 ((w64 (s0.1+1))+1)),(w64 (s0.2.1+1)),(y2.set (Int.toNat s0.2.1) (⟨y3.leg,(w64 (s0.1+1))⟩:Zm)))))
 (some (.inr (s0.1,s0.2.2)))
instance:Zo (Zez):=⟨fun s0=>(.ms 0::vi s0.1::(U 3 (vi s0.2.1::(U 21 [])))),fun s0=>[some ⟨.of 104,2,s0.2.2.map Zv⟩]⟩
def Zbi (a:List Zm) (k:Int):Option (Int × (List Zm)):=
 (Zc (Zez) NN (k,0,a)).bind (fun o0=>
 some (o0.1,o0.2))
instance (a:List Zm) (k:Int):CT Tryz.prog (Zbi a k):=⟨92,[.ms 0,vi k],[some ⟨.of 104,2,a.map Zv⟩],fun r=>vi r.1,fun r=>[some ⟨.of 104,2,r.2.map Zv⟩],fun H=>by replace H:=H0 H; unfold Zbi at H; exact Za Tryz.func92 rfl Tryz.ntmps92 Tryz.results92 fun Q hQ hQn=>wk5⟩
def Zey (s0:Int × Int × (List Z2)):Option ((Int × Int × (List Z2)) ⊕ (Int × (List Z2))):=
 cond (decide (s0.2.1<(s0.2.2.length:Int)))
 ((getI s0.2.2 s0.2.1).bind fun y1=>
 (frzL (s0.2.2.set (Int.toNat s0.2.1) (⟨s0.1,y1.at_,y1.kind,y1.place,y1.trip⟩:Z2)) (fun y2=>(.ms 0::vi (w64 (s0.1+1))::(U 3 (vi s0.2.1::(U 52 []))))) (fun y2=>[some ⟨.of 144,6,y2.map ZK⟩])).bind fun y2=>
 (getI y2 s0.2.1).bind fun y3=>
 (frzL (y2.set (Int.toNat s0.2.1) (⟨y3.thing,(w64 (s0.1+1)),y3.kind,y3.place,y3.trip⟩:Z2)) (fun y4=>(.ms 0::vi (w64 ((w64 (s0.1+1))+1))::(U 3 (vi s0.2.1::(U 52 []))))) (fun y4=>[some ⟨.of 144,6,y4.map ZK⟩])).bind fun y4=>
 (getI y4 s0.2.1).bind fun y5=>
 (frzL (y4.set (Int.toNat s0.2.1) (⟨y5.thing,y5.at_,(w64 ((w64 (s0.1+1))+1)),y5.place,y5.trip⟩:Z2)) (fun y6=>(.ms 0::vi (w64 ((w64 ((w64 (s0.1+1))+1))+1))::(U 3 (vi s0.2.1::(U 52 []))))) (fun y6=>[some ⟨.of 144,6,y6.map ZK⟩])).bind fun y6=>
 (Zg (w64 ((w64 ((w64 (s0.1+1))+1))+1))).bind fun y7=>
 (getI y6 s0.2.1).bind fun y8=>
 (frzL (y6.set (Int.toNat s0.2.1) (⟨y8.thing,y8.at_,y8.kind,y7,y8.trip⟩:Z2)) (fun y9=>(.ms 0::vi (w64 ((w64 ((w64 ((w64 (s0.1+1))+1))+1))+1))::(U 3 (vi s0.2.1::(U 52 []))))) (fun y9=>[some ⟨.of 144,6,y9.map ZK⟩])).bind fun y9=>
 (getI y9 s0.2.1).bind fun y10=>
 (frzL (y9.set (Int.toNat s0.2.1) (⟨y10.thing,y10.at_,y10.kind,y10.place,(⟨(w64 ((w64 ((w64 ((w64 (s0.1+1))+1))+1))+1)),y10.trip.day⟩:Zm)⟩:Z2)) (fun y11=>(.ms 0::vi (w64 ((w64 ((w64 ((w64 ((w64 (s0.1+1))+1))+1))+1))+1))::(U 3 (vi s0.2.1::(U 52 []))))) (fun y11=>[some ⟨.of 144,6,y11.map ZK⟩])).bind fun y11=>
 (getI y11 s0.2.1).bind fun y12=>
 some (.inl ((w64 ((w64 ((w64 ((w64 ((w64 ((w64 (s0.1+1))+1))+1))+1))+1))+1)),(w64 (s0.2.1+1)),(y11.set (Int.toNat s0.2.1) (⟨y12.thing,y12.at_,y12.kind,y12.place,(⟨y12.trip.leg,(w64 ((w64 ((w64 ((w64 ((w64 (s0.1+1))+1))+1))+1))+1))⟩:Zm)⟩:Z2)))))
 (some (.inr (s0.1,s0.2.2)))
instance:Zo (Zey):=⟨fun s0=>(.ms 0::vi s0.1::(U 3 (vi s0.2.1::(U 52 [])))),fun s0=>[some ⟨.of 144,6,s0.2.2.map ZK⟩]⟩
def Zbh (a:List Z2) (k:Int):Option (Int × (List Z2)):=
 (Zc (Zey) NN (k,0,a)).bind (fun o0=>
 some (o0.1,o0.2))
instance (a:List Z2) (k:Int):CT Tryz.prog (Zbh a k):=⟨93,[.ms 0,vi k],[some ⟨.of 144,6,a.map ZK⟩],fun r=>vi r.1,fun r=>[some ⟨.of 144,6,r.2.map ZK⟩],fun H=>by replace H:=H0 H; unfold Zbh at H; exact Za Tryz.func93 rfl Tryz.ntmps93 Tryz.results93 fun Q hQ hQn=>wk5⟩
def Zbj (a:Zf) (k:Int):Option (Int × Zf):=
 (rhoM [0,1]).bind fun _=>
 (Z7 a.network k).bind fun y1=>
 (rhoM []).bind fun _=>
 (ZaU ([]) y1.1).bind fun y2=>
 (rhoM [2]).bind fun _=>
 (Zam a.bookings y2).bind fun y3=>
 (rhoM [3]).bind fun _=>
 (Zbi a.closed y3.1).bind fun y4=>
 (rhoM [4]).bind fun _=>
 (Zbh a.scans y4.1).bind fun y5=>
 (rhoM [5]).bind fun _=>
 (ZM a.skip y5.1).bind fun y6=>
 some (y6.1,(⟨(⟨y1.2.legs,y1.2.off,a.network.change⟩:YNetwork),[],y3.2,y4.2,a.now,y5.2,y6.2,a.made⟩:Zf))
instance (a:Zf) (k:Int):CT Tryz.prog (Zbj a k):=⟨45,[.ag [.ms 0,.ms 1,vi a.network.change,.v (.slice none 0 0),.ms 2,.ms 3,vi a.now,.ms 4,.ms 5,vi a.made],vi k],[some ⟨.of 115,6,a.network.legs.map cLeg⟩,some ⟨.of 3,1,a.network.off.map cInt⟩,some ⟨.of 161,4,a.bookings.map Zd⟩,some ⟨.of 104,2,a.closed.map Zv⟩,some ⟨.of 144,6,a.scans.map ZK⟩,some ⟨.of 3,1,a.skip.map cInt⟩],fun r=>vi r.1,fun r=>[some ⟨.of 115,6,r.2.network.legs.map cLeg⟩,some ⟨.of 3,1,r.2.network.off.map cInt⟩,some ⟨.of 161,4,r.2.bookings.map Zd⟩,some ⟨.of 104,2,r.2.closed.map Zv⟩,some ⟨.of 144,6,r.2.scans.map ZK⟩,some ⟨.of 3,1,r.2.skip.map cInt⟩],fun H=>by replace H:=H0 H; unfold Zbj at H; exact Za Tryz.func45 rfl Tryz.ntmps45 Tryz.results45 fun Q hQ hQn=>wk5⟩
def ZbA (a:List Int) (s0:Int × Int):Option ((Int × Int) ⊕ (Int ⊕ Int)):=
 cond (decide (s0.2<(a.length:Int)))
 ((getI a s0.2).bind fun y1=>
 cond (!decide (y1=s0.1))
 (some (.inr (.inr (-1))))
 (some (.inl ((w64 (s0.1+1)),(w64 (s0.2+1))))))
 (some (.inr (.inl s0.1)))
instance (a:List Int):Zo (ZbA a):=⟨fun s0=>(.sl (a.map cInt)::vi s0.1::(U 3 (vi s0.2::(U 15 [])))),fun s0=>[]⟩
def Zac (a:List Int) (k:Int):Option Int:=
 (Zc (ZbA a) NN (k,0)).bind (Zp (fun o0=>
 some o0) (fun r=>some r))
instance (a:List Int) (k:Int):CT Tryz.prog (Zac a k):=⟨52,[.sl (a.map cInt),vi k],[],fun r=>vi r,fun r=>[],fun H=>by replace H:=H0 H; unfold Zac at H; exact Za Tryz.func52 rfl Tryz.ntmps52 Tryz.results52 fun Q hQ hQn=>wk5⟩
def Zfc (a:List Zm) (s0:Int × Int):Option ((Int × Int) ⊕ (Int ⊕ Int)):=
 cond (decide (s0.2<(a.length:Int)))
 ((getI a s0.2).bind fun y1=>
 cond (!decide (y1.leg=s0.1))
 (some (.inr (.inr (-1))))
 ((getI a s0.2).bind fun y2=>
 cond (!decide (y2.day=(w64 (s0.1+1))))
 (some (.inr (.inr (-1))))
 (some (.inl ((w64 ((w64 (s0.1+1))+1)),(w64 (s0.2+1)))))))
 (some (.inr (.inl s0.1)))
instance (a:List Zm):Zo (Zfc a):=⟨fun s0=>(.sl (a.map Zv)::vi s0.1::(U 3 (vi s0.2::(U 25 [])))),fun s0=>[]⟩
def Zbq (a:List Zm) (k:Int):Option Int:=
 (Zc (Zfc a) NN (k,0)).bind (Zp (fun o0=>
 some o0) (fun r=>some r))
instance (a:List Zm) (k:Int):CT Tryz.prog (Zbq a k):=⟨97,[.sl (a.map Zv),vi k],[],fun r=>vi r,fun r=>[],fun H=>by replace H:=H0 H; unfold Zbq at H; exact Za Tryz.func97 rfl Tryz.ntmps97 Tryz.results97 fun Q hQ hQn=>wk5⟩
def Zew (a:List Zb) (s0:Int × Int):Option ((Int × Int) ⊕ (Int ⊕ Int)):=
 cond (decide (s0.2<(a.length:Int)))
 ((getI a s0.2).bind fun y1=>
 cond (!decide (y1.thing=s0.1))
 (some (.inr (.inr (-1))))
 ((getI a s0.2).bind fun y2=>
 cond (!decide (y2.trip.leg=(w64 (s0.1+1))))
 (some (.inr (.inr (-1))))
 ((getI a s0.2).bind fun y3=>
 cond (!decide (y3.trip.day=(w64 ((w64 (s0.1+1))+1))))
 (some (.inr (.inr (-1))))
 ((getI a s0.2).bind fun y4=>
 cond (!decide (y4.weight=(w64 ((w64 ((w64 (s0.1+1))+1))+1))))
 (some (.inr (.inr (-1))))
 (some (.inl ((w64 ((w64 ((w64 ((w64 (s0.1+1))+1))+1))+1)),(w64 (s0.2+1)))))))))
 (some (.inr (.inl s0.1)))
instance (a:List Zb):Zo (Zew a):=⟨fun s0=>(.sl (a.map Zd)::vi s0.1::(U 3 (vi s0.2::(U 45 [])))),fun s0=>[]⟩
def Zbc (a:List Zb) (k:Int):Option Int:=
 (Zc (Zew a) NN (k,0)).bind (Zp (fun o0=>
 some o0) (fun r=>some r))
instance (a:List Zb) (k:Int):CT Tryz.prog (Zbc a k):=⟨96,[.sl (a.map Zd),vi k],[],fun r=>vi r,fun r=>[],fun H=>by replace H:=H0 H; unfold Zbc at H; exact Za Tryz.func96 rfl Tryz.ntmps96 Tryz.results96 fun Q hQ hQn=>wk5⟩
def Zfb (a:List Z2) (s0:Int × Int):Option ((Int × Int) ⊕ (Int ⊕ Int)):=
 cond (decide (s0.2<(a.length:Int)))
 ((getI a s0.2).bind fun y1=>
 cond (!decide (y1.thing=s0.1))
 (some (.inr (.inr (-1))))
 ((getI a s0.2).bind fun y2=>
 cond (!decide (y2.at_=(w64 (s0.1+1))))
 (some (.inr (.inr (-1))))
 ((getI a s0.2).bind fun y3=>
 cond (!decide (y3.kind=(w64 ((w64 (s0.1+1))+1))))
 (some (.inr (.inr (-1))))
 ((getI a s0.2).bind fun y4=>
 (Zg (w64 ((w64 ((w64 (s0.1+1))+1))+1))).bind fun y5=>
 cond (!decide (y4.place=y5))
 (some (.inr (.inr (-1))))
 ((getI a s0.2).bind fun y6=>
 cond (!decide (y6.trip.leg=(w64 ((w64 ((w64 ((w64 (s0.1+1))+1))+1))+1))))
 (some (.inr (.inr (-1))))
 ((getI a s0.2).bind fun y7=>
 cond (!decide (y7.trip.day=(w64 ((w64 ((w64 ((w64 ((w64 (s0.1+1))+1))+1))+1))+1))))
 (some (.inr (.inr (-1))))
 (some (.inl ((w64 ((w64 ((w64 ((w64 ((w64 ((w64 (s0.1+1))+1))+1))+1))+1))+1)),(w64 (s0.2+1)))))))))))
 (some (.inr (.inl s0.1)))
instance (a:List Z2):Zo (Zfb a):=⟨fun s0=>(.sl (a.map ZK)::vi s0.1::(U 3 (vi s0.2::(U 64 [])))),fun s0=>[]⟩
def ZcT (a:List Z2) (k:Int):Option Int:=
 (Zc (Zfb a) NN (k,0)).bind (Zp (fun o0=>
 some o0) (fun r=>some r))
instance (a:List Z2) (k:Int):CT Tryz.prog (ZcT a k):=⟨98,[.sl (a.map ZK),vi k],[],fun r=>vi r,fun r=>[],fun H=>by replace H:=H0 H; unfold ZcT at H; exact Za Tryz.func98 rfl Tryz.ntmps98 Tryz.results98 fun Q hQ hQn=>wk5⟩
def ZeX (a:List Zr) (s0:Int × Int):Option ((Int × Int) ⊕ (Int ⊕ Int)):=
 cond (decide (s0.2<(a.length:Int)))
 ((getI a s0.2).bind fun y1=>
 (Zg s0.1).bind fun y2=>
 cond (!decide (y1.from_=y2))
 (some (.inr (.inr (-1))))
 ((getI a s0.2).bind fun y3=>
 (Zg (w64 (s0.1+1))).bind fun y4=>
 cond (!decide (y3.to_=y4))
 (some (.inr (.inr (-1))))
 ((getI a s0.2).bind fun y5=>
 cond (!decide (y5.service=(w64 ((w64 (s0.1+1))+1))))
 (some (.inr (.inr (-1))))
 ((getI a s0.2).bind fun y6=>
 cond (!decide (y6.weight=(w64 ((w64 ((w64 (s0.1+1))+1))+1))))
 (some (.inr (.inr (-1))))
 ((getI a s0.2).bind fun y7=>
 cond (!decide (y7.at_=(w64 ((w64 ((w64 ((w64 (s0.1+1))+1))+1))+1))))
 (some (.inr (.inr (-1))))
 ((getI a s0.2).bind fun y8=>
 cond (!decide (y8.due=(w64 ((w64 ((w64 ((w64 ((w64 (s0.1+1))+1))+1))+1))+1))))
 (some (.inr (.inr (-1))))
 ((getI a s0.2).bind fun y9=>
 (Zbq y9.way (w64 ((w64 ((w64 ((w64 ((w64 ((w64 (s0.1+1))+1))+1))+1))+1))+1))).bind fun y10=>
 cond (decide (y10<0))
 (some (.inr (.inr (-1))))
 ((getI a s0.2).bind fun y11=>
 cond (!decide (y11.gone=y10))
 (some (.inr (.inr (-1))))
 ((getI a s0.2).bind fun y12=>
 cond (!decide (y12.state=(w64 (y10+1))))
 (some (.inr (.inr (-1))))
 ((getI a s0.2).bind fun y13=>
 (Zg (w64 ((w64 (y10+1))+1))).bind fun y14=>
 cond (!decide (y13.place=y14))
 (some (.inr (.inr (-1))))
 ((getI a s0.2).bind fun y15=>
 cond (!decide (y15.ended=(w64 ((w64 ((w64 (y10+1))+1))+1))))
 (some (.inr (.inr (-1))))
 (some (.inl ((w64 ((w64 ((w64 ((w64 (y10+1))+1))+1))+1)),(w64 (s0.2+1))))))))))))))))
 (some (.inr (.inl s0.1)))
instance (a:List Zr):Zo (ZeX a):=⟨fun s0=>(.sl (a.map Zz)::vi s0.1::(U 3 (vi s0.2::(U 109 [])))),fun s0=>[]⟩
def Zcg (a:List Zr) (k:Int):Option Int:=
 (Zc (ZeX a) NN (k,0)).bind (Zp (fun o0=>
 some o0) (fun r=>some r))
instance (a:List Zr) (k:Int):CT Tryz.prog (Zcg a k):=⟨95,[.sl (a.map Zz),vi k],[],fun r=>vi r,fun r=>[],fun H=>by replace H:=H0 H; unfold Zcg at H; exact Za Tryz.func95 rfl Tryz.ntmps95 Tryz.results95 fun Q hQ hQn=>wk5⟩
def ZbB (a:List YLeg) (s0:Int × Int):Option ((Int × Int) ⊕ (Int ⊕ Int)):=
 cond (decide (s0.2<(a.length:Int)))
 ((getI a s0.2).bind fun y1=>
 (Zg s0.1).bind fun y2=>
 cond (!decide (y1.from_=y2))
 (some (.inr (.inr (-1))))
 ((getI a s0.2).bind fun y3=>
 (Zg (w64 (s0.1+1))).bind fun y4=>
 cond (!decide (y3.to_=y4))
 (some (.inr (.inr (-1))))
 ((getI a s0.2).bind fun y5=>
 cond (!decide (y5.start=(w64 ((w64 (s0.1+1))+1))))
 (some (.inr (.inr (-1))))
 ((getI a s0.2).bind fun y6=>
 cond (!decide (y6.takes=(w64 ((w64 ((w64 (s0.1+1))+1))+1))))
 (some (.inr (.inr (-1))))
 ((getI a s0.2).bind fun y7=>
 cond (!decide (y7.days=(w64 ((w64 ((w64 ((w64 (s0.1+1))+1))+1))+1))))
 (some (.inr (.inr (-1))))
 ((getI a s0.2).bind fun y8=>
 cond (!decide (y8.room=(w64 ((w64 ((w64 ((w64 ((w64 (s0.1+1))+1))+1))+1))+1))))
 (some (.inr (.inr (-1))))
 (some (.inl ((w64 ((w64 ((w64 ((w64 ((w64 ((w64 (s0.1+1))+1))+1))+1))+1))+1)),(w64 (s0.2+1)))))))))))
 (some (.inr (.inl s0.1)))
instance (a:List YLeg):Zo (ZbB a):=⟨fun s0=>(.sl (a.map cLeg)::vi s0.1::(U 3 (vi s0.2::(U 63 [])))),fun s0=>[]⟩
def Zdi (a:List YLeg) (k:Int):Option Int:=
 (Zc (ZbB a) NN (k,0)).bind (Zp (fun o0=>
 some o0) (fun r=>some r))
instance (a:List YLeg) (k:Int):CT Tryz.prog (Zdi a k):=⟨135,[.sl (a.map cLeg),vi k],[],fun r=>vi r,fun r=>[],fun H=>by replace H:=H0 H; unfold Zdi at H; exact Za Tryz.func135 rfl Tryz.ntmps135 Tryz.results135 fun Q hQ hQn=>wk5⟩
def ZbC (a:YNetwork) (k:Int):Option Int:=
 (Zdi a.legs k).bind fun y1=>
 cond (decide (y1<0))
 (some (-1))
 ((Zac a.off y1).bind fun y2=>
 cond (decide (y2<0))
 (some (-1))
 (some y2))
instance (a:YNetwork) (k:Int):CT Tryz.prog (ZbC a k):=⟨94,[.ag (cNetwork a),vi k],[],fun r=>vi r,fun r=>[],fun H=>by replace H:=H0 H; unfold ZbC at H; exact Za Tryz.func94 rfl Tryz.ntmps94 Tryz.results94 fun Q hQ hQn=>wk5⟩
def ZcU (a:Zf) (k:Int):Option Int:=
 (ZbC a.network k).bind fun y1=>
 cond (decide (y1<0))
 (some (-1))
 ((Zcg a.orders y1).bind fun y2=>
 cond (decide (y2<0))
 (some (-1))
 ((Zbc a.bookings y2).bind fun y3=>
 cond (decide (y3<0))
 (some (-1))
 ((Zbq a.closed y3).bind fun y4=>
 cond (decide (y4<0))
 (some (-1))
 ((ZcT a.scans y4).bind fun y5=>
 cond (decide (y5<0))
 (some (-1))
 ((Zac a.skip y5).bind fun y6=>
 cond (decide (y6<0))
 (some (-1))
 (some y6))))))
instance (a:Zf) (k:Int):CT Tryz.prog (ZcU a k):=⟨49,[.ag (ZeG a),vi k],[],fun r=>vi r,fun r=>[],fun H=>by replace H:=H0 H; unfold ZcU at H; exact Za Tryz.func49 rfl Tryz.ntmps49 Tryz.results49 fun Q hQ hQn=>wk5⟩
theorem ZfY {σ ο:Type} {body:σ→Option (σ ⊕ ο)} (S:Nat→σ) {n:Nat} {o:ο} (h1:∀ i,i<n→body (S i)=some (.inl (S (i+1)))) (h2:body (S n)=some (.inr o)):∀ N,n<N→Zc body N (S 0)=some o:=by
 have key:∀ d j,j+d=n→∀ N,d<N→Zc body N (S j)=some o:=by
  intro d
  induction d with
  | zero=>
   intro j hj N hN
   obtain ⟨N,rfl⟩:∃ M,N=M+1:=⟨N-1,by omega⟩
   have:j=n:=by omega
   subst this
   unfold Zc; rw [h2]; rfl
  | succ d ih=>
   intro j hj N hN
   obtain ⟨N,rfl⟩:∃ M,N=M+1:=⟨N-1,by omega⟩
   unfold Zc
   rw [h1 j (by omega)]
   exact ih (j+1) (by omega) N (by omega)
 intro N hN
 exact key n 0 (by omega) N hN
theorem ZjT {α:Type} {xs:List α} {i:Nat} {v:α} (h:i<xs.length):getI (xs.set i v) (i:Int)=some v:=by
 rw [Zi,List.getElem?_set_self h]
theorem Zfi {α:Type} {xs:List α} {i:Nat} (h:i<xs.length):getI xs (i:Int)=some xs[i]:=by
 rw [Zi]; exact List.getElem?_eq_getElem h
theorem Zh7 {α:Type} {M a:List α} {i:Nat} {v:α} (hM:M.length=i) (hi:i<a.length):(M++a.drop i).set i v=(M++[v])++a.drop (i+1):=by
 rw [List.drop_eq_getElem_cons hi,List.set_append_right _ _ (by omega)]
 rw [show i-M.length=0 by omega,List.set_cons_zero,List.append_assoc]
 rfl
theorem Zfn {k:Int} (h:1≤k∧k≤1099511627776):Zg k=some (Zd7 k):=by unfold Zg; rw [if_pos h]
def mkI (k:Int) (n:Nat):List Int:=(List.range n).map fun i:Nat=>k+(i:Int)
theorem ZiE {k:Int} {n:Nat}:(mkI k n).length=n:=by simp [mkI]
theorem Zrg {k:Int} {n:Nat}:mkI k (n+1)=mkI k n++[k+(n:Int)]:=by simp [mkI,List.range_succ]
theorem Zfd (a:List Int) (k:Int) (ha:a.length≤1048576) (h0:1≤k) (h1:k≤1000000000):ZM a k=some (k+a.length,mkI k a.length):=by
 unfold ZM
 have e0:(k,0,a)=(fun i:Nat=>((k+(i:Int),(i:Int),mkI k i++a.drop i):Int × Int × List Int)) 0:=by simp [mkI]
 have hh:Zc ZaC NN ((fun i:Nat=>(k+(i:Int),(i:Int),mkI k i++a.drop i)) 0)=some ((k+a.length,mkI k a.length)):=by
  refine ZfY (fun i:Nat=>(k+(i:Int),(i:Int),mkI k i++a.drop i)) (n:=a.length) ?_ ?_ NN (by unfold NN; omega)
  ·intro i hi
   have hL:i<(mkI k i++a.drop i).length:=by simp [ZiE]; omega
   have w1:w64 (k+(i:Int)+1)=k+((i+1:Nat):Int):=by rw [Zy (by omega)]; omega
   have w2:w64 ((i:Int)+1)=((i+1:Nat):Int):=by rw [Zy (by omega)]; omega
   have d1:decide ((i:Int)<((mkI k i++a.drop i).length:Int))=true:=decide_eq_true (by omega)
   simp only [ZaC,d1,cond_true,Zfi hL,Option.bind_some,w1,w2,Int.toNat_natCast,Zh7 ZiE hi,Zrg]
  ·have d1:decide ((a.length:Int)<((mkI k a.length).length:Int))=false:=decide_eq_false (by simp [ZiE])
   simp only [ZaC,List.drop_length,List.append_nil,d1,cond_false]
 rw [e0,hh]
 rfl
theorem Zgw (k:Int) (n:Nat) (hn:n≤1048576) (h0:1≤k) (h1:k≤1000000000):Zac (mkI k n) k=some (k+n):=by
 unfold Zac
 have e0:(k,0)=(fun i:Nat=>((k+(i:Int),(i:Int)):Int × Int)) 0:=by simp
 have hh:Zc (ZbA (mkI k n)) NN ((fun i:Nat=>(k+(i:Int),(i:Int))) 0)=some (Sum.inl (k+n)):=by
  refine ZfY (fun i:Nat=>(k+(i:Int),(i:Int))) (n:=n) ?_ ?_ NN (by unfold NN; omega)
  ·intro i hi
   have hL:i<(mkI k n).length:=by rw [ZiE]; exact hi
   have w1:w64 (k+(i:Int)+1)=k+((i+1:Nat):Int):=by rw [Zy (by omega)]; omega
   have w2:w64 ((i:Int)+1)=((i+1:Nat):Int):=by rw [Zy (by omega)]; omega
   have d1:decide ((i:Int)<((mkI k n).length:Int))=true:=decide_eq_true (by omega)
   have g:(mkI k n)[i]=k+(i:Int):=by simp [mkI]
   simp only [ZbA,d1,cond_true,Zfi hL,Option.bind_some,w1,w2,g,decide_true,Bool.not_true,cond_false]
  ·have d1:decide ((n:Int)<((mkI k n).length:Int))=false:=decide_eq_false (by simp [ZiE])
   simp only [ZbA,d1,cond_false]
 rw [e0,hh]
 rfl
def legM (k:Int):YLeg:=⟨Zd7 k,Zd7 (k+1),k+1+1,k+1+1+1,k+1+1+1+1,k+1+1+1+1+1⟩
def mkL (k:Int) (n:Nat):List YLeg:=(List.range n).map fun i:Nat=>legM (k+6*(i:Int))
theorem ZiF {k:Int} {n:Nat}:(mkL k n).length=n:=by simp [mkL]
theorem Zrh {k:Int} {n:Nat}:mkL k (n+1)=mkL k n++[legM (k+6*(n:Int))]:=by simp [mkL,List.range_succ]
theorem Zl1 (a:List YLeg) (k:Int) (ha:a.length≤1048576) (h0:1≤k) (h1:k≤1000000000):ZbF a k=some (k+6*a.length,mkL k a.length):=by
 unfold ZbF
 have e0:(k,0,a)=(fun i:Nat=>((k+6*(i:Int),(i:Int),mkL k i++a.drop i):Int × Int × List YLeg)) 0:=by simp [mkL]
 have hh:Zc ZaD NN ((fun i:Nat=>(k+6*(i:Int),(i:Int),mkL k i++a.drop i)) 0)=some ((k+6*a.length,mkL k a.length)):=by
  refine ZfY (fun i:Nat=>(k+6*(i:Int),(i:Int),mkL k i++a.drop i)) (n:=a.length) ?_ ?_ NN (by unfold NN; omega)
  ·intro i hi
   have hL:i<(mkL k i++a.drop i).length:=by simp [ZiF]; omega
   generalize hq:k+6*(i:Int)=q
   have hq0:1≤q:=by omega
   have hq1:q≤1010000000:=by omega
   have hq2:k+6*((i+1:Nat):Int)=q+1+1+1+1+1+1:=by omega
   have w1:w64 (q+1)=q+1:=Zy (by omega)
   have w2:w64 (q+1+1)=q+1+1:=Zy (by omega)
   have w3:w64 (q+1+1+1)=q+1+1+1:=Zy (by omega)
   have w4:w64 (q+1+1+1+1)=q+1+1+1+1:=Zy (by omega)
   have w5:w64 (q+1+1+1+1+1)=q+1+1+1+1+1:=Zy (by omega)
   have w6:w64 (q+1+1+1+1+1+1)=q+1+1+1+1+1+1:=Zy (by omega)
   have wi:w64 ((i:Int)+1)=((i+1:Nat):Int):=by rw [Zy (by omega)]; omega
   have t0:Zg q=some (Zd7 q):=Zfn (by omega)
   have t1:Zg (q+1)=some (Zd7 (q+1)):=Zfn (by omega)
   have d1:decide ((i:Int)<((mkL k i++a.drop i).length:Int))=true:=decide_eq_true (by omega)
   have hs:=Zh7 (v:=legM q) ZiF (show i<a.length from hi) (M:=mkL k i)
   rw [Zrh,hq,hq2]
   generalize mkL k i++a.drop i=L at *
   have gs:∀ (xs:List YLeg) (v:YLeg),i<xs.length→getI (xs.set i v) (i:Int)=some v:=fun xs v h=>ZjT h
   simp only [ZaD,d1,cond_true,t0,t1,Zfi hL,Option.bind_some,w1,w2,w3,w4,w5,w6,wi,Int.toNat_natCast,frzL,gs,List.length_set,hL,List.set_set,← hs]
   rfl
  ·have d1:decide ((a.length:Int)<((mkL k a.length).length:Int))=false:=decide_eq_false (by simp [ZiF])
   simp only [ZaD,List.drop_length,List.append_nil,d1,cond_false]
 rw [e0,hh]
 rfl
theorem ZlV (k:Int) (n:Nat) (hn:n≤1048576) (h0:1≤k) (h1:k≤1000000000):Zdi (mkL k n) k=some (k+6*n):=by
 unfold Zdi
 have e0:(k,0)=(fun i:Nat=>((k+6*(i:Int),(i:Int)):Int × Int)) 0:=by simp
 have hh:Zc (ZbB (mkL k n)) NN ((fun i:Nat=>(k+6*(i:Int),(i:Int))) 0)=some (Sum.inl (k+6*n)):=by
  refine ZfY (fun i:Nat=>(k+6*(i:Int),(i:Int))) (n:=n) ?_ ?_ NN (by unfold NN; omega)
  ·intro i hi
   have hL:i<(mkL k n).length:=by rw [ZiF]; exact hi
   have g:(mkL k n)[i]=legM (k+6*(i:Int)):=by simp [mkL]
   have hg:=Zfi hL
   rw [g] at hg
   have d1:decide ((i:Int)<((mkL k n).length:Int))=true:=decide_eq_true (by omega)
   have hq2:k+6*((i+1:Nat):Int)=k+6*(i:Int)+1+1+1+1+1+1:=by omega
   rw [hq2]
   generalize mkL k n=L at *
   have hq0:1≤k+6*(i:Int):=by omega
   have hq1:k+6*(i:Int)≤1010000000:=by omega
   generalize k+6*(i:Int)=q at *
   have w1:w64 (q+1)=q+1:=Zy (by omega)
   have w2:w64 (q+1+1)=q+1+1:=Zy (by omega)
   have w3:w64 (q+1+1+1)=q+1+1+1:=Zy (by omega)
   have w4:w64 (q+1+1+1+1)=q+1+1+1+1:=Zy (by omega)
   have w5:w64 (q+1+1+1+1+1)=q+1+1+1+1+1:=Zy (by omega)
   have w6:w64 (q+1+1+1+1+1+1)=q+1+1+1+1+1+1:=Zy (by omega)
   have wi:w64 ((i:Int)+1)=((i+1:Nat):Int):=by rw [Zy (by omega)]; omega
   have t0:Zg q=some (Zd7 q):=Zfn (by omega)
   have t1:Zg (q+1)=some (Zd7 (q+1)):=Zfn (by omega)
   simp only [ZbB,d1,cond_true,t0,t1,hg,Option.bind_some,w1,w2,w3,w4,w5,w6,wi,legM,decide_true,Bool.not_true,cond_false]
  ·have d1:decide ((n:Int)<((mkL k n).length:Int))=false:=decide_eq_false (by simp [ZiF])
   simp only [ZbB,d1,cond_false]
 rw [e0,hh]
 rfl
def Zao (s0:Int × Int × (List YZone)):Option ((Int × Int × (List YZone)) ⊕ (Int × (List YZone))):=
 cond (decide (s0.2.1<(s0.2.2.length:Int)))
 ((Zg s0.1).bind fun y1=>
 (getI s0.2.2 s0.2.1).bind fun y2=>
 (frzL (s0.2.2.set (Int.toNat s0.2.1) (⟨y1,y2.last⟩:YZone)) (fun y3=>(.ms 0::vi (w64 (s0.1+1))::(U 3 (vi s0.2.1::(U 23 []))))) (fun y3=>[some ⟨.of 73,2,y3.map cZone⟩])).bind fun y3=>
 (Zg (w64 (s0.1+1))).bind fun y4=>
 (getI y3 s0.2.1).bind fun y5=>
 some (.inl ((w64 ((w64 (s0.1+1))+1)),(w64 (s0.2.1+1)),(y3.set (Int.toNat s0.2.1) (⟨y5.first,y4⟩:YZone)))))
 (some (.inr (s0.1,s0.2.2)))
instance:Zo (Zao):=⟨fun s0=>(.ms 0::vi s0.1::(U 3 (vi s0.2.1::(U 23 [])))),fun s0=>[some ⟨.of 73,2,s0.2.2.map cZone⟩]⟩
def Zau (a:List YZone) (k:Int):Option (Int × (List YZone)):=
 (Zc (Zao) NN (k,0,a)).bind (fun o0=>
 some (o0.1,o0.2))
instance (a:List YZone) (k:Int):CT Tryz.prog (Zau a k):=⟨20,[.ms 0,vi k],[some ⟨.of 73,2,a.map cZone⟩],fun r=>vi r.1,fun r=>[some ⟨.of 73,2,r.2.map cZone⟩],fun H=>by replace H:=H0 H; unfold Zau at H; exact Za Tryz.func20 rfl Tryz.ntmps20 Tryz.results20 fun Q hQ hQn=>wk5⟩
def Zan (s0:Int × Int × (List YRate)):Option ((Int × Int × (List YRate)) ⊕ (Int × (List YRate))):=
 cond (decide (s0.2.1<(s0.2.2.length:Int)))
 ((getI s0.2.2 s0.2.1).bind fun y1=>
 (frzL (s0.2.2.set (Int.toNat s0.2.1) (⟨s0.1,y1.service,y1.limit,y1.price⟩:YRate)) (fun y2=>(.ms 0::vi (w64 (s0.1+1))::(U 3 (vi s0.2.1::(U 35 []))))) (fun y2=>[some ⟨.of 76,4,y2.map cRate⟩])).bind fun y2=>
 (getI y2 s0.2.1).bind fun y3=>
 (frzL (y2.set (Int.toNat s0.2.1) (⟨y3.zone,(w64 (s0.1+1)),y3.limit,y3.price⟩:YRate)) (fun y4=>(.ms 0::vi (w64 ((w64 (s0.1+1))+1))::(U 3 (vi s0.2.1::(U 35 []))))) (fun y4=>[some ⟨.of 76,4,y4.map cRate⟩])).bind fun y4=>
 (getI y4 s0.2.1).bind fun y5=>
 (frzL (y4.set (Int.toNat s0.2.1) (⟨y5.zone,y5.service,(w64 ((w64 (s0.1+1))+1)),y5.price⟩:YRate)) (fun y6=>(.ms 0::vi (w64 ((w64 ((w64 (s0.1+1))+1))+1))::(U 3 (vi s0.2.1::(U 35 []))))) (fun y6=>[some ⟨.of 76,4,y6.map cRate⟩])).bind fun y6=>
 (getI y6 s0.2.1).bind fun y7=>
 some (.inl ((w64 ((w64 ((w64 ((w64 (s0.1+1))+1))+1))+1)),(w64 (s0.2.1+1)),(y6.set (Int.toNat s0.2.1) (⟨y7.zone,y7.service,y7.limit,(w64 ((w64 ((w64 (s0.1+1))+1))+1))⟩:YRate)))))
 (some (.inr (s0.1,s0.2.2)))
instance:Zo (Zan):=⟨fun s0=>(.ms 0::vi s0.1::(U 3 (vi s0.2.1::(U 35 [])))),fun s0=>[some ⟨.of 76,4,s0.2.2.map cRate⟩]⟩
def Zat (a:List YRate) (k:Int):Option (Int × (List YRate)):=
 (Zc (Zan) NN (k,0,a)).bind (fun o0=>
 some (o0.1,o0.2))
instance (a:List YRate) (k:Int):CT Tryz.prog (Zat a k):=⟨21,[.ms 0,vi k],[some ⟨.of 76,4,a.map cRate⟩],fun r=>vi r.1,fun r=>[some ⟨.of 76,4,r.2.map cRate⟩],fun H=>by replace H:=H0 H; unfold Zat at H; exact Za Tryz.func21 rfl Tryz.ntmps21 Tryz.results21 fun Q hQ hQn=>wk5⟩
def Zbe (a:List YZone) (s0:Int × Int):Option ((Int × Int) ⊕ (Int ⊕ Int)):=
 cond (decide (s0.2<(a.length:Int)))
 ((getI a s0.2).bind fun y1=>
 (Zg s0.1).bind fun y2=>
 cond (!decide (y1.first=y2))
 (some (.inr (.inr (-1))))
 ((getI a s0.2).bind fun y3=>
 (Zg (w64 (s0.1+1))).bind fun y4=>
 cond (!decide (y3.last=y4))
 (some (.inr (.inr (-1))))
 (some (.inl ((w64 ((w64 (s0.1+1))+1)),(w64 (s0.2+1)))))))
 (some (.inr (.inl s0.1)))
instance (a:List YZone):Zo (Zbe a):=⟨fun s0=>(.sl (a.map cZone)::vi s0.1::(U 3 (vi s0.2::(U 27 [])))),fun s0=>[]⟩
def ZcV (a:List YZone) (k:Int):Option Int:=
 (Zc (Zbe a) NN (k,0)).bind (Zp (fun o0=>
 some o0) (fun r=>some r))
instance (a:List YZone) (k:Int):CT Tryz.prog (ZcV a k):=⟨50,[.sl (a.map cZone),vi k],[],fun r=>vi r,fun r=>[],fun H=>by replace H:=H0 H; unfold ZcV at H; exact Za Tryz.func50 rfl Tryz.ntmps50 Tryz.results50 fun Q hQ hQn=>wk5⟩
def Zbd (a:List YRate) (s0:Int × Int):Option ((Int × Int) ⊕ (Int ⊕ Int)):=
 cond (decide (s0.2<(a.length:Int)))
 ((getI a s0.2).bind fun y1=>
 cond (!decide (y1.zone=s0.1))
 (some (.inr (.inr (-1))))
 ((getI a s0.2).bind fun y2=>
 cond (!decide (y2.service=(w64 (s0.1+1))))
 (some (.inr (.inr (-1))))
 ((getI a s0.2).bind fun y3=>
 cond (!decide (y3.limit=(w64 ((w64 (s0.1+1))+1))))
 (some (.inr (.inr (-1))))
 ((getI a s0.2).bind fun y4=>
 cond (!decide (y4.price=(w64 ((w64 ((w64 (s0.1+1))+1))+1))))
 (some (.inr (.inr (-1))))
 (some (.inl ((w64 ((w64 ((w64 ((w64 (s0.1+1))+1))+1))+1)),(w64 (s0.2+1)))))))))
 (some (.inr (.inl s0.1)))
instance (a:List YRate):Zo (Zbd a):=⟨fun s0=>(.sl (a.map cRate)::vi s0.1::(U 3 (vi s0.2::(U 43 [])))),fun s0=>[]⟩
def ZcS (a:List YRate) (k:Int):Option Int:=
 (Zc (Zbd a) NN (k,0)).bind (Zp (fun o0=>
 some o0) (fun r=>some r))
instance (a:List YRate) (k:Int):CT Tryz.prog (ZcS a k):=⟨51,[.sl (a.map cRate),vi k],[],fun r=>vi r,fun r=>[],fun H=>by replace H:=H0 H; unfold ZcS at H; exact Za Tryz.func51 rfl Tryz.ntmps51 Tryz.results51 fun Q hQ hQn=>wk5⟩
def Zqy (k:Int):YZone:=⟨Zd7 k,Zd7 (k+1)⟩
def mkZ (k:Int) (n:Nat):List YZone:=(List.range n).map fun i:Nat=>Zqy (k+2*(i:Int))
theorem ZiH {k:Int} {n:Nat}:(mkZ k n).length=n:=by simp [mkZ]
theorem Zrj {k:Int} {n:Nat}:mkZ k (n+1)=mkZ k n++[Zqy (k+2*(n:Int))]:=by simp [mkZ,List.range_succ]
theorem ZhG (a:List YZone) (k:Int) (ha:a.length≤1048576) (h0:1≤k) (h1:k≤1000000000):Zau a k=some (k+2*a.length,mkZ k a.length):=by
 unfold Zau
 have e0:(k,0,a)=(fun i:Nat=>((k+2*(i:Int),(i:Int),mkZ k i++a.drop i):Int × Int × List YZone)) 0:=by simp [mkZ]
 have hh:Zc Zao NN ((fun i:Nat=>(k+2*(i:Int),(i:Int),mkZ k i++a.drop i)) 0)=some ((k+2*a.length,mkZ k a.length)):=by
  refine ZfY (fun i:Nat=>(k+2*(i:Int),(i:Int),mkZ k i++a.drop i)) (n:=a.length) ?_ ?_ NN (by unfold NN; omega)
  ·intro i hi
   have hL:i<(mkZ k i++a.drop i).length:=by simp [ZiH]; omega
   generalize hq:k+2*(i:Int)=q
   have hq0:1≤q:=by omega
   have hq1:q≤1010000000:=by omega
   have hq2:k+2*((i+1:Nat):Int)=q+1+1:=by omega
   have w1:w64 (q+1)=q+1:=Zy (by omega)
   have w2:w64 (q+1+1)=q+1+1:=Zy (by omega)
   have wi:w64 ((i:Int)+1)=((i+1:Nat):Int):=by rw [Zy (by omega)]; omega
   have t0:Zg q=some (Zd7 q):=Zfn (by omega)
   have t1:Zg (q+1)=some (Zd7 (q+1)):=Zfn (by omega)
   have d1:decide ((i:Int)<((mkZ k i++a.drop i).length:Int))=true:=decide_eq_true (by omega)
   have hs:=Zh7 (v:=Zqy q) ZiH (show i<a.length from hi) (M:=mkZ k i)
   rw [Zrj,hq,hq2]
   generalize mkZ k i++a.drop i=L at *
   have gs:∀ (xs:List YZone) (v:YZone),i<xs.length→getI (xs.set i v) (i:Int)=some v:=fun xs v h=>ZjT h
   simp only [Zao,d1,cond_true,t0,t1,Zfi hL,Option.bind_some,w1,w2,wi,Int.toNat_natCast,frzL,gs,List.length_set,hL,List.set_set,← hs]
   rfl
  ·have d1:decide ((a.length:Int)<((mkZ k a.length).length:Int))=false:=decide_eq_false (by simp [ZiH])
   simp only [Zao,List.drop_length,List.append_nil,d1,cond_false]
 rw [e0,hh]
 rfl
theorem ZkU (k:Int) (n:Nat) (hn:n≤1048576) (h0:1≤k) (h1:k≤1000000000):ZcV (mkZ k n) k=some (k+2*n):=by
 unfold ZcV
 have e0:(k,0)=(fun i:Nat=>((k+2*(i:Int),(i:Int)):Int × Int)) 0:=by simp
 have hh:Zc (Zbe (mkZ k n)) NN ((fun i:Nat=>(k+2*(i:Int),(i:Int))) 0)=some (Sum.inl (k+2*n)):=by
  refine ZfY (fun i:Nat=>(k+2*(i:Int),(i:Int))) (n:=n) ?_ ?_ NN (by unfold NN; omega)
  ·intro i hi
   have hL:i<(mkZ k n).length:=by rw [ZiH]; exact hi
   have g:(mkZ k n)[i]=Zqy (k+2*(i:Int)):=by simp [mkZ]
   have hg:=Zfi hL
   rw [g] at hg
   have d1:decide ((i:Int)<((mkZ k n).length:Int))=true:=decide_eq_true (by omega)
   have hq2:k+2*((i+1:Nat):Int)=k+2*(i:Int)+1+1:=by omega
   rw [hq2]
   generalize mkZ k n=L at *
   have hq0:1≤k+2*(i:Int):=by omega
   have hq1:k+2*(i:Int)≤1010000000:=by omega
   generalize k+2*(i:Int)=q at *
   have w1:w64 (q+1)=q+1:=Zy (by omega)
   have w2:w64 (q+1+1)=q+1+1:=Zy (by omega)
   have wi:w64 ((i:Int)+1)=((i+1:Nat):Int):=by rw [Zy (by omega)]; omega
   have t0:Zg q=some (Zd7 q):=Zfn (by omega)
   have t1:Zg (q+1)=some (Zd7 (q+1)):=Zfn (by omega)
   simp only [Zbe,d1,cond_true,t0,t1,hg,Option.bind_some,w1,w2,wi,Zqy,decide_true,Bool.not_true,cond_false]
  ·have d1:decide ((n:Int)<((mkZ k n).length:Int))=false:=decide_eq_false (by simp [ZiH])
   simp only [Zbe,d1,cond_false]
 rw [e0,hh]
 rfl
def Zp2 (k:Int):YRate:=⟨k,k+1,k+1+1,k+1+1+1⟩
def mkR (k:Int) (n:Nat):List YRate:=(List.range n).map fun i:Nat=>Zp2 (k+4*(i:Int))
theorem ZiG {k:Int} {n:Nat}:(mkR k n).length=n:=by simp [mkR]
theorem Zri {k:Int} {n:Nat}:mkR k (n+1)=mkR k n++[Zp2 (k+4*(n:Int))]:=by simp [mkR,List.range_succ]
theorem ZhF (a:List YRate) (k:Int) (ha:a.length≤1048576) (h0:1≤k) (h1:k≤1000000000):Zat a k=some (k+4*a.length,mkR k a.length):=by
 unfold Zat
 have e0:(k,0,a)=(fun i:Nat=>((k+4*(i:Int),(i:Int),mkR k i++a.drop i):Int × Int × List YRate)) 0:=by simp [mkR]
 have hh:Zc Zan NN ((fun i:Nat=>(k+4*(i:Int),(i:Int),mkR k i++a.drop i)) 0)=some ((k+4*a.length,mkR k a.length)):=by
  refine ZfY (fun i:Nat=>(k+4*(i:Int),(i:Int),mkR k i++a.drop i)) (n:=a.length) ?_ ?_ NN (by unfold NN; omega)
  ·intro i hi
   have hL:i<(mkR k i++a.drop i).length:=by simp [ZiG]; omega
   generalize hq:k+4*(i:Int)=q
   have hq0:1≤q:=by omega
   have hq1:q≤1010000000:=by omega
   have hq2:k+4*((i+1:Nat):Int)=q+1+1+1+1:=by omega
   have w1:w64 (q+1)=q+1:=Zy (by omega)
   have w2:w64 (q+1+1)=q+1+1:=Zy (by omega)
   have w3:w64 (q+1+1+1)=q+1+1+1:=Zy (by omega)
   have w4:w64 (q+1+1+1+1)=q+1+1+1+1:=Zy (by omega)
   have wi:w64 ((i:Int)+1)=((i+1:Nat):Int):=by rw [Zy (by omega)]; omega
   have d1:decide ((i:Int)<((mkR k i++a.drop i).length:Int))=true:=decide_eq_true (by omega)
   have hs:=Zh7 (v:=Zp2 q) ZiG (show i<a.length from hi) (M:=mkR k i)
   rw [Zri,hq,hq2]
   generalize mkR k i++a.drop i=L at *
   have gs:∀ (xs:List YRate) (v:YRate),i<xs.length→getI (xs.set i v) (i:Int)=some v:=fun xs v h=>ZjT h
   simp only [Zan,d1,cond_true,Zfi hL,Option.bind_some,w1,w2,w3,w4,wi,Int.toNat_natCast,frzL,gs,List.length_set,hL,List.set_set,← hs]
   rfl
  ·have d1:decide ((a.length:Int)<((mkR k a.length).length:Int))=false:=decide_eq_false (by simp [ZiG])
   simp only [Zan,List.drop_length,List.append_nil,d1,cond_false]
 rw [e0,hh]
 rfl
theorem ZkT (k:Int) (n:Nat) (hn:n≤1048576) (h0:1≤k) (h1:k≤1000000000):ZcS (mkR k n) k=some (k+4*n):=by
 unfold ZcS
 have e0:(k,0)=(fun i:Nat=>((k+4*(i:Int),(i:Int)):Int × Int)) 0:=by simp
 have hh:Zc (Zbd (mkR k n)) NN ((fun i:Nat=>(k+4*(i:Int),(i:Int))) 0)=some (Sum.inl (k+4*n)):=by
  refine ZfY (fun i:Nat=>(k+4*(i:Int),(i:Int))) (n:=n) ?_ ?_ NN (by unfold NN; omega)
  ·intro i hi
   have hL:i<(mkR k n).length:=by rw [ZiG]; exact hi
   have g:(mkR k n)[i]=Zp2 (k+4*(i:Int)):=by simp [mkR]
   have hg:=Zfi hL
   rw [g] at hg
   have d1:decide ((i:Int)<((mkR k n).length:Int))=true:=decide_eq_true (by omega)
   have hq2:k+4*((i+1:Nat):Int)=k+4*(i:Int)+1+1+1+1:=by omega
   rw [hq2]
   generalize mkR k n=L at *
   have hq0:1≤k+4*(i:Int):=by omega
   have hq1:k+4*(i:Int)≤1010000000:=by omega
   generalize k+4*(i:Int)=q at *
   have w1:w64 (q+1)=q+1:=Zy (by omega)
   have w2:w64 (q+1+1)=q+1+1:=Zy (by omega)
   have w3:w64 (q+1+1+1)=q+1+1+1:=Zy (by omega)
   have w4:w64 (q+1+1+1+1)=q+1+1+1+1:=Zy (by omega)
   have wi:w64 ((i:Int)+1)=((i+1:Nat):Int):=by rw [Zy (by omega)]; omega
   simp only [Zbd,d1,cond_true,hg,Option.bind_some,w1,w2,w3,w4,wi,Zp2,decide_true,Bool.not_true,cond_false]
  ·have d1:decide ((n:Int)<((mkR k n).length:Int))=false:=decide_eq_false (by simp [ZiG])
   simp only [Zbd,d1,cond_false]
 rw [e0,hh]
 rfl
end Go.Proofs.YtkcnllbmpbhndaaGreat
