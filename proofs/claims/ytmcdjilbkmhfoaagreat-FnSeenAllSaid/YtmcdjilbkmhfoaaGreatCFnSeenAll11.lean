/- A part of the proof of the statement in the last file of this claim: texts on the language of the program and on its functions. No condition. -/
import Derived.Test.YtmcdjilbkmhfoaaGreatCFnSeenAll10
import Derived.Test.YtmcdjilbkmhfoaaGreatCFnSeenAll9
import Derived.Test.YtmcdjilbkmhfoaaGreatCFnSeenAll5
import Derived.Test.YtmcdjilbkmhfoaaGreatCFnSeenAll6
import Derived.Test.YtmcdjilbkmhfoaaGreatCFnSeenAll8
namespace Go.Proofs.YtmcdjilbkmhfoaaGreat
set_option maxRecDepth 10000
open Go.RowKit
set_option linter.unusedVariables false
set_option linter.unusedSimpArgs false
set_option linter.unusedSectionVars false
section
variable {n:Za} (hf:ZV n)
include hf
structure ZtU (n:Za) (l:List Zc) (closed:List Ze) (at_ weight:Int) (t:Ze):Prop where
 trip:Zb0 n t=true
 start:at_≤Zaf n t
 open_:Zam closed t=some false
 room:∃ y q,getI n.legs t.leg=some y∧Zaq l t=some q∧weight≤w64 (y.room-q)
theorem ZoH {l:List Zc} {closed:List Ze} {leg at_ weight d:Int} (h:Z5 n l closed leg at_ weight=some d):d=-1∨ZtU n l closed at_ weight ⟨leg,d⟩:=by
 unfold Z5 at h
 cases e:Zl (Z0 n l closed leg at_ weight) NN 0 with
 | none=>rw [e] at h; cases h
 | some r=>
  rw [e] at h
  cases r with
  | inl u=>exact .inl (Option.some.inj h).symm
  | inr d'=>
   obtain rfl:d'=d:=Option.some.inj h
   refine .inr ?_
   have:=Zh1 (body:=Z0 n l closed leg at_ weight) (P:=fun r=>∀ d,r=.inr d→ZtU n l closed at_ weight ⟨leg,d⟩) (fun s o hs=>?_) NN 0 _ e
   ·exact this d' rfl
   ·unfold Z0 at hs
    by_cases h60:s≤60
    ·rw [decide_eq_true h60,cond_true] at hs
     obtain ⟨_,b,hb⟩:=Zfu hf leg s
     have hb':=hb
     rw [hb,Option.bind_some] at hs
     intro d hd
     subst hd
     cases b with
     | false=>simp at hs
     | true=>
      have ht:Zb0 n ⟨leg,s⟩=true:=by unfold Zb0; rw [hb']; rfl
      simp only [cond_true] at hs
      cases h1:Zo n ⟨leg,s⟩ with
      | none=>rw [h1] at hs; cases hs
      | some v=>
       rw [h1,Option.bind_some] at hs
       by_cases h2:at_≤v
       ·rw [decide_eq_true h2,cond_true] at hs
        cases h3:Zam closed ⟨leg,s⟩ with
        | none=>rw [h3] at hs; cases hs
        | some c=>
         rw [h3,Option.bind_some] at hs
         cases c with
         | true=>simp at hs
         | false=>
          simp only [Bool.not_false,cond_true] at hs
          cases h4:getI n.legs leg with
          | none=>rw [h4] at hs; cases hs
          | some y=>
           rw [h4,Option.bind_some] at hs
           cases h5:Zaq l ⟨leg,s⟩ with
           | none=>rw [h5] at hs; cases hs
           | some q=>
            rw [h5,Option.bind_some] at hs
            by_cases h6:weight≤w64 (y.room-q)
            ·rw [decide_eq_true h6,cond_true] at hs
             have:s=d:=by simpa using hs
             rw [← this]
             exact ⟨ht,by unfold Zaf; rw [h1]; exact h2,h3,y,q,h4,h5,h6⟩
            ·rw [decide_eq_false h6] at hs; simp at hs
       ·rw [decide_eq_false h2] at hs; simp at hs
    ·rw [decide_eq_false h60] at hs
     intro d hd
     subst hd
     simp at hs
theorem Zq7 {l:List Zc} {closed:List Ze} {leg at_ weight d:Int} (h:Z5 n l closed leg at_ weight=some d):d=-1∨Zb0 n ⟨leg,d⟩=true:=by
 rcases ZoH hf h with h | h
 ·exact .inl h
 ·exact .inr h.trip
omit hf in
theorem Zgz {α:Type} {xs:List α} {i:Int} {v:α} (h0:0≤i) (h1:i<xs.length):getI (xs.set i.toNat v) i=some v:=by
 unfold getI; rw [if_pos h0,List.getElem?_set_self (by omega)]
omit hf in
theorem Znu {α:Type} {xs:List α} {i j:Int} {v:α} (h0:0≤i) (h:j≠i):getI (xs.set i.toNat v) j=getI xs j:=by
 unfold getI
 by_cases hj:0≤j
 ·rw [if_pos hj,if_pos hj,List.getElem?_set_ne (by omega)]
 ·rw [if_neg hj,if_neg hj]
def LeAt (r:List Int) (x v:Int):Prop:=∃ w,getI r x=some w∧0≤w∧w≤v
def Zo7 (n:Za) (l:List Zc) (closed:List Ze) (weight f:Int) (r:List Int) (i:Nat) (x v:Int):Prop:=
 ∃ (y:YLeg) (d u z:Int),n.legs[i]?=some y∧idxV (Zb n) y.to_=x∧getI r (idxV (Zb n) y.from_)=some u∧¬ u<0∧Z8 n u (decide (idxV (Zb n) y.from_=f))=some z∧Z5 n l closed (i:Int) z weight=some d∧¬ d<0∧Zn n ⟨(i:Int),d⟩=some v
theorem Zte (hn:Zi n=some true) {l:List Zc} (hl:l.length≤1048576) {closed:List Ze} (hc:closed.length≤1048576) (weight:Int) {best:List Int} (hb:best.length=(Zb n).length) (f:Int):
 Tot (Zan n l closed weight (Zb n) best f) fun r=>(∀ x v,getI best x=some v→0≤v→LeAt r x v)∧∀ x v,Cand n l closed weight f best x v→LeAt r x v:=by
 have hp:=plen hf
 have hll:=hf.legs
 unfold Zan
 refine Tot.bind (P:=fun r=>r=best) ?_ fun r hr=>?_
 ·by_cases h1:best.length≤1048576
  ·exact Tot.of (ZjU h1) rfl
  ·unfold ZaW
   exact Tot.chk (Zcp (by simp only [List.length_nil]; omega) (by omega)) (Tot.ret (by simp))
 ·subst hr
  refine Tot.bind (P:=fun o=>(∀ x v,getI r x=some v→0≤v→LeAt o x v)∧∀ x v,Cand n l closed weight f r x v→LeAt o x v) ?_ fun o ho=>Tot.ret ho
  refine Tot.loop (fun (k:Nat) (s:Int × List Int)=>∃ i:Nat,s.1=(i:Int)∧i+k=n.legs.length∧s.2.length=(Zb n).length∧(∀ x v,getI r x=some v→0≤v→LeAt s.2 x v)∧∀ j,j<i→∀ x v,Zo7 n l closed weight f r j x v→LeAt s.2 x v) (fun k s hs=>?_) NN n.legs.length _ ⟨0,rfl,by omega,hb,fun x v h h0=>⟨v,h,h0,Int.le_refl _⟩,fun j hj=>by omega⟩ (by unfold NN; omega)
  obtain ⟨i,hi,hk,hlen,hA,hB⟩:=hs
  unfold ZaJ
  rw [hi]
  refine Tot.cond (fun hd=>?_) fun hd=>Tot.ret ⟨hA,fun x v h=>?_⟩
  case refine_2=>
   obtain ⟨j,y,d,u,z,c1,c2⟩:=h
   have h1:=(List.getElem?_eq_some_iff.1 c1).1
   have h2:=of_decide_eq_false hd
   exact hB j (by omega) x v ⟨y,d,u,z,c1,c2⟩
  have hlt:=of_decide_eq_true hd
  have hw:w64 ((i:Int)+1)=((i+1:Nat):Int):=by rw [Zp (by omega)]; omega
  obtain ⟨y,hy,hm⟩:=ZaS (xs:=n.legs) (i:=(i:Int)) ⟨by omega,hlt⟩
  obtain ⟨m1,m2⟩:=ZdQ hm
  have a0:=Zcc m1
  have a1:=(ZcQ (Zb n) y.from_).2
  have b0:=Zcc m2
  have b1:=(ZcQ (Zb n) y.to_).2
  obtain ⟨v6,g6,_⟩:=ZaS (xs:=r) (i:=idxV (Zb n) y.from_) ⟨a0,by omega⟩
  obtain ⟨v11,g11,_⟩:=ZaS (xs:=s.2) (i:=idxV (Zb n) y.to_) ⟨b0,by omega⟩
  simp only [hy,Option.bind_some,ZeE hf,g6,hw]
  have hyi:n.legs[i]?=some y:=by rw [Zq] at hy; exact hy
  have go:∀ (s':List Int),s'.length=(Zb n).length→(∀ x v,LeAt s.2 x v→LeAt s' x v)→(∀ x v,Zo7 n l closed weight f r i x v→LeAt s' x v)→Zgu (fun (k:Nat) (s:Int × List Int)=>∃ i:Nat,s.1=(i:Int)∧i+k=n.legs.length∧s.2.length=(Zb n).length∧(∀ x v,getI r x=some v→0≤v→LeAt s.2 x v)∧∀ j,j<i→∀ x v,Zo7 n l closed weight f r j x v→LeAt s.2 x v) (fun o:List Int=>(∀ x v,getI r x=some v→0≤v→LeAt o x v)∧∀ x v,Cand n l closed weight f r x v→LeAt o x v) k (Sum.inl (((i+1:Nat):Int),s')):=fun s' h1 h2 h3=>
   ⟨k-1,by omega,i+1,rfl,by omega,h1,fun x v h h0=>h2 x v (hA x v h h0),fun j hj x v h=>by
    by_cases hji:j=i
    ·subst hji; exact h3 x v h
    ·exact h2 x v (hB j (by omega) x v h)⟩
  refine Tot.cond (fun hu=>Tot.ret (go _ hlen (fun x v h=>h) fun x v h=>?_)) fun hu=>?_
  ·exfalso
   obtain ⟨y',d,u,z,c1,c2,c3,c4,_⟩:=h
   rw [hyi] at c1
   obtain rfl:=Option.some.inj c1
   rw [g6] at c3
   obtain rfl:=Option.some.inj c3
   exact c4 (of_decide_eq_true hu)
  obtain ⟨z,ez,_⟩:=Zfp (n:=n) v6 (decide (idxV (Zb n) y.from_=f))
  obtain ⟨d,ed,_⟩:=Zgl hf hl hc hy z weight
  have hcI:∀ x v,Zo7 n l closed weight f r i x v→¬ d<0∧x=idxV (Zb n) y.to_∧Zn n ⟨(i:Int),d⟩=some v:=by
   rintro x v ⟨y',d',u,z',c1,c2,c3,c4,c5,c6,c7,c8⟩
   rw [hyi] at c1
   obtain rfl:=Option.some.inj c1
   rw [g6] at c3
   obtain rfl:=Option.some.inj c3
   rw [ez] at c5
   obtain rfl:=Option.some.inj c5
   rw [ed] at c6
   obtain rfl:=Option.some.inj c6
   exact ⟨c7,c2.symm,c8⟩
  rw [ez,Option.bind_some,ed,Option.bind_some]
  refine Tot.cond (fun hdd=>Tot.ret (go _ hlen (fun x v h=>h) fun x v h=>absurd (of_decide_eq_true hdd) (hcI x v h).1)) fun hdn=>?_
  have htr:Zb0 n ⟨(i:Int),d⟩=true:=by
   rcases Zq7 hf ed with h | h
   ·subst h; have:=of_decide_eq_false hdn; omega
   ·exact h
  obtain ⟨e,he⟩:=Zcv (n:=n) (t:=⟨(i:Int),d⟩) hy
  have he0:0≤e:=by
   obtain ⟨_,h2,h3,h4,_⟩:=ZaF hf hn htr
   rw [he] at h2
   have:=Option.some.inj h2
   omega
  simp only [he,Option.bind_some,g11]
  have setok:=fun (hv:v11<0∨e<v11)=>go (s.2.set (Int.toNat (idxV (Zb n) y.to_)) e) (by rw [List.length_set]; exact hlen) (fun x v h=>by
   obtain ⟨w,hw1,hw2,hw3⟩:=h
   by_cases hx:x=idxV (Zb n) y.to_
   ·subst hx
    rw [g11] at hw1
    obtain rfl:=Option.some.inj hw1
    exact ⟨_,Zgz b0 (by omega),he0,by omega⟩
   ·exact ⟨w,by rw [Znu b0 hx]; exact hw1,hw2,hw3⟩) (fun x v h=>by
   obtain ⟨_,rfl,h8⟩:=hcI x v h
   rw [he] at h8
   obtain rfl:=Option.some.inj h8
   exact ⟨_,Zgz b0 (by omega),he0,Int.le_refl _⟩)
  refine Tot.cond (fun h=>Tot.ret (setok (.inl (of_decide_eq_true h)))) fun h1=>Tot.cond (fun h=>Tot.ret (setok (.inr (of_decide_eq_true h)))) fun h2=>Tot.ret (go _ hlen (fun x v h=>h) fun x v h=>?_)
  obtain ⟨_,rfl,h8⟩:=hcI x v h
  rw [he] at h8
  obtain rfl:=Option.some.inj h8
  have h1:=of_decide_eq_false h1
  have h2:=of_decide_eq_false h2
  exact ⟨v11,g11,by omega,by omega⟩
theorem Zik (hn:Zi n=some true) {l:List Zc} (hl:l.length≤1048576) {closed:List Ze} (hc:closed.length≤1048576) (weight f at_:Int) (k:Nat):
 (∀ x v,getI (Z7 n l closed weight f at_ k) x=some v→0≤v→LeAt (Z7 n l closed weight f at_ (k+1)) x v)∧∀ x v,Cand n l closed weight f (Z7 n l closed weight f at_ k) x v→LeAt (Z7 n l closed weight f at_ (k+1)) x v:=by
 obtain ⟨r,e,h⟩:=Zte hf hn hl hc weight (ZeO hf hl hc weight f at_ k) f
 have h1:=(Zgd hf hl hc weight f at_ k).1
 rw [e] at h1
 obtain rfl:=Option.some.inj h1
 exact h
end
end Go.Proofs.YtmcdjilbkmhfoaaGreat
namespace Go.Proofs.YtmcdjilbkmhfoaaGreat
set_option maxRecDepth 10000
open Go.RowKit
set_option linter.unusedVariables false
set_option linter.unusedSimpArgs false
set_option linter.unusedSectionVars false
section
variable {n:Za} (hf:ZV n)
include hf
omit hf in
theorem Zuq {l:List ByteArray} {p q:ByteArray} (hp:0≤idxV l p):decide (idxV l p=idxV l q)=decide (p=q):=by
 by_cases h:p=q
 ·subst h; simp
 ·rw [decide_eq_false h]
  refine decide_eq_false fun he=>h ?_
  have h1:=ZeS hp
  have h2:=ZeS (l:=l) (p:=q) (by omega)
  rw [← he,h1] at h2
  exact Option.some.inj h2
def ZtV (n:Za) (l:List Zc) (closed:List Ze) (weight f:Int) (r:List Int) (x v:Int) (t:Ze):Prop:=
 ∃ (i:Nat) (y:YLeg) (d u z:Int),t=⟨(i:Int),d⟩∧n.legs[i]?=some y∧idxV (Zb n) y.to_=x∧getI r (idxV (Zb n) y.from_)=some u∧¬ u<0∧Z8 n u (decide (idxV (Zb n) y.from_=f))=some z∧Z5 n l closed (i:Int) z weight=some d∧¬ d<0∧Zn n ⟨(i:Int),d⟩=some v
theorem Zmg {l:List Zc} (hl:l.length≤1048576) {closed:List Ze} (hc:closed.length≤1048576) (weight:Int) {from_:ByteArray} {before:List Int} (hb:before.length=(Zb n).length) {q0:ByteArray} {x:Int} (hxq:x=idxV (Zb n) q0) (hx:0≤x∧x<(Zb n).length) (e:Int) {i:Nat} (hi:i<n.legs.length):
 (Zas n l closed weight (Zb n) before (idxV (Zb n) from_) x e (i:Int)=some (.inl ((i+1:Nat):Int))∧ZaD n n closed l weight (Zb n) before from_ x e (i:Int)=some (.inl ((i+1:Nat):Int))∧¬ Zo7 n l closed weight (idxV (Zb n) from_) before i x e)∨
 ∃ t,Zas n l closed weight (Zb n) before (idxV (Zb n) from_) x e (i:Int)=some (.inr (.inr t))∧ZaD n n closed l weight (Zb n) before from_ x e (i:Int)=some (.inr (.inr (t,true)))∧ZtV n l closed weight (idxV (Zb n) from_) before x e t:=by
 have hll:=hf.legs
 have hw:w64 ((i:Int)+1)=((i+1:Nat):Int):=by rw [Zp (by omega)]; omega
 obtain ⟨y,hy,hm⟩:=ZaS (xs:=n.legs) (i:=(i:Int)) ⟨by omega,by omega⟩
 have hyi:n.legs[i]?=some y:=by rw [Zq] at hy; exact hy
 obtain ⟨m1,m2⟩:=ZdQ hm
 have a0:=Zcc m1
 have a1:=(ZcQ (Zb n) y.from_).2
 obtain ⟨v6,g6,_⟩:=ZaS (xs:=before) (i:=idxV (Zb n) y.from_) ⟨a0,by omega⟩
 obtain ⟨p,gp,_⟩:=ZaS (xs:=Zb n) (i:=x) hx
 obtain ⟨z,ez,_⟩:=Zfp (n:=n) v6 (decide (idxV (Zb n) y.from_=idxV (Zb n) from_))
 obtain ⟨d,ed,ef⟩:=ZqH hf hl hc hy z weight
 obtain ⟨v,hv⟩:=Zcv (n:=n) (t:=⟨(i:Int),d⟩) hy
 have hpa:∀ p,Zu (Zb n) p=some (idxV (Zb n) p):=fun p=>by rw [Zc9]; exact ZeE hf p
 have ez':ZcL n v6 (decide (y.from_=from_))=some z:=by rw [ZoO,← Zuq (l:=Zb n) a0]; exact ez
 have hno:∀ {P:Prop},(∀ y' d' u z',n.legs[i]?=some y'→idxV (Zb n) y'.to_=x→getI before (idxV (Zb n) y'.from_)=some u→¬ u<0→Z8 n u (decide (idxV (Zb n) y'.from_=idxV (Zb n) from_))=some z'→Z5 n l closed (i:Int) z' weight=some d'→¬ d'<0→Zn n ⟨(i:Int),d'⟩=some e→y'=y→u=v6→z'=z→d'=d→False)→¬ Zo7 n l closed weight (idxV (Zb n) from_) before i x e:=by
  rintro _ H ⟨y',d',u,z',c1,c2,c3,c4,c5,c6,c7,c8⟩
  have q1:y'=y:=by rw [hyi] at c1; exact (Option.some.inj c1).symm
  have q2:u=v6:=by rw [q1,g6] at c3; exact (Option.some.inj c3).symm
  have q3:z'=z:=by rw [q1,q2,ez] at c5; exact (Option.some.inj c5).symm
  have q4:d'=d:=by rw [q3,ed] at c6; exact (Option.some.inj c6).symm
  exact H y' d' u z' c1 c2 c3 c4 c5 c6 c7 c8 q1 q2 q3 q4
 have S:Zas n l closed weight (Zb n) before (idxV (Zb n) from_) x e (i:Int)=cond (!decide (y.to_=p)) (some (.inl ((i+1:Nat):Int))) (cond (decide (v6<0)) (some (.inl ((i+1:Nat):Int))) (cond (decide (0≤d)) (cond (decide (v=e)) (some (.inr (.inr ⟨(i:Int),d⟩))) (some (.inl ((i+1:Nat):Int)))) (some (.inl ((i+1:Nat):Int))))):=by
  unfold Zas
  simp only [decide_eq_true (show (i:Int)<n.legs.length by omega),cond_true,hy,Option.bind_some,ZeE hf,gp,g6,ez,ed,hv,hw]
 have T:ZaD n n closed l weight (Zb n) before from_ x e (i:Int)=cond (!decide (y.to_=p)) (some (.inl ((i+1:Nat):Int))) (cond (decide (v6<0)) (some (.inl ((i+1:Nat):Int))) (cond (decide (0≤d)) (cond (decide (v=e)) (some (.inr (.inr (⟨(i:Int),d⟩,true)))) (some (.inl ((i+1:Nat):Int)))) (some (.inl ((i+1:Nat):Int))))):=by
  unfold ZaD
  simp only [decide_eq_true (show (i:Int)<n.legs.length by omega),cond_true,hy,Option.bind_some,hpa,gp,g6,ez',ef,hw,Zgx]
  by_cases hd:d<0
  ·simp only [if_pos hd,decide_eq_false (show ¬ 0≤d by omega),cond_false]
  ·simp only [if_neg hd,decide_eq_true (show 0≤d by omega),cond_true,hv,Option.bind_some]
 rw [S,T]
 by_cases h1:y.to_=p
 ·by_cases h2:v6<0
  ·refine .inl ⟨by simp [h1,h2],by simp [h1,h2],hno (P:=True) fun y' d' u z' c1 c2 c3 c4 c5 c6 c7 c8 q1 q2 q3 q4=>c4 (by rw [q2]; exact h2)⟩
  ·by_cases h3:0≤d
   ·by_cases h4:v=e
    ·refine .inr ⟨⟨(i:Int),d⟩,by simp [h1,h2,h3,h4],by simp [h1,h2,h3,h4],i,y,d,v6,z,rfl,hyi,?_,g6,h2,ez,ed,by omega,by rw [hv,h4]⟩
     have g:=ZeS (l:=Zb n) (p:=q0) (by omega)
     rw [← hxq,gp] at g
     rw [h1,Option.some.inj g,hxq]
    ·refine .inl ⟨by simp [h1,h2,h3,h4],by simp [h1,h2,h3,h4],hno (P:=True) fun y' d' u z' c1 c2 c3 c4 c5 c6 c7 c8 q1 q2 q3 q4=>h4 (by rw [q4,hv] at c8; exact Option.some.inj c8)⟩
   ·refine .inl ⟨by simp [h1,h2,h3],by simp [h1,h2,h3],hno (P:=True) fun y' d' u z' c1 c2 c3 c4 c5 c6 c7 c8 q1 q2 q3 q4=>c7 (by rw [q4]; omega)⟩
 ·refine .inl ⟨by simp [h1],by simp [h1],hno (P:=True) fun y' d' u z' c1 c2 c3 c4 c5 c6 c7 c8 q1 q2 q3 q4=>h1 ?_⟩
  rw [q1] at c2
  have g:=ZeS (Zcc m2)
  rw [c2,gp] at g
  exact (Option.some.inj g).symm
theorem Zmf {l:List Zc} (hl:l.length≤1048576) {closed:List Ze} (hc:closed.length≤1048576) (weight:Int) {from_:ByteArray} {before:List Int} (hb:before.length=(Zb n).length) {q0:ByteArray} {x:Int} (hxq:x=idxV (Zb n) q0) (hx:0≤x∧x<(Zb n).length) (e:Int) (hcd:Cand n l closed weight (idxV (Zb n) from_) before x e):
 ∃ t,Zb2 n l closed weight (Zb n) before (idxV (Zb n) from_) x e=some t∧ZcB n n closed l weight (Zb n) before from_ x e=some (t,true)∧ZtV n l closed weight (idxV (Zb n) from_) before x e t:=by
 have hll:=hf.legs
 obtain ⟨i0,hci⟩:=hcd
 have hi0:i0<n.legs.length:=by obtain ⟨y,_,_,_,c1,_⟩:=hci; exact (List.getElem?_eq_some_iff.1 c1).1
 have key:∀ (d i:Nat),i+d=i0→∀ N,d<N→∃ t,Zl (Zas n l closed weight (Zb n) before (idxV (Zb n) from_) x e) N (i:Int)=some (.inr t)∧Zl (ZaD n n closed l weight (Zb n) before from_ x e) N (i:Int)=some (.inr (t,true))∧ZtV n l closed weight (idxV (Zb n) from_) before x e t:=by
  intro d
  induction d with
  | zero=>
   intro i hi N hN
   obtain ⟨N,rfl⟩:∃ M,N=M+1:=⟨N-1,by omega⟩
   rcases Zmg hf hl hc weight hb hxq hx e (from_:=from_) (i:=i) (by omega) with ⟨_,_,h⟩ | ⟨t,h1,h2,h3⟩
   ·exact absurd ((show i=i0 by omega) ▸ hci) h
   ·exact ⟨t,by unfold Zl; rw [h1]; rfl,by unfold Zl; rw [h2]; rfl,h3⟩
  | succ d ih=>
   intro i hi N hN
   obtain ⟨N,rfl⟩:∃ M,N=M+1:=⟨N-1,by omega⟩
   rcases Zmg hf hl hc weight hb hxq hx e (from_:=from_) (i:=i) (by omega) with ⟨h1,h2,_⟩ | ⟨t,h1,h2,h3⟩
   ·obtain ⟨t,q1,q2,q3⟩:=ih (i+1) (by omega) N (by omega)
    exact ⟨t,by unfold Zl; rw [h1]; exact q1,by unfold Zl; rw [h2]; exact q2,q3⟩
   ·exact ⟨t,by unfold Zl; rw [h1]; rfl,by unfold Zl; rw [h2]; rfl,h3⟩
 obtain ⟨t,h1,h2,h3⟩:=key i0 0 (by omega) NN (by unfold NN; omega)
 have e0:((0:Nat):Int)=0:=rfl
 rw [e0] at h1 h2
 exact ⟨t,by unfold Zb2; rw [h1]; rfl,by unfold ZcB; rw [h2]; rfl,h3⟩
omit hf in
theorem Ztc {o:List Ze} (h:o.length≤1048576):Zl (Zbv o) NN ((w64 ((o.length:Int)-1)),([]:List Ze))=some o.reverse:=by
 have key:∀ (m:Nat),m≤o.length→∀ N,m<N→Zl (Zbv o) N ((m:Int)-1,(o.drop m).reverse)=some o.reverse:=by
  intro m
  induction m with
  | zero=>
   intro hm N hN
   obtain ⟨N,rfl⟩:∃ M,N=M+1:=⟨N-1,by omega⟩
   unfold Zl Zbv
   simp
  | succ m ih=>
   intro hm N hN
   obtain ⟨N,rfl⟩:∃ M,N=M+1:=⟨N-1,by omega⟩
   have hg:getI o (((m+1:Nat):Int)-1)=some o[m]:=by
    rw [show ((m+1:Nat):Int)-1=(m:Int) by omega,Zq]; exact List.getElem?_eq_getElem (by omega)
   have hw:w64 (((m+1:Nat):Int)-1-1)=(m:Int)-1:=by rw [Zp (by omega)]; omega
   have ha:chk (Z1 ((o.drop (m+1)).reverse.length+([o[m]]:List Ze).length) 16)=some ():=ZeD (by simp only [List.length_reverse,List.length_drop,List.length_cons,List.length_nil]; omega) (by omega)
   have hd:o.drop m=o[m]::o.drop (m+1):=List.drop_eq_getElem_cons (by omega)
   have q:=ih (by omega) N (by omega)
   rw [hd,List.reverse_cons] at q
   unfold Zl
   unfold Zbv
   simp only [decide_eq_true (show (0:Int)≤((m+1:Nat):Int)-1 by omega),cond_true,hg,Option.bind_some,ha,hw]
   exact q
 have:=key o.length (Nat.le_refl _) NN (by unfold NN; omega)
 rw [List.drop_length] at this
 rw [Zp (by omega)]
 exact this
def allV (n:Za) (l:List Zc) (closed:List Ze) (weight f at_:Int):List (List Int):=(List.range ((Zb n).length+1)).map (Z7 n l closed weight f at_)
omit hf in
theorem Zjx {l:List Zc} {closed:List Ze} {weight f at_:Int} {k:Nat} (hk:k≤(Zb n).length):getI (allV n l closed weight f at_) (k:Int)=some (Z7 n l closed weight f at_ k):=by
 rw [Zq]; unfold allV
 rw [List.getElem?_map,List.getElem?_range (by omega)]; rfl
theorem Zql (hn:Zi n=some true) {l:List Zc} (hl:l.length≤1048576) {closed:List Ze} (hc:closed.length≤1048576) (weight:Int) {from_:ByteArray} (at_:Int)
 (hC:Z6 n l=true∧0≤idxV (Zb n) from_∧at_≤100000∧1≤weight):
 ∀ (k:Nat) (q0:ByteArray) (x e:Int) (back:List Ze),x=idxV (Zb n) q0→0≤x→getI (Z7 n l closed weight (idxV (Zb n) from_) at_ k) x=some e→0≤e→(k=0∨¬ getI (Z7 n l closed weight (idxV (Zb n) from_) at_ (k-1)) x=some e)→back.length+k≤(Zb n).length→∀ N,k<N→
  ∃ back',Zl (Zad n l closed from_ at_ weight (Zb n) (idxV (Zb n) from_)) N (x,e,(k:Int),back.reverse)=some back'.reverse∧Zl (Zbu n n closed l weight from_ (Zb n) (allV n l closed weight (idxV (Zb n) from_) at_)) N (x,e,(k:Int),back)=some (.inl back')∧back'.length≤(Zb n).length:=by
 have hlg:=Zfg hn
 have hp:(Zb n).length≤40:=by have:=Zar n; omega
 intro k
 induction k with
 | zero=>
  intro q0 x e back hxq hx hg he hnot hlen N hN
  obtain ⟨N,rfl⟩:∃ M,N=M+1:=⟨N-1,by omega⟩
  refine ⟨back,?_,?_,by omega⟩
  ·unfold Zl Zad; simp
  ·unfold Zl Zbu; simp
 | succ k ih=>
  intro q0 x e back hxq hx hg he hnot hlen N hN
  obtain ⟨N,rfl⟩:∃ M,N=M+1:=⟨N-1,by omega⟩
  have hbl:=ZeO hf hl hc weight (idxV (Zb n) from_) at_
  have hnx:¬ getI (Z7 n l closed weight (idxV (Zb n) from_) at_ k) x=some e:=by
   rcases hnot with h | h
   ·omega
   ·exact h
  have hcd:Cand n l closed weight (idxV (Zb n) from_) (Z7 n l closed weight (idxV (Zb n) from_) at_ k) x e:=by
   rcases (Zgd hf hl hc weight (idxV (Zb n) from_) at_ k).2 x e hg with h | h
   ·exact absurd h hnx
   ·exact h
  have hxl:x<(Zb n).length:=by rw [hxq]; exact (ZcQ (Zb n) q0).2
  obtain ⟨t,hs,hi,i,y,d,u,z,rfl,c1,c2,c3,c4,c5,c6,c7,c8⟩:=Zmf hf hl hc weight (hbl k) hxq ⟨hx,hxl⟩ e hcd
  have hfb:=ZeR hf hl hc weight at_ hC (k:=k) (by omega)
  have hw:w64 (((k+1:Nat):Int)-1)=(k:Int):=by rw [Zp (by omega)]; omega
  have hy:getI n.legs (i:Int)=some y:=by rw [Zq]; exact c1
  have ha1:chk (Z1 (([⟨(i:Int),d⟩]:List Ze).length+back.reverse.length) 16)=some ():=ZeD (by simp only [List.length_reverse,List.length_cons,List.length_nil]; omega) (by omega)
  have ha2:chk (Z1 (back.length+([⟨(i:Int),d⟩]:List Ze).length) 16)=some ():=ZeD (by simp only [List.length_cons,List.length_nil]; omega) (by omega)
  have hag:=Zjx (n:=n) (l:=l) (closed:=closed) (weight:=weight) (f:=idxV (Zb n) from_) (at_:=at_) (k:=k) (by omega)
  have hpa:Zu (Zb n) y.from_=some (idxV (Zb n) y.from_):=by rw [Zc9]; exact ZeE hf _
  have a0:=Zcc (ZdQ (List.mem_of_getElem? c1)).1
  obtain ⟨back',q1,q2,q3⟩:=ih y.from_ (idxV (Zb n) y.from_) u (back++[⟨(i:Int),d⟩]) rfl a0 c3 (by omega) (by
   by_cases hk0:k=0
   ·exact .inl hk0
   ·refine .inr fun hu=>hnx ?_
    obtain ⟨k',rfl⟩:∃ k',k=k'+1:=⟨k-1,by omega⟩
    have hb1:=(Zik hf hn hl hc weight (idxV (Zb n) from_) at_ k').2 x e ⟨i,y,d,u,z,c1,c2,hu,c4,c5,c6,c7,c8⟩
    obtain ⟨w,w1,w2,w3⟩:=hb1
    obtain ⟨w',v1,v2,v3⟩:=(Zik hf hn hl hc weight (idxV (Zb n) from_) at_ (k'+1)).1 x w w1 w2
    rw [hg] at v1
    obtain rfl:=Option.some.inj v1
    rw [w1,show w=e by omega]) (by simp only [List.length_append,List.length_cons,List.length_nil]; omega) N (by omega)
  refine ⟨back',?_,?_,q3⟩
  ·have hb:Zad n l closed from_ at_ weight (Zb n) (idxV (Zb n) from_) (x,e,((k+1:Nat):Int),back.reverse)=some (.inl (idxV (Zb n) y.from_,u,(k:Int),[⟨(i:Int),d⟩]++back.reverse)):=by
    unfold Zad
    simp only [decide_eq_true (show (0:Int)<((k+1:Nat):Int) by omega),cond_true,hw,hfb,Option.bind_some,hs,ha1,hy,ZeE hf,c3]
   rw [List.reverse_append,List.reverse_singleton] at q1
   unfold Zl
   rw [hb]
   exact q1
  ·have hb:Zbu n n closed l weight from_ (Zb n) (allV n l closed weight (idxV (Zb n) from_) at_) (x,e,((k+1:Nat):Int),back)=some (.inl (idxV (Zb n) y.from_,u,(k:Int),back++[⟨(i:Int),d⟩])):=by
    unfold Zbu
    simp only [decide_eq_true (show (0:Int)<((k+1:Nat):Int) by omega),cond_true,hw,hag,Option.bind_some,hi,Bool.not_true,cond_false,ha2,hy,hpa,c3]
   unfold Zl
   rw [hb]
   exact q2
theorem ZkJ {l:List Zc} (hl:l.length≤1048576) {closed:List Ze} (hc:closed.length≤1048576) (weight:Int) {from_:ByteArray} (at_:Int) (hp:(Zb n).length≤40)
 (hC:Z6 n l=true∧0≤idxV (Zb n) from_∧at_≤100000∧1≤weight) {x e:Int} (hx:0≤x∧x<(Zb n).length) (hg:getI (Z7 n l closed weight (idxV (Zb n) from_) at_ (Zb n).length) x=some e):
 ∃ k:Nat,k≤(Zb n).length∧getI (Z7 n l closed weight (idxV (Zb n) from_) at_ k) x=some e∧(k=0∨¬ getI (Z7 n l closed weight (idxV (Zb n) from_) at_ (k-1)) x=some e)∧
  Zl (Zay n l closed from_ at_ weight (Zb n) (idxV (Zb n) from_) x e) NN 0=some (k:Int)∧Zl (ZaE n n closed l weight from_ (Zb n) x (allV n l closed weight (idxV (Zb n) from_) at_) e) NN 0=some (k:Int):=by
 have hbl:=ZeO hf hl hc weight (idxV (Zb n) from_) at_
 have key:∀ (dd i:Nat),i+dd=(Zb n).length→(i=0∨¬ getI (Z7 n l closed weight (idxV (Zb n) from_) at_ (i-1)) x=some e)→∀ N,dd<N→
  ∃ k:Nat,k≤(Zb n).length∧getI (Z7 n l closed weight (idxV (Zb n) from_) at_ k) x=some e∧(k=0∨¬ getI (Z7 n l closed weight (idxV (Zb n) from_) at_ (k-1)) x=some e)∧
  Zl (Zay n l closed from_ at_ weight (Zb n) (idxV (Zb n) from_) x e) N (i:Int)=some (k:Int)∧Zl (ZaE n n closed l weight from_ (Zb n) x (allV n l closed weight (idxV (Zb n) from_) at_) e) N (i:Int)=some (k:Int):=by
  intro dd
  induction dd with
  | zero=>
   intro i hi h0 N hN
   obtain ⟨N,rfl⟩:∃ M,N=M+1:=⟨N-1,by omega⟩
   obtain rfl:i=(Zb n).length:=by omega
   refine ⟨(Zb n).length,Nat.le_refl _,hg,h0,?_,?_⟩
   ·unfold Zl Zay
    simp only [ZeR hf hl hc weight at_ hC (Nat.le_refl _),Option.bind_some,hg,decide_true,Bool.not_true,cond_false]
   ·unfold Zl ZaE
    simp only [Zjx (Nat.le_refl _),Option.bind_some,hg,decide_true,Bool.not_true,cond_false]
  | succ dd ih=>
   intro i hi h0 N hN
   obtain ⟨N,rfl⟩:∃ M,N=M+1:=⟨N-1,by omega⟩
   have hw:w64 ((i:Int)+1)=((i+1:Nat):Int):=by rw [Zp (by omega)]; omega
   obtain ⟨v,hv,_⟩:=ZaS (xs:=Z7 n l closed weight (idxV (Zb n) from_) at_ i) (i:=x) ⟨hx.1,by rw [hbl]; exact hx.2⟩
   by_cases hve:v=e
   ·subst hve
    refine ⟨i,by omega,hv,h0,?_,?_⟩
    ·unfold Zl Zay
     simp only [ZeR hf hl hc weight at_ hC (show i≤(Zb n).length by omega),Option.bind_some,hv,decide_true,Bool.not_true,cond_false]
    ·unfold Zl ZaE
     simp only [Zjx (show i≤(Zb n).length by omega),Option.bind_some,hv,decide_true,Bool.not_true,cond_false]
   ·obtain ⟨k,q1,q2,q3,q4,q5⟩:=ih (i+1) (by omega) (.inr (by rw [Nat.add_sub_cancel,hv]; simpa using hve)) N (by omega)
    refine ⟨k,q1,q2,q3,?_,?_⟩
    ·have hb:Zay n l closed from_ at_ weight (Zb n) (idxV (Zb n) from_) x e (i:Int)=some (.inl ((i+1:Nat):Int)):=by
      unfold Zay
      simp only [ZeR hf hl hc weight at_ hC (show i≤(Zb n).length by omega),Option.bind_some,hv,decide_eq_false hve,Bool.not_false,cond_true,hw]
     unfold Zl
     rw [hb]
     exact q4
    ·have hb:ZaE n n closed l weight from_ (Zb n) x (allV n l closed weight (idxV (Zb n) from_) at_) e (i:Int)=some (.inl ((i+1:Nat):Int)):=by
      unfold ZaE
      simp only [Zjx (show i≤(Zb n).length by omega),Option.bind_some,hv,decide_eq_false hve,Bool.not_false,cond_true,hw]
     unfold Zl
     rw [hb]
     exact q5
 obtain ⟨k,q1,q2,q3,q4,q5⟩:=key (Zb n).length 0 (by omega) (.inl rfl) NN (by unfold NN; omega)
 exact ⟨k,q1,q2,q3,q4,q5⟩
theorem Zm9 {l:List Zc} {closed:List Ze} (weight:Int) {from_:ByteArray} {at_:Int} (h:idxV (Zb n) from_<0∨100000<at_) (legs:Int):Zap n n closed l weight from_ at_ legs=some []:=by
 unfold Zap
 rw [Zc9,(ZT hf).1,(ZT hf).2]
 simp only [Option.bind_some,ZeE hf]
 by_cases h1:idxV (Zb n) from_<0
 ·simp only [decide_eq_true h1,cond_true]
 ·simp only [decide_eq_false h1,cond_false,decide_eq_true (show 100000<at_ by omega),cond_true]
theorem Zle {l:List Zc} (hl:l.length≤1048576) {closed:List Ze} (hc:closed.length≤1048576) (from_ to_:ByteArray) (at_ weight:Int):
 ∃ r,ZdR n l closed from_ to_ at_ weight=some r∧ZO n l closed from_ to_ at_ weight=some r:=by
 have hplen:=plen hf
 have hpa:∀ p,Zu (Zb n) p=some (idxV (Zb n) p):=fun p=>by rw [Zc9]; exact ZeE hf p
 unfold ZdR ZO ZfC Zez
 rw [ZhG hf hl,(ZT hf).1,(ZT hf).2]
 simp only [Option.bind_some,ZeE hf,hpa]
 by_cases hB:Z6 n l=true
 case neg=>
  have hB:Z6 n l=false:=by simpa using hB
  have e:ZK n l closed from_ at_ weight ((Zb n).length:Int)=some []:=by
   unfold ZK
   rw [(ZT hf).2]
   simp only [Option.bind_some,ZeE hf,Zby hf hl,hB,Bool.not_false,cond_true]
  refine ⟨([],false),by simp only [hB,Bool.not_false,cond_true],?_⟩
  simp only [e,Option.bind_some]
  by_cases h:idxV (Zb n) to_<0
  ·simp only [decide_eq_true h,cond_true]
  ·simp only [decide_eq_false h,cond_false,List.length_nil]; rfl
 have hn:=(ZeP hB).1
 have hlg:=Zfg hn
 have hp:(Zb n).length≤40:=by have:=Zar n; omega
 simp only [hB,Bool.not_true,cond_false]
 by_cases hw1:weight<1
 ·have e:ZK n l closed from_ at_ weight ((Zb n).length:Int)=some []:=by
   unfold ZK
   rw [(ZT hf).2]
   simp only [Option.bind_some,ZeE hf,Zby hf hl,hB,Bool.not_true,cond_false,decide_eq_true hw1,cond_true]
   by_cases h1:idxV (Zb n) from_<0
   ·simp only [decide_eq_true h1,cond_true]
   ·by_cases h2:100000<at_
    ·simp only [decide_eq_false h1,decide_eq_true h2,cond_true,cond_false]
    ·simp only [decide_eq_false h1,decide_eq_false h2,cond_false]
  refine ⟨([],false),by simp only [decide_eq_true hw1,cond_true],?_⟩
  simp only [e,Option.bind_some]
  by_cases h:idxV (Zb n) to_<0
  ·simp only [decide_eq_true h,cond_true]
  ·simp only [decide_eq_false h,cond_false,List.length_nil]; rfl
 simp only [decide_eq_false hw1,cond_false]
 by_cases hA:idxV (Zb n) from_<0∨100000<at_
 ·have e:ZK n l closed from_ at_ weight ((Zb n).length:Int)=some []:=by
   unfold ZK
   rw [(ZT hf).2]
   simp only [Option.bind_some,ZeE hf,Zby hf hl,hB,Bool.not_true,cond_false]
   by_cases h1:idxV (Zb n) from_<0
   ·simp only [decide_eq_true h1,cond_true]
   ·simp only [decide_eq_false h1,cond_false,decide_eq_true (show 100000<at_ by omega),cond_true]
  have e0:Zl (Zah n n closed l weight from_ at_ (Zb n) (idxV (Zb n) to_)) NN (0,([]:List (List Int)))=some (.inr ([],false)):=by
   obtain ⟨N,hN⟩:∃ N,NN=N+1:=⟨NN-1,by unfold NN; omega⟩
   rw [hN]
   unfold Zl Zah
   simp only [decide_eq_true (show (0:Int)≤((Zb n).length:Int) by omega),cond_true,Zm9 hf weight hA,Option.bind_some,List.length_nil]
   rfl
  refine ⟨([],false),by rw [e0]; rfl,?_⟩
  simp only [e,Option.bind_some]
  by_cases h:idxV (Zb n) to_<0
  ·simp only [decide_eq_true h,cond_true]
  ·simp only [decide_eq_false h,cond_false,List.length_nil]; rfl
 have hC:Z6 n l=true∧0≤idxV (Zb n) from_∧at_≤100000∧1≤weight:=⟨hB,by omega,by omega,by omega⟩
 have hbl:=ZeO hf hl hc weight (idxV (Zb n) from_) at_
 have hfl:=(ZcQ (Zb n) from_).2
 have hav:=fun (k:Nat) (hk:k≤(Zb n).length)=>ZkC hf hl hc weight hC.2.1 hC.2.2.1 (by omega) k (by omega)
 by_cases ht:idxV (Zb n) to_<0
 ·have e0:Zl (Zah n n closed l weight from_ at_ (Zb n) (idxV (Zb n) to_)) NN (0,([]:List (List Int)))=some (.inr ([],false)):=by
   obtain ⟨N,hN⟩:∃ N,NN=N+1:=⟨NN-1,by unfold NN; omega⟩
   rw [hN]
   have h0:=hav 0 (by omega)
   rw [show ((0:Nat):Int)=0 from rfl] at h0
   unfold Zl Zah
   simp only [decide_eq_true (show (0:Int)≤((Zb n).length:Int) by omega),cond_true,h0,Option.bind_some,decide_eq_true ht]
   cases decide (((Z7 n l closed weight (idxV (Zb n) from_) at_ 0).length:Int)=0) <;> rfl
  have hfb:=ZeR hf hl hc weight at_ hC (k:=(Zb n).length) (Nat.le_refl _)
  refine ⟨([],false),by rw [e0]; rfl,?_⟩
  simp only [hfb,Option.bind_some,decide_eq_true ht,cond_true]
 have e0:Zl (Zah n n closed l weight from_ at_ (Zb n) (idxV (Zb n) to_)) NN (0,([]:List (List Int)))=some (.inl (allV n l closed weight (idxV (Zb n) from_) at_)):=by
  refine ZdJ (body:=Zah n n closed l weight from_ at_ (Zb n) (idxV (Zb n) to_)) (fun i:Nat=>((i:Int),(List.range i).map (Z7 n l closed weight (idxV (Zb n) from_) at_))) (n:=(Zb n).length+1) (o:=.inl (allV n l closed weight (idxV (Zb n) from_) at_)) (fun i hi=>?_) ?_ NN (by unfold NN; omega)
  ·have hw:w64 ((i:Int)+1)=((i+1:Nat):Int):=by rw [Zp (by omega)]; omega
   have ha:chk (Z1 (((List.range i).map (Z7 n l closed weight (idxV (Zb n) from_) at_)).length+([Z7 n l closed weight (idxV (Zb n) from_) at_ i]:List (List Int)).length) 24)=some ():=ZeD (by simp only [List.length_map,List.length_range,List.length_cons,List.length_nil]; omega) (by omega)
   unfold Zah
   simp only [decide_eq_true (show (i:Int)≤((Zb n).length:Int) by omega),cond_true,hav i (by omega),Option.bind_some,decide_eq_false (show ¬ (((Z7 n l closed weight (idxV (Zb n) from_) at_ i).length:Int)=0) by rw [hbl]; omega),cond_false,decide_eq_false ht,frz,ha,hw,List.range_succ,List.map_append,List.map_cons,List.map_nil]
  ·unfold Zah
   simp only [decide_eq_false (show ¬ (((Zb n).length+1:Nat):Int)≤((Zb n).length:Int) by omega),cond_false]
   rfl
 have htl:=(ZcQ (Zb n) to_).2
 obtain ⟨due,hdue,_⟩:=ZaS (xs:=Z7 n l closed weight (idxV (Zb n) from_) at_ (Zb n).length) (i:=idxV (Zb n) to_) ⟨by omega,by rw [hbl]; exact htl⟩
 rw [e0]
 simp only [Option.bind_some,ZX,Zjx (Nat.le_refl _),hdue,ZeR hf hl hc weight at_ hC (Nat.le_refl _),decide_eq_false ht,cond_false,decide_eq_false (show ¬ (((Z7 n l closed weight (idxV (Zb n) from_) at_ (Zb n).length).length:Int)=0) by rw [hbl]; omega)]
 by_cases hd:due<0
 ·exact ⟨([],false),by simp only [decide_eq_true hd,cond_true]; rfl,by simp only [decide_eq_true hd,cond_true]⟩
 simp only [decide_eq_false hd,cond_false]
 obtain ⟨k,q1,q2,q3,q4,q5⟩:=ZkJ hf hl hc weight at_ hp hC ⟨by omega,htl⟩ hdue
 obtain ⟨back,b1,b2,b3⟩:=Zql hf hn hl hc weight at_ hC k to_ (idxV (Zb n) to_) due [] rfl (by omega) q2 (by omega) q3 (by simp only [List.length_nil]; omega) NN (by unfold NN; omega)
 rw [List.reverse_nil] at b1
 refine ⟨(back.reverse,true),?_,?_⟩
 ·simp only [q5,Option.bind_some,b2,ZX,Ztc (show back.length≤1048576 by omega)]
 ·simp only [q4,Option.bind_some,b1]
end
end Go.Proofs.YtmcdjilbkmhfoaaGreat
namespace Go.Proofs.YtmcdjilbkmhfoaaGreat
set_option maxRecDepth 10000
open Go.RowKit
set_option linter.unusedVariables false
set_option linter.unusedSimpArgs false
set_option linter.unusedSectionVars false
inductive ZlK (n:Za) (l:List Zc) (closed:List Ze) (weight:Int) (from_:ByteArray) (at_:Int):Nat→ByteArray→Int→List Ze→Prop
 | nil {q:ByteArray} {e:Int} (h0:0≤idxV (Zb n) q) (hg:getI (Z7 n l closed weight (idxV (Zb n) from_) at_ 0) (idxV (Zb n) q)=some e) (he:0≤e):ZlK n l closed weight from_ at_ 0 q e []
 | snoc {k:Nat} {y:YLeg} {u z d e:Int} {i:Nat} {way:List Ze} (hp:ZlK n l closed weight from_ at_ k y.from_ u way) (c1:n.legs[i]?=some y)
  (hg:getI (Z7 n l closed weight (idxV (Zb n) from_) at_ (k+1)) (idxV (Zb n) y.to_)=some e)
  (c5:Z8 n u (decide (idxV (Zb n) y.from_=idxV (Zb n) from_))=some z) (c6:Z5 n l closed (i:Int) z weight=some d) (c7:¬ d<0) (c8:Zn n ⟨(i:Int),d⟩=some e):ZlK n l closed weight from_ at_ (k+1) y.to_ e (way++[⟨(i:Int),d⟩])
section
variable {n:Za} (hf:ZV n)
include hf
theorem ZuR (hn:Zi n=some true) {l:List Zc} (hl:l.length≤1048576) {closed:List Ze} (hc:closed.length≤1048576) (weight:Int) {from_:ByteArray} (at_:Int)
 (hC:Z6 n l=true∧0≤idxV (Zb n) from_∧at_≤100000∧1≤weight):
 ∀ (k:Nat) (q0:ByteArray) (e:Int) (tail:List Ze),0≤idxV (Zb n) q0→getI (Z7 n l closed weight (idxV (Zb n) from_) at_ k) (idxV (Zb n) q0)=some e→0≤e→(k=0∨¬ getI (Z7 n l closed weight (idxV (Zb n) from_) at_ (k-1)) (idxV (Zb n) q0)=some e)→tail.length+k≤(Zb n).length→∀ N,k<N→
  ∃ way,Zl (Zad n l closed from_ at_ weight (Zb n) (idxV (Zb n) from_)) N (idxV (Zb n) q0,e,(k:Int),tail)=some (way++tail)∧ZlK n l closed weight from_ at_ k q0 e way:=by
 have hlg:=Zfg hn
 have hp:(Zb n).length≤40:=by have:=Zar n; omega
 intro k
 induction k with
 | zero=>
  intro q0 e tail hx hg he hnot hlen N hN
  obtain ⟨N,rfl⟩:∃ M,N=M+1:=⟨N-1,by omega⟩
  exact ⟨[],by unfold Zl Zad; simp,.nil hx hg he⟩
 | succ k ih=>
  intro q0 e tail hx hg he hnot hlen N hN
  obtain ⟨N,rfl⟩:∃ M,N=M+1:=⟨N-1,by omega⟩
  have hbl:=ZeO hf hl hc weight (idxV (Zb n) from_) at_
  have hnx:¬ getI (Z7 n l closed weight (idxV (Zb n) from_) at_ k) (idxV (Zb n) q0)=some e:=by
   rcases hnot with h | h
   ·omega
   ·exact h
  have hcd:Cand n l closed weight (idxV (Zb n) from_) (Z7 n l closed weight (idxV (Zb n) from_) at_ k) (idxV (Zb n) q0) e:=by
   rcases (Zgd hf hl hc weight (idxV (Zb n) from_) at_ k).2 _ e hg with h | h
   ·exact absurd h hnx
   ·exact h
  have hxl:=(ZcQ (Zb n) q0).2
  obtain ⟨t,hs,hi,i,y,d,u,z,rfl,c1,c2,c3,c4,c5,c6,c7,c8⟩:=Zmf hf hl hc weight (hbl k) (q0:=q0) rfl ⟨hx,hxl⟩ e hcd
  have hfb:=ZeR hf hl hc weight at_ hC (k:=k) (by omega)
  have hw:w64 (((k+1:Nat):Int)-1)=(k:Int):=by rw [Zp (by omega)]; omega
  have hy:getI n.legs (i:Int)=some y:=by rw [Zq]; exact c1
  have ha1:chk (Z1 (([⟨(i:Int),d⟩]:List Ze).length+tail.length) 16)=some ():=ZeD (by simp only [List.length_cons,List.length_nil]; omega) (by omega)
  obtain ⟨m1,m2⟩:=ZdQ (List.mem_of_getElem? c1)
  have a0:=Zcc m1
  obtain ⟨way,q1,q2⟩:=ih y.from_ u ([⟨(i:Int),d⟩]++tail) a0 c3 (by omega) (by
   by_cases hk0:k=0
   ·exact .inl hk0
   ·refine .inr fun hu=>hnx ?_
    obtain ⟨k',rfl⟩:∃ k',k=k'+1:=⟨k-1,by omega⟩
    have hb1:=(Zik hf hn hl hc weight (idxV (Zb n) from_) at_ k').2 _ e ⟨i,y,d,u,z,c1,c2,hu,c4,c5,c6,c7,c8⟩
    obtain ⟨w,w1,w2,w3⟩:=hb1
    obtain ⟨w',v1,v2,v3⟩:=(Zik hf hn hl hc weight (idxV (Zb n) from_) at_ (k'+1)).1 _ w w1 w2
    rw [hg] at v1
    obtain rfl:=Option.some.inj v1
    rw [w1,show w=e by omega]) (by simp only [List.length_append,List.length_cons,List.length_nil]; omega) N (by omega)
  have hq:y.to_=q0:=by
   have g1:=ZeS (Zcc m2)
   have g2:=ZeS hx
   rw [c2,g2] at g1
   exact (Option.some.inj g1).symm
  refine ⟨way++[⟨(i:Int),d⟩],?_,?_⟩
  ·have hb:Zad n l closed from_ at_ weight (Zb n) (idxV (Zb n) from_) (idxV (Zb n) q0,e,((k+1:Nat):Int),tail)=some (.inl (idxV (Zb n) y.from_,u,(k:Int),[⟨(i:Int),d⟩]++tail)):=by
    unfold Zad
    simp only [decide_eq_true (show (0:Int)<((k+1:Nat):Int) by omega),cond_true,hw,hfb,Option.bind_some,hs,ha1,hy,ZeE hf,c3]
   unfold Zl
   rw [hb,List.append_assoc]
   exact q1
  ·subst hq
   exact .snoc q2 c1 hg c5 c6 c7 c8
omit hf in
theorem ZkH {t:Ze} (ht:Zb0 n t=true):∀ (way:List Ze) (p:ByteArray) (a:Int),Zfw n p a way→(way=[]→ZcR n t=p∧a≤Zaf n t)→(∀ t',way.getLast?=some t'→ZcR n t=Zag n t'∧Zbj n t'+n.change≤Zaf n t)→Zfw n p a (way++[t])
 | [],p,a,_,h1,_=>⟨ht,(h1 rfl).1,(h1 rfl).2,trivial⟩
 | x::way,p,a,hc,h1,h2=>by
  obtain ⟨c1,c2,c3,c4⟩:=hc
  refine ⟨c1,c2,c3,ZkH ht way _ _ c4 (fun hw=>?_) fun t' h=>?_⟩
  ·subst hw
   exact h2 x rfl
  ·cases way with
   | nil=>simp at h
   | cons y ys=>exact h2 t' (by rw [List.getLast?_cons_cons]; exact h)
omit hf in
theorem Zj6:∀ (m:Nat) (l:List Nat),l.Nodup→(∀ x∈l,x<m)→l.length≤m
 | 0,l,_,h=>by
  cases l with
  | nil=>simp
  | cons x xs=>have:=h x (by simp); omega
 | m+1,l,hn,h=>by
  have h1:=Zj6 m (l.erase m) (hn.erase m) fun x hx=>by
   have h2:=(List.Nodup.mem_erase_iff hn).1 hx
   have:=h x h2.2
   have h3:=h2.1
   omega
  have h4:l.length≤(l.erase m).length+1:=by rw [List.length_erase]; split <;> omega
  omega
section
variable (hn:Zi n=some true) {l:List Zc} (hl:l.length≤1048576) {closed:List Ze} (hc:closed.length≤1048576) (weight:Int) {from_:ByteArray} (at_:Int) (hfr:0≤idxV (Zb n) from_) (hat:at_≤100000)
include hn hl hc hfr hat
omit hfr hat in
theorem ZhP (f:Int) {x u:Int} {j:Nat} (hg:getI (Z7 n l closed weight f at_ j) x=some u) (h0:0≤u):∀ d,LeAt (Z7 n l closed weight f at_ (j+d)) x u
 | 0=>⟨u,hg,h0,Int.le_refl _⟩
 | d+1=>by
  obtain ⟨w,w1,w2,w3⟩:=ZhP f hg h0 d
  obtain ⟨w',v1,v2,v3⟩:=(Zik hf hn hl hc weight f at_ (j+d)).1 x w w1 w2
  exact ⟨w',v1,v2,by omega⟩
structure Zvy (n:Za) (l:List Zc) (closed:List Ze) (weight:Int) (from_:ByteArray) (at_:Int) (k:Nat) (q:ByteArray) (e:Int) (way:List Ze):Prop where
 time:0≤e∧e≤100000
 seen:∀ p∈from_::way.map (Zag n),∃ (j:Nat) (u:Int),j≤k∧getI (Z7 n l closed weight (idxV (Zb n) from_) at_ j) (idxV (Zb n) p)=some u∧0≤u∧u≤e
 nodup:(from_::way.map (Zag n)).Nodup
 last:(from_::way.map (Zag n)).getLast?=some q
 chain:Zfw n from_ (if 0 > at_ then 0 else at_) way
 ends:way=[]∧e=(if 0 > at_ then 0 else at_)∨∃ t,way.getLast?=some t∧Zbj n t=e
 found:∀ t∈way,Zam closed t=some false∧∃ y q,getI n.legs t.leg=some y∧Zaq l t=some q∧weight≤w64 (y.room-q)
 idx:0≤idxV (Zb n) q
theorem ZuS {k:Nat} {q:ByteArray} {e:Int} {way:List Ze} (h:ZlK n l closed weight from_ at_ k q e way):Zvy n l closed weight from_ at_ k q e way:=by
 have hlg:=Zfg hn
 have hp:(Zb n).length≤40:=by have:=Zar n; omega
 have hlt:=(ZcQ (Zb n) from_).2
 induction h with
 | nil h0 hg he=>
  rename_i q e
  have hb:Z7 n l closed weight (idxV (Zb n) from_) at_ 0=(List.replicate (Zb n).length (-1:Int)).set (idxV (Zb n) from_).toNat (if 0 > at_ then 0 else at_):=by
   unfold Z7; rw [Znp hf (by omega) _ ⟨hfr,hlt⟩]; rfl
  rw [hb] at hg
  have hq:idxV (Zb n) q=idxV (Zb n) from_∧e=(if 0 > at_ then 0 else at_):=by
   rcases Zoq hfr hg with ⟨a,b⟩ | h
   ·exact ⟨a,b⟩
   ·exfalso
    obtain ⟨_,h2⟩:=ZdO h
    have:=List.mem_of_getElem? h2
    have:=List.eq_of_mem_replicate this
    omega
  have hqf:from_=q:=by
   have g1:=ZeS h0
   have g2:=ZeS hfr
   rw [hq.1,g2] at g1
   exact Option.some.inj g1
  subst hqf
  have he2:=hq.2
  refine ⟨⟨he,by rw [he2]; split <;> omega⟩,fun p hp=>?_,by simp,rfl,trivial,.inl ⟨rfl,he2⟩,fun t ht=>by simp at ht,hfr⟩
  have:p=from_:=by simpa using hp
  subst this
  exact ⟨0,e,Nat.le_refl _,by rw [hb]; exact hg,he,Int.le_refl _⟩
 | snoc hpt c1 hg c5 c6 c7 c8 ih=>
  rename_i k y u z d e i way
  have hleg:getI n.legs (i:Int)=some y:=by rw [Zq]; exact c1
  have hfo:ZtU n l closed z weight ⟨(i:Int),d⟩:=by
   rcases ZoH hf c6 with h | h
   ·omega
   ·exact h
  obtain ⟨_,t2,t3,t4,t5⟩:=ZaF hf hn hfo.trip
  have hee:Zbj n ⟨(i:Int),d⟩=e:=by rw [c8] at t2; exact (Option.some.inj t2).symm
  have hto:Zag n ⟨(i:Int),d⟩=y.to_:=by unfold Zag; rw [hleg]; rfl
  have hfrom:ZcR n ⟨(i:Int),d⟩=y.from_:=by unfold ZcR; rw [hleg]; rfl
  obtain ⟨n0,n1⟩:=ZeJ hn
  have hz:z=if idxV (Zb n) y.from_=idxV (Zb n) from_ then u else u+n.change:=by
   unfold Z8 at c5
   by_cases h:idxV (Zb n) y.from_=idxV (Zb n) from_
   ·rw [decide_eq_true h,cond_true] at c5; rw [if_pos h]; exact (Option.some.inj c5).symm
   ·rw [decide_eq_false h,cond_false,Zp (by have:=ih.time; omega)] at c5; rw [if_neg h]; exact (Option.some.inj c5).symm
  have hzu:u≤z:=by rw [hz]; split <;> omega
  have hst:=hfo.start
  have hue:u<e:=by omega
  obtain ⟨m1,m2⟩:=ZdQ (List.mem_of_getElem? c1)
  have hnew:∀ p∈from_::way.map (Zag n),p≠y.to_:=fun p hp heq=>by
   obtain ⟨j,u',hj,hg',h0,hu⟩:=ih.seen p hp
   rw [heq] at hg'
   obtain ⟨w,w1,w2,w3⟩:=ZhP hf hn hl hc weight at_ _ hg' h0 (k+1-j)
   rw [show j+(k+1-j)=k+1 by omega,hg] at w1
   have:=Option.some.inj w1
   omega
  have happ:from_::(way++[(⟨(i:Int),d⟩:Ze)]).map (Zag n)=(from_::way.map (Zag n))++[y.to_]:=by
   rw [List.map_append,List.map_cons,List.map_nil,hto]; rfl
  refine ⟨⟨by omega,by omega⟩,fun p hp=>?_,?_,?_,?_,.inr ⟨_,List.getLast?_concat,hee⟩,fun t ht=>?_,Zcc m2⟩
  ·rw [happ] at hp
   rcases List.mem_append.1 hp with hp | hp
   ·obtain ⟨j,u',hj,hg',h0,hu⟩:=ih.seen p hp
    exact ⟨j,u',by omega,hg',h0,by omega⟩
   ·obtain rfl:=List.mem_singleton.1 hp
    exact ⟨k+1,e,Nat.le_refl _,hg,by omega,Int.le_refl _⟩
  ·rw [happ,List.nodup_append]
   exact ⟨ih.nodup,by simp,fun a ha b hb=>by rw [List.mem_singleton] at hb; rw [hb]; exact hnew a ha⟩
  ·rw [happ]; exact List.getLast?_concat
  ·refine ZkH hfo.trip way _ _ ih.chain (fun hw=>?_) fun t' ht'=>?_
   ·subst hw
    have hq:from_=y.from_:=by have:=ih.last; simpa using this
    rcases ih.ends with ⟨_,he⟩ | ⟨t,ht,_⟩
    ·exact ⟨by rw [hfrom,hq],by omega⟩
    ·simp at ht
   ·have hmem:t'∈way:=List.mem_of_getLast? ht'
    have hlast:Zag n t'=y.from_:=by
     have h1:=ih.last
     cases way with
     | nil=>simp at ht'
     | cons x xs=>
      rw [List.map_cons,List.getLast?_cons_cons,← List.map_cons,List.getLast?_map,ht'] at h1
      exact Option.some.inj h1
    have hne:¬ idxV (Zb n) y.from_=idxV (Zb n) from_:=fun he=>by
     have g1:=ZeS (Zcc m1)
     have g2:=ZeS hfr
     rw [he,g2] at g1
     have hff:from_=y.from_:=Option.some.inj g1
     have hnd:=ih.nodup
     rw [List.nodup_cons] at hnd
     exact hnd.1 (by rw [hff,← hlast]; exact List.mem_map_of_mem hmem)
    rw [if_neg hne] at hz
    rcases ih.ends with ⟨hw,_⟩ | ⟨t'',ht'',he''⟩
    ·rw [hw] at ht'; simp at ht'
    ·rw [ht'] at ht''
     obtain rfl:=Option.some.inj ht''
     exact ⟨by rw [hfrom,hlast],by rw [he'']; omega⟩
  ·rcases List.mem_append.1 ht with ht | ht
   ·exact ih.found t ht
   ·obtain rfl:=List.mem_singleton.1 ht
    exact ⟨hfo.open_,hfo.room⟩
end
end
end Go.Proofs.YtmcdjilbkmhfoaaGreat
namespace Go.Proofs.YtmcdjilbkmhfoaaGreat
set_option maxRecDepth 10000
open Go.RowKit
set_option linter.unusedVariables false
set_option linter.unusedSimpArgs false
set_option linter.unusedSectionVars false
structure WayR (n:Za) (l:List Zc) (closed:List Ze) (weight:Int) (from_ to_:ByteArray) (at_:Int) (way:List Ze):Prop where
 hC:Z6 n l=true∧0≤idxV (Zb n) from_∧at_≤100000∧1≤weight
 hto:0≤idxV (Zb n) to_
 len:way.length≤20
 best:∃ e,getI (Z7 n l closed weight (idxV (Zb n) from_) at_ (Zb n).length) (idxV (Zb n) to_)=some e∧0≤e∧e≤100000∧(way=[]∧e=(if 0 > at_ then 0 else at_)∨∃ t,way.getLast?=some t∧Zbj n t=e)
 nodup:(from_::way.map (Zag n)).Nodup
 last:(from_::way.map (Zag n)).getLast?=some to_
 chain:Zfw n from_ (if 0 > at_ then 0 else at_) way
 found:∀ t∈way,Zam closed t=some false∧∃ y q,getI n.legs t.leg=some y∧Zaq l t=some q∧weight≤w64 (y.room-q)
theorem Zgg {n:Za}:∀ {ts:List Ze} {p:ByteArray} {a:Int},Zfw n p a ts→∀ t∈ts,Zb0 n t=true
 | x::ts,p,a,h,t,ht=>by
  rcases List.mem_cons.1 ht with rfl | ht
  ·exact h.1
  ·exact Zgg h.2.2.2 t ht
section
variable {n:Za} (hf:ZV n)
include hf
theorem Zul {l:List Zc} (hl:l.length≤1048576) {closed:List Ze} {from_:ByteArray} {at_ weight:Int} (hC:¬ (Z6 n l=true∧0≤idxV (Zb n) from_∧at_≤100000∧1≤weight)) (k:Int):ZK n l closed from_ at_ weight k=some []:=by
 unfold ZK
 rw [(ZT hf).2]
 simp only [Option.bind_some,ZeE hf,Zby hf hl]
 by_cases hB:Z6 n l=true
 case neg=>rw [show Z6 n l=false by simpa using hB]; rfl
 rw [hB]
 by_cases h1:idxV (Zb n) from_<0
 ·rw [decide_eq_true h1]; rfl
 by_cases h2:100000<at_
 ·rw [decide_eq_true h2,decide_eq_false h1]; rfl
 by_cases h3:weight<1
 ·rw [decide_eq_true h3,decide_eq_false h1,decide_eq_false h2]; rfl
 exact absurd ⟨hB,by omega,by omega,by omega⟩ hC
theorem Zvu {from_:ByteArray} {at_:Int} {way:List Ze} (hn:Zi n=some true) (hnd:(from_::way.map (Zag n)).Nodup) (hc:Zfw n from_ at_ way):way.length≤20:=by
 have hlg:=Zfg hn
 have hb:∀ t∈way,0≤t.leg∧t.leg.toNat<n.legs.length:=fun t ht=>by
  obtain ⟨y,hy,_⟩:=Zaz hf (Zgg hc t ht)
  obtain ⟨a,b⟩:=ZdO hy
  exact ⟨a,(List.getElem?_eq_some_iff.1 b).1⟩
 have h1:=(List.nodup_cons.1 hnd).2
 unfold List.Nodup at h1
 rw [List.pairwise_map] at h1
 have h2:(way.map fun t=>t.leg.toNat).Nodup:=by
  unfold List.Nodup
  rw [List.pairwise_map]
  refine h1.imp_of_mem fun {a b} ha hb' h e=>h ?_
  have e1:a.leg=b.leg:=by have:=hb a ha; have:=hb b hb'; omega
  unfold Zag
  rw [e1]
 have:=Zj6 n.legs.length _ h2 fun x hx=>by
  obtain ⟨t,ht,rfl⟩:=List.mem_map.1 hx
  exact (hb t ht).2
 rw [List.length_map] at this
 omega
theorem Zkc {l:List Zc} (hl:l.length≤1048576) {closed:List Ze} (hc:closed.length≤1048576) {from_ to_:ByteArray} {at_ weight:Int} {way:List Ze} (h:ZO n l closed from_ to_ at_ weight=some (way,true)):WayR n l closed weight from_ to_ at_ way:=by
 unfold ZO at h
 rw [(ZT hf).2] at h
 simp only [Option.bind_some,ZeE hf] at h
 by_cases hC:Z6 n l=true∧0≤idxV (Zb n) from_∧at_≤100000∧1≤weight
 case neg=>
  rw [Zul hf hl hC] at h
  simp only [Option.bind_some,List.length_nil] at h
  by_cases ht:idxV (Zb n) to_<0
  ·rw [decide_eq_true ht] at h; cases h
  ·rw [decide_eq_false ht] at h; cases h
 have hn:=(ZeP hC.1).1
 have hlg:=Zfg hn
 have hp:(Zb n).length≤40:=by have:=Zar n; omega
 have hbl:=ZeO hf hl hc weight (idxV (Zb n) from_) at_
 have hfl:=(ZcQ (Zb n) from_).2
 have htl:=(ZcQ (Zb n) to_).2
 rw [ZeR hf hl hc weight at_ hC (Nat.le_refl _)] at h
 simp only [Option.bind_some] at h
 by_cases ht:idxV (Zb n) to_<0
 ·rw [decide_eq_true ht] at h; cases h
 obtain ⟨e,he,_⟩:=ZaS (xs:=Z7 n l closed weight (idxV (Zb n) from_) at_ (Zb n).length) (i:=idxV (Zb n) to_) ⟨by omega,by rw [hbl]; exact htl⟩
 simp only [decide_eq_false ht,cond_false,decide_eq_false (show ¬ (((Z7 n l closed weight (idxV (Zb n) from_) at_ (Zb n).length).length:Int)=0) by rw [hbl]; omega),he,Option.bind_some] at h
 by_cases hd:e<0
 ·rw [decide_eq_true hd] at h; cases h
 obtain ⟨k,q1,q2,q3,q4,q5⟩:=ZkJ hf hl hc weight at_ hp hC ⟨by omega,htl⟩ he
 obtain ⟨w,p1,p2⟩:=ZuR hf hn hl hc weight at_ hC k to_ e [] (by omega) q2 (by omega) q3 (by simp only [List.length_nil]; omega) NN (by unfold NN; omega)
 rw [List.append_nil] at p1
 simp only [decide_eq_false hd,cond_false,q4,Option.bind_some,p1,Option.some.injEq,Prod.mk.injEq] at h
 obtain ⟨rfl,_⟩:=h
 have po:=ZuS hf hn hl hc weight at_ hC.2.1 hC.2.2.1 p2
 exact ⟨hC,by omega,Zvu hf hn po.nodup po.chain,⟨e,he,po.time.1,po.time.2,po.ends⟩,po.nodup,po.last,po.chain,po.found⟩
theorem Znh (hn:Zi n=some true) {way:List Ze} (hl:way.length≤1048576) {a b:ByteArray} {t:Int} (ha:0≤idxV (Zb n) a) (hb:0≤idxV (Zb n) b) (hc:Zfw n a t way) (he:way.foldl (fun _ t=>Zag n t) a=b):ZaQ n way a b t=some true:=by
 obtain ⟨ch0,ch1⟩:=ZeJ hn
 have key:∀ (d i:Nat) (p:ByteArray) (u:Int),i+d=way.length→Zfw n p u (way.drop i)→∀ N,d<N→Zl (Zae n way b) N (p,u,(i:Int))=some (.inl ((way.drop i).foldl (fun _ t=>Zag n t) p)):=by
  intro d
  induction d with
  | zero=>
   intro i p u hi h N hN
   obtain ⟨N,rfl⟩:∃ M,N=M+1:=⟨N-1,by omega⟩
   rw [List.drop_of_length_le (by omega)]
   unfold Zl Zae
   simp only [decide_eq_false (show ¬ (i:Int)<(way.length:Int) by omega),cond_false,List.foldl_nil]
   rfl
  | succ d ih=>
   intro i p u hi h N hN
   obtain ⟨N,rfl⟩:∃ M,N=M+1:=⟨N-1,by omega⟩
   have hlt:i<way.length:=by omega
   have hg:getI way (i:Int)=some way[i]:=by rw [Zq]; exact List.getElem?_eq_getElem hlt
   have hw:w64 ((i:Int)+1)=((i+1:Nat):Int):=Z9 hlt (by omega)
   rw [List.drop_eq_getElem_cons hlt] at h ⊢
   obtain ⟨c1,c2,c3,c4⟩:=h
   obtain ⟨y,hy,_⟩:=Zaz hf c1
   obtain ⟨t1,t2,t3,t4,t5⟩:=ZaF hf hn c1
   have f1:ZcR n way[i]=y.from_:=by unfold ZcR; rw [hy]; rfl
   have f2:Zag n way[i]=y.to_:=by unfold Zag; rw [hy]; rfl
   have hwe:w64 (Zbj n way[i]+n.change)=Zbj n way[i]+n.change:=Zp (by omega)
   have hstep:Zae n way b (p,u,(i:Int))=some (.inl (Zag n way[i],Zbj n way[i]+n.change,((i+1:Nat):Int))):=by
    unfold Zae
    simp only [decide_eq_true (show (i:Int)<way.length by omega),cond_true,hg,Option.bind_some,Zjn hf hn,c1,Bool.not_true,cond_false,hy,t1,t2,decide_eq_true (show y.from_=p by rw [← f1]; exact c2),decide_eq_false (show ¬ Zaf n way[i]<u by omega),hwe,hw,f2]
   unfold Zl
   rw [hstep,List.foldl_cons]
   exact ih (i+1) _ _ (by omega) c4 N (by omega)
 have hk:=key way.length 0 a t (by omega) (by simpa using hc) NN (by unfold NN; omega)
 rw [List.drop_zero,he] at hk
 have hpl:=Zar n
 have hll:=hf.legs
 unfold ZaQ
 rw [(ZT hf).2,hn]
 simp only [Option.bind_some,ZeU (show (Zb n).length≤4194304 by omega),decide_eq_false (show ¬ idxV (Zb n) a<0 by omega),decide_eq_false (show ¬ idxV (Zb n) b<0 by omega),Bool.not_true,cond_false]
 rw [show (0:Int)=((0:Nat):Int) from rfl,hk]
 simp [ZX]
end
theorem ZkM {α β:Type} (f:α→β):∀ (l:List α) (a b:β),(a::l.map f).getLast?=some b→l.foldl (fun _ x=>f x) a=b
 | [],a,b,h=>by simpa using h
 | x::l,a,b,h=>by
  rw [List.map_cons,List.getLast?_cons_cons] at h
  exact ZkM f l (f x) b h
theorem ZtR:∀ (l:List Zc),l.length≤1048575→∃ d:List Zc,d.Perm l∧d.Pairwise leB
 | [],_=>⟨[],.nil,.nil⟩
 | x::l,h=>by
  rw [List.length_cons] at h
  obtain ⟨d,h1,h2⟩:=ZtR l (by omega)
  have:=h1.length_eq
  obtain ⟨r,_,_,h3,h4⟩:=Zqc (l:=d) (by omega) x h2
  exact ⟨r,h3.trans ((h1.append_right [x]).trans (List.perm_append_comm (l₁:=l) (l₂:=[x]))),h4⟩
def newO (w:Zd) (from_ to_:ByteArray) (service weight due:Int) (way:List Ze):Zf:=⟨from_,to_,service,weight,w.now,due,way,0,1,from_,0⟩
def accV (w:Zd) (o:Zf) (ys:List Zc):Zd:=Zbl ⟨w.network,w.orders++[o],ys,w.closed,w.now,w.scans,w.skip,w.made⟩ ⟨(w.orders.length:Int)+1,w.now,1,o.from_,⟨0,0⟩⟩
theorem Zng {l l':List Zc} (h:∀ b∈l,b∈l') {th:Int} {t:Ze} {wt:Int} (hb:Zei l th t wt=true):Zei l' th t wt=true:=by
 unfold Zei at *
 rw [List.any_eq_true] at *
 obtain ⟨x,h1,h2⟩:=hb
 exact ⟨x,h x h1,h2⟩
theorem ZqE (os:List Zf) (o:Zf):(os++[o]).foldl (fun a (o:Zf)=>w64 (a+(o.way.length:Int))) 0=w64 (os.foldl (fun a (o:Zf)=>w64 (a+(o.way.length:Int))) 0+(o.way.length:Int)):=by
 rw [List.foldl_append]; rfl
section
variable {w:Zd} (h:WOk w)
include h
theorem Zti {th:Int} (h1:1≤th∧th≤9999) {p:ByteArray} (hp:0≤idxV (Zb w.network) p):Zz w.network ⟨th,w.now,1,p,⟨0,0⟩⟩=some true:=by
 have hnow:=h.parts.1
 have hpl:=Zar w.network
 have hll:=h.fit.net.legs
 unfold Zz
 rw [h.net]
 simp only [Option.bind_some,Zbb,Bool.not_true,cond_false,decide_eq_true h1.1,decide_eq_true h1.2,decide_eq_true hnow.1,decide_eq_true hnow.2,Bool.and_self,(ZT h.fit.net).2,ZeU (show (Zb w.network).length≤4194304 by omega),decide_true,cond_true,decide_eq_true hp]
theorem ZvB (ho30:w.orders.length<30) {from_ to_:ByteArray} (hne:¬ from_=to_) {service weight due:Int} (hs:1≤service∧service≤3) (hw:1≤weight∧weight≤30000) (hdue:0≤due∧due≤200000) {way:List Ze} (hR:WayR w.network w.bookings w.closed weight from_ to_ (w.now+1) way)
 {ys:List Zc} (hp:ys.Perm (w.bookings++Zft ((w.orders.length:Int)+1) weight way)) (hb:Z6 w.network ys=true):WOk (accV w (newO w from_ to_ service weight due way) ys):=by
 obtain ⟨p1,p2,p3,p4,p5,p6,p7⟩:=h.parts
 have hbn:=(ZeP hb).2
 have hlen:=hR.len
 have hyl:=hp.length_eq
 rw [List.length_append] at hyl
 have hnl:(Zft ((w.orders.length:Int)+1) weight way).length=way.length:=by unfold Zft; rw [List.length_map]
 rw [hnl] at hyl
 have hv:=h.ok
 have hat:(if 0 > w.now+1 then 0 else w.now+1)=w.now+1:=if_neg (by omega)
 have hch:=hR.chain
 rw [hat] at hch
 have htrip:=Zgg hch
 have hmem:∀ b∈w.bookings,b∈ys:=fun b hb=>hp.mem_iff.2 (List.mem_append_left _ hb)
 have hlast:=ZkM (Zag w.network) way from_ to_ hR.last
 have hsc:=Zmi (n:=w.network) (at_:=w.now) (skip:=w.skip) (p:=(w.scans,w.made)) (s:=⟨(w.orders.length:Int)+1,w.now,1,from_,⟨0,0⟩⟩) ⟨fun s hs=>Zgt h.fit h.ok hs,p4,p6⟩ ⟨Zti h (by omega) hR.hC.2.1,Int.le_refl _⟩
 have hnew:Zeg (accV w (newO w from_ to_ service weight due way) ys) w.orders.length (newO w from_ to_ service weight due way)=true:=by
  have hcv:Zw (newO w from_ to_ service weight due way)=0:=by unfold Zw newO; rw [if_neg (by simp)]
  have hst:ZD w.network (newO w from_ to_ service weight due way) w.now=some true:=by
   refine (Zko h.fit.net h.net ⟨Int.le_refl _,by simp only [newO]; omega⟩ (by simp only [newO]; omega) htrip w.now).2 ⟨fun t h0=>by simp [newO] at h0,.inl ⟨rfl,?_,?_,rfl,fun t ht=>?_⟩⟩
   ·unfold ZgN newO; rw [if_neg (by simp)]
   ·unfold ZgN newO; rw [if_neg (by simp)]; exact hne
   ·have ht':way[0]?=some t:=ht
    cases way with
    | nil=>simp at ht'
    | cons x xs=>
     obtain rfl:x=t:=by simpa using ht'
     have:=hch.2.2.1
     omega
  unfold Zeg
  simp only [Bool.and_eq_true,Bool.not_eq_true',decide_eq_true_iff,decide_eq_false_iff_not]
  have hid:¬ idxV (Zb w.network) from_<0:=by have:=hR.hC.2.1; omega
  have hid2:¬ idxV (Zb w.network) to_<0:=by have:=hR.hto; omega
  have hw1:w64 (w.now+1)=w.now+1:=Zp (by omega)
  refine ⟨⟨⟨⟨⟨⟨⟨⟨⟨⟨⟨hid,hid2⟩,hne⟩,hs⟩,hw⟩,p1.1,Int.le_refl _⟩,hdue⟩,Int.le_refl _,by simp only [newO]; omega⟩,?_⟩,?_⟩,?_⟩,?_⟩
  ·refine ZbI.2 fun j t hj=>?_
   have hj':way[j]?=some t:=hj
   have htm:=List.mem_of_getElem? hj'
   unfold wayC
   simp only [Bool.and_eq_true,Bool.not_eq_true',Bool.and_eq_false_imp,decide_eq_true_iff,decide_eq_false_iff_not,Nat.zero_add]
   refine ⟨⟨htrip t htm,?_⟩,fun he hj1=>?_⟩
   ·unfold Zei
    refine List.any_eq_true.2 ⟨⟨(w.orders.length:Int)+1,t,weight⟩,hp.mem_iff.2 (List.mem_append_right _ ?_),decide_eq_true ?_⟩
    ·unfold Zft; exact List.mem_map_of_mem htm
    ·rw [show ((w.orders.length+1:Nat):Int)=(w.orders.length:Int)+1 by omega]; rfl
   ·have hj1':j+1<way.length:=hj1
    have he':Zag w.network t=to_:=he
    have hnd:=hR.nodup
    have hl2:=hR.last
    rw [List.getLast?_eq_getElem?,List.length_cons,List.length_map,Nat.add_sub_cancel] at hl2
    have h1:(from_::way.map (Zag w.network))[j+1]?=some to_:=by rw [List.getElem?_cons_succ,List.getElem?_map,hj',Option.map_some,he']
    have h2:=List.pairwise_iff_getElem.1 hnd (j+1) way.length (by simp; omega) (by simp) (by omega)
    exact h2 ((List.getElem?_eq_some_iff.1 h1).2.trans (List.getElem?_eq_some_iff.1 hl2).2.symm)
  ·have hend:endV w.network (newO w from_ to_ service weight due way)=to_:=hlast
   show (ZaQ w.network way from_ (endV w.network (newO w from_ to_ service weight due way)) (w64 (w.now+1))).getD false=true
   rw [hend,hw1,Znh h.fit.net h.net (by omega) hR.hC.2.1 hR.hto hch hlast]; rfl
  ·show (ZD w.network (newO w from_ to_ service weight due way) w.now).getD false=true
   rw [hst]; rfl
  ·rw [hcv]
   refine List.any_eq_false.2 fun t ht=>?_
   have htm:t∈way:=List.mem_of_mem_drop ht
   have:=(hR.found t htm).1
   rw [Zdf,ZdP h.fit.closed] at this
   have:=Option.some.inj this
   show ¬ ZdD w.closed t=true
   unfold ZdD
   rw [this]; simp
 have hold:∀ (i:Nat) (o:Zf),w.orders[i]?=some o→Zeg (accV w (newO w from_ to_ service weight due way) ys) i o=true:=fun i o hi=>by
  have hv:=ZfQ h.ok hi
  unfold Zeg at hv ⊢
  simp only [Bool.and_eq_true,Bool.not_eq_true',decide_eq_true_iff,decide_eq_false_iff_not] at hv ⊢
  obtain ⟨⟨⟨⟨⟨⟨⟨⟨⟨⟨⟨h1,h2⟩,h3⟩,h4⟩,h5⟩,h6⟩,h7⟩,h8⟩,h9⟩,h10⟩,h11⟩,h12⟩:=hv
  refine ⟨⟨⟨⟨⟨⟨⟨⟨⟨⟨⟨h1,h2⟩,h3⟩,h4⟩,h5⟩,h6⟩,h7⟩,h8⟩,?_⟩,h10⟩,h11⟩,h12⟩
  refine ZbI.2 fun j t hj=>?_
  have:=ZbI.1 h9 j t hj
  unfold wayC at this ⊢
  simp only [Bool.and_eq_true] at this ⊢
  exact ⟨⟨this.1.1,Zng hmem this.1.2⟩,this.2⟩
 refine ⟨⟨h.fit.net,?_,?_,h.fit.closed,?_,h.fit.skip,fun o ho=>?_⟩,?_⟩
 ·simp only [accV,Zbl,List.length_append,List.length_cons,List.length_nil]; omega
 ·simp only [accV,Zbl]; omega
 ·have:=hsc.len; simp only [accV,Zbl,newO]; omega
 ·have ho':o∈w.orders++[newO w from_ to_ service weight due way]:=ho
  rcases List.mem_append.1 ho' with ho | ho
  ·exact h.fit.way o ho
  ·obtain rfl:=List.mem_singleton.1 ho; simp only [newO]; omega
 ·unfold Zbk at hv ⊢
  simp only [Bool.and_eq_true,Bool.not_eq_true',decide_eq_true_iff,decide_eq_false_iff_not] at hv ⊢
  obtain ⟨⟨⟨⟨⟨⟨⟨⟨⟨⟨h1,h2⟩,h3⟩,h4⟩,h5⟩,h6⟩,h7⟩,h8⟩,h9⟩,h10⟩,h11⟩:=hv
  have hl:=hsc.len
  have hmd:=hsc.made
  refine ⟨⟨⟨⟨⟨⟨⟨⟨⟨⟨hb,h2⟩,?_⟩,h4⟩,?_⟩,h6⟩,?_⟩,h8⟩,?_⟩,?_⟩,?_⟩
  ·simp only [accV,Zbl,List.length_append,List.length_cons,List.length_nil]; omega
  ·simp only [accV,Zbl,newO]; omega
  ·simp only [accV,Zbl,newO]; omega
  ·refine ZbI.2 fun j s hj=>?_
   obtain ⟨a,b⟩:=hsc.good s (List.mem_of_getElem? hj)
   show ((Zz w.network s).getD false && !decide (w.now<s.at_))=true
   rw [a,decide_eq_false (show ¬ w.now<s.at_ by omega)]; rfl
  ·refine ZbI.2 fun j o hj=>?_
   rw [Nat.zero_add]
   have hj':(w.orders++[newO w from_ to_ service weight due way])[j]?=some o:=hj
   by_cases hjl:j<w.orders.length
   ·rw [List.getElem?_append_left hjl] at hj'
    exact hold j o hj'
   ·rw [List.getElem?_append_right (by omega)] at hj'
    have hj0:j-w.orders.length=0:=by
     have:=(List.getElem?_eq_some_iff.1 hj').1
     simp only [List.length_cons,List.length_nil] at this; omega
    rw [hj0] at hj'
    obtain rfl:newO w from_ to_ service weight due way=o:=by simpa using hj'
    rw [show j=w.orders.length by omega]
    exact hnew
  ·have h11':w.orders.foldl (fun a (o:Zf)=>w64 (a+(o.way.length:Int))) 0=(w.bookings.length:Int):=h11
   show (w.orders++[newO w from_ to_ service weight due way]).foldl (fun a (o:Zf)=>w64 (a+(o.way.length:Int))) 0=(ys.length:Int)
   rw [ZqE,h11']
   show w64 ((w.bookings.length:Int)+(way.length:Int))=_
   rw [Zp (by omega)]; omega
end
end Go.Proofs.YtmcdjilbkmhfoaaGreat
namespace Go.Proofs.YtmcdjilbkmhfoaaGreat
set_option maxRecDepth 10000
open Go.RowKit
set_option linter.unusedVariables false
set_option linter.unusedSimpArgs false
theorem Zkp (f:Nat→Zf→Nat) (o:Zf):∀ (os:List Zf) (b:Nat),sumI f b (os++[o])=sumI f b os+f (b+os.length) o
 | [],b=>by simp [sumI]
 | x::os,b=>by
  rw [List.cons_append]
  unfold sumI
  rw [Zkp f o os (b+1),List.length_cons,show b+1+os.length=b+(os.length+1) by omega]
  omega
theorem Zqb {w:Zd} (h:WOk w) (hs:Zga w) (h3:w.orders.length≤3) {from_ to_:ByteArray} {service weight due:Int} {way:List Ze} (hl:way.length≤20) (hlen:w.scans.length<200) (ys:List Zc):Zga (accV w (newO w from_ to_ service weight due way) ys):=by
 have hfo:=Zjk [(⟨(w.orders.length:Int)+1,w.now,1,from_,⟨0,0⟩⟩:Zj)] (w.scans,w.made) hs.seen.made (by simp only [List.length_cons,List.length_nil]; omega)
 rw [List.foldl_cons,List.foldl_nil] at hfo
 have hsc:(accV w (newO w from_ to_ service weight due way) ys).scans=w.scans++[⟨(w.orders.length:Int)+1,w.now,1,from_,⟨0,0⟩⟩]:=by
  show (Zdd w.skip (w.scans,w.made) _).1=_
  rw [hs.seen.skip]
  exact congrArg Prod.fst hfo
 have hmd:(accV w (newO w from_ to_ service weight due way) ys).made=w.made+1:=by
  show (Zdd w.skip (w.scans,w.made) ⟨(w.orders.length:Int)+1,w.now,1,from_,⟨0,0⟩⟩).2=_
  rw [hs.seen.skip]
  exact congrArg Prod.snd hfo
 have hnew:∀ i,ZbW w.network i (newO w from_ to_ service weight due way)=[⟨((i+1:Nat):Int),w.now,1,from_,⟨0,0⟩⟩]:=fun i=>by
  unfold ZbW newO
  simp
 have hord:(accV w (newO w from_ to_ service weight due way) ys).orders=w.orders++[newO w from_ to_ service weight due way]:=rfl
 have hthing:=hs.thing
 refine ⟨⟨hs.seen.skip,?_,fun i o ho=>?_⟩,?_,?_,fun o ho=>?_,fun s hm=>?_⟩
 ·rw [hmd,hsc,hs.seen.made,List.length_append]; simp
 ·rw [hsc,Zgo]
  show _=ZbW w.network i o
  rw [hord] at ho
  by_cases hi:i<w.orders.length
  ·rw [List.getElem?_append_left hi] at ho
   rw [hs.seen.own i o ho,Zh6 (fun s hm=>by obtain rfl:=List.mem_singleton.1 hm; simp only; omega),List.append_nil]
  ·have hie:i=w.orders.length:=by
    have:=(List.getElem?_eq_some_iff.1 ho).1
    simp only [List.length_append,List.length_cons,List.length_nil] at this; omega
   subst hie
   rw [List.getElem?_append_right (Nat.le_refl _),Nat.sub_self] at ho
   obtain rfl:newO w from_ to_ service weight due way=o:=by simpa using ho
   rw [hnew,Zh6 (l:=w.scans) (fun s hm=>by have:=hthing s hm; omega),List.nil_append,Zre (fun s hm=>by obtain rfl:=List.mem_singleton.1 hm; simp)]
   simp
 ·rw [hsc,hord,Zkp,List.length_append,hs.len]
  show _=_+(ZbW w.network _ (newO w from_ to_ service weight due way)).length
  rw [hnew]; rfl
 ·rw [hord,List.length_append]; simp only [List.length_cons,List.length_nil]; omega
 ·rw [hord] at ho
  rcases List.mem_append.1 ho with ho | ho
  ·exact hs.way o ho
  ·obtain rfl:=List.mem_singleton.1 ho; exact hl
 ·rw [hsc] at hm
  rw [hord,List.length_append]
  rcases List.mem_append.1 hm with hm | hm
  ·have:=hthing s hm; simp only [List.length_cons,List.length_nil]; omega
  ·obtain rfl:=List.mem_singleton.1 hm; simp
end Go.Proofs.YtmcdjilbkmhfoaaGreat
namespace Go.Proofs.YtmcdjilbkmhfoaaGreat
set_option maxRecDepth 10000
open Go.RowKit
set_option linter.unusedVariables false
set_option maxHeartbeats 16000000
def Zcx (at3_:Int) (y1:(List Zj)) (s0:Int):Option (Int ⊕ (Unit ⊕ (Zj × Bool))):=
 cond (decide (0≤s0))
 ((getI y1 s0).bind fun y2=>
 cond (decide (y2.at_≤at3_))
 ((getI y1 s0).bind fun y3=>
 some (.inr (.inr (y3,true))))
 (some (.inl (w64 (s0-1)))))
 (some (.inr (.inl ())))
instance (at3_:Int) (y1:(List Zj)):ZU (Zcx at3_ y1):=⟨fun s0=>(U 3 (vi at3_::(U 4 (.be 0 0 0::.un::.ms 1::vi s0::(U 23 []))))),fun s0=>[some ⟨130,6,[[vi 0,vi 0,vi 0,vs (⟨#[]⟩),vi 0,vi 0]]⟩,some ⟨130,6,y1.map ZF⟩]⟩
def Zce (n:Za) (l:List Zj) (thing:Int) (at3_:Int):Option (Zj × Bool):=
 (ZdA n l thing).bind fun y1=>
 (Zl (Zcx at3_ y1) NN (w64 ((y1.length:Int)-1))).bind (ZX (fun o0=>
 some ((⟨0,0,0,⟨#[]⟩,(⟨0,0⟩:Ze)⟩:Zj),false)) (fun r=>some r))
instance (n:Za) (l:List Zj) (thing:Int) (at3_:Int):CT Tryz.prog (Zce n l thing at3_):=⟨144,[.ag (Zm n),.sl (l.map ZF),vi thing,vi at3_],[],fun r=>.tu [.ag [vi r.1.thing,vi r.1.at_,vi r.1.kind,vs r.1.place,vi r.1.trip.leg,vi r.1.trip.day],vb r.2],fun r=>[],fun H=>by replace H:=H0 H; unfold Zce at H; exact Zh Tryz.func144 rfl Tryz.ntmps144 Tryz.results144 fun Q hQ hQn=>wk3⟩
def ZbO (at3_:Int) (y1:(List Zj)) (s0:Int):Option (Int ⊕ (Unit ⊕ (Zj × Bool))):=
 cond (decide (s0<(y1.length:Int)))
 ((getI y1 s0).bind fun y2=>
 cond (decide (at3_<y2.at_))
 (some (.inr (.inr (y2,true))))
 (some (.inl (w64 (s0+1)))))
 (some (.inr (.inl ())))
instance (at3_:Int) (y1:(List Zj)):ZU (ZbO at3_ y1):=⟨fun s0=>(U 3 (vi at3_::(U 4 (.be 0 0 0::(U 6 (.ms 1::vi (y1.length:Int)::vi s0::(U 10 []))))))),fun s0=>[some ⟨130,6,[[vi 0,vi 0,vi 0,vs (⟨#[]⟩),vi 0,vi 0]]⟩,some ⟨130,6,y1.map ZF⟩]⟩
def ZdS (n:Za) (l:List Zj) (thing:Int) (at3_:Int):Option (Zj × Bool):=
 (ZdA n l thing).bind fun y1=>
 (Zl (ZbO at3_ y1) NN 0).bind (ZX (fun o0=>
 some ((⟨0,0,0,⟨#[]⟩,(⟨0,0⟩:Ze)⟩:Zj),false)) (fun r=>some r))
instance (n:Za) (l:List Zj) (thing:Int) (at3_:Int):CT Tryz.prog (ZdS n l thing at3_):=⟨225,[.ag (Zm n),.sl (l.map ZF),vi thing,vi at3_],[],fun r=>.tu [.ag [vi r.1.thing,vi r.1.at_,vi r.1.kind,vs r.1.place,vi r.1.trip.leg,vi r.1.trip.day],vb r.2],fun r=>[],fun H=>by replace H:=H0 H; unfold ZdS at H; exact Zh Tryz.func225 rfl Tryz.ntmps225 Tryz.results225 fun Q hQ hQn=>wk3⟩
end Go.Proofs.YtmcdjilbkmhfoaaGreat
namespace Go.Proofs.YtmcdjilbkmhfoaaGreat
set_option maxRecDepth 10000
open Go.RowKit
set_option linter.unusedVariables false
set_option linter.unusedSimpArgs false
section
variable {n:Za} (hf:ZV n) {l:List Zj} (h:ZiG n l) {th:Int} (hs:(ofT th l).Pairwise scLt) (hF:Zii n (ofT th l)) {at_:Int} (hat:∀ s∈ofT th l,s.at_≤at_)
include hf h hs hF hat
theorem ZoD {s:Zj} (hl:(ofT th l).getLast?=some s):Zce n l th at_=some (s,true):=by
 have hfl:(ofT th l).length≤200:=Nat.le_trans (List.length_filter_le _ _) h.len
 have hc:=ZlZ hf h hs hF
 generalize ofT th l=T at *
 rw [List.getLast?_eq_getElem?] at hl
 have hlt:=(List.getElem?_eq_some_iff.1 hl).1
 have hw:w64 ((T.length:Int)-1)=((T.length-1:Nat):Int):=by rw [Zp (by omega)]; omega
 have hg:getI T ((T.length-1:Nat):Int)=some s:=by rw [Zq]; exact hl
 have hb:Zcx at_ T ((T.length-1:Nat):Int)=some (.inr (.inr (s,true))):=by
  unfold Zcx
  simp only [decide_eq_true (show (0:Int)≤((T.length-1:Nat):Int) by omega),cond_true,hg,Option.bind_some,decide_eq_true (hat s (List.mem_of_getElem? hl))]
 have e:Zl (Zcx at_ T) NN ((T.length-1:Nat):Int)=some (.inr (s,true)):=by
  obtain ⟨N,hN⟩:∃ N,NN=N+1:=⟨NN-1,by unfold NN; omega⟩
  rw [hN]
  unfold Zl
  rw [hb]
  rfl
 unfold Zce
 rw [hc,Option.bind_some,hw,e]
 rfl
theorem Zj5:ZdS n l th at_=some ((⟨0,0,0,⟨#[]⟩,(⟨0,0⟩:Ze)⟩:Zj),false):=by
 have hfl:(ofT th l).length≤200:=Nat.le_trans (List.length_filter_le _ _) h.len
 have hc:=ZlZ hf h hs hF
 generalize ofT th l=T at *
 have e:Zl (ZbO at_ T) NN 0=some (.inl ()):=by
  refine ZdJ (body:=ZbO at_ T) (fun i:Nat=>(i:Int)) (n:=T.length) (o:=.inl ()) (fun i hi=>?_) ?_ NN (by unfold NN; omega)
  ·have hg:getI T (i:Int)=some T[i]:=by rw [Zq]; exact List.getElem?_eq_getElem hi
   unfold ZbO
   simp only [decide_eq_true (show (i:Int)<T.length by omega),cond_true,hg,Option.bind_some,decide_eq_false (show ¬ at_<T[i].at_ by have:=hat _ (List.getElem_mem hi); omega),cond_false,Z9 hi (by omega)]
  ·unfold ZbO
   simp
 unfold ZdS
 rw [hc,Option.bind_some,e]
 rfl
end
end Go.Proofs.YtmcdjilbkmhfoaaGreat
namespace Go.Proofs.YtmcdjilbkmhfoaaGreat
set_option maxRecDepth 10000
open Go.RowKit
set_option linter.unusedVariables false
set_option linter.unusedSimpArgs false
theorem ZfK {n:Za} (hf:ZV n) (s:Zj):ZaU n s=some (okS1 n s):=by
 rw [ZjV hf]
 obtain ⟨b,hb⟩:=ZgB hf s
 unfold okS1
 rw [hb]; rfl
section
variable {n:Za} (hf:ZV n) {a b:Zj} (ha:okS1 n a=true) (hb:okS1 n b=true) (ht:a.thing=b.thing) (hlt:scLt a b) (h4:¬ a.kind=4)
include hf ha hb ht hlt h4
theorem ZjK {p q:Zeo} (hp:Zy n a=some p) (hq:ZC n b=some q) (hpl:p.place=q.place) (hat:p.at_≤q.at_):ZaG n a b=some true:=by
 obtain ⟨v,hv,hvl⟩:=Zim a b
 have hv0:v<0:=hvl.2 hlt
 have har:ZbX n p q=some true:=by
  unfold ZbX
  rw [decide_eq_true hpl,cond_true,decide_eq_true hat]
 unfold ZaG
 simp only [ZfK hf,ha,hb,Option.bind_some,Bool.not_true,cond_false,decide_eq_true ht,hv,decide_eq_false (show ¬ 0≤v by omega),decide_eq_false h4,hp,hq,har]
 cases decide (b.kind=2) <;> cases decide (a.kind=3) <;> cases decide (a.trip=b.trip) <;> rfl
theorem Znr (h3:a.kind=3) (h2:b.kind=2) (htr:a.trip=b.trip):ZaG n a b=some true:=by
 obtain ⟨v,hv,hvl⟩:=Zim a b
 have hv0:v<0:=hvl.2 hlt
 unfold ZaG
 simp only [ZfK hf,ha,hb,Option.bind_some,Bool.not_true,cond_false,decide_eq_true ht,hv,decide_eq_false (show ¬ 0≤v by omega),decide_eq_false h4,decide_eq_true h3,decide_eq_true h2,decide_eq_true htr,cond_true]
end
section
variable {n:Za} (hf:ZV n) {s:Zj} (hs:okS1 n s=true)
include hf hs
theorem Znc {y:YLeg} (h2:s.kind=2) (hy:getI n.legs s.trip.leg=some y):Zy n s=some ⟨y.to_,s.at_⟩:=by
 unfold Zy Zeq
 simp only [ZfK hf,hs,Option.bind_some,Bool.not_true,cond_false,decide_eq_false (show ¬ s.kind=3 by omega),decide_eq_true h2,cond_true,hy]
theorem ZjA (h2:¬ s.kind=2) (h3:¬ s.kind=3):Zy n s=some ⟨s.place,s.at_⟩:=by
 unfold Zy Zeq
 simp only [ZfK hf,hs,Option.bind_some,Bool.not_true,cond_false,decide_eq_false h3,decide_eq_false h2]
theorem Znb {y:YLeg} (h3:s.kind=3) (hy:getI n.legs s.trip.leg=some y) {e:Int} (he:Zo n s.trip=some e):ZC n s=some ⟨y.from_,e⟩:=by
 unfold ZC
 simp only [ZfK hf,hs,Option.bind_some,Bool.not_true,cond_false,decide_eq_true h3,cond_true,hy,Ze2,he]
theorem Zna (h2:¬ s.kind=2) (h3:¬ s.kind=3):ZC n s=some ⟨s.place,s.at_⟩:=by
 unfold ZC
 simp only [ZfK hf,hs,Option.bind_some,Bool.not_true,cond_false,decide_eq_false h3,decide_eq_false h2]
end
end Go.Proofs.YtmcdjilbkmhfoaaGreat
namespace Go.Proofs.YtmcdjilbkmhfoaaGreat
set_option maxRecDepth 10000
open Go.RowKit
set_option linter.unusedVariables false
set_option maxHeartbeats 16000000
def ZaH (n:Za) (l:List Zj) (thing:Int) (at3_:Int):Option Zaa:=
 (Zce n l thing at3_).bind fun y1=>
 (ZdS n l thing at3_).bind fun y2=>
 cond (!y1.2)
 (some (⟨n,at3_,false,⟨#[]⟩,(⟨0,0⟩:Ze),false,false,(⟨⟨#[]⟩,0⟩:Zeo),(⟨⟨#[]⟩,0⟩:Zeo),false⟩:Zaa))
 (cond (decide (y1.1.kind=4))
 (some (⟨n,at3_,false,⟨#[]⟩,(⟨0,0⟩:Ze),false,false,(⟨⟨#[]⟩,0⟩:Zeo),(⟨⟨#[]⟩,0⟩:Zeo),false⟩:Zaa))
 (cond y2.2
 (cond (decide (y2.1.kind=2))
 ((ZI n y2.1.trip).bind fun y3=>
 cond (decide (y3≤at3_))
 ((ZL n y2.1.trip).bind fun y4=>
 (getI n.legs y2.1.trip.leg).bind fun y5=>
 some (⟨n,at3_,true,y5.to_,y2.1.trip,(decide (at3_<y4)),false,(⟨⟨#[]⟩,0⟩:Zeo),(⟨⟨#[]⟩,0⟩:Zeo),false⟩:Zaa))
 (cond (decide (y1.1.kind=3))
 ((ZL n y1.1.trip).bind fun y6=>
 cond (decide (at3_<y6))
 ((ZI n y1.1.trip).bind fun y7=>
 (getI n.legs y1.1.trip.leg).bind fun y8=>
 some (⟨n,at3_,true,y8.from_,y1.1.trip,(decide (y7≤at3_)),false,(⟨⟨#[]⟩,0⟩:Zeo),(⟨⟨#[]⟩,0⟩:Zeo),false⟩:Zaa))
 ((Zy n y1.1).bind fun y9=>
 (ZC n y2.1).bind fun y10=>
 some (⟨n,at3_,false,⟨#[]⟩,(⟨0,0⟩:Ze),false,true,y9,y10,y2.2⟩:Zaa)))
 ((Zy n y1.1).bind fun y11=>
 (ZC n y2.1).bind fun y12=>
 some (⟨n,at3_,false,⟨#[]⟩,(⟨0,0⟩:Ze),false,true,y11,y12,y2.2⟩:Zaa))))
 (cond (decide (y1.1.kind=3))
 ((ZL n y1.1.trip).bind fun y13=>
 cond (decide (at3_<y13))
 ((ZI n y1.1.trip).bind fun y14=>
 (getI n.legs y1.1.trip.leg).bind fun y15=>
 some (⟨n,at3_,true,y15.from_,y1.1.trip,(decide (y14≤at3_)),false,(⟨⟨#[]⟩,0⟩:Zeo),(⟨⟨#[]⟩,0⟩:Zeo),false⟩:Zaa))
 ((Zy n y1.1).bind fun y16=>
 (ZC n y2.1).bind fun y17=>
 some (⟨n,at3_,false,⟨#[]⟩,(⟨0,0⟩:Ze),false,true,y16,y17,y2.2⟩:Zaa)))
 ((Zy n y1.1).bind fun y18=>
 (ZC n y2.1).bind fun y19=>
 some (⟨n,at3_,false,⟨#[]⟩,(⟨0,0⟩:Ze),false,true,y18,y19,y2.2⟩:Zaa))))
 (cond (decide (y1.1.kind=3))
 ((ZL n y1.1.trip).bind fun y20=>
 cond (decide (at3_<y20))
 ((ZI n y1.1.trip).bind fun y21=>
 (getI n.legs y1.1.trip.leg).bind fun y22=>
 some (⟨n,at3_,true,y22.from_,y1.1.trip,(decide (y21≤at3_)),false,(⟨⟨#[]⟩,0⟩:Zeo),(⟨⟨#[]⟩,0⟩:Zeo),false⟩:Zaa))
 ((Zy n y1.1).bind fun y23=>
 (ZC n y2.1).bind fun y24=>
 some (⟨n,at3_,false,⟨#[]⟩,(⟨0,0⟩:Ze),false,true,y23,y24,y2.2⟩:Zaa)))
 ((Zy n y1.1).bind fun y25=>
 (ZC n y2.1).bind fun y26=>
 some (⟨n,at3_,false,⟨#[]⟩,(⟨0,0⟩:Ze),false,true,y25,y26,y2.2⟩:Zaa)))))
instance (n:Za) (l:List Zj) (thing:Int) (at3_:Int):CT Tryz.prog (ZaH n l thing at3_):=⟨155,[.ag (Zm n),.sl (l.map ZF),vi thing,vi at3_],[],fun r=>.ag [.sl (r.n.legs.map cLeg),.sl (r.n.off.map cInt),vi r.n.change,vi r.at_,vb r.known,vs r.place,vi r.ride.leg,vi r.ride.day,vb r.rides,vb r.free,vs r.from_.place,vi r.from_.at_,vs r.to_.place,vi r.to_.at_,vb r.more],fun r=>[],fun H=>by replace H:=H0 H; unfold ZaH at H; exact Zh Tryz.func155 rfl Tryz.ntmps155 Tryz.results155 fun Q hQ hQn=>wk3⟩
def Zbf (n:Za) (from1_:ByteArray) (at2_:Int) (to_:ByteArray) (by4_:Int):Option Bool:=
 cond (decide (from1_=to_))
 (some (decide (at2_≤by4_)))
 ((Za1 n from1_ to_ at2_).bind fun y1=>
 cond (!decide (y1=(-1)))
 (some (decide (y1≤by4_)))
 (some false))
instance (n:Za) (from1_:ByteArray) (at2_:Int) (to_:ByteArray) (by4_:Int):CT Tryz.prog (Zbf n from1_ at2_ to_ by4_):=⟨226,[.ag (Zm n),vs from1_,vi at2_,vs to_,vi by4_],[],fun r=>vb r,fun r=>[],fun H=>by replace H:=H0 H; unfold Zbf at H; exact Zh Tryz.func226 rfl Tryz.ntmps226 Tryz.results226 fun Q hQ hQn=>wk3⟩
def ZaB (k:Zaa) (place_:ByteArray):Option Bool:=
 cond k.known
 (cond (!k.rides)
 (some (decide (k.place=place_)))
 (some false))
 (cond k.free
 ((Zbf k.n k.from_.place k.from_.at_ place_ k.at_).bind fun y1=>
 cond y1
 (cond (!k.more)
 (some true)
 ((Zbf k.n place_ k.at_ k.to_.place k.to_.at_).bind fun y2=>
 some y2))
 (some false))
 (some false))
instance (k:Zaa) (place_:ByteArray):CT Tryz.prog (ZaB k place_):=⟨156,[.ag (ZkI k),vs place_],[],fun r=>vb r,fun r=>[],fun H=>by replace H:=H0 H; unfold ZaB at H; exact Zh Tryz.func156 rfl Tryz.ntmps156 Tryz.results156 fun Q hQ hQn=>wk3⟩
def ZdB (n:Za) (l:List Zj) (thing:Int) (at3_:Int) (place_:ByteArray):Option Bool:=
 (ZY n).bind fun y1=>
 cond y1
 ((ZR n).bind fun y2=>
 (Zu y2 place_).bind fun y3=>
 cond (decide (0≤y3))
 ((ZaH n l thing at3_).bind fun y4=>
 (ZaB y4 place_).bind fun y5=>
 some y5)
 (some false))
 (some false)
instance (n:Za) (l:List Zj) (thing:Int) (at3_:Int) (place_:ByteArray):CT Tryz.prog (ZdB n l thing at3_ place_):=⟨145,[.ag (Zm n),.sl (l.map ZF),vi thing,vi at3_,vs place_],[],fun r=>vb r,fun r=>[],fun H=>by replace H:=H0 H; unfold ZdB at H; exact Zh Tryz.func145 rfl Tryz.ntmps145 Tryz.results145 fun Q hQ hQn=>wk3⟩
def ZQ (k:Zaa) (t:Ze):Option Bool:=
 cond k.known
 (cond k.rides
 (some (decide (k.ride=t)))
 (some false))
 ((getI k.n.legs t.leg).bind fun y1=>
 cond (!k.free)
 (some false)
 ((ZI k.n t).bind fun y2=>
 cond (decide (k.at_<y2))
 (some false)
 ((ZL k.n t).bind fun y3=>
 cond (decide (y3≤k.at_))
 (some false)
 ((ZI k.n t).bind fun y4=>
 (Zbf k.n k.from_.place k.from_.at_ y1.from_ y4).bind fun y5=>
 cond (!y5)
 (some false)
 (cond (!k.more)
 (some true)
 ((ZL k.n t).bind fun y6=>
 (Zbf k.n y1.to_ y6 k.to_.place k.to_.at_).bind fun y7=>
 some y7))))))
instance (k:Zaa) (t:Ze):CT Tryz.prog (ZQ k t):=⟨158,[.ag (ZkI k),.ag (Zr t)],[],fun r=>vb r,fun r=>[],fun H=>by replace H:=H0 H; unfold ZQ at H; exact Zh Tryz.func158 rfl Tryz.ntmps158 Tryz.results158 fun Q hQ hQn=>wk3⟩
def ZcK (n:Za) (l:List Zj) (thing:Int) (at3_:Int) (t:Ze):Option Bool:=
 (Zai n t).bind fun y1=>
 cond y1
 ((ZaH n l thing at3_).bind fun y2=>
 (ZQ y2 t).bind fun y3=>
 some y3)
 (some false)
instance (n:Za) (l:List Zj) (thing:Int) (at3_:Int) (t:Ze):CT Tryz.prog (ZcK n l thing at3_ t):=⟨146,[.ag (Zm n),.sl (l.map ZF),vi thing,vi at3_,.ag (Zr t)],[],fun r=>vb r,fun r=>[],fun H=>by replace H:=H0 H; unfold ZcK at H; exact Zh Tryz.func146 rfl Tryz.ntmps146 Tryz.results146 fun Q hQ hQn=>wk3⟩
end Go.Proofs.YtmcdjilbkmhfoaaGreat
namespace Go.Proofs.YtmcdjilbkmhfoaaGreat
set_option maxRecDepth 10000
open Go.RowKit
set_option linter.unusedVariables false
set_option linter.unusedSimpArgs false
set_option linter.unusedSectionVars false
def zS:Zeo:=⟨⟨#[]⟩,0⟩
section
variable {n:Za} (hf:ZV n) (hn:Zi n=some true) {l:List Zj} (h:ZiG n l) {th:Int} (hs:(ofT th l).Pairwise scLt) (hF:Zii n (ofT th l)) {at_:Int} (hat:∀ s∈ofT th l,s.at_≤at_) {s:Zj} (hl:(ofT th l).getLast?=some s)
include hf hn h hs hF hat hl
theorem Zpo {y:YLeg} (h3:s.kind=3) (hy:getI n.legs s.trip.leg=some y) {a e:Int} (ha:Zo n s.trip=some a) (he:Zn n s.trip=some e) (h1:a≤at_) (h2:at_<e):ZaH n l th at_=some ⟨n,at_,true,y.from_,s.trip,true,false,zS,zS,false⟩:=by
 unfold ZaH
 simp only [ZoD hf h hs hF hat hl,Zj5 hf h hs hF hat,Option.bind_some,Bool.not_true,cond_false,decide_eq_false (show ¬ s.kind=4 by omega),decide_eq_true h3,cond_true,Zgx,he,decide_eq_true h2,Ze2,ha,hy,decide_eq_true h1]
 rfl
theorem Zpm (h4:s.kind=4):ZaH n l th at_=some ⟨n,at_,false,⟨#[]⟩,⟨0,0⟩,false,false,zS,zS,false⟩:=by
 unfold ZaH
 simp only [ZoD hf h hs hF hat hl,Zj5 hf h hs hF hat,Option.bind_some,Bool.not_true,cond_false,decide_eq_true h4,cond_true]
 rfl
omit hn h hs hF hat hl in
theorem Zsg (hn:Zi n=some true):ZC n ⟨0,0,0,⟨#[]⟩,⟨0,0⟩⟩=some zS:=by
 have hz:okS1 n ⟨0,0,0,⟨#[]⟩,⟨0,0⟩⟩=false:=by
  unfold okS1 Zz
  rw [hn]
  simp only [Option.bind_some,Bool.not_true,cond_false,Zbb]
  rfl
 unfold ZC
 rw [ZfK hf,hz]
 rfl
theorem Zpn (h3:¬ s.kind=3) (h4:¬ s.kind=4) {p:Zeo} (hp:Zy n s=some p):ZaH n l th at_=some ⟨n,at_,false,⟨#[]⟩,⟨0,0⟩,false,true,p,zS,false⟩:=by
 unfold ZaH
 simp only [ZoD hf h hs hF hat hl,Zj5 hf h hs hF hat,Option.bind_some,Bool.not_true,cond_false,decide_eq_false h4,decide_eq_false h3,hp,Zsg hf hn]
end
end Go.Proofs.YtmcdjilbkmhfoaaGreat
namespace Go.Proofs.YtmcdjilbkmhfoaaGreat
set_option maxRecDepth 10000
open Go.RowKit
set_option linter.unusedVariables false
set_option maxHeartbeats 16000000
def ZbL (n:Za) (y2:Zaa) (y3:List ByteArray) (s0:Int × (List ByteArray)):Option ((Int × (List ByteArray)) ⊕ (List ByteArray)):=
 cond (decide (s0.1<(y3.length:Int)))
 ((getI y3 s0.1).bind fun y4=>
 (ZaB y2 y4).bind fun y5=>
 cond y5
 ((chk (Z1 ((s0.2:List ByteArray).length+([y4]:List ByteArray).length) 16)).bind fun _=>
 some (.inl ((w64 (s0.1+1)),((s0.2:List ByteArray)++[y4]))))
 (some (.inl ((w64 (s0.1+1)),s0.2))))
 (some (.inr s0.2))
instance (n:Za) (y2:Zaa) (y3:List ByteArray):ZU (ZbL n y2 y3):=⟨fun s0=>(U 4 (.be 0 0 0::(U 3 (.be 1 0 0::.be 2 0 0::.be 4 0 0::(U 16 (.ms 5::vi (y3.length:Int)::vi s0.1::(U 49 []))))))),fun s0=>[some ⟨35,3,[[.sl (n.legs.map cLeg),.sl (n.off.map cInt),vi n.change]]⟩,some ⟨92,2,[[.v (.slice none 0 0),.v (.slice none 0 0)]]⟩,some ⟨92,2,[[.ms 3,.v (.slice none 0 0)]]⟩,some ⟨9,1,s0.2.map cStr⟩,some ⟨162,15,[[.sl (y2.n.legs.map cLeg),.sl (y2.n.off.map cInt),vi y2.n.change,vi y2.at_,vb y2.known,vs y2.place,vi y2.ride.leg,vi y2.ride.day,vb y2.rides,vb y2.free,vs y2.from_.place,vi y2.from_.at_,vs y2.to_.place,vi y2.to_.at_,vb y2.more]]⟩,some ⟨9,1,y3.map cStr⟩]⟩
def ZbN (n:Za) (y2:Zaa) (o0:(List ByteArray)) (s1:Int × (List Ze)) (s2:Int × (List Ze)):Option ((Int × (List Ze)) ⊕ (List Ze)):=
 cond (decide (s2.1<(n.legs.length:Int)))
 (cond (decide ((s2.2.length:Int)<60))
 ((Zdk n s2.1 s1.1).bind fun y6=>
 cond y6
 ((ZQ y2 (⟨s2.1,s1.1⟩:Ze)).bind fun y7=>
 cond y7
 ((chk (Z1 ((s2.2:List Ze).length+([(⟨s2.1,s1.1⟩:Ze)]:List Ze).length) 16)).bind fun _=>
 some (.inl ((w64 (s2.1+1)),((s2.2:List Ze)++[(⟨s2.1,s1.1⟩:Ze)]))))
 (some (.inl ((w64 (s2.1+1)),s2.2))))
 (some (.inl ((w64 (s2.1+1)),s2.2))))
 (some (.inl ((w64 (s2.1+1)),s2.2))))
 (some (.inr s2.2))
instance (n:Za) (y2:Zaa) (o0:(List ByteArray)) (s1:Int × (List Ze)):ZU (ZbN n y2 o0 s1):=⟨fun s2=>(U 4 (.be 0 0 0::(U 3 (.be 1 0 0::.be 2 0 0::.be 5 0 0::.un::.un::vi s1.1::(U 35 (vi (n.legs.length:Int)::vi s2.1::(U 28 []))))))),fun s2=>[some ⟨35,3,[[.sl (n.legs.map cLeg),.sl (n.off.map cInt),vi n.change]]⟩,some ⟨92,2,[[.v (.slice none 0 0),.v (.slice none 0 0)]]⟩,some ⟨92,2,[[.ms 3,.ms 4]]⟩,some ⟨9,1,o0.map cStr⟩,some ⟨55,2,s2.2.map Zr⟩,some ⟨162,15,[[.sl (y2.n.legs.map cLeg),.sl (y2.n.off.map cInt),vi y2.n.change,vi y2.at_,vb y2.known,vs y2.place,vi y2.ride.leg,vi y2.ride.day,vb y2.rides,vb y2.free,vs y2.from_.place,vi y2.from_.at_,vs y2.to_.place,vi y2.to_.at_,vb y2.more]]⟩]⟩
def ZbM (n:Za) (y2:Zaa) (o0:(List ByteArray)) (s1:Int × (List Ze)):Option ((Int × (List Ze)) ⊕ (List Ze)):=
 cond (decide (s1.1≤60))
 ((Zl (ZbN n y2 o0 s1) NN (0,s1.2)).bind (fun o2=>
 some (.inl ((w64 (s1.1+1)),o2))))
 (some (.inr s1.2))
instance (n:Za) (y2:Zaa) (o0:(List ByteArray)):ZU (ZbM n y2 o0):=⟨fun s1=>(U 4 (.be 0 0 0::(U 3 (.be 1 0 0::.be 2 0 0::.be 5 0 0::.un::.un::vi s1.1::(U 65 []))))),fun s1=>[some ⟨35,3,[[.sl (n.legs.map cLeg),.sl (n.off.map cInt),vi n.change]]⟩,some ⟨92,2,[[.v (.slice none 0 0),.v (.slice none 0 0)]]⟩,some ⟨92,2,[[.ms 3,.ms 4]]⟩,some ⟨9,1,o0.map cStr⟩,some ⟨55,2,s1.2.map Zr⟩,some ⟨162,15,[[.sl (y2.n.legs.map cLeg),.sl (y2.n.off.map cInt),vi y2.n.change,vi y2.at_,vb y2.known,vs y2.place,vi y2.ride.leg,vi y2.ride.day,vb y2.rides,vb y2.free,vs y2.from_.place,vi y2.from_.at_,vs y2.to_.place,vi y2.to_.at_,vb y2.more]]⟩]⟩
def Zak (n:Za) (l:List Zj) (thing:Int) (at3_:Int):Option Zhx:=
 (ZY n).bind fun y1=>
 cond (!y1)
 (some (⟨[],[]⟩:Zhx))
 ((ZaH n l thing at3_).bind fun y2=>
 (ZR n).bind fun y3=>
 (Zl (ZbL n y2 y3) NN (0,[])).bind (fun o0=>
 (Zl (ZbM n y2 o0) NN (0,[])).bind (fun o1=>
 some (⟨o0,o1⟩:Zhx))))
instance (n:Za) (l:List Zj) (thing:Int) (at3_:Int):CT Tryz.prog (Zak n l thing at3_):=⟨62,[.ag (Zm n),.sl (l.map ZF),vi thing,vi at3_],[],fun r=>.ag [.sl (r.places.map cStr),.sl (r.rides.map Zr)],fun r=>[],fun H=>by replace H:=H0 H; unfold Zak at H; exact Zh Tryz.func62 rfl Tryz.ntmps62 Tryz.results62 fun Q hQ hQn=>wk3⟩
end Go.Proofs.YtmcdjilbkmhfoaaGreat
namespace Go.Proofs.YtmcdjilbkmhfoaaGreat
set_option maxRecDepth 10000
open Go.RowKit
set_option linter.unusedVariables false
set_option linter.unusedSimpArgs false
set_option linter.unusedSectionVars false
def gotW (want:Option Ze) (d i:Int):List Ze:=match want with
 | some r=>if r.day<d∨(r.day=d∧r.leg<i) then [r] else []
 | none=>[]
theorem ZsF (want:Option Ze) (d i:Int):(gotW want d i).length≤1:=by
 unfold gotW
 split
 ·split <;> simp
 ·simp
section
variable {n:Za} (hf:ZV n) (hn:Zi n=some true) {k:Zaa} {want:Option Ze} (hp:∀ p,ZaB k p=some false) (hr:∀ t,(∃ y,getI n.legs t.leg=some y)→ZQ k t=some (decide (want=some t))) (hw:∀ r,want=some r→Zb0 n r=true)
include hf hn hp hr hw
theorem ZqW (o0:List ByteArray) (d:Nat) (hd:d≤60):Zl (ZbN n k o0 ((d:Int),gotW want d 0)) NN (0,gotW want d 0)=some (gotW want ((d+1:Nat):Int) 0):=by
 have hlg:=Zfg hn
 have hend:gotW want (d:Int) (n.legs.length:Int)=gotW want ((d+1:Nat):Int) 0:=by
  unfold gotW
  cases hwt:want with
  | none=>rfl
  | some r=>
   obtain ⟨y,hy,_⟩:=Zaz hf (hw r hwt)
   obtain ⟨a,b⟩:=ZdO hy
   have:=(List.getElem?_eq_some_iff.1 b).1
   simp only
   by_cases h:r.day<(d:Int)∨(r.day=(d:Int)∧r.leg<(n.legs.length:Int))
   ·rw [if_pos h,if_pos (by omega)]
   ·rw [if_neg h,if_neg (by omega)]
 rw [← hend]
 refine ZdJ (body:=ZbN n k o0 ((d:Int),gotW want d 0)) (fun i:Nat=>((i:Int),gotW want (d:Int) (i:Int))) (n:=n.legs.length) (o:=gotW want (d:Int) (n.legs.length:Int)) (fun i hi=>?_) ?_ NN (by unfold NN; omega)
 ·have hwi:w64 ((i:Int)+1)=((i+1:Nat):Int):=Z9 hi (by omega)
  have hlen:=ZsF want (d:Int) (i:Int)
  have hrun:Zdk n (i:Int) (d:Int)=some (Zb0 n ⟨(i:Int),(d:Int)⟩):=by rw [(Zfu hf _ _).1]; exact ZgI hf ⟨(i:Int),(d:Int)⟩
  have hride:=hr ⟨(i:Int),(d:Int)⟩ ⟨n.legs[i],by rw [Zq]; exact List.getElem?_eq_getElem hi⟩
  unfold ZbN
  simp only [decide_eq_true (show (i:Int)<(n.legs.length:Int) by omega),cond_true,decide_eq_true (show (((gotW want (d:Int) (i:Int)).length:Int)<60) by omega),hrun,Option.bind_some,hwi]
  by_cases hwt:want=some ⟨(i:Int),(d:Int)⟩
  ·have e1:gotW want (d:Int) (i:Int)=[]:=by unfold gotW; rw [hwt]; simp
   have e2:gotW want (d:Int) ((i+1:Nat):Int)=[⟨(i:Int),(d:Int)⟩]:=by
    have hlt:(i:Int)<((i+1:Nat):Int):=by omega
    unfold gotW
    rw [hwt]
    exact if_pos (.inr ⟨rfl,hlt⟩)
   rw [hw _ hwt,cond_true,hride,Option.bind_some,decide_eq_true hwt,cond_true,e1,e2]
   rfl
  ·have e2:gotW want (d:Int) ((i+1:Nat):Int)=gotW want (d:Int) (i:Int):=by
    unfold gotW
    cases hwt2:want with
    | none=>rfl
    | some r=>
     have hne:¬ (r.leg=(i:Int)∧r.day=(d:Int)):=fun ⟨a,b⟩=>hwt (by rw [hwt2]; obtain ⟨x,y⟩:=r; simp only at a b; rw [a,b])
     simp only
     by_cases h:r.day<(d:Int)∨(r.day=(d:Int)∧r.leg<(i:Int))
     ·rw [if_pos h,if_pos (by omega)]
     ·rw [if_neg h,if_neg (by omega)]
   rw [hride,decide_eq_false hwt,e2]
   cases Zb0 n ⟨(i:Int),(d:Int)⟩ <;> rfl
 ·unfold ZbN
  simp only [decide_eq_false (show ¬ (n.legs.length:Int)<(n.legs.length:Int) by omega),cond_false]
theorem Zn7 {l:List Zj} {th at_:Int} (hk:ZaH n l th at_=some k):Zak n l th at_=some ⟨[],want.toList⟩:=by
 have hlg:=Zfg hn
 have hpl:(Zb n).length≤40:=by have:=Zar n; omega
 have hi:ZY n=some true:=by rw [(Zba hf).1]; exact hn
 have e0:Zl (ZbL n k (Zb n)) NN (0,[])=some []:=by
  refine ZdJ (body:=ZbL n k (Zb n)) (fun i:Nat=>((i:Int),([]:List ByteArray))) (n:=(Zb n).length) (o:=[]) (fun i hi=>?_) ?_ NN (by unfold NN; omega)
  ·have hg:getI (Zb n) (i:Int)=some (Zb n)[i]:=by rw [Zq]; exact List.getElem?_eq_getElem hi
   unfold ZbL
   simp only [decide_eq_true (show (i:Int)<((Zb n).length:Int) by omega),cond_true,hg,Option.bind_some,hp,cond_false,Z9 hi (by omega)]
  ·unfold ZbL
   simp
 have e1:Zl (ZbM n k []) NN (0,[])=some want.toList:=by
  have h0:gotW want 0 0=[]:=by
   unfold gotW
   cases hwt:want with
   | none=>rfl
   | some r=>
    have:=Zig (hw r hwt)
    obtain ⟨y,hy,_⟩:=Zaz hf (hw r hwt)
    have:=(ZdO hy).1
    simp only
    rw [if_neg (by omega)]
  have h61:gotW want ((61:Nat):Int) 0=want.toList:=by
   unfold gotW
   cases hwt:want with
   | none=>rfl
   | some r=>
    have:=Zig (hw r hwt)
    simp only
    rw [if_pos (by omega)]; rfl
  have:=ZdJ (body:=ZbM n k []) (fun d:Nat=>((d:Int),gotW want (d:Int) 0)) (n:=61) (o:=want.toList) (fun d hd=>?_) ?_ NN (by unfold NN; omega)
  ·rw [show ((0:Nat):Int)=0 from rfl,h0] at this
   exact this
  ·unfold ZbM
   rw [decide_eq_true (show (d:Int)≤60 by omega),cond_true,ZqW hf hn hp hr hw [] d (by omega),Option.bind_some,Zp (by omega)]
   rfl
  ·unfold ZbM
   rw [← h61]
   rfl
 unfold Zak
 rw [hi,hk,(ZT hf).1,(ZT hf).2]
 simp only [Option.bind_some,Bool.not_true,cond_false,e0,e1]
end
end Go.Proofs.YtmcdjilbkmhfoaaGreat
namespace Go.Proofs.YtmcdjilbkmhfoaaGreat
set_option maxRecDepth 10000
open Go.RowKit
set_option linter.unusedVariables false
set_option linter.unusedSimpArgs false
set_option linter.unusedSectionVars false
section
variable {n:Za} (hf:ZV n) (hn:Zi n=some true) {l:List Zj} (h:ZiG n l) {th:Int} (hs:(ofT th l).Pairwise scLt) (hF:Zii n (ofT th l)) {at_:Int} (hat:∀ s∈ofT th l,s.at_≤at_) {s:Zj} (hl:(ofT th l).getLast?=some s)
include hf hn h hs hF hat hl
theorem Zne (h3:s.kind=3) (ht:Zb0 n s.trip=true) (h1:Zaf n s.trip≤at_) (h2:at_<Zbj n s.trip):Zak n l th at_=some ⟨[],[s.trip]⟩∧ZcK n l th at_ s.trip=some true:=by
 obtain ⟨y,hy,_⟩:=Zaz hf ht
 obtain ⟨t1,t2,_⟩:=ZaF hf hn ht
 have hk:=Zpo hf hn h hs hF hat hl h3 hy t1 t2 h1 h2
 refine ⟨Zn7 hf hn (want:=some s.trip) (fun p=>rfl) (fun t _=>?_) (fun r e=>by rw [← Option.some.inj e]; exact ht) hk,?_⟩
 ·unfold ZQ
  simp only [cond_true,Option.some.injEq]
 ·have hit:Zai n s.trip=some true:=by rw [ZhZ hf hn,ZgI hf,ht]
  unfold ZcK ZQ
  simp only [hit,Option.bind_some,cond_true,hk,decide_true]
theorem Znd (h4:s.kind=4):Zak n l th at_=some ⟨[],[]⟩:=by
 have hk:=Zpm hf hn h hs hF hat hl h4
 refine Zn7 hf hn (want:=none) (fun p=>rfl) (fun t ht=>?_) (fun r e=>by cases e) hk
 obtain ⟨y,hy⟩:=ht
 unfold ZQ
 simp only [cond_false,hy,Option.bind_some,Bool.not_false,cond_true]
 rfl
theorem Znf (h3:¬ s.kind=3) (h4:¬ s.kind=4) {p:Zeo} (hp:Zy n s=some p) (hi:0≤idxV (Zb n) p.place) (ha:p.at_≤at_):ZdB n l th at_ p.place=some true:=by
 have hk:=Zpn hf hn h hs hF hat hl h3 h4 hp
 have hii:ZY n=some true:=by rw [(Zba hf).1]; exact hn
 have hpa:Zu (Zb n) p.place=some (idxV (Zb n) p.place):=by rw [Zc9]; exact ZeE hf p.place
 have hre:Zbf n p.place p.at_ p.place at_=some true:=by
  unfold Zbf
  rw [decide_eq_true rfl,cond_true,decide_eq_true ha]
 unfold ZdB ZaB
 rw [hii,(ZT hf).1,(ZT hf).2]
 simp only [Option.bind_some,cond_true,hpa,decide_eq_true hi,hk,cond_false,hre,Bool.not_false]
end
end Go.Proofs.YtmcdjilbkmhfoaaGreat
namespace Go.Proofs.YtmcdjilbkmhfoaaGreat
set_option maxRecDepth 10000
open Go.RowKit
set_option linter.unusedVariables false
set_option linter.unusedSimpArgs false
set_option linter.unusedSectionVars false
def AdjL {α:Type} (R:α→α→Prop):List α→Prop
 | []=>True
 | [_]=>True
 | a::b::l=>R a b∧AdjL R (b::l)
theorem Zqe {α:Type} {R Q:α→α→Prop} (h:∀ a b,R a b→Q a b):∀ {l:List α},AdjL R l→AdjL Q l
 | [],_=>trivial
 | [_],_=>trivial
 | a::b::l,k=>⟨h a b k.1,Zqe h k.2⟩
theorem Zn1 {α:Type} {R:α→α→Prop} (ht:∀ a b c,R a b→R b c→R a c):∀ {l:List α},AdjL R l→l.Pairwise R
 | [],_=>.nil
 | [a],_=>List.pairwise_singleton R a
 | a::b::l,h=>by
  have ih:=Zn1 ht h.2
  refine List.pairwise_cons.2 ⟨fun x hx=>?_,ih⟩
  rcases List.mem_cons.1 hx with rfl | hx
  ·exact h.1
  ·exact ht _ _ _ h.1 ((List.pairwise_cons.1 ih).1 x hx)
theorem Zqd {α:Type} {R:α→α→Prop}:∀ {l:List α},AdjL R l→∀ (i:Nat) (a b:α),l[i]?=some a→l[i+1]?=some b→R a b
 | [],_,i,a,b,h,_=>by simp at h
 | [x],_,i,a,b,_,h=>by simp at h
 | x::y::l,h,0,a,b,h1,h2=>by
  obtain rfl:x=a:=by simpa using h1
  obtain rfl:y=b:=by simpa using h2
  exact h.1
 | x::y::l,h,i+1,a,b,h1,h2=>Zqd h.2 i a b (by simpa using h1) (by simpa using h2)
theorem Zth (a b c:Zj) (h1:scLt a b) (h2:scLt b c):scLt a c:=(Zkg _ _).1 (ZmU.trans _ _ _ ((Zkg _ _).2 h1) ((Zkg _ _).2 h2))
theorem Zwh (a:Zj):¬ scLt a a:=(Zkh _ _).1 (ZmU.irrefl a)
def FolS (n:Za) (a b:Zj):Prop:=scLt a b∧(okS1 n a=true→okS1 n b=true→ZaG n a b=some true)
structure Std (n:Za) (i:Nat) (b:Zj) (q:ByteArray):Prop where
 thing:b.thing=((i+1:Nat):Int)
 kind:b.kind=1∨b.kind=2
 spot:okS1 n b=true→Zy n b=some ⟨q,b.at_⟩
section
variable {n:Za} (hf:ZV n) (hn:Zi n=some true) {i:Nat}
include hf hn
theorem ZoE {b:Zj} {q:ByteArray} (hb:Std n i b q) {t:Ze} (ht:Zb0 n t=true) (hq:ZcR n t=q) (hl:b.at_≤Zaf n t):FolS n b (ZeH n i t):=by
 obtain ⟨y,hy,_⟩:=Zaz hf ht
 obtain ⟨t1,_⟩:=ZaF hf hn ht
 have f1:ZcR n t=y.from_:=by unfold ZcR; rw [hy]; rfl
 have hk:=hb.kind
 have e1:(ZeH n i t).at_=Zaf n t:=rfl
 have e2:(ZeH n i t).thing=((i+1:Nat):Int):=rfl
 have e3:(ZeH n i t).kind=3:=rfl
 have hlt:scLt b (ZeH n i t):=by
  unfold scLt
  rw [e1,e2,e3,hb.thing]
  omega
 refine ⟨hlt,fun h1 h2=>?_⟩
 exact ZjK hf h1 h2 (hb.thing.trans e2.symm) hlt (by omega) (hb.spot h1) (Znb hf h2 (y:=y) e3 hy t1) (by rw [← hq,f1]) hl
theorem ZqX {t:Ze} (ht:Zb0 n t=true):FolS n (ZeH n i t) (Zfy n i t):=by
 obtain ⟨_,_,t3,t4,_⟩:=ZaF hf hn ht
 have e1:(ZeH n i t).at_=Zaf n t:=rfl
 have e2:(Zfy n i t).at_=Zbj n t:=rfl
 have hlt:scLt (ZeH n i t) (Zfy n i t):=by
  unfold scLt
  rw [e1,e2]
  exact .inl t4
 exact ⟨hlt,fun h1 h2=>Znr hf h1 h2 rfl hlt (by show ¬ (3:Int)=4; omega) rfl rfl rfl⟩
theorem Zok {t:Ze} (ht:Zb0 n t=true):Std n i (Zfy n i t) (Zag n t):=by
 obtain ⟨y,hy,_⟩:=Zaz hf ht
 have f2:Zag n t=y.to_:=by unfold Zag; rw [hy]; rfl
 refine ⟨rfl,.inr rfl,fun h=>?_⟩
 rw [f2]
 exact Znc hf h rfl hy
theorem Zsx {b:Zj} {q:ByteArray} (hb:Std n i b q) (hk:b.kind=2) {e:Int} (he:b.at_=e):FolS n b ⟨((i+1:Nat):Int),e,4,q,⟨0,0⟩⟩:=by
 have hlt:scLt b ⟨((i+1:Nat):Int),e,4,q,⟨0,0⟩⟩:=by
  unfold scLt
  simp only
  rw [hb.thing,hk,he]
  omega
 refine ⟨hlt,fun h1 h2=>?_⟩
 exact ZjK hf h1 h2 hb.thing hlt (by omega) (hb.spot h1) (Zna hf h2 (by simp only; omega) (by simp only; omega)) rfl (by simp only; omega)
theorem Zm1 {tl:List Zj} {more:List Ze}:∀ (ts:List Ze) (a:Zj) (p:ByteArray) (z:Int),Std n i a p→a.at_≤z→Zfw n p z (ts++more)→
 (∀ b q z',Std n i b q→b.at_≤z'→Zfw n q z' more→((ts=[]∧b=a∧q=p)∨∃ t,ts.getLast?=some t∧b=Zfy n i t∧q=Zag n t)→AdjL (FolS n) (b::tl))→
 AdjL (FolS n) (a::(ts.flatMap fun t=>[ZeH n i t,Zfy n i t])++tl)
 | [],a,p,z,ha,hz,hc,hT=>hT a p z ha hz hc (.inl ⟨rfl,rfl,rfl⟩)
 | x::ts,a,p,z,ha,hz,hc,hT=>by
  obtain ⟨c1,c2,c3,c4⟩:=hc
  have hch:=(ZeJ hn).1
  have ih:=Zm1 ts (Zfy n i x) (Zag n x) (Zbj n x+n.change) (Zok hf hn c1) (by show Zbj n x≤_; omega) c4 fun b q z' hb hz' hc' hl=>hT b q z' hb hz' hc' (.inr (by
   rcases hl with ⟨rfl,rfl,rfl⟩ | ⟨t,h1,h2,h3⟩
   ·exact ⟨x,rfl,rfl,rfl⟩
   ·refine ⟨t,?_,h2,h3⟩
    cases ts with
    | nil=>simp at h1
    | cons y ts=>rw [List.getLast?_cons_cons]; exact h1))
  rw [List.flatMap_cons]
  exact ⟨ZoE hf hn ha c1 c2 (by omega),ZqX hf hn c1,ih⟩
end
theorem Zk2 {n:Za} {i:Nat}:∀ (ts:List Ze) (a:Zj) (t:Ze),ts.getLast?=some t→(a::(ts.flatMap fun t=>[ZeH n i t,Zfy n i t])).getLast?=some (Zfy n i t)
 | [],a,t,h=>by simp at h
 | [x],a,t,h=>by
  obtain rfl:x=t:=by simpa using h
  rfl
 | x::y::ts,a,t,h=>by
  rw [List.getLast?_cons_cons] at h
  have ih:=Zk2 (n:=n) (i:=i) (y::ts) (Zfy n i x) t h
  rw [List.flatMap_cons]
  show (a::ZeH n i x::Zfy n i x::((y::ts).flatMap fun t=>[ZeH n i t,Zfy n i t])).getLast?=_
  rw [List.getLast?_cons_cons,List.getLast?_cons_cons]
  exact ih
theorem ZoC {α:Type} (l:List α) (x:α):(l++[x]).getLast?=some x:=by simp
theorem ZmW {α:Type} {l:List α} {g:Int} (h0:0<g) (h1:g≤l.length):(l.take g.toNat).getLast?=l[(g-1).toNat]?:=by
 rw [List.getLast?_eq_getElem?,List.length_take,Nat.min_eq_left (by omega),List.getElem?_take_of_lt (by omega),show g.toNat-1=(g-1).toNat by omega]
section
variable {w:Zd} (h:WOk w) {i:Nat} {o:Zf} (ho:w.orders[i]?=some o)
include h ho
theorem ZoT:AdjL (FolS w.network) (ZbW w.network i o):=by
 have hok:=ZcP h.fit h.ok ho
 have hst:=h.state ho
 have hf:=h.fit.net
 have hp:=h.parts
 have hch:=ZjW hf h.net (h.fit.way o (List.mem_of_getElem? ho)) hok.isWay
 have hat:=hok.at_
 rw [Zp (by omega),← List.take_append_drop o.gone.toNat o.way] at hch
 have hs0:Std w.network i (⟨((i+1:Nat):Int),o.at_,1,o.from_,⟨0,0⟩⟩:Zj) o.from_:=⟨rfl,.inl rfl,fun hk=>ZjA hf hk (by simp) (by simp)⟩
 unfold ZbW
 refine Zm1 hf h.net (more:=o.way.drop o.gone.toNat) _ _ o.from_ (o.at_+1) hs0 (by simp only; omega) hch fun b q z hb hz hc hl=>?_
 by_cases h2:o.state=2
 ·rw [if_pos h2]
  rcases hst.cases with k | ⟨_,_,_,t,k1,k2,k3⟩ | k
  ·omega
  ·obtain ⟨hlt,hte⟩:=List.getElem?_eq_some_iff.1 k1
   rw [List.drop_eq_getElem_cons hlt,hte] at hc
   rw [k1]
   have:=hc.2.2.1
   exact ⟨ZoE hf h.net hb hc.1 hc.2.1 (by omega),trivial⟩
  ·omega
 rw [if_neg h2]
 by_cases h3:o.state=3
 ·rw [if_pos h3]
  rcases hst.cases with k | k | ⟨_,_,e1,e2,e3,e4⟩
  ·omega
  ·omega
  ·have htl:=ZmW (l:=o.way) e3 (by omega)
   rcases hl with ⟨hl,_⟩ | ⟨t,ht,rfl,rfl⟩
   ·exfalso
    rw [hl] at htl
    have hlt:(o.gone-1).toNat<o.way.length:=by omega
    rw [List.getElem?_eq_getElem hlt] at htl
    simp at htl
   ·rw [htl] at ht
    have hto:Zag w.network t=o.to_:=by
     unfold ZgN at e1
     rw [if_pos e3,ht] at e1
     exact e1
    rw [← hto]
    exact ⟨Zsx hf h.net hb rfl (e4 t ht).symm,trivial⟩
 ·rw [if_neg h3]; exact trivial
theorem ZrP (h2:o.state=2):∃ t,o.way[o.gone.toNat]?=some t∧Zaf w.network t≤w.now∧w.now<Zbj w.network t∧(ZbW w.network i o).getLast?=some (ZeH w.network i t):=by
 rcases (h.state ho).cases with k | ⟨_,_,_,t,k1,k2,k3⟩ | k
 ·omega
 ·refine ⟨t,k1,k2,k3,?_⟩
  unfold ZbW
  rw [if_pos h2,k1]
  exact ZoC _ _
 ·omega
theorem ZrO (h3:o.state=3):(ZbW w.network i o).getLast?=some ⟨((i+1:Nat):Int),o.ended,4,o.to_,⟨0,0⟩⟩:=by
 unfold ZbW
 rw [if_neg (by omega),if_pos h3]
 exact ZoC _ _
theorem ZrQ (h1:o.state=1):∃ b,(ZbW w.network i o).getLast?=some b∧Std w.network i b o.place:=by
 have hok:=ZcP h.fit h.ok ho
 have hf:=h.fit.net
 have hg:=hok.gone
 have hs0:Std w.network i (⟨((i+1:Nat):Int),o.at_,1,o.from_,⟨0,0⟩⟩:Zj) o.from_:=⟨rfl,.inl rfl,fun hk=>ZjA hf hk (by simp) (by simp)⟩
 rcases (h.state ho).cases with ⟨_,k2,_⟩ | k | k
 ·unfold ZgN at k2
  unfold ZbW
  rw [if_neg (by omega),if_neg (by omega),List.append_nil]
  by_cases h0:0<o.gone
  ·rw [if_pos h0] at k2
   have htl:=ZmW (l:=o.way) h0 hg.2
   have hlt:(o.gone-1).toNat<o.way.length:=by omega
   rw [List.getElem?_eq_getElem hlt] at htl k2
   refine ⟨_,Zk2 _ _ _ htl,?_⟩
   rw [k2]
   exact Zok hf h.net (hok.trip _ (List.getElem_mem hlt))
  ·rw [if_neg h0] at k2
   rw [show o.gone.toNat=0 by omega,k2]
   exact ⟨_,rfl,hs0⟩
 ·omega
 ·omega
end
theorem Zmk:∀ {l:List Zj},(∀ th,(ofT th l).Nodup)→l.Nodup
 | [],_=>.nil
 | x::l,h=>by
  refine List.nodup_cons.2 ⟨fun hx=>?_,Zmk fun th=>?_⟩
  ·have h1:=h x.thing
   unfold ofT at h1
   rw [List.filter_cons_of_pos (by simp)] at h1
   exact (List.nodup_cons.1 h1).1 (List.mem_filter.2 ⟨hx,by simp⟩)
  ·have h1:=h th
   unfold ofT at h1 ⊢
   by_cases hx:x.thing=th
   ·rw [List.filter_cons_of_pos (by simpa using hx)] at h1
    exact (List.nodup_cons.1 h1).2
   ·rw [List.filter_cons_of_neg (by simpa using hx)] at h1
    exact h1
theorem ZpQ {n:Za} {s:Zj} (hn:Zi n=some true) (h:Zz n s=some true):1≤s.thing:=by
 by_cases h1:1≤s.thing
 ·exact h1
 ·exfalso
  unfold Zz at h
  rw [hn] at h
  simp only [Option.bind_some,Bool.not_true,cond_false,Zbb,decide_eq_false h1,Bool.false_and,Bool.not_false,cond_true] at h
  cases h
section
variable {w:Zd} (h:WOk w) (hs:Zga w)
include h hs
theorem ZoV {i:Nat} {o:Zf} (ho:w.orders[i]?=some o):(ofT ((i+1:Nat):Int) w.scans).Pairwise scLt:=by
 rw [hs.seen.own i o ho]
 exact Zn1 Zth (Zqe (fun a b k=>k.1) (ZoT h ho))
theorem ZlC:∀ s∈w.scans,okS1 w.network s=true:=fun s hm=>by
 unfold okS1
 rw [(Zgt h.fit h.ok hm).1]; rfl
theorem Ztk {i:Nat} {o:Zf} (ho:w.orders[i]?=some o):Zii w.network (ofT ((i+1:Nat):Int) w.scans):=by
 intro j a b ha hb
 have h1:=ZlC h hs a (List.mem_filter.1 (List.mem_of_getElem? ha)).1
 have h2:=ZlC h hs b (List.mem_filter.1 (List.mem_of_getElem? hb)).1
 rw [hs.seen.own i o ho] at ha hb
 exact (Zqd (ZoT h ho) j a b ha hb).2 h1 h2
theorem ZnO:ZiG w.network w.scans:=by
 refine ⟨h.parts.2.2.2.1,ZlC h hs,Zmk fun th=>?_⟩
 by_cases hth:1≤th∧th≤(w.orders.length:Int)
 ·have hi:th.toNat-1<w.orders.length:=by omega
  have:=ZoV h hs (List.getElem?_eq_getElem hi)
  rw [show ((th.toNat-1+1:Nat):Int)=th by omega] at this
  exact this.imp fun {a b} hab e=>by subst e; exact Zwh a hab
 ·rw [Zh6 fun s hm e=>hth ⟨by rw [← e]; exact ZpQ h.net (Zgt h.fit h.ok hm).1,by rw [← e]; exact hs.thing s hm⟩]
  exact .nil
theorem Zvd {i:Nat}:∀ s∈ofT ((i+1:Nat):Int) w.scans,s.at_≤w.now:=fun s hm=>(Zgt h.fit h.ok (List.mem_filter.1 hm).1).2
structure Told (w:Zd) (i:Nat) (o:Zf):Prop where
 clash:ZcJ w.network w.scans ((i+1:Nat):Int)=some []
 last:∃ s,Zce w.network w.scans ((i+1:Nat):Int) w.now=some (s,true)
 ride:o.state=2→∃ t,getI o.way o.gone=some t∧Zak w.network w.scans ((i+1:Nat):Int) w.now=some ⟨[],[t]⟩∧ZcK w.network w.scans ((i+1:Nat):Int) w.now t=some true
 done:o.state=3→Zak w.network w.scans ((i+1:Nat):Int) w.now=some ⟨[],[]⟩
 wait:o.state=1→ZdB w.network w.scans ((i+1:Nat):Int) w.now o.place=some true
 state:o.state=1∨o.state=2∨o.state=3
theorem ZkS {i:Nat} {o:Zf} (ho:w.orders[i]?=some o):Told w i o:=by
 have hok:=ZcP h.fit h.ok ho
 have hf:=h.fit.net
 have hF:=ZnO h hs
 have h1:=ZoV h hs ho
 have h2:=Ztk h hs ho
 have h3:=Zvd h hs (i:=i)
 have hown:=hs.seen.own i o ho
 have hst:o.state=1∨o.state=2∨o.state=3:=by rcases (h.state ho).cases with k | k | k <;> omega
 have hlast:∃ s,(ofT ((i+1:Nat):Int) w.scans).getLast?=some s:=by
  rw [hown]
  unfold ZbW
  rw [List.cons_append]
  exact ⟨_,List.getLast?_cons⟩
 refine ⟨Zqr hf hF h1 h2,?_,fun k=>?_,fun k=>?_,fun k=>?_,hst⟩
 ·obtain ⟨s,e⟩:=hlast
  exact ⟨s,ZoD hf hF h1 h2 h3 e⟩
 ·obtain ⟨t,k1,k2,k3,k4⟩:=ZrP h ho k
  rw [← hown] at k4
  have ht:=hok.trip t (List.mem_of_getElem? k1)
  have hb:=Zne hf h.net hF h1 h2 h3 k4 rfl ht k2 k3
  exact ⟨t,by unfold getI; rw [if_pos hok.gone.1]; exact k1,hb.1,hb.2⟩
 ·have k4:=ZrO h ho k
  rw [← hown] at k4
  exact Znd hf h.net hF h1 h2 h3 k4 rfl
 ·obtain ⟨b,k4,k5⟩:=ZrQ h ho k
  rw [← hown] at k4
  have hb:=k5.kind
  have hm:=List.mem_of_getLast? k4
  have hsp:=k5.spot (ZlC h hs b (List.mem_filter.1 hm).1)
  have hpl:0≤idxV (Zb w.network) o.place:=by
   rcases (h.state ho).cases with ⟨_,k2,_⟩ | k' | k'
   ·rw [k2]
    unfold ZgN
    by_cases h0:0<o.gone
    ·rw [if_pos h0]
     have hg:=hok.gone
     have hlt:(o.gone-1).toNat<o.way.length:=by omega
     rw [List.getElem?_eq_getElem hlt]
     obtain ⟨y,hy,hym⟩:=Zaz hf (hok.trip _ (List.getElem_mem hlt))
     have f2:Zag w.network o.way[(o.gone-1).toNat]=y.to_:=by unfold Zag; rw [hy]; rfl
     show 0≤idxV (Zb w.network) (Zag w.network o.way[(o.gone-1).toNat])
     rw [f2]
     exact Zcc (ZdQ hym).2
    ·rw [if_neg h0]
     have hv:=ZfQ h.ok ho
     unfold Zeg at hv
     simp only [Bool.and_eq_true,Bool.not_eq_true',decide_eq_true_iff,decide_eq_false_iff_not] at hv
     have:=hv.1.1.1.1.1.1.1.1.1.1.1
     omega
   ·omega
   ·omega
  have c3:¬ b.kind=3:=by omega
  have c4:¬ b.kind=4:=by omega
  have hat:=h3 b hm
  have hr:=Znf hf h.net hF h1 h2 h3 k4 c3 c4 (p:=⟨o.place,b.at_⟩) hsp hpl hat
  exact hr
end
end Go.Proofs.YtmcdjilbkmhfoaaGreat
namespace Go.Proofs.YtmcdjilbkmhfoaaGreat
set_option maxRecDepth 10000
open Go.RowKit
set_option linter.unusedVariables false
theorem Zdo.frz {P:Program} {f:FuncId} {args:List PV} {T:TypeId} {k:Nat} {es:List (List PV)} (h:Zdo P f args [] (.ms 0) [some ⟨T,k,es⟩]) (hes:∀ cs∈es,∀ p∈cs,isC1 p=true):Zdo P f args [] (.sl es) []:=by
 intro S β w vs hk0 hl ha
 refine (h S β w vs hk0 hl ha).mono ?_
 rintro e w' ⟨v,E',rfl,hk,hS1,hS2,_,hr⟩
 obtain ⟨B,hB,hb,rfl⟩:=hr.ms_inv hk (l:=0) rfl
 have hkk:=hb.k
 have hn:=hb.n
 simp only at hkk hn
 have hβ:∀ l,β l=none:=fun l=>by
  cases h:β l with
  | none=>rfl
  | some B0=>obtain ⟨mb,hm⟩:=hk0.dom l B0 h; simp at hm
 let S':Nat→Prop:=fun b=>E'.S b∨(B.z=false∧b=B.b)
 have hok:Ok w (own0 β) (E1 S' (fun _=>none) 0) w' []:=
  ⟨hk.up,fun b hb'=>by
   rcases hb' with h | ⟨hz,rfl⟩
   ·exact hk.sz b h
   ·exact (hk.own 0 B hB hz).2.1,fun l B h=>(by cases h),fun l l' B B' h=>(by cases h),fun l h=>absurd h (Nat.not_lt_zero l),fun l B h=>(by cases h),fun l mb h=>(by simp at h),fun l B h=>(by cases h),hk.tab⟩
 have hnew:B.z=false→S B.b∨w.heap.size≤B.b∨own0 β B.b:=fun hz=>by
  rcases (hk.own 0 B hB hz).1 with h | h
  ·exact .inr (.inr h)
  ·exact .inr (.inl h)
 refine ⟨B.sv,E1 S' (fun _=>none) 0,rfl,hok,fun b hb'=>.inl (hS1 b hb'),fun b hb'=>?_,fun l B h=>absurd h (Nat.not_lt_zero l),.c ?_⟩
 ·rcases hb' with h | ⟨hz,rfl⟩
  ·exact hS2 b h
  ·exact hnew hz
 ·cases hz:B.z with
  | true=>
   have h0:es=[]:=hb.nil hz
   subst h0
   have hsv:B.sv=.slice none 0 0:=by simp [Blk.sv,hz]
   rw [hsv]
   exact .nil _ _
  | false=>
   have hsv:B.sv=.slice (some ⟨B.b,0,none⟩) es.length B.c:=by simp [Blk.sv,hz,hn]
   rw [hsv]
   obtain ⟨cells,hc,hcs,hcell⟩:=hb.mem hz
   have hat:∀ (i:Nat) (cs:List PV) (j:Nat) (p:PV),es[i]?=some cs→cs[j]?=some p→∃ x,w'.cell? ⟨B.b,0+i*k+j,none⟩=some x∧x.oneCell'=true∧RepC w' S' p x:=by
    intro i cs j p hi hj
    obtain ⟨x,x1,x2,x3⟩:=hcell i cs j p hi hj
    rw [hkk] at x1
    refine ⟨x,by rw [Nat.zero_add,cell_of_row w' B.b _ cells B.T (0,0) hc,x1],x2,?_⟩
    exact (x3.toC1 (hes cs (List.mem_of_getElem? hi) p (List.mem_of_getElem? hj))).ext (fun b hb=>.inl hb) (fun _ _ _=>rfl)
   exact .sl es B.b 0 k B.c (fun i j=>(w'.cell? ⟨B.b,0+i*k+j,none⟩).getD .nilIface) (.inr ⟨hz,rfl⟩) (by rw [← hkk]; exact hb.pos) (by rw [← hn]; exact hb.nc) hb.cm (fun i cs hi=>by rw [← hkk]; exact hb.es i cs hi)
    (fun i cs j p hi hj=>by obtain ⟨x,x1,_⟩:=hat i cs j p hi hj; rw [x1]; rfl)
    (fun i cs j p hi hj=>by obtain ⟨x,x1,x2,_⟩:=hat i cs j p hi hj; rw [x1]; exact x2)
    (fun i cs j p hi hj=>by obtain ⟨x,x1,_,x3⟩:=hat i cs j p hi hj; rw [x1]; exact x3)
def Zcd (l:List Ze):Option (List Ze):=Zbd l
theorem Zhp (l:List Ze) {r:List Ze} (H:Zcd l=some r):Zdo Tryz.prog 137 [.sl (l.map Zr)] [] (.sl (r.map Zr)) []:=
 (CT.ok (P:=Tryz.prog) (x:=Zbd l) H).frz fun cs hcs p hp=>by
  obtain ⟨x,_,rfl⟩:=List.mem_map.1 hcs
  simp only [Zr,List.mem_cons,List.not_mem_nil,or_false] at hp
  rcases hp with rfl | rfl <;> rfl
instance (l:List Ze):CT Tryz.prog (Zcd l):=⟨137,[.sl (l.map Zr)],[],fun r=>.sl (r.map Zr),fun r=>[],Zhp l⟩
end Go.Proofs.YtmcdjilbkmhfoaaGreat
namespace Go.Proofs.YtmcdjilbkmhfoaaGreat
set_option maxRecDepth 10000
open Go.RowKit
set_option linter.unusedVariables false
set_option maxHeartbeats 16000000
def Zbc (n:Za) (service:Int) (from2_:ByteArray) (to_:ByteArray) (at4_:Int):Option Int:=
 (Za1 n from2_ to_ at4_).bind fun y1=>
 cond (decide (y1=(-1)))
 (some (-1))
 ((Zt service 1 3).bind fun y2=>
 cond (!y2)
 (some (-1))
 (cond (decide (1080<(Int.tmod y1 1440)))
 ((getI ([0,1,4]:List Int) (w64 (service-1))).bind fun y3=>
 some (w64 ((w64 ((w64 ((w64 ((IntKind.i64.wrap (Int.tdiv y1 1440))+1))+y3))*1440))+1080)))
 ((getI ([0,1,4]:List Int) (w64 (service-1))).bind fun y4=>
 some (w64 ((w64 ((w64 ((IntKind.i64.wrap (Int.tdiv y1 1440))+y4))*1440))+1080)))))
instance (n:Za) (service:Int) (from2_:ByteArray) (to_:ByteArray) (at4_:Int):CT Tryz.prog (Zbc n service from2_ to_ at4_):=⟨136,[.ag (Zm n),vi service,vs from2_,vs to_,vi at4_],[],fun r=>vi r,fun r=>[],fun H=>by replace H:=H0 H; unfold Zbc at H; exact Zh Tryz.func136 rfl Tryz.ntmps136 Tryz.results136 fun Q hQ hQn=>wk3⟩
end Go.Proofs.YtmcdjilbkmhfoaaGreat
namespace Go.Proofs.YtmcdjilbkmhfoaaGreat
set_option maxRecDepth 10000
open Go.RowKit
set_option linter.unusedVariables false
set_option linter.unusedSimpArgs false
set_option linter.unusedSectionVars false
theorem ZoF (t:Ze):Zaq [] t=some 0:=by
 unfold Zaq
 obtain ⟨N,hN⟩:∃ N,NN=N+1:=⟨NN-1,by unfold NN; omega⟩
 rw [hN]
 unfold Zl ZaV
 rfl
section
variable {n:Za} (hf:ZV n) (hn:Zi n=some true) (hr:∀ l∈n.legs,1≤l.room)
include hf hn hr
end
end Go.Proofs.YtmcdjilbkmhfoaaGreat
namespace Go.Proofs.YtmcdjilbkmhfoaaGreat
set_option maxRecDepth 10000
open Go.RowKit
set_option linter.unusedVariables false
set_option linter.unusedSimpArgs false
set_option linter.unusedSectionVars false
def dueV (e service:Int):Int:=(e / 1440+(if 1080<e % 1440 then 1 else 0)+(if service=1 then 0 else if service=2 then 1 else 4))*1440+1080
theorem ZpK {n:Za} {service e at_:Int} {from_ to_:ByteArray} (he:Za1 n from_ to_ at_=some e) (h0:0≤e) (h1:e≤100000) (hs:1≤service∧service≤3):Zbc n service from_ to_ at_=some (dueV e service):=by
 unfold Zbc
 rw [he,Zdy]
 simp only [Option.bind_some,Zbb]
 have d1:e.tdiv 1440=e / 1440:=Int.tdiv_eq_ediv_of_nonneg h0
 have d2:e.tmod 1440=e % 1440:=Int.tmod_eq_emod_of_nonneg h0
 have hb:0≤e / 1440∧e / 1440≤69:=by omega
 have hwr:IntKind.i64.wrap (e / 1440)=e / 1440:=Zp (by omega)
 have hk:∃ k:Int,0≤k∧k≤4∧getI ([0,1,4]:List Int) (w64 (service-1))=some k∧k=(if service=1 then 0 else if service=2 then 1 else 4):=by
  rw [Zp (by omega)]
  rcases (show service=1∨service=2∨service=3 by omega) with rfl | rfl | rfl
  ·exact ⟨0,by omega,by omega,rfl,by simp⟩
  ·exact ⟨1,by omega,by omega,rfl,by simp⟩
  ·exact ⟨4,by omega,by omega,rfl,by simp⟩
 obtain ⟨k,k0,k1,k2,k3⟩:=hk
 rw [d1,d2,hwr,decide_eq_true hs.1,decide_eq_true hs.2,decide_eq_false (show ¬ e=-1 by omega),k2]
 simp only [cond_false,Bool.and_self,Bool.not_true,Option.bind_some]
 unfold dueV
 rw [← k3]
 by_cases hd:1080<e % 1440
 ·rw [decide_eq_true hd,if_pos hd,cond_true]
  rw [Zp (n:=e / 1440+1) (by omega),Zp (n:=e / 1440+1+k) (by omega),Zp (n:=(e / 1440+1+k)*1440) (by omega),Zp (by omega)]
 ·rw [decide_eq_false hd,if_neg hd,cond_false]
  rw [Zp (n:=e / 1440+k) (by omega),Zp (n:=(e / 1440+k)*1440) (by omega),Zp (by omega),Int.add_zero]
theorem ZvO {e service:Int} (h0:0≤e) (h1:e≤100000):e≤dueV e service∧dueV e service≤200000:=by
 unfold dueV
 split <;> split <;> (try split) <;> omega
section
variable {n:Za} (hf:ZV n) (hn:Zi n=some true) (hr:∀ l∈n.legs,1≤l.room)
include hf hn hr
end
end Go.Proofs.YtmcdjilbkmhfoaaGreat
namespace Go.Proofs.YtmcdjilbkmhfoaaGreat
set_option maxRecDepth 10000
open Go.RowKit
set_option linter.unusedVariables false
set_option linter.unusedSimpArgs false
set_option linter.unusedSectionVars false
section
variable {n:Za} (hf:ZV n) (hn:Zi n=some true)
include hf hn
theorem ZsS (leg at_:Int):ZdT leg at_ n=ZbE leg at_ n [] [] 0:=by
 have hb:Zff n leg at_=Za6 leg at_ n [] [] 0:=by
  funext s
  unfold Zff Za6
  rw [(Zfu hf leg s).1]
  cases hd:decide (s≤60) with
  | false=>rfl
  | true=>
  cases hx:ZP n leg s with
  | none=>rfl
  | some b=>
  cases b with
  | false=>rfl
  | true=>
  obtain ⟨y,hy⟩:=Zid hf hx
  have hlo:=(Zln hf hn y (Zgy hy)).room
  have hm:(0:Int)≤y.room:=by omega
  have hw:w64 (y.room-0)=y.room:=by rw [Zp (by omega)]; omega
  have ht:ZbB [] (⟨leg,s⟩:Ze)=some false:=by rw [ZdP (by simp)]; rfl
  have hL:Zcy [] (⟨leg,s⟩:Ze)=some 0:=by rw [Zh3]; exact ZoF _
  simp only [cond_true,Option.bind_some,ht,hL,hy,hw,decide_eq_true hm,Bool.not_false]
 unfold ZdT ZbE ZgE
 rw [hb]
 cases (Zl (Za6 leg at_ n [] [] 0) NN 0).bind (ZX (fun o0=>some ((⟨0,0⟩:Ze),false)) fun r=>some r) with
 | none=>rfl
 | some r=>rfl
theorem ZlO (from_:ByteArray) (at_ legs:Int):Zch n n from_ at_ legs=Zap n n [] [] 0 from_ at_ legs:=by
 have hb2:∀ legs y1 y2 s1,Zcm n n legs y1 y2 s1=Z4 n n [] [] 0 legs y1 y2 s1:=fun legs y1 y2 s1=>by
  funext s2
  unfold Zcm Z4
  simp only [ZsS hf hn]
 have hb1:∀ legs y1 y2,Zcl n n legs y1 y2=Z3 n n [] [] 0 legs y1 y2:=fun legs y1 y2=>by
  funext s1
  unfold Zcl Z3
  rw [hb2]
 have hb0:∀ y1 y2,ZdE n n at_ legs y1 y2=Zaw n n [] [] 0 at_ legs y1 y2:=fun y1 y2=>rfl
 unfold Zch Zap
 simp only [hb0,hb1]
theorem Zpg {from_ to_:ByteArray} {at_:Int} (hfr:0≤idxV (Zb n) from_) (hat:at_≤100000) (hto:0≤idxV (Zb n) to_) {e:Int} (he:getI (Z7 n [] [] 0 (idxV (Zb n) from_) at_ (Zb n).length) (idxV (Zb n) to_)=some e):Za1 n from_ to_ at_=some e:=by
 have hlg:=Zfg hn
 have hp:(Zb n).length≤40:=by have:=Zar n; omega
 have hpl:=(ZcQ (Zb n) to_).2
 have hbl:=ZeO hf (l:=[]) (by simp) (closed:=[]) (by simp) 0 (idxV (Zb n) from_) at_ (Zb n).length
 have hav:=ZkC hf (l:=[]) (by simp) (closed:=[]) (by simp) 0 hfr hat (by omega) (Zb n).length (by omega)
 have hpa:Zu (Zb n) to_=some (idxV (Zb n) to_):=by rw [Zc9]; exact ZeE hf to_
 have hi:ZY n=some true:=by rw [(Zba hf).1]; exact hn
 unfold Za1 Zdh ZfE
 rw [(ZT hf).1,(ZT hf).2,hi]
 simp only [Option.bind_some,Bool.not_true,cond_false,ZlO hf hn,hav,hpa,decide_eq_false (show ¬ idxV (Zb n) to_<0 by omega),decide_eq_false (show ¬ (((Z7 n [] [] 0 (idxV (Zb n) from_) at_ (Zb n).length).length:Int)=0) by rw [hbl]; omega),he]
theorem Zm0 {t:Ze} (ht:Zb0 n t=true) {y:YLeg} (hy:getI n.legs t.leg=some y):Zaf n t=t.day*1440+y.start∧Zbj n t=t.day*1440+y.start+y.takes:=by
 obtain ⟨d0,d1⟩:=Zig ht
 have hl:=Zln hf hn y (Zgy hy)
 obtain ⟨a0,a1⟩:=hl.start
 obtain ⟨b0,b1⟩:=hl.takes
 have e1:Zo n t=some (t.day*1440+y.start):=by
  unfold Zo
  rw [hy]
  simp only [Option.bind_some]
  rw [Zp (n:=t.day*1440) (by omega),Zp (by omega)]
 have e2:Zn n t=some (t.day*1440+y.start+y.takes):=by
  unfold Zn
  rw [e1,hy]
  simp only [Option.bind_some]
  rw [Zp (by omega)]
 exact ⟨by unfold Zaf; rw [e1]; rfl,by unfold Zbj; rw [e2]; rfl⟩
theorem ZuH {leg d0 z:Int} (ht:Zb0 n ⟨leg,d0⟩=true) (hz:z≤Zaf n ⟨leg,d0⟩):∃ d,Z5 n [] [] leg z 0=some d∧0≤d∧d≤d0∧Zb0 n ⟨leg,d⟩=true:=by
 obtain ⟨d1,d2⟩:=Zig ht
 simp only at d1 d2
 obtain ⟨y,hy,hym⟩:=Zaz hf ht
 have hlo:=(Zln hf hn y hym).room
 have hc:Zam []=fun _=>some false:=by
  funext t
  rw [Zdf,ZdP (by simp)]; rfl
 have hw:w64 (y.room-0)=y.room:=by rw [Zp (by omega)]; omega
 have hstep:∀ s:Int,0≤s→s≤60→Z0 n [] [] leg z 0 s=some (if Zb0 n ⟨leg,s⟩=true∧z≤Zaf n ⟨leg,s⟩ then .inr (.inr s) else .inl (s+1)):=fun s s0 s1=>by
  have hws:w64 (s+1)=s+1:=Zp (by omega)
  have hr:=ZgI hf ⟨leg,s⟩
  simp only at hr
  unfold Z0
  rw [decide_eq_true s1,cond_true,hr,Option.bind_some,hws]
  cases hb:Zb0 n ⟨leg,s⟩ with
  | false=>simp
  | true=>
  obtain ⟨t1,_⟩:=ZaF hf hn hb
  simp only [cond_true,t1,Option.bind_some,hc,Bool.not_false,hy,ZoF,hw,decide_eq_true (show (0:Int)≤y.room by omega),true_and]
  by_cases h:z≤Zaf n ⟨leg,s⟩
  ·rw [decide_eq_true h,if_pos h]; rfl
  ·rw [decide_eq_false h,if_neg h]; rfl
 have key:∀ (k:Nat) (s:Int),0≤s→s+(k:Int)=d0→∀ N,k<N→∃ d,Zl (Z0 n [] [] leg z 0) N s=some (.inr d)∧s≤d∧d≤d0∧Zb0 n ⟨leg,d⟩=true:=by
  intro k
  induction k with
  | zero=>
   intro s s0 hs N hN
   obtain ⟨N,rfl⟩:∃ M,N=M+1:=⟨N-1,by omega⟩
   obtain rfl:s=d0:=by omega
   refine ⟨s,?_,Int.le_refl _,Int.le_refl _,ht⟩
   unfold Zl
   rw [hstep s s0 d2,if_pos ⟨ht,hz⟩]
   rfl
  | succ k ih=>
   intro s s0 hs N hN
   obtain ⟨N,rfl⟩:∃ M,N=M+1:=⟨N-1,by omega⟩
   unfold Zl
   rw [hstep s s0 (by omega)]
   by_cases h:Zb0 n ⟨leg,s⟩=true∧z≤Zaf n ⟨leg,s⟩
   ·rw [if_pos h]
    exact ⟨s,rfl,Int.le_refl _,by omega,h.1⟩
   ·rw [if_neg h]
    obtain ⟨d,e1,e2,e3,e4⟩:=ih (s+1) (by omega) (by omega) N (by omega)
    exact ⟨d,e1,by omega,e3,e4⟩
 obtain ⟨d,e1,e2,e3,e4⟩:=key d0.toNat 0 (by omega) (by omega) NN (by unfold NN; omega)
 refine ⟨d,?_,e2,e3,e4⟩
 unfold Z5
 rw [e1]
 rfl
theorem Zvn {f at_:Int} {k:Nat} {u:Int} {t:Ze} (ht:Zb0 n t=true) (hl:LeAt (Z7 n [] [] 0 f at_ k) (idxV (Zb n) (ZcR n t)) u) (hu:(if idxV (Zb n) (ZcR n t)=f then u else u+n.change)≤Zaf n t):
 LeAt (Z7 n [] [] 0 f at_ (k+1)) (idxV (Zb n) (Zag n t)) (Zbj n t):=by
 obtain ⟨y,hy,hym⟩:=Zaz hf ht
 have f1:ZcR n t=y.from_:=by unfold ZcR; rw [hy]; rfl
 have f2:Zag n t=y.to_:=by unfold Zag; rw [hy]; rfl
 obtain ⟨n0,n1⟩:=ZeJ hn
 obtain ⟨_,_,_,t4,t5⟩:=ZaF hf hn ht
 rw [f1] at hl hu
 rw [f2]
 obtain ⟨v,v1,v2,v3⟩:=hl
 have hus:u≤Zaf n t:=by split at hu <;> omega
 obtain ⟨i0,hi⟩:=ZdO hy
 have hz:Z8 n v (decide (idxV (Zb n) y.from_=f))=some (if idxV (Zb n) y.from_=f then v else v+n.change):=by
  unfold Z8
  by_cases h:idxV (Zb n) y.from_=f
  ·rw [decide_eq_true h,if_pos h]; rfl
  ·rw [decide_eq_false h,if_neg h,cond_false,Zp (by omega)]
 have hzl:(if idxV (Zb n) y.from_=f then v else v+n.change)≤Zaf n ⟨t.leg,t.day⟩:=by
  show _≤Zaf n t
  split at hu <;> split <;> omega
 obtain ⟨d,e1,e2,e3,e4⟩:=ZuH hf hn (leg:=t.leg) (d0:=t.day) ht hzl
 obtain ⟨_,q2,_⟩:=ZaF hf hn e4
 have hlt:t.leg=((t.leg.toNat:Nat):Int):=by omega
 have hcand:Cand n [] [] 0 f (Z7 n [] [] 0 f at_ k) (idxV (Zb n) y.to_) (Zbj n ⟨t.leg,d⟩):=by
  refine ⟨t.leg.toNat,y,d,v,_,hi,rfl,v1,by omega,hz,?_,by omega,?_⟩
  ·rw [← hlt]; exact e1
  ·rw [← hlt]; exact q2
 obtain ⟨x,x1,x2,x3⟩:=(Zik hf hn (l:=[]) (by simp) (closed:=[]) (by simp) 0 f at_ k).2 _ _ hcand
 refine ⟨x,x1,x2,?_⟩
 have g1:=(Zm0 hf hn ht hy).2
 have g2:=(Zm0 hf hn e4 hy).2
 simp only at g2
 omega
theorem Zod {f at_:Int}:∀ (way:List Ze) (p:ByteArray) (z u:Int) (k:Nat),Zfw n p z way→LeAt (Z7 n [] [] 0 f at_ k) (idxV (Zb n) p) u→(if idxV (Zb n) p=f then u else u+n.change)≤z→
 ∀ t,way.getLast?=some t→LeAt (Z7 n [] [] 0 f at_ (k+way.length)) (idxV (Zb n) (Zag n t)) (Zbj n t)
 | [],p,z,u,k,_,_,_,t,ht=>by simp at ht
 | x::way,p,z,u,k,hc,hl,hu,t,ht=>by
  obtain ⟨c1,c2,c3,c4⟩:=hc
  obtain ⟨n0,n1⟩:=ZeJ hn
  subst c2
  have h1:=Zvn hf hn (t:=x) c1 hl (by omega)
  cases way with
  | nil=>
   obtain rfl:x=t:=by simpa using ht
   exact h1
  | cons y way=>
   rw [List.getLast?_cons_cons] at ht
   have:=Zod (y::way) (Zag n x) (Zbj n x+n.change) (Zbj n x) (k+1) c4 h1 (by split <;> omega) t ht
   rw [show k+(x::y::way).length=k+1+(y::way).length by simp only [List.length_cons]; omega]
   exact this
theorem ZpW {from_:ByteArray} {at_:Int} {way:List Ze} (hfr:0≤idxV (Zb n) from_) (hnd:(from_::way.map (Zag n)).Nodup) (hc:Zfw n from_ at_ way):way.length≤(Zb n).length:=by
 have hpl:∀ p∈from_::way.map (Zag n),0≤idxV (Zb n) p:=fun p hp=>by
  rcases List.mem_cons.1 hp with rfl | hp
  ·exact hfr
  ·obtain ⟨t,ht,rfl⟩:=List.mem_map.1 hp
   obtain ⟨y,hy,hym⟩:=Zaz hf (Zgg hc t ht)
   have f2:Zag n t=y.to_:=by unfold Zag; rw [hy]; rfl
   rw [f2]
   exact Zcc (ZdQ hym).2
 have h2:((from_::way.map (Zag n)).map fun p=>(idxV (Zb n) p).toNat).Nodup:=by
  unfold List.Nodup at hnd ⊢
  rw [List.pairwise_map]
  refine hnd.imp_of_mem fun {a b} ha hb hne e=>hne ?_
  have h1:=hpl a ha
  have h2:=hpl b hb
  have he:idxV (Zb n) a=idxV (Zb n) b:=by omega
  have g1:=ZeS h1
  have g2:=ZeS h2
  rw [he,g2] at g1
  exact (Option.some.inj g1).symm
 have:=Zj6 (Zb n).length _ h2 fun x hx=>by
  obtain ⟨p,hp,rfl⟩:=List.mem_map.1 hx
  have:=hpl p hp
  have:=(ZcQ (Zb n) p).2
  omega
 simp only [List.length_map,List.length_cons] at this
 omega
theorem ZnL {l:List Zc} (hl:l.length≤1048576) {closed:List Ze} (hc:closed.length≤1048576) {from_ to_:ByteArray} {at_ weight service:Int} (hs:1≤service∧service≤3) {way:List Ze} (h:ZO n l closed from_ to_ at_ weight=some (way,true)):
 ∃ d,Zbc n service from_ to_ at_=some d∧0≤d∧d≤200000:=by
 have hR:=Zkc hf hl hc h
 obtain ⟨q1,q2,q3,q4⟩:=hR.hC
 have hlg:=Zfg hn
 have hp:(Zb n).length≤40:=by have:=Zar n; omega
 have hlt:=(ZcQ (Zb n) from_).2
 obtain ⟨n0,n1⟩:=ZeJ hn
 have hb0:getI (Z7 n [] [] 0 (idxV (Zb n) from_) at_ 0) (idxV (Zb n) from_)=some (if 0 > at_ then 0 else at_):=by
  unfold Z7
  rw [Znp hf (by omega) _ ⟨q2,hlt⟩]
  exact Zgz q2 (by rw [List.length_replicate]; omega)
 have h0:LeAt (Z7 n [] [] 0 (idxV (Zb n) from_) at_ 0) (idxV (Zb n) from_) (if 0 > at_ then 0 else at_):=⟨_,hb0,by split <;> omega,Int.le_refl _⟩
 have hfin:∃ e,LeAt (Z7 n [] [] 0 (idxV (Zb n) from_) at_ (Zb n).length) (idxV (Zb n) to_) e∧e≤100000:=by
  have hlast:=hR.last
  cases hw:way.getLast? with
  | none=>
   obtain rfl:way=[]:=List.getLast?_eq_none_iff.1 hw
   obtain rfl:from_=to_:=by simpa using hlast
   have:=ZhP hf hn (l:=[]) (by simp) (closed:=[]) (by simp) 0 at_ (idxV (Zb n) from_) hb0 (by split <;> omega) (Zb n).length
   rw [Nat.zero_add] at this
   exact ⟨_,this,by split <;> omega⟩
  | some t=>
   have hch:=hR.chain
   have htr:=Zgg hch t (List.mem_of_getLast? hw)
   obtain ⟨_,_,_,_,t5⟩:=ZaF hf hn htr
   have hto:Zag n t=to_:=by
    cases way with
    | nil=>simp at hw
    | cons x xs=>
     rw [List.map_cons,List.getLast?_cons_cons,← List.map_cons,List.getLast?_map,hw] at hlast
     exact Option.some.inj hlast
   have h1:=Zod hf hn way from_ _ _ 0 hch h0 (by rw [if_pos rfl]; exact Int.le_refl _) t hw
   have hwl:=ZpW hf hn q2 hR.nodup hch
   rw [Nat.zero_add,hto] at h1
   obtain ⟨v,v1,v2,v3⟩:=h1
   obtain ⟨v',w1,w2,w3⟩:=ZhP hf hn (l:=[]) (by simp) (closed:=[]) (by simp) 0 at_ (idxV (Zb n) from_) v1 v2 ((Zb n).length-way.length)
   rw [show way.length+((Zb n).length-way.length)=(Zb n).length by omega] at w1
   exact ⟨v',⟨v',w1,w2,Int.le_refl _⟩,by omega⟩
 obtain ⟨e,⟨v,v1,v2,v3⟩,he⟩:=hfin
 have:=ZvO (service:=service) v2 (show v≤100000 by omega)
 exact ⟨_,ZpK (Zpg hf hn q2 q3 hR.hto v1) v2 (by omega) hs,by omega,this.2⟩
end
end Go.Proofs.YtmcdjilbkmhfoaaGreat
