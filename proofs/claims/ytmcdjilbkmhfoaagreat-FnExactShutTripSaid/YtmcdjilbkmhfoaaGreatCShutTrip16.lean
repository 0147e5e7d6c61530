/- A part of the proof of the statement in the last file of this claim: texts on the language of the program and on its functions. No condition. -/
import Derived.Test.YtmcdjilbkmhfoaaGreatCShutTrip10
import Derived.Test.YtmcdjilbkmhfoaaGreatCRetryOrders1
import Derived.Sort.LotA
import Derived.Test.YtmcdjilbkmhfoaaGreatProg
import Derived.Shelf.SlSortFuncK.RowK2
import Derived.Shelf.GgSortFunc.SmallK
namespace Go.Proofs.YtmcdjilbkmhfoaaGreat
set_option maxRecDepth 10000
open Go.RowKit
set_option linter.unusedVariables false
set_option linter.unusedSimpArgs false
set_option linter.unusedSectionVars false
section
variable {n:YNetwork} (hf:ZZ n)
include hf
omit hf in
theorem Zqn {l:List ByteArray} {p q:ByteArray} (hp:0≤idxV l p):decide (idxV l p=idxV l q)=decide (p=q):=by
 by_cases h:p=q
 ·subst h; simp
 ·rw [decide_eq_false h]
  refine decide_eq_false fun he=>h ?_
  have h1:=ZeH hp
  have h2:=ZeH (l:=l) (p:=q) (by omega)
  rw [← he,h1] at h2
  exact Option.some.inj h2
def Zp7 (n:YNetwork) (l:List YBooking) (closed:List YTrip) (weight f:Int) (r:List Int) (x v:Int) (t:YTrip):Prop:=
 ∃ (i:Nat) (y:YLeg) (d u z:Int),t=⟨(i:Int),d⟩∧n.legs[i]?=some y∧idxV (Za n) y.to_=x∧getI r (idxV (Za n) y.from_)=some u∧¬ u<0∧ZR n u (decide (idxV (Za n) y.from_=f))=some z∧ZH n l closed (i:Int) z weight=some d∧¬ d<0∧Ze n ⟨(i:Int),d⟩=some v
theorem ZjD {l:List YBooking} (hl:l.length≤1048576) {closed:List YTrip} (hc:closed.length≤1048576) (weight:Int) {from_:ByteArray} {before:List Int} (hb:before.length=(Za n).length) {q0:ByteArray} {x:Int} (hxq:x=idxV (Za n) q0) (hx:0≤x∧x<(Za n).length) (e:Int) {i:Nat} (hi:i<n.legs.length):
 (Zbj n l closed weight (Za n) before (idxV (Za n) from_) x e (i:Int)=some (.inl ((i+1:Nat):Int))∧Zac n n closed l weight (Za n) before from_ x e (i:Int)=some (.inl ((i+1:Nat):Int))∧¬ Zl9 n l closed weight (idxV (Za n) from_) before i x e)∨
 ∃ t,Zbj n l closed weight (Za n) before (idxV (Za n) from_) x e (i:Int)=some (.inr (.inr t))∧Zac n n closed l weight (Za n) before from_ x e (i:Int)=some (.inr (.inr (t,true)))∧Zp7 n l closed weight (idxV (Za n) from_) before x e t:=by
 have hll:=hf.legs
 have hw:w64 ((i:Int)+1)=((i+1:Nat):Int):=by rw [Zc (by omega)]; omega
 obtain ⟨y,hy,hm⟩:=Zei (xs:=n.legs) (i:=(i:Int)) ⟨by omega,by omega⟩
 have hyi:n.legs[i]?=some y:=by rw [Zd] at hy; exact hy
 obtain ⟨m1,m2⟩:=ZeV hm
 have a0:=ZdG m1
 have a1:=(Zer (Za n) y.from_).2
 obtain ⟨v6,g6,_⟩:=Zei (xs:=before) (i:=idxV (Za n) y.from_) ⟨a0,by omega⟩
 obtain ⟨p,gp,_⟩:=Zei (xs:=Za n) (i:=x) hx
 obtain ⟨z,ez,_⟩:=Zgi (n:=n) v6 (decide (idxV (Za n) y.from_=idxV (Za n) from_))
 obtain ⟨d,ed,ef⟩:=Znp hf hl hc hy z weight
 obtain ⟨v,hv⟩:=ZdF (n:=n) (t:=⟨(i:Int),d⟩) hy
 have hpa:∀ p,Zk (Za n) p=some (idxV (Za n) p):=fun p=>by rw [Zdd]; exact ZeU hf p
 have ez':ZbZ n v6 (decide (y.from_=from_))=some z:=by rw [ZlW,← Zqn (l:=Za n) a0]; exact ez
 have hno:∀ {P:Prop},(∀ y' d' u z',n.legs[i]?=some y'→idxV (Za n) y'.to_=x→getI before (idxV (Za n) y'.from_)=some u→¬ u<0→ZR n u (decide (idxV (Za n) y'.from_=idxV (Za n) from_))=some z'→ZH n l closed (i:Int) z' weight=some d'→¬ d'<0→Ze n ⟨(i:Int),d'⟩=some e→y'=y→u=v6→z'=z→d'=d→False)→¬ Zl9 n l closed weight (idxV (Za n) from_) before i x e:=by
  rintro _ H ⟨y',d',u,z',c1,c2,c3,c4,c5,c6,c7,c8⟩
  have q1:y'=y:=by rw [hyi] at c1; exact (Option.some.inj c1).symm
  have q2:u=v6:=by rw [q1,g6] at c3; exact (Option.some.inj c3).symm
  have q3:z'=z:=by rw [q1,q2,ez] at c5; exact (Option.some.inj c5).symm
  have q4:d'=d:=by rw [q3,ed] at c6; exact (Option.some.inj c6).symm
  exact H y' d' u z' c1 c2 c3 c4 c5 c6 c7 c8 q1 q2 q3 q4
 have S:Zbj n l closed weight (Za n) before (idxV (Za n) from_) x e (i:Int)=cond (!decide (y.to_=p)) (some (.inl ((i+1:Nat):Int))) (cond (decide (v6<0)) (some (.inl ((i+1:Nat):Int))) (cond (decide (0≤d)) (cond (decide (v=e)) (some (.inr (.inr ⟨(i:Int),d⟩))) (some (.inl ((i+1:Nat):Int)))) (some (.inl ((i+1:Nat):Int))))):=by
  unfold Zbj
  simp only [decide_eq_true (show (i:Int)<n.legs.length by omega),cond_true,hy,Option.bind_some,ZeU hf,gp,g6,ez,ed,hv,hw]
 have T:Zac n n closed l weight (Za n) before from_ x e (i:Int)=cond (!decide (y.to_=p)) (some (.inl ((i+1:Nat):Int))) (cond (decide (v6<0)) (some (.inl ((i+1:Nat):Int))) (cond (decide (0≤d)) (cond (decide (v=e)) (some (.inr (.inr (⟨(i:Int),d⟩,true)))) (some (.inl ((i+1:Nat):Int)))) (some (.inl ((i+1:Nat):Int))))):=by
  unfold Zac
  simp only [decide_eq_true (show (i:Int)<n.legs.length by omega),cond_true,hy,Option.bind_some,hpa,gp,g6,ez',ef,hw,Zgx]
  by_cases hd:d<0
  ·simp only [if_pos hd,decide_eq_false (show ¬ 0≤d by omega),cond_false]
  ·simp only [if_neg hd,decide_eq_true (show 0≤d by omega),cond_true,hv,Option.bind_some]
 rw [S,T]
 by_cases h1:y.to_=p
 ·by_cases h2:v6<0
  ·refine .inl ⟨by simp [h1,h2],by simp [h1,h2],hno (P:=True) fun y' d' u z' c1 c2 c3 c4 c5 c6 c7 c8 q1 q2 q3 q4=>c4 (by rw [q2]; exact h2)⟩
  ·by_cases h3:0≤d
   ·by_cases h4:v=e
    ·refine .inr ⟨⟨(i:Int),d⟩,by simp [h1,h2,h3,h4],by simp [h1,h2,h3,h4],i,y,d,v6,z,rfl,hyi,?_,g6,h2,ez,ed,by omega,by rw [hv,h4]⟩
     have g:=ZeH (l:=Za n) (p:=q0) (by omega)
     rw [← hxq,gp] at g
     rw [h1,Option.some.inj g,hxq]
    ·refine .inl ⟨by simp [h1,h2,h3,h4],by simp [h1,h2,h3,h4],hno (P:=True) fun y' d' u z' c1 c2 c3 c4 c5 c6 c7 c8 q1 q2 q3 q4=>h4 (by rw [q4,hv] at c8; exact Option.some.inj c8)⟩
   ·refine .inl ⟨by simp [h1,h2,h3],by simp [h1,h2,h3],hno (P:=True) fun y' d' u z' c1 c2 c3 c4 c5 c6 c7 c8 q1 q2 q3 q4=>c7 (by rw [q4]; omega)⟩
 ·refine .inl ⟨by simp [h1],by simp [h1],hno (P:=True) fun y' d' u z' c1 c2 c3 c4 c5 c6 c7 c8 q1 q2 q3 q4=>h1 ?_⟩
  rw [q1] at c2
  have g:=ZeH (ZdG m2)
  rw [c2,gp] at g
  exact (Option.some.inj g).symm
theorem ZjC {l:List YBooking} (hl:l.length≤1048576) {closed:List YTrip} (hc:closed.length≤1048576) (weight:Int) {from_:ByteArray} {before:List Int} (hb:before.length=(Za n).length) {q0:ByteArray} {x:Int} (hxq:x=idxV (Za n) q0) (hx:0≤x∧x<(Za n).length) (e:Int) (hcd:Cand n l closed weight (idxV (Za n) from_) before x e):
 ∃ t,ZdS n l closed weight (Za n) before (idxV (Za n) from_) x e=some t∧ZbU n n closed l weight (Za n) before from_ x e=some (t,true)∧Zp7 n l closed weight (idxV (Za n) from_) before x e t:=by
 have hll:=hf.legs
 obtain ⟨i0,hci⟩:=hcd
 have hi0:i0<n.legs.length:=by obtain ⟨y,_,_,_,c1,_⟩:=hci; exact (List.getElem?_eq_some_iff.1 c1).1
 have key:∀ (d i:Nat),i+d=i0→∀ N,d<N→∃ t,iterF (Zbj n l closed weight (Za n) before (idxV (Za n) from_) x e) N (i:Int)=some (.inr t)∧iterF (Zac n n closed l weight (Za n) before from_ x e) N (i:Int)=some (.inr (t,true))∧Zp7 n l closed weight (idxV (Za n) from_) before x e t:=by
  intro d
  induction d with
  | zero=>
   intro i hi N hN
   obtain ⟨N,rfl⟩:∃ M,N=M+1:=⟨N-1,by omega⟩
   rcases ZjD hf hl hc weight hb hxq hx e (from_:=from_) (i:=i) (by omega) with ⟨_,_,h⟩ | ⟨t,h1,h2,h3⟩
   ·exact absurd ((show i=i0 by omega) ▸ hci) h
   ·exact ⟨t,by unfold iterF; rw [h1]; rfl,by unfold iterF; rw [h2]; rfl,h3⟩
  | succ d ih=>
   intro i hi N hN
   obtain ⟨N,rfl⟩:∃ M,N=M+1:=⟨N-1,by omega⟩
   rcases ZjD hf hl hc weight hb hxq hx e (from_:=from_) (i:=i) (by omega) with ⟨h1,h2,_⟩ | ⟨t,h1,h2,h3⟩
   ·obtain ⟨t,q1,q2,q3⟩:=ih (i+1) (by omega) N (by omega)
    exact ⟨t,by unfold iterF; rw [h1]; exact q1,by unfold iterF; rw [h2]; exact q2,q3⟩
   ·exact ⟨t,by unfold iterF; rw [h1]; rfl,by unfold iterF; rw [h2]; rfl,h3⟩
 obtain ⟨t,h1,h2,h3⟩:=key i0 0 (by omega) NN (by unfold NN; omega)
 have e0:((0:Nat):Int)=0:=rfl
 rw [e0] at h1 h2
 exact ⟨t,by unfold ZdS; rw [h1]; rfl,by unfold ZbU; rw [h2]; rfl,h3⟩
omit hf in
theorem Zpd {o:List YTrip} (h:o.length≤1048576):iterF (ZaX o) NN ((w64 ((o.length:Int)-1)),([]:List YTrip))=some o.reverse:=by
 have key:∀ (m:Nat),m≤o.length→∀ N,m<N→iterF (ZaX o) N ((m:Int)-1,(o.drop m).reverse)=some o.reverse:=by
  intro m
  induction m with
  | zero=>
   intro hm N hN
   obtain ⟨N,rfl⟩:∃ M,N=M+1:=⟨N-1,by omega⟩
   unfold iterF ZaX
   simp
  | succ m ih=>
   intro hm N hN
   obtain ⟨N,rfl⟩:∃ M,N=M+1:=⟨N-1,by omega⟩
   have hg:getI o (((m+1:Nat):Int)-1)=some o[m]:=by
    rw [show ((m+1:Nat):Int)-1=(m:Int) by omega,Zd]; exact List.getElem?_eq_getElem (by omega)
   have hw:w64 (((m+1:Nat):Int)-1-1)=(m:Int)-1:=by rw [Zc (by omega)]; omega
   have ha:chk (appOk ((o.drop (m+1)).reverse.length+([o[m]]:List YTrip).length) 16)=some ():=Zdh (by simp only [List.length_reverse,List.length_drop,List.length_cons,List.length_nil]; omega) (by omega)
   have hd:o.drop m=o[m]::o.drop (m+1):=List.drop_eq_getElem_cons (by omega)
   have q:=ih (by omega) N (by omega)
   rw [hd,List.reverse_cons] at q
   unfold iterF
   unfold ZaX
   simp only [decide_eq_true (show (0:Int)≤((m+1:Nat):Int)-1 by omega),cond_true,hg,Option.bind_some,ha,hw]
   exact q
 have:=key o.length (Nat.le_refl _) NN (by unfold NN; omega)
 rw [List.drop_length] at this
 rw [Zc (by omega)]
 exact this
def allV (n:YNetwork) (l:List YBooking) (closed:List YTrip) (weight f at_:Int):List (List Int):=(List.range ((Za n).length+1)).map (ZU n l closed weight f at_)
omit hf in
theorem Zhh {l:List YBooking} {closed:List YTrip} {weight f at_:Int} {k:Nat} (hk:k≤(Za n).length):getI (allV n l closed weight f at_) (k:Int)=some (ZU n l closed weight f at_ k):=by
 rw [Zd]; unfold allV
 rw [List.getElem?_map,List.getElem?_range (by omega)]; rfl
theorem ZmU (hn:Zb n=some true) {l:List YBooking} (hl:l.length≤1048576) {closed:List YTrip} (hc:closed.length≤1048576) (weight:Int) {from_:ByteArray} (at_:Int)
 (hC:Zr n l=true∧0≤idxV (Za n) from_∧at_≤100000∧1≤weight):
 ∀ (k:Nat) (q0:ByteArray) (x e:Int) (back:List YTrip),x=idxV (Za n) q0→0≤x→getI (ZU n l closed weight (idxV (Za n) from_) at_ k) x=some e→0≤e→(k=0∨¬ getI (ZU n l closed weight (idxV (Za n) from_) at_ (k-1)) x=some e)→back.length+k≤(Za n).length→∀ N,k<N→
  ∃ back',iterF (ZJ n l closed from_ at_ weight (Za n) (idxV (Za n) from_)) N (x,e,(k:Int),back.reverse)=some back'.reverse∧iterF (ZaW n n closed l weight from_ (Za n) (allV n l closed weight (idxV (Za n) from_) at_)) N (x,e,(k:Int),back)=some (.inl back')∧back'.length≤(Za n).length:=by
 have hlg:=Zfs hn
 have hp:(Za n).length≤40:=by have:=Zbk n; omega
 intro k
 induction k with
 | zero=>
  intro q0 x e back hxq hx hg he hnot hlen N hN
  obtain ⟨N,rfl⟩:∃ M,N=M+1:=⟨N-1,by omega⟩
  refine ⟨back,?_,?_,by omega⟩
  ·unfold iterF ZJ; simp
  ·unfold iterF ZaW; simp
 | succ k ih=>
  intro q0 x e back hxq hx hg he hnot hlen N hN
  obtain ⟨N,rfl⟩:∃ M,N=M+1:=⟨N-1,by omega⟩
  have hbl:=Zel hf hl hc weight (idxV (Za n) from_) at_
  have hnx:¬ getI (ZU n l closed weight (idxV (Za n) from_) at_ k) x=some e:=by
   rcases hnot with h | h
   ·omega
   ·exact h
  have hcd:Cand n l closed weight (idxV (Za n) from_) (ZU n l closed weight (idxV (Za n) from_) at_ k) x e:=by
   rcases (Ze6 hf hl hc weight (idxV (Za n) from_) at_ k).2 x e hg with h | h
   ·exact absurd h hnx
   ·exact h
  have hxl:x<(Za n).length:=by rw [hxq]; exact (Zer (Za n) q0).2
  obtain ⟨t,hs,hi,i,y,d,u,z,rfl,c1,c2,c3,c4,c5,c6,c7,c8⟩:=ZjC hf hl hc weight (hbl k) hxq ⟨hx,hxl⟩ e hcd
  have hfb:=Zd8 hf hl hc weight at_ hC (k:=k) (by omega)
  have hw:w64 (((k+1:Nat):Int)-1)=(k:Int):=by rw [Zc (by omega)]; omega
  have hy:getI n.legs (i:Int)=some y:=by rw [Zd]; exact c1
  have ha1:chk (appOk (([⟨(i:Int),d⟩]:List YTrip).length+back.reverse.length) 16)=some ():=Zdh (by simp only [List.length_reverse,List.length_cons,List.length_nil]; omega) (by omega)
  have ha2:chk (appOk (back.length+([⟨(i:Int),d⟩]:List YTrip).length) 16)=some ():=Zdh (by simp only [List.length_cons,List.length_nil]; omega) (by omega)
  have hag:=Zhh (n:=n) (l:=l) (closed:=closed) (weight:=weight) (f:=idxV (Za n) from_) (at_:=at_) (k:=k) (by omega)
  have hpa:Zk (Za n) y.from_=some (idxV (Za n) y.from_):=by rw [Zdd]; exact ZeU hf _
  have a0:=ZdG (ZeV (List.mem_of_getElem? c1)).1
  obtain ⟨back',q1,q2,q3⟩:=ih y.from_ (idxV (Za n) y.from_) u (back++[⟨(i:Int),d⟩]) rfl a0 c3 (by omega) (by
   by_cases hk0:k=0
   ·exact .inl hk0
   ·refine .inr fun hu=>hnx ?_
    obtain ⟨k',rfl⟩:∃ k',k=k'+1:=⟨k-1,by omega⟩
    have hb1:=(Zhj hf hn hl hc weight (idxV (Za n) from_) at_ k').2 x e ⟨i,y,d,u,z,c1,c2,hu,c4,c5,c6,c7,c8⟩
    obtain ⟨w,w1,w2,w3⟩:=hb1
    obtain ⟨w',v1,v2,v3⟩:=(Zhj hf hn hl hc weight (idxV (Za n) from_) at_ (k'+1)).1 x w w1 w2
    rw [hg] at v1
    obtain rfl:=Option.some.inj v1
    rw [w1,show w=e by omega]) (by simp only [List.length_append,List.length_cons,List.length_nil]; omega) N (by omega)
  refine ⟨back',?_,?_,q3⟩
  ·have hb:ZJ n l closed from_ at_ weight (Za n) (idxV (Za n) from_) (x,e,((k+1:Nat):Int),back.reverse)=some (.inl (idxV (Za n) y.from_,u,(k:Int),[⟨(i:Int),d⟩]++back.reverse)):=by
    unfold ZJ
    simp only [decide_eq_true (show (0:Int)<((k+1:Nat):Int) by omega),cond_true,hw,hfb,Option.bind_some,hs,ha1,hy,ZeU hf,c3]
   rw [List.reverse_append,List.reverse_singleton] at q1
   unfold iterF
   rw [hb]
   exact q1
  ·have hb:ZaW n n closed l weight from_ (Za n) (allV n l closed weight (idxV (Za n) from_) at_) (x,e,((k+1:Nat):Int),back)=some (.inl (idxV (Za n) y.from_,u,(k:Int),back++[⟨(i:Int),d⟩])):=by
    unfold ZaW
    simp only [decide_eq_true (show (0:Int)<((k+1:Nat):Int) by omega),cond_true,hw,hag,Option.bind_some,hi,Bool.not_true,cond_false,ha2,hy,hpa,c3]
   unfold iterF
   rw [hb]
   exact q2
theorem Zin {l:List YBooking} (hl:l.length≤1048576) {closed:List YTrip} (hc:closed.length≤1048576) (weight:Int) {from_:ByteArray} (at_:Int) (hp:(Za n).length≤40)
 (hC:Zr n l=true∧0≤idxV (Za n) from_∧at_≤100000∧1≤weight) {x e:Int} (hx:0≤x∧x<(Za n).length) (hg:getI (ZU n l closed weight (idxV (Za n) from_) at_ (Za n).length) x=some e):
 ∃ k:Nat,k≤(Za n).length∧getI (ZU n l closed weight (idxV (Za n) from_) at_ k) x=some e∧(k=0∨¬ getI (ZU n l closed weight (idxV (Za n) from_) at_ (k-1)) x=some e)∧
  iterF (Zam n l closed from_ at_ weight (Za n) (idxV (Za n) from_) x e) NN 0=some (k:Int)∧iterF (Zad n n closed l weight from_ (Za n) x (allV n l closed weight (idxV (Za n) from_) at_) e) NN 0=some (k:Int):=by
 have hbl:=Zel hf hl hc weight (idxV (Za n) from_) at_
 have key:∀ (dd i:Nat),i+dd=(Za n).length→(i=0∨¬ getI (ZU n l closed weight (idxV (Za n) from_) at_ (i-1)) x=some e)→∀ N,dd<N→
  ∃ k:Nat,k≤(Za n).length∧getI (ZU n l closed weight (idxV (Za n) from_) at_ k) x=some e∧(k=0∨¬ getI (ZU n l closed weight (idxV (Za n) from_) at_ (k-1)) x=some e)∧
  iterF (Zam n l closed from_ at_ weight (Za n) (idxV (Za n) from_) x e) N (i:Int)=some (k:Int)∧iterF (Zad n n closed l weight from_ (Za n) x (allV n l closed weight (idxV (Za n) from_) at_) e) N (i:Int)=some (k:Int):=by
  intro dd
  induction dd with
  | zero=>
   intro i hi h0 N hN
   obtain ⟨N,rfl⟩:∃ M,N=M+1:=⟨N-1,by omega⟩
   obtain rfl:i=(Za n).length:=by omega
   refine ⟨(Za n).length,Nat.le_refl _,hg,h0,?_,?_⟩
   ·unfold iterF Zam
    simp only [Zd8 hf hl hc weight at_ hC (Nat.le_refl _),Option.bind_some,hg,decide_true,Bool.not_true,cond_false]
   ·unfold iterF Zad
    simp only [Zhh (Nat.le_refl _),Option.bind_some,hg,decide_true,Bool.not_true,cond_false]
  | succ dd ih=>
   intro i hi h0 N hN
   obtain ⟨N,rfl⟩:∃ M,N=M+1:=⟨N-1,by omega⟩
   have hw:w64 ((i:Int)+1)=((i+1:Nat):Int):=by rw [Zc (by omega)]; omega
   obtain ⟨v,hv,_⟩:=Zei (xs:=ZU n l closed weight (idxV (Za n) from_) at_ i) (i:=x) ⟨hx.1,by rw [hbl]; exact hx.2⟩
   by_cases hve:v=e
   ·subst hve
    refine ⟨i,by omega,hv,h0,?_,?_⟩
    ·unfold iterF Zam
     simp only [Zd8 hf hl hc weight at_ hC (show i≤(Za n).length by omega),Option.bind_some,hv,decide_true,Bool.not_true,cond_false]
    ·unfold iterF Zad
     simp only [Zhh (show i≤(Za n).length by omega),Option.bind_some,hv,decide_true,Bool.not_true,cond_false]
   ·obtain ⟨k,q1,q2,q3,q4,q5⟩:=ih (i+1) (by omega) (.inr (by rw [Nat.add_sub_cancel,hv]; simpa using hve)) N (by omega)
    refine ⟨k,q1,q2,q3,?_,?_⟩
    ·have hb:Zam n l closed from_ at_ weight (Za n) (idxV (Za n) from_) x e (i:Int)=some (.inl ((i+1:Nat):Int)):=by
      unfold Zam
      simp only [Zd8 hf hl hc weight at_ hC (show i≤(Za n).length by omega),Option.bind_some,hv,decide_eq_false hve,Bool.not_false,cond_true,hw]
     unfold iterF
     rw [hb]
     exact q4
    ·have hb:Zad n n closed l weight from_ (Za n) x (allV n l closed weight (idxV (Za n) from_) at_) e (i:Int)=some (.inl ((i+1:Nat):Int)):=by
      unfold Zad
      simp only [Zhh (show i≤(Za n).length by omega),Option.bind_some,hv,decide_eq_false hve,Bool.not_false,cond_true,hw]
     unfold iterF
     rw [hb]
     exact q5
 obtain ⟨k,q1,q2,q3,q4,q5⟩:=key (Za n).length 0 (by omega) (.inl rfl) NN (by unfold NN; omega)
 exact ⟨k,q1,q2,q3,q4,q5⟩
theorem Zkm {l:List YBooking} {closed:List YTrip} (weight:Int) {from_:ByteArray} {at_:Int} (h:idxV (Za n) from_<0∨100000<at_) (legs:Int):Zat n n closed l weight from_ at_ legs=some []:=by
 unfold Zat
 rw [Zdd,(ZaL hf).1,(ZaL hf).2]
 simp only [Option.bind_some,ZeU hf]
 by_cases h1:idxV (Za n) from_<0
 ·simp only [decide_eq_true h1,cond_true]
 ·simp only [decide_eq_false h1,cond_false,decide_eq_true (show 100000<at_ by omega),cond_true]
theorem Zf1 {l:List YBooking} (hl:l.length≤1048576) {closed:List YTrip} (hc:closed.length≤1048576) (from_ to_:ByteArray) (at_ weight:Int):
 ∃ r,ZaF n l closed from_ to_ at_ weight=some r∧Zq n l closed from_ to_ at_ weight=some r:=by
 have hplen:=plen hf
 have hpa:∀ p,Zk (Za n) p=some (idxV (Za n) p):=fun p=>by rw [Zdd]; exact ZeU hf p
 unfold ZaF Zq Zem Zdw
 rw [ZfM hf hl,(ZaL hf).1,(ZaL hf).2]
 simp only [Option.bind_some,ZeU hf,hpa]
 by_cases hB:Zr n l=true
 case neg=>
  have hB:Zr n l=false:=by simpa using hB
  have e:Zv n l closed from_ at_ weight ((Za n).length:Int)=some []:=by
   unfold Zv
   rw [(ZaL hf).2]
   simp only [Option.bind_some,ZeU hf,Zb2 hf hl,hB,Bool.not_false,cond_true]
  refine ⟨([],false),by simp only [hB,Bool.not_false,cond_true],?_⟩
  simp only [e,Option.bind_some]
  by_cases h:idxV (Za n) to_<0
  ·simp only [decide_eq_true h,cond_true]
  ·simp only [decide_eq_false h,cond_false,List.length_nil]; rfl
 have hn:=(ZV hB).1
 have hlg:=Zfs hn
 have hp:(Za n).length≤40:=by have:=Zbk n; omega
 simp only [hB,Bool.not_true,cond_false]
 by_cases hw1:weight<1
 ·have e:Zv n l closed from_ at_ weight ((Za n).length:Int)=some []:=by
   unfold Zv
   rw [(ZaL hf).2]
   simp only [Option.bind_some,ZeU hf,Zb2 hf hl,hB,Bool.not_true,cond_false,decide_eq_true hw1,cond_true]
   by_cases h1:idxV (Za n) from_<0
   ·simp only [decide_eq_true h1,cond_true]
   ·by_cases h2:100000<at_
    ·simp only [decide_eq_false h1,decide_eq_true h2,cond_true,cond_false]
    ·simp only [decide_eq_false h1,decide_eq_false h2,cond_false]
  refine ⟨([],false),by simp only [decide_eq_true hw1,cond_true],?_⟩
  simp only [e,Option.bind_some]
  by_cases h:idxV (Za n) to_<0
  ·simp only [decide_eq_true h,cond_true]
  ·simp only [decide_eq_false h,cond_false,List.length_nil]; rfl
 simp only [decide_eq_false hw1,cond_false]
 by_cases hA:idxV (Za n) from_<0∨100000<at_
 ·have e:Zv n l closed from_ at_ weight ((Za n).length:Int)=some []:=by
   unfold Zv
   rw [(ZaL hf).2]
   simp only [Option.bind_some,ZeU hf,Zb2 hf hl,hB,Bool.not_true,cond_false]
   by_cases h1:idxV (Za n) from_<0
   ·simp only [decide_eq_true h1,cond_true]
   ·simp only [decide_eq_false h1,cond_false,decide_eq_true (show 100000<at_ by omega),cond_true]
  have e0:iterF (ZG n n closed l weight from_ at_ (Za n) (idxV (Za n) to_)) NN (0,([]:List (List Int)))=some (.inr ([],false)):=by
   obtain ⟨N,hN⟩:∃ N,NN=N+1:=⟨NN-1,by unfold NN; omega⟩
   rw [hN]
   unfold iterF ZG
   simp only [decide_eq_true (show (0:Int)≤((Za n).length:Int) by omega),cond_true,Zkm hf weight hA,Option.bind_some,List.length_nil]
   rfl
  refine ⟨([],false),by rw [e0]; rfl,?_⟩
  simp only [e,Option.bind_some]
  by_cases h:idxV (Za n) to_<0
  ·simp only [decide_eq_true h,cond_true]
  ·simp only [decide_eq_false h,cond_false,List.length_nil]; rfl
 have hC:Zr n l=true∧0≤idxV (Za n) from_∧at_≤100000∧1≤weight:=⟨hB,by omega,by omega,by omega⟩
 have hbl:=Zel hf hl hc weight (idxV (Za n) from_) at_
 have hfl:=(Zer (Za n) from_).2
 have hav:=fun (k:Nat) (hk:k≤(Za n).length)=>Zmd hf hl hc weight hC.2.1 hC.2.2.1 (by omega) k (by omega)
 by_cases ht:idxV (Za n) to_<0
 ·have e0:iterF (ZG n n closed l weight from_ at_ (Za n) (idxV (Za n) to_)) NN (0,([]:List (List Int)))=some (.inr ([],false)):=by
   obtain ⟨N,hN⟩:∃ N,NN=N+1:=⟨NN-1,by unfold NN; omega⟩
   rw [hN]
   have h0:=hav 0 (by omega)
   rw [show ((0:Nat):Int)=0 from rfl] at h0
   unfold iterF ZG
   simp only [decide_eq_true (show (0:Int)≤((Za n).length:Int) by omega),cond_true,h0,Option.bind_some,decide_eq_true ht]
   cases decide (((ZU n l closed weight (idxV (Za n) from_) at_ 0).length:Int)=0) <;> rfl
  have hfb:=Zd8 hf hl hc weight at_ hC (k:=(Za n).length) (Nat.le_refl _)
  refine ⟨([],false),by rw [e0]; rfl,?_⟩
  simp only [hfb,Option.bind_some,decide_eq_true ht,cond_true]
 have e0:iterF (ZG n n closed l weight from_ at_ (Za n) (idxV (Za n) to_)) NN (0,([]:List (List Int)))=some (.inl (allV n l closed weight (idxV (Za n) from_) at_)):=by
  refine Zd6 (body:=ZG n n closed l weight from_ at_ (Za n) (idxV (Za n) to_)) (fun i:Nat=>((i:Int),(List.range i).map (ZU n l closed weight (idxV (Za n) from_) at_))) (n:=(Za n).length+1) (o:=.inl (allV n l closed weight (idxV (Za n) from_) at_)) (fun i hi=>?_) ?_ NN (by unfold NN; omega)
  ·have hw:w64 ((i:Int)+1)=((i+1:Nat):Int):=by rw [Zc (by omega)]; omega
   have ha:chk (appOk (((List.range i).map (ZU n l closed weight (idxV (Za n) from_) at_)).length+([ZU n l closed weight (idxV (Za n) from_) at_ i]:List (List Int)).length) 24)=some ():=Zdh (by simp only [List.length_map,List.length_range,List.length_cons,List.length_nil]; omega) (by omega)
   unfold ZG
   simp only [decide_eq_true (show (i:Int)≤((Za n).length:Int) by omega),cond_true,hav i (by omega),Option.bind_some,decide_eq_false (show ¬ (((ZU n l closed weight (idxV (Za n) from_) at_ i).length:Int)=0) by rw [hbl]; omega),cond_false,decide_eq_false ht,frz,ha,hw,List.range_succ,List.map_append,List.map_cons,List.map_nil]
  ·unfold ZG
   simp only [decide_eq_false (show ¬ (((Za n).length+1:Nat):Int)≤((Za n).length:Int) by omega),cond_false]
   rfl
 have htl:=(Zer (Za n) to_).2
 obtain ⟨due,hdue,_⟩:=Zei (xs:=ZU n l closed weight (idxV (Za n) from_) at_ (Za n).length) (i:=idxV (Za n) to_) ⟨by omega,by rw [hbl]; exact htl⟩
 rw [e0]
 simp only [Option.bind_some,selim,Zhh (Nat.le_refl _),hdue,Zd8 hf hl hc weight at_ hC (Nat.le_refl _),decide_eq_false ht,cond_false,decide_eq_false (show ¬ (((ZU n l closed weight (idxV (Za n) from_) at_ (Za n).length).length:Int)=0) by rw [hbl]; omega)]
 by_cases hd:due<0
 ·exact ⟨([],false),by simp only [decide_eq_true hd,cond_true]; rfl,by simp only [decide_eq_true hd,cond_true]⟩
 simp only [decide_eq_false hd,cond_false]
 obtain ⟨k,q1,q2,q3,q4,q5⟩:=Zin hf hl hc weight at_ hp hC ⟨by omega,htl⟩ hdue
 obtain ⟨back,b1,b2,b3⟩:=ZmU hf hn hl hc weight at_ hC k to_ (idxV (Za n) to_) due [] rfl (by omega) q2 (by omega) q3 (by simp only [List.length_nil]; omega) NN (by unfold NN; omega)
 rw [List.reverse_nil] at b1
 refine ⟨(back.reverse,true),?_,?_⟩
 ·simp only [q5,Option.bind_some,b2,selim,Zpd (show back.length≤1048576 by omega)]
 ·simp only [q4,Option.bind_some,b1]
end
inductive Zi7 (n:YNetwork) (l:List YBooking) (closed:List YTrip) (weight:Int) (from_:ByteArray) (at_:Int):Nat→ByteArray→Int→List YTrip→Prop
 | nil {q:ByteArray} {e:Int} (h0:0≤idxV (Za n) q) (hg:getI (ZU n l closed weight (idxV (Za n) from_) at_ 0) (idxV (Za n) q)=some e) (he:0≤e):Zi7 n l closed weight from_ at_ 0 q e []
 | snoc {k:Nat} {y:YLeg} {u z d e:Int} {i:Nat} {way:List YTrip} (hp:Zi7 n l closed weight from_ at_ k y.from_ u way) (c1:n.legs[i]?=some y)
  (hg:getI (ZU n l closed weight (idxV (Za n) from_) at_ (k+1)) (idxV (Za n) y.to_)=some e)
  (c5:ZR n u (decide (idxV (Za n) y.from_=idxV (Za n) from_))=some z) (c6:ZH n l closed (i:Int) z weight=some d) (c7:¬ d<0) (c8:Ze n ⟨(i:Int),d⟩=some e):Zi7 n l closed weight from_ at_ (k+1) y.to_ e (way++[⟨(i:Int),d⟩])
section
variable {n:YNetwork} (hf:ZZ n)
include hf
theorem ZqC (hn:Zb n=some true) {l:List YBooking} (hl:l.length≤1048576) {closed:List YTrip} (hc:closed.length≤1048576) (weight:Int) {from_:ByteArray} (at_:Int)
 (hC:Zr n l=true∧0≤idxV (Za n) from_∧at_≤100000∧1≤weight):
 ∀ (k:Nat) (q0:ByteArray) (e:Int) (tail:List YTrip),0≤idxV (Za n) q0→getI (ZU n l closed weight (idxV (Za n) from_) at_ k) (idxV (Za n) q0)=some e→0≤e→(k=0∨¬ getI (ZU n l closed weight (idxV (Za n) from_) at_ (k-1)) (idxV (Za n) q0)=some e)→tail.length+k≤(Za n).length→∀ N,k<N→
  ∃ way,iterF (ZJ n l closed from_ at_ weight (Za n) (idxV (Za n) from_)) N (idxV (Za n) q0,e,(k:Int),tail)=some (way++tail)∧Zi7 n l closed weight from_ at_ k q0 e way:=by
 have hlg:=Zfs hn
 have hp:(Za n).length≤40:=by have:=Zbk n; omega
 intro k
 induction k with
 | zero=>
  intro q0 e tail hx hg he hnot hlen N hN
  obtain ⟨N,rfl⟩:∃ M,N=M+1:=⟨N-1,by omega⟩
  exact ⟨[],by unfold iterF ZJ; simp,.nil hx hg he⟩
 | succ k ih=>
  intro q0 e tail hx hg he hnot hlen N hN
  obtain ⟨N,rfl⟩:∃ M,N=M+1:=⟨N-1,by omega⟩
  have hbl:=Zel hf hl hc weight (idxV (Za n) from_) at_
  have hnx:¬ getI (ZU n l closed weight (idxV (Za n) from_) at_ k) (idxV (Za n) q0)=some e:=by
   rcases hnot with h | h
   ·omega
   ·exact h
  have hcd:Cand n l closed weight (idxV (Za n) from_) (ZU n l closed weight (idxV (Za n) from_) at_ k) (idxV (Za n) q0) e:=by
   rcases (Ze6 hf hl hc weight (idxV (Za n) from_) at_ k).2 _ e hg with h | h
   ·exact absurd h hnx
   ·exact h
  have hxl:=(Zer (Za n) q0).2
  obtain ⟨t,hs,hi,i,y,d,u,z,rfl,c1,c2,c3,c4,c5,c6,c7,c8⟩:=ZjC hf hl hc weight (hbl k) (q0:=q0) rfl ⟨hx,hxl⟩ e hcd
  have hfb:=Zd8 hf hl hc weight at_ hC (k:=k) (by omega)
  have hw:w64 (((k+1:Nat):Int)-1)=(k:Int):=by rw [Zc (by omega)]; omega
  have hy:getI n.legs (i:Int)=some y:=by rw [Zd]; exact c1
  have ha1:chk (appOk (([⟨(i:Int),d⟩]:List YTrip).length+tail.length) 16)=some ():=Zdh (by simp only [List.length_cons,List.length_nil]; omega) (by omega)
  obtain ⟨m1,m2⟩:=ZeV (List.mem_of_getElem? c1)
  have a0:=ZdG m1
  obtain ⟨way,q1,q2⟩:=ih y.from_ u ([⟨(i:Int),d⟩]++tail) a0 c3 (by omega) (by
   by_cases hk0:k=0
   ·exact .inl hk0
   ·refine .inr fun hu=>hnx ?_
    obtain ⟨k',rfl⟩:∃ k',k=k'+1:=⟨k-1,by omega⟩
    have hb1:=(Zhj hf hn hl hc weight (idxV (Za n) from_) at_ k').2 _ e ⟨i,y,d,u,z,c1,c2,hu,c4,c5,c6,c7,c8⟩
    obtain ⟨w,w1,w2,w3⟩:=hb1
    obtain ⟨w',v1,v2,v3⟩:=(Zhj hf hn hl hc weight (idxV (Za n) from_) at_ (k'+1)).1 _ w w1 w2
    rw [hg] at v1
    obtain rfl:=Option.some.inj v1
    rw [w1,show w=e by omega]) (by simp only [List.length_append,List.length_cons,List.length_nil]; omega) N (by omega)
  have hq:y.to_=q0:=by
   have g1:=ZeH (ZdG m2)
   have g2:=ZeH hx
   rw [c2,g2] at g1
   exact (Option.some.inj g1).symm
  refine ⟨way++[⟨(i:Int),d⟩],?_,?_⟩
  ·have hb:ZJ n l closed from_ at_ weight (Za n) (idxV (Za n) from_) (idxV (Za n) q0,e,((k+1:Nat):Int),tail)=some (.inl (idxV (Za n) y.from_,u,(k:Int),[⟨(i:Int),d⟩]++tail)):=by
    unfold ZJ
    simp only [decide_eq_true (show (0:Int)<((k+1:Nat):Int) by omega),cond_true,hw,hfb,Option.bind_some,hs,ha1,hy,ZeU hf,c3]
   unfold iterF
   rw [hb,List.append_assoc]
   exact q1
  ·subst hq
   exact .snoc q2 c1 hg c5 c6 c7 c8
omit hf in
theorem Zih {t:YTrip} (ht:Zc3 n t=true):∀ (way:List YTrip) (p:ByteArray) (a:Int),ZcD n p a way→(way=[]→Zd1 n t=p∧a≤Zbp n t)→(∀ t',way.getLast?=some t'→Zd1 n t=ZaS n t'∧ZbH n t'+n.change≤Zbp n t)→ZcD n p a (way++[t])
 | [],p,a,_,h1,_=>⟨ht,(h1 rfl).1,(h1 rfl).2,trivial⟩
 | x::way,p,a,hc,h1,h2=>by
  obtain ⟨c1,c2,c3,c4⟩:=hc
  refine ⟨c1,c2,c3,Zih ht way _ _ c4 (fun hw=>?_) fun t' h=>?_⟩
  ·subst hw
   exact h2 x rfl
  ·cases way with
   | nil=>simp at h
   | cons y ys=>exact h2 t' (by rw [List.getLast?_cons_cons]; exact h)
omit hf in
theorem ZjQ:∀ (m:Nat) (l:List Nat),l.Nodup→(∀ x∈l,x<m)→l.length≤m
 | 0,l,_,h=>by
  cases l with
  | nil=>simp
  | cons x xs=>have:=h x (by simp); omega
 | m+1,l,hn,h=>by
  have h1:=ZjQ m (l.erase m) (hn.erase m) fun x hx=>by
   have h2:=(List.Nodup.mem_erase_iff hn).1 hx
   have:=h x h2.2
   have h3:=h2.1
   omega
  have h4:l.length≤(l.erase m).length+1:=by rw [List.length_erase]; split <;> omega
  omega
section
variable (hn:Zb n=some true) {l:List YBooking} (hl:l.length≤1048576) {closed:List YTrip} (hc:closed.length≤1048576) (weight:Int) {from_:ByteArray} (at_:Int) (hfr:0≤idxV (Za n) from_) (hat:at_≤100000)
include hn hl hc hfr hat
omit hfr hat in
theorem Zjc (f:Int) {x u:Int} {j:Nat} (hg:getI (ZU n l closed weight f at_ j) x=some u) (h0:0≤u):∀ d,LeAt (ZU n l closed weight f at_ (j+d)) x u
 | 0=>⟨u,hg,h0,Int.le_refl _⟩
 | d+1=>by
  obtain ⟨w,w1,w2,w3⟩:=Zjc f hg h0 d
  obtain ⟨w',v1,v2,v3⟩:=(Zhj hf hn hl hc weight f at_ (j+d)).1 x w w1 w2
  exact ⟨w',v1,v2,by omega⟩
structure Zq4 (n:YNetwork) (l:List YBooking) (closed:List YTrip) (weight:Int) (from_:ByteArray) (at_:Int) (k:Nat) (q:ByteArray) (e:Int) (way:List YTrip):Prop where
 time:0≤e∧e≤100000
 seen:∀ p∈from_::way.map (ZaS n),∃ (j:Nat) (u:Int),j≤k∧getI (ZU n l closed weight (idxV (Za n) from_) at_ j) (idxV (Za n) p)=some u∧0≤u∧u≤e
 nodup:(from_::way.map (ZaS n)).Nodup
 last:(from_::way.map (ZaS n)).getLast?=some q
 chain:ZcD n from_ (if 0 > at_ then 0 else at_) way
 ends:way=[]∧e=(if 0 > at_ then 0 else at_)∨∃ t,way.getLast?=some t∧ZbH n t=e
 found:∀ t∈way,Zar closed t=some false∧∃ y q,getI n.legs t.leg=some y∧ZN l t=some q∧weight≤w64 (y.room-q)
 idx:0≤idxV (Za n) q
theorem ZqD {k:Nat} {q:ByteArray} {e:Int} {way:List YTrip} (h:Zi7 n l closed weight from_ at_ k q e way):Zq4 n l closed weight from_ at_ k q e way:=by
 have hlg:=Zfs hn
 have hp:(Za n).length≤40:=by have:=Zbk n; omega
 have hlt:=(Zer (Za n) from_).2
 induction h with
 | nil h0 hg he=>
  rename_i q e
  have hb:ZU n l closed weight (idxV (Za n) from_) at_ 0=(List.replicate (Za n).length (-1:Int)).set (idxV (Za n) from_).toNat (if 0 > at_ then 0 else at_):=by
   unfold ZU; rw [Znm hf (by omega) _ ⟨hfr,hlt⟩]; rfl
  rw [hb] at hg
  have hq:idxV (Za n) q=idxV (Za n) from_∧e=(if 0 > at_ then 0 else at_):=by
   rcases Zlx hfr hg with ⟨a,b⟩ | h
   ·exact ⟨a,b⟩
   ·exfalso
    obtain ⟨_,h2⟩:=getI_some h
    have:=List.mem_of_getElem? h2
    have:=List.eq_of_mem_replicate this
    omega
  have hqf:from_=q:=by
   have g1:=ZeH h0
   have g2:=ZeH hfr
   rw [hq.1,g2] at g1
   exact Option.some.inj g1
  subst hqf
  have he2:=hq.2
  refine ⟨⟨he,by rw [he2]; split <;> omega⟩,fun p hp=>?_,by simp,rfl,trivial,.inl ⟨rfl,he2⟩,fun t ht=>by simp at ht,hfr⟩
  have:p=from_:=by simpa using hp
  subst this
  exact ⟨0,e,Nat.le_refl _,by rw [hb]; exact hg,he,Int.le_refl _⟩
 | snoc hpt c1 hg c5 c6 c7 c8 ih=>
  rename_i k y u z d e i way
  have hleg:getI n.legs (i:Int)=some y:=by rw [Zd]; exact c1
  have hfo:Zp6 n l closed z weight ⟨(i:Int),d⟩:=by
   rcases ZlM hf c6 with h | h
   ·omega
   ·exact h
  obtain ⟨_,t2,t3,t4,t5⟩:=ZbF hf hn hfo.trip
  have hee:ZbH n ⟨(i:Int),d⟩=e:=by rw [c8] at t2; exact (Option.some.inj t2).symm
  have hto:ZaS n ⟨(i:Int),d⟩=y.to_:=by unfold ZaS; rw [hleg]; rfl
  have hfrom:Zd1 n ⟨(i:Int),d⟩=y.from_:=by unfold Zd1; rw [hleg]; rfl
  obtain ⟨n0,n1⟩:=Zdb hn
  have hz:z=if idxV (Za n) y.from_=idxV (Za n) from_ then u else u+n.change:=by
   unfold ZR at c5
   by_cases h:idxV (Za n) y.from_=idxV (Za n) from_
   ·rw [decide_eq_true h,cond_true] at c5; rw [if_pos h]; exact (Option.some.inj c5).symm
   ·rw [decide_eq_false h,cond_false,Zc (by have:=ih.time; omega)] at c5; rw [if_neg h]; exact (Option.some.inj c5).symm
  have hzu:u≤z:=by rw [hz]; split <;> omega
  have hst:=hfo.start
  have hue:u<e:=by omega
  obtain ⟨m1,m2⟩:=ZeV (List.mem_of_getElem? c1)
  have hnew:∀ p∈from_::way.map (ZaS n),p≠y.to_:=fun p hp heq=>by
   obtain ⟨j,u',hj,hg',h0,hu⟩:=ih.seen p hp
   rw [heq] at hg'
   obtain ⟨w,w1,w2,w3⟩:=Zjc hf hn hl hc weight at_ _ hg' h0 (k+1-j)
   rw [show j+(k+1-j)=k+1 by omega,hg] at w1
   have:=Option.some.inj w1
   omega
  have happ:from_::(way++[(⟨(i:Int),d⟩:YTrip)]).map (ZaS n)=(from_::way.map (ZaS n))++[y.to_]:=by
   rw [List.map_append,List.map_cons,List.map_nil,hto]; rfl
  refine ⟨⟨by omega,by omega⟩,fun p hp=>?_,?_,?_,?_,.inr ⟨_,List.getLast?_concat,hee⟩,fun t ht=>?_,ZdG m2⟩
  ·rw [happ] at hp
   rcases List.mem_append.1 hp with hp | hp
   ·obtain ⟨j,u',hj,hg',h0,hu⟩:=ih.seen p hp
    exact ⟨j,u',by omega,hg',h0,by omega⟩
   ·obtain rfl:=List.mem_singleton.1 hp
    exact ⟨k+1,e,Nat.le_refl _,hg,by omega,Int.le_refl _⟩
  ·rw [happ,List.nodup_append]
   exact ⟨ih.nodup,by simp,fun a ha b hb=>by rw [List.mem_singleton] at hb; rw [hb]; exact hnew a ha⟩
  ·rw [happ]; exact List.getLast?_concat
  ·refine Zih hfo.trip way _ _ ih.chain (fun hw=>?_) fun t' ht'=>?_
   ·subst hw
    have hq:from_=y.from_:=by have:=ih.last; simpa using this
    rcases ih.ends with ⟨_,he⟩ | ⟨t,ht,_⟩
    ·exact ⟨by rw [hfrom,hq],by omega⟩
    ·simp at ht
   ·have hmem:t'∈way:=List.mem_of_getLast? ht'
    have hlast:ZaS n t'=y.from_:=by
     have h1:=ih.last
     cases way with
     | nil=>simp at ht'
     | cons x xs=>
      rw [List.map_cons,List.getLast?_cons_cons,← List.map_cons,List.getLast?_map,ht'] at h1
      exact Option.some.inj h1
    have hne:¬ idxV (Za n) y.from_=idxV (Za n) from_:=fun he=>by
     have g1:=ZeH (ZdG m1)
     have g2:=ZeH hfr
     rw [he,g2] at g1
     have hff:from_=y.from_:=Option.some.inj g1
     have hnd:=ih.nodup
     rw [List.nodup_cons] at hnd
     exact hnd.1 (by rw [hff,← hlast]; exact List.mem_map_of_mem hmem)
    rw [if_neg hne] at hz
    rcases ih.ends with ⟨hw,_⟩ | ⟨t'',ht'',he''⟩
    ·rw [hw] at ht'; simp at ht'
    ·rw [ht'] at ht''
     obtain rfl:=Option.some.inj ht''
     exact ⟨by rw [hfrom,hlast],by rw [he'']; omega⟩
  ·rcases List.mem_append.1 ht with ht | ht
   ·exact ih.found t ht
   ·obtain rfl:=List.mem_singleton.1 ht
    exact ⟨hfo.open_,hfo.room⟩
end
end
end Go.Proofs.YtmcdjilbkmhfoaaGreat
namespace Go.Proofs.YtmcdjilbkmhfoaaGreat
set_option maxRecDepth 10000
open Go.Sort
set_option linter.unusedVariables false
set_option linter.unusedSimpArgs false
section
variable {α:Type} [Inhabited α]
theorem gx {d:Array α} {x y:Nat} (h:x=y):d[x]! = d[y]!:=by rw [h]
def swpR (d:Array α) (a b:Nat):Nat→Array α
 | 0=>d
 | n+1=>swp (swpR d a b n) (a+n) (b+n)
theorem ZdT (d:Array α) (a b:Nat):∀ n,(swpR d a b n).size=d.size
 | 0=>rfl
 | n+1=>by rw [swpR,size_swp,ZdT d a b n]
theorem Zgn (d:Array α) {a b lo hi:Nat} (h1:lo≤a):∀ n,a+n≤hi→lo≤b→b+n≤hi→hi≤d.size→PermIn lo hi d (swpR d a b n)
 | 0,_,_,_,_=>permIn_refl _ _ _
 | n+1,h2,h3,h4,h5=>permIn_trans _ _ _ _ _ (Zgn d h1 n (by omega) h3 (by omega) h5) (swp_permIn _ _ _ _ _ (by omega) (by omega) (by omega) (by omega) (by rw [ZdT]; omega))
theorem Zhd (d:Array α) {a b:Nat}:∀ n,a+n≤b→b+n≤d.size→∀ k,(swpR d a b n)[k]! = if a≤k∧k<a+n then d[b+(k-a)]! else if b≤k∧k<b+n then d[a+(k-b)]! else d[k]!
 | 0,_,_,k=>by rw [if_neg (by omega),if_neg (by omega)]; rfl
 | n+1,h1,h2,k=>by
  have ih:=Zhd d (a:=a) (b:=b) n (by omega) (by omega)
  rw [swpR,swp_get (swpR d a b n) (i:=a+n) (j:=b+n) (by rw [ZdT]; omega) (by rw [ZdT]; omega),ih,ih,ih]
  repeat' split
  all_goals first | (exfalso; omega) | exact gx (by omega)
def rotF (d:Array α) (a m b k:Nat):α:=if a≤k∧k<a+(b-m) then d[m+(k-a)]! else if a+(b-m)≤k∧k<b then d[k-(b-m)]! else d[k]!
theorem ZqI (e:Array α) {m i j:Nat} (h:j<i) (hi:i≤m) (hs:m+j≤e.size) (k:Nat):rotF (swpR e (m-i) m j) (m-i+j) m (m+j) k=rotF e (m-i) m (m+j) k:=by
 unfold rotF
 simp only [Zhd e (a:=m-i) (b:=m) j (by omega) (by omega)]
 repeat' split
 all_goals first | (exfalso; omega) | exact gx (by omega)
theorem ZqJ (e:Array α) {m i j:Nat} (h:i<j) (hi:i≤m) (hs:m+j≤e.size) (k:Nat):rotF (swpR e (m-i) (m+j-i) i) (m-i) m (m+j-i) k=rotF e (m-i) m (m+j) k:=by
 unfold rotF
 simp only [Zhd e (a:=m-i) (b:=m+j-i) i (by omega) (by omega)]
 repeat' split
 all_goals first | (exfalso; omega) | exact gx (by omega)
theorem ZqH (e:Array α) {m i:Nat} (hi:i≤m) (hs:m+i≤e.size) (k:Nat):(swpR e (m-i) m i)[k]! = rotF e (m-i) m (m+i) k:=by
 unfold rotF
 rw [Zhd e i (by omega) (by omega)]
 repeat' split
 all_goals first | (exfalso; omega) | exact gx (by omega)
theorem ZhR (d:Array α) {a m b:Nat} (h:m≤a∨b≤m) (hab:a≤m) (hb:m≤b) (k:Nat):d[k]! = rotF d a m b k:=by
 unfold rotF
 repeat' split
 all_goals first | (exfalso; omega) | exact gx (by omega)
def shU (d:Array α) (a:Nat):Nat→Array α
 | 0=>d
 | n+1=>swp (shU d a n) (a+n) (a+n+1)
theorem Ze2 (d:Array α) (a:Nat):∀ n,(shU d a n).size=d.size
 | 0=>rfl
 | n+1=>by rw [shU,size_swp,Ze2 d a n]
theorem Zl1 (d:Array α) {a hi:Nat}:∀ n,a+n<hi→hi≤d.size→PermIn a hi d (shU d a n)
 | 0,_,_=>permIn_refl _ _ _
 | n+1,h2,h5=>permIn_trans _ _ _ _ _ (Zl1 d n (by omega) h5) (swp_permIn _ _ _ _ _ (by omega) (by omega) (by omega) (by omega) (by rw [Ze2]; omega))
theorem Zog (d:Array α) {a:Nat}:∀ n,a+n<d.size→∀ k,(shU d a n)[k]! = rotF d a (a+1) (a+1+n) k
 | 0,h,k=>ZhR d (.inr (by omega)) (by omega) (by omega) k
 | n+1,h,k=>by
  have ih:=Zog d (a:=a) n (by omega)
  rw [shU,swp_get (shU d a n) (i:=a+n) (j:=a+n+1) (by rw [Ze2]; omega) (by rw [Ze2]; omega),ih,ih,ih]
  unfold rotF
  repeat' split
  all_goals first | (exfalso; omega) | exact gx (by omega)
def shD (d:Array α) (m:Nat):Nat→Array α
 | 0=>d
 | n+1=>swp (shD d m n) (m-n) (m-n-1)
theorem Ze1 (d:Array α) (m:Nat):∀ n,(shD d m n).size=d.size
 | 0=>rfl
 | n+1=>by rw [shD,size_swp,Ze1 d m n]
theorem Zl0 (d:Array α) {m lo:Nat}:∀ n,lo+n≤m→m<d.size→PermIn lo (m+1) d (shD d m n)
 | 0,_,_=>permIn_refl _ _ _
 | n+1,h2,h5=>permIn_trans _ _ _ _ _ (Zl0 d n (by omega) h5) (swp_permIn _ _ _ _ _ (by omega) (by omega) (by omega) (by omega) (by rw [Ze1]; omega))
theorem Zof (d:Array α) {m:Nat}:∀ n,n≤m→m<d.size→∀ k,(shD d m n)[k]! = rotF d (m-n) m (m+1) k
 | 0,h,h',k=>ZhR d (.inl (by omega)) (by omega) (by omega) k
 | n+1,h,h',k=>by
  have ih:=Zof d (m:=m) n (by omega) h'
  rw [shD,swp_get (shD d m n) (i:=m-n) (j:=m-n-1) (by rw [Ze1]; omega) (by rw [Ze1]; omega),ih,ih,ih]
  unfold rotF
  repeat' split
  all_goals first | (exfalso; omega) | exact gx (by omega)
variable {lt:α→α→Bool}
theorem ZfH (hO:SWO lt) {a b:Nat} {d:Array α} (h:SortedIn lt a b d) {i j:Nat} (h1:a≤i) (h2:i≤j) (h3:j<b):lt d[j]! d[i]! = false:=by
 rcases Nat.lt_or_ge i j with h4 | h4
 ·exact h i j h1 h4 h3
 ·have:i=j:=by omega
  subst this; exact hO.irrefl _
theorem ZfQ {a b a' b':Nat} {d:Array α} (h:SortedIn lt a b d) (h1:a≤a') (h2:b'≤b):SortedIn lt a' b' d:=fun i j hi hij hj=>h i j (by omega) hij (by omega)
theorem ZhZ {a b:Nat} {d e:Array α} (h:SortedIn lt a b d) (he:∀ k,a≤k→k<b→e[k]! = d[k]!):SortedIn lt a b e:=fun i j hi hij hj=>by
 rw [he i hi (by omega),he j (by omega) hj]; exact h i j hi hij hj
theorem Zok {a b:Nat} {d:Array α} (h:b≤a+1):SortedIn lt a b d:=fun i j hi hij hj=>by omega
theorem Zrk (hO:SWO lt) {a m b s t mid:Nat} {d e:Array α} (h1:SortedIn lt a m d) (h2:SortedIn lt m b d) (hs:a≤s∧s≤m) (ht:m≤t∧t≤b) (hmid:s+(t-m)=mid)
 (c1:a<s→t<b→lt d[t]! d[s-1]! = false) (c2:s<m→m<t→lt d[t-1]! d[s]! = true) (hr:∀ k,e[k]! = rotF d s m t k):
 SortedIn lt a s e∧SortedIn lt s mid e∧SortedIn lt mid t e∧SortedIn lt t b e∧∀ i j,a≤i→i<mid→mid≤j→j<b→lt e[j]! e[i]! = false:=by
 have g1:∀ k,k<s→e[k]! = d[k]!:=fun k h=>by rw [hr]; unfold rotF; rw [if_neg (by omega),if_neg (by omega)]
 have g2:∀ k,s≤k→k<mid→e[k]! = d[m+(k-s)]!:=fun k h h'=>by rw [hr]; unfold rotF; rw [if_pos (by omega)]
 have g3:∀ k,mid≤k→k<t→e[k]! = d[k-(t-m)]!:=fun k h h'=>by rw [hr]; unfold rotF; rw [if_neg (by omega),if_pos (by omega)]
 have g4:∀ k,t≤k→e[k]! = d[k]!:=fun k h=>by rw [hr]; unfold rotF; rw [if_neg (by omega),if_neg (by omega)]
 refine ⟨fun i j hi hij hj=>?_,fun i j hi hij hj=>?_,fun i j hi hij hj=>?_,fun i j hi hij hj=>?_,fun i j hi hi' hj hj'=>?_⟩
 ·rw [g1 i (by omega),g1 j hj]; exact h1 i j hi hij (by omega)
 ·rw [g2 i hi (by omega),g2 j (by omega) hj]; exact h2 _ _ (by omega) (by omega) (by omega)
 ·rw [g3 i hi (by omega),g3 j (by omega) hj]; exact h1 _ _ (by omega) (by omega) (by omega)
 ·rw [g4 i hi,g4 j (by omega)]; exact h2 i j (by omega) hij hj
 ·rcases Nat.lt_or_ge i s with x | x <;> rcases Nat.lt_or_ge j t with y | y
  ·rw [g1 i x,g3 j hj y]; exact h1 _ _ hi (by omega) (by omega)
  ·rw [g1 i x,g4 j y]
   have a1:=ZfH hO h2 (i:=t) (j:=j) ht.1 y hj'
   have a2:=c1 (by omega) (by omega)
   have a3:=ZfH hO h1 (i:=i) (j:=s-1) hi (by omega) (by omega)
   exact hO.ntrans _ _ _ (hO.ntrans _ _ _ a1 a2) a3
  ·rw [g2 i x hi',g3 j hj y]
   have a1:=ZfH hO h2 (i:=m+(i-s)) (j:=t-1) (by omega) (by omega) (by omega)
   have a2:=c2 (by omega) (by omega)
   have a3:=ZfH hO h1 (i:=s) (j:=j-(t-m)) hs.1 (by omega) (by omega)
   cases hv:lt d[j-(t-m)]! d[m+(i-s)]! with
   | false=>rfl
   | true=>
    cases hw:lt d[j-(t-m)]! d[t-1]! with
    | false=>rw [hO.ntrans _ _ _ hw a1] at hv; cases hv
    | true=>rw [hO.trans _ _ _ hw a2] at a3; cases a3
  ·rw [g2 i x hi',g4 j y]; exact h2 _ _ (by omega) (by omega) hj'
theorem glue (hO:SWO lt) {a mid b:Nat} {e e1 e2:Array α} (hb:b≤e.size) (ha:a≤mid) (hm:mid≤b) (p1:PermIn a mid e e1) (p2:PermIn mid b e1 e2) (s1:SortedIn lt a mid e1) (s2:SortedIn lt mid b e2)
 (hc:∀ i j,a≤i→i<mid→mid≤j→j<b→lt e[j]! e[i]! = false):PermIn a b e e2∧SortedIn lt a b e2:=by
 have z1:=p1.1
 have z2:=p2.1
 refine ⟨permIn_trans _ _ _ _ _ (permIn_mono _ _ _ _ _ _ (Nat.le_refl _) hm hb p1) (permIn_mono _ _ _ _ _ _ ha (Nat.le_refl _) (by omega) p2),fun i j hi hij hj=>?_⟩
 have k1:∀ i j,a≤i→i<mid→mid≤j→j<b→lt e1[j]! e1[i]! = false:=fun i j hi hi' hj hj'=>by
  rw [p1.2.1 j (.inr hj)]
  exact permIn_all e e1 a mid (fun x=>lt e[j]! x=false) (by omega) p1 (fun i h h'=>hc i j h h' hj hj') i hi hi'
 have k2:∀ i j,a≤i→i<mid→mid≤j→j<b→lt e2[j]! e2[i]! = false:=fun i j hi hi' hj hj'=>by
  rw [p2.2.1 i (.inl hi')]
  exact permIn_all e1 e2 mid b (fun y=>lt y e1[i]! = false) (by omega) p2 (fun j h h'=>k1 i j hi hi' h h') j hj hj'
 rcases Nat.lt_or_ge i mid with x | x
 ·rcases Nat.lt_or_ge j mid with y | y
  ·rw [p2.2.1 i (.inl x),p2.2.1 j (.inl y)]; exact s1 i j hi hij y
  ·exact k2 i j hi x y hj
 ·exact s2 i j x hij hj
theorem ZoP (hO:SWO lt) {a b i:Nat} {d e:Array α} (h:SortedIn lt (a+1) b d) (h1:a+1≤i) (h2:i≤b) (c1:i=a+1∨lt d[i-1]! d[a]! = true) (c2:i=b∨lt d[i]! d[a]! = false) (hr:∀ k,e[k]! = rotF d a (a+1) i k):SortedIn lt a b e:=by
 have g1:∀ k,a≤k→k<i-1→e[k]! = d[k+1]!:=fun k h h'=>by rw [hr]; unfold rotF; rw [if_pos (by omega)]; exact gx (by omega)
 have g2:e[i-1]! = d[a]!:=by rw [hr]; unfold rotF; rw [if_neg (by omega),if_pos (by omega)]; exact gx (by omega)
 have g3:∀ k,i≤k→e[k]! = d[k]!:=fun k h=>by rw [hr]; unfold rotF; rw [if_neg (by omega),if_neg (by omega)]
 have lo:∀ p,a≤p→p<i-1→lt d[a]! d[p+1]! = false:=fun p h5 h6=>by
  rcases c1 with c1 | c1
  ·omega
  ·exact hO.ntrans _ _ _ (hO.asymmA c1) (ZfH hO h (i:=p+1) (j:=i-1) (by omega) (by omega) (by omega))
 have hi:∀ q,i≤q→q<b→lt d[q]! d[a]! = false:=fun q h5 h6=>by
  rcases c2 with c2 | c2
  ·omega
  ·exact hO.ntrans _ _ _ (ZfH hO h (i:=i) (j:=q) h1 h5 h6) c2
 intro p q hp hpq hq
 rcases Nat.lt_trichotomy p (i-1) with x | x | x
 ·rcases Nat.lt_trichotomy q (i-1) with y | y | y
  ·rw [g1 p hp x,g1 q (by omega) y]; exact h _ _ (by omega) (by omega) (by omega)
  ·rw [y,g2,g1 p hp x]; exact lo p hp x
  ·rw [g1 p hp x,g3 q (by omega)]; exact h _ _ (by omega) (by omega) hq
 ·rw [x,g2,g3 q (by omega)]; exact hi q (by omega) hq
 ·rw [g3 p (by omega),g3 q (by omega)]; exact h _ _ (by omega) hpq hq
theorem Znw (hO:SWO lt) {a m i:Nat} {d e:Array α} (h:SortedIn lt a m d) (h1:a≤i) (h2:i≤m) (c1:i=a∨lt d[m]! d[i-1]! = false) (c2:i=m∨lt d[m]! d[i]! = true) (hr:∀ k,e[k]! = rotF d i m (m+1) k):SortedIn lt a (m+1) e:=by
 have g1:∀ k,k<i→e[k]! = d[k]!:=fun k h=>by rw [hr]; unfold rotF; rw [if_neg (by omega),if_neg (by omega)]
 have g2:e[i]! = d[m]!:=by rw [hr]; unfold rotF; rw [if_pos (by omega)]; exact gx (by omega)
 have g3:∀ k,i<k→k≤m→e[k]! = d[k-1]!:=fun k h h'=>by rw [hr]; unfold rotF; rw [if_neg (by omega),if_pos (by omega)]; exact gx (by omega)
 have lo:∀ p,a≤p→p<i→lt d[m]! d[p]! = false:=fun p h5 h6=>by
  rcases c1 with c1 | c1
  ·omega
  ·exact hO.ntrans _ _ _ c1 (ZfH hO h (i:=p) (j:=i-1) h5 (by omega) (by omega))
 have hi:∀ q,i<q→q≤m→lt d[q-1]! d[m]! = false:=fun q h5 h6=>by
  rcases c2 with c2 | c2
  ·omega
  ·exact hO.ntrans _ _ _ (ZfH hO h (i:=i) (j:=q-1) h1 (by omega) (by omega)) (hO.asymmA c2)
 intro p q hp hpq hq
 rcases Nat.lt_trichotomy p i with x | x | x
 ·rcases Nat.lt_trichotomy q i with y | y | y
  ·rw [g1 p x,g1 q y]; exact h _ _ hp hpq (by omega)
  ·rw [y,g2,g1 p x]; exact lo p hp x
  ·rw [g1 p x,g3 q y (by omega)]; exact ZfH hO h (by omega) (by omega) (by omega)
 ·rw [x,g2,g3 q (by omega) (by omega)]; exact hi q (by omega) (by omega)
 ·rw [g3 p x (by omega),g3 q (by omega) (by omega)]; exact ZfH hO h (by omega) (by omega) (by omega)
def Runs (lt:α→α→Bool) (bs n:Nat) (d:Array α):Prop:=∀ q,SortedIn lt (q*bs) (min (q*bs+bs) n) d
end
end Go.Proofs.YtmcdjilbkmhfoaaGreat
namespace Go.Proofs.YtmcdjilbkmhfoaaGreat
set_option maxRecDepth 10000
open Go.RowKit Go.Lib Go.Sort
set_option linter.unusedVariables false
set_option linter.unusedSimpArgs false
set_option linter.unusedSectionVars false
set_option maxRecDepth 100000
set_option maxHeartbeats 4000000
section
variable {α:Type} [Inhabited α] {enc:α→List Value} {k:Nat} {g:Nat} {T:TypeId} {cs:Nat}
structure SU (enc:α→List Value) (k:Nat) (g:Nat) (T:TypeId) (cs:Nat) (w0:World) (d:Array α) (W:World):Prop where
 up:UpO (fun b=>b=g) w0 W
 hold:HoldsK enc k W g 0 d
 row:∃ cells,W.heap[g]?=some (.cells cells T (0,0))∧cells.size=cs
theorem SU.lt {w0 W:World} {d:Array α} (h:SU enc k g T cs w0 d W):g<W.heap.size:=by
 obtain ⟨c,h1,_⟩:=h.row
 exact (Array.getElem?_eq_some_iff.1 h1).1
theorem SU.more {w0 W W':World} {d:Array α} (h:SU enc k g T cs w0 d W) (u:Up W W'):SU enc k g T cs w0 d W':=by
 have hl:=h.lt
 refine ⟨⟨u.os.trans h.up.os,u.tape.trans h.up.tape,u.output.trans h.up.output,Nat.le_trans h.up.size u.size,fun b hb hn=>(u.block b (Nat.lt_of_lt_of_le hb h.up.size)).trans (h.up.block b hb hn)⟩,fun j hj=>⟨(u.cell (p:=⟨g,0+j,none⟩) hl).trans (h.hold j hj).1,(u.frozen (p:=⟨g,0+j,none⟩) hl).trans (h.hold j hj).2⟩,?_⟩
 obtain ⟨c,h1,h2⟩:=h.row
 exact ⟨c,(u.block g hl).trans h1,h2⟩
theorem SU.trans {w0 W W':World} {d d':Array α} (h:SU enc k g T cs w0 d W) (h':SU enc k g T cs W d' W'):SU enc k g T cs w0 d' W':=⟨h.up.trans h'.up fun _ _ h=>h,h'.hold,h'.row⟩
theorem SU.self {w0 W:World} {d:Array α} (h:SU enc k g T cs w0 d W):SU enc k g T cs W d W:=⟨UpO.refl _ _,h.hold,h.row⟩
theorem SU.oth {w0 W:World} {d:Array α} (h:SU enc k g T cs w0 d W) {b o:Nat} (hb:b<w0.heap.size) (hn:b≠g):W.cell? ⟨b,o,none⟩=w0.cell? ⟨b,o,none⟩:=Zbt (h.up.block b hb hn)
theorem SU.swap (hk:∀ x,(enc x).length=k) {w0 W:World} {d:Array α} (h:SU enc k g T cs w0 d W) {i j:Nat} (hi:i<d.size) (hj:j<d.size):SU enc k g T cs w0 (swp d i j) ((W.setCells g (i*k) (enc d[j]!)).setCells g (j*k) (enc d[i]!)):=by
 have e:=putRowK_swp enc k hk W g 0 d i j hi hj
 rw [putRowK_self enc k W g 0 d h.hold,Nat.zero_add,Nat.zero_add] at e
 rw [e]
 have hl:=h.lt
 refine ⟨h.up.trans (O':=fun b=>b=g) ⟨rfl,rfl,rfl,by rw [size_putRowK]; exact Nat.le_refl _,fun b hb hn=>?_⟩ fun _ _ h=>h,holdsK_putRowK enc k W g 0 d _ h.hold (size_swp _ _ _),?_⟩
 ·show (W.heap.modify g _)[b]?=_
  rw [Array.getElem?_modify,if_neg (fun e=>hn e.symm)]
 ·obtain ⟨c,h1,h2⟩:=h.row
  refine ⟨putCells id 0 (flatK enc k (swp d i j)) c,?_,?_⟩
  ·show (W.heap.modify g _)[g]?=_
   rw [Array.getElem?_modify,if_pos rfl,h1]
   rfl
  ·simp [putCells,h2]
def ZfS (f:Nat) (lb:Array Value) (enc:α→List Value) (k:Nat) (lt:α→α→Bool) (g:Nat) (T:TypeId) (cs n:Nat) (w0:World):Prop:=
 ∀ (d:Array α) (W:World),SU enc k g T cs w0 d W→d.size=n→∀ i j:Nat,i<n→j<n→Calls Tryz.prog f (#[.int .i64 i,.int .i64 j]++lb) W fun e w'=>e=.returned (.bool (lt d[i]! d[j]!))∧Up W w'
theorem ZfS.on {f:Nat} {lb:Array Value} {lt:α→α→Bool} {n:Nat} {w0 W:World} {d:Array α} (h:ZfS f lb enc k lt g T cs n w0) (hW:SU enc k g T cs w0 d W):ZfS f lb enc k lt g T cs n W:=fun d' W' h'=>h d' W' (hW.trans h')
abbrev LS (f:Nat) (lb:Array Value) (sf:Nat) (sb:Array Value):Value:=.agg #[.func (.func f) #[] lb,.func (.func sf) #[] sb]
abbrev LSo (f:Nat) (lb:Array Value) (sf:Nat) (sb:Array Value):Obj:=.cells #[.func (.func f) #[] lb,.func (.func sf) #[] sb] 245
variable (hk:∀ x,(enc x).length=k) (f:Nat) (lb:Array Value) (sf:Nat) (sb:Array Value) (n:Nat) (hn:n<1152921504606846976) (hswap:SwapSwapsK Tryz.prog sf sb enc k g 0 n)
include hk hn hswap
theorem ZqR {d:Array α} {W:World} (hd:d.size=n) (h0:SU enc k g T cs W d W) (a b m:Nat) (h1:a+m≤b) (h2:b+m≤n):
 Calls Tryz.prog 286 #[LS f lb sf sb,.int .i64 a,.int .i64 b,.int .i64 m] W fun e w'=>e=.returned (.tuple #[])∧SU enc k g T cs W (swpR d a b m) w':=by
 have hg:=h0.lt
 have hB:SU enc k g T cs W d (W.alloc (LSo f lb sf sb)):=h0.more (Up.al _ (Up.rfl' W))
 go_enter Tryz.func286,Tryz.ntmps286
 go_wp2
 go_loopw [8] (fun vi wr=>∃ i:Nat,vi=.int .i64 i∧i≤m∧SU enc k g T cs (W.alloc (LSo f lb sf sb)) (swpR d a b i) wr) (fun vi _=>m-(intOf vi).toNat)
 case atStart=>exact ⟨0,by go_num,by omega,hB.self⟩
 case round=>
  obtain ⟨i,rfl,him,hS⟩:=hrel
  have c1:wr.cell? ⟨W.heap.size,1,none⟩=some (.func (.func sf) #[] sb):=by rw [hS.oth (by simp) (by omega)]; simp
  have HS:Hid (SU enc k g T cs (W.alloc (LSo f lb sf sb)) (swpR d a b i) wr):=hS
  clear hS
  by_cases hi:i<m
  ·have hs:=hswap wr (swpR d a b i) HS.out.hold (by rw [ZdT]; exact hd) (a+i) (b+i) (by omega) (by omega)
   rw [show ((a+i:Nat):Int)=(a:Int)+(i:Int) by omega,show ((b+i:Nat):Int)=(b:Int)+(i:Int) by omega] at hs
   go_wp2
   exact ⟨⟨i+1,by go_num,by omega,HS.out.swap hk (by rw [ZdT]; omega) (by rw [ZdT]; omega)⟩,by simp [intOf]; omega⟩
  ·go_wp2
   go_end0
   have:i=m:=by omega
   subst this
   exact ⟨rfl,hB.trans HS.out⟩
theorem Zpe {d:Array α} {W:World} (hd:d.size=n) (h0:SU enc k g T cs W d W) (a m b:Nat) (h1:a≤m) (h2:m≤b) (h3:b≤n) (h4:a<m∧m<b):
 Calls Tryz.prog 273 #[LS f lb sf sb,.int .i64 a,.int .i64 m,.int .i64 b] W fun e w'=>e=.returned (.tuple #[])∧∃ e,SU enc k g T cs W e w'∧PermIn a b d e∧∀ k,e[k]! = rotF d a m b k:=by
 have hg:=h0.lt
 have hB:SU enc k g T cs W d (W.alloc (LSo f lb sf sb)):=h0.more (Up.al _ (Up.rfl' W))
 have hsw:=fun (d':Array α) (W':World) (hd':d'.size=n) (h':SU enc k g T cs W' d' W') (a b m:Nat) (h1:a+m≤b) (h2:b+m≤n)=>ZqR hk f lb sf sb n hn hswap (T:=T) (cs:=cs) hd' h' a b m h1 h2
 go_enter Tryz.func273,Tryz.ntmps273
 go_wp2
 go_loopw [8,9] (fun vi vj wr=>∃ (i j:Nat) (e:Array α),vi=.int .i64 i∧vj=.int .i64 j∧0<i∧0<j∧i≤m-a∧j≤b-m∧e.size=n∧PermIn a b d e∧(∀ k,rotF e (m-i) m (m+j) k=rotF d a m b k)∧SU enc k g T cs (W.alloc (LSo f lb sf sb)) e wr) (fun vi vj _=>(intOf vi).toNat+(intOf vj).toNat)
 case atStart=>exact ⟨m-a,b-m,d,by go_num,by go_num,by omega,by omega,Nat.le_refl _,Nat.le_refl _,hd,permIn_refl _ _ _,fun k=>by rw [show m-(m-a)=a by omega,show m+(b-m)=b by omega],hB.self⟩
 case round=>
  obtain ⟨i,j,e,rfl,rfl,hi,hj,hia,hjb,he,hP,hR,hS⟩:=hrel
  have c0:wr.cell? ⟨W.heap.size,0,none⟩=some (.func (.func f) #[] lb):=by rw [hS.oth (by simp) (by omega)]; simp
  have c1:wr.cell? ⟨W.heap.size,1,none⟩=some (.func (.func sf) #[] sb):=by rw [hS.oth (by simp) (by omega)]; simp
  have HS:Hid (SU enc k g T cs (W.alloc (LSo f lb sf sb)) e wr):=hS
  have HR:Hid (∀ k,rotF e (m-i) m (m+j) k=rotF d a m b k):=hR
  have HB:Hid (SU enc k g T cs W d (W.alloc (LSo f lb sf sb))):=hB
  clear hS hR hB h0
  by_cases hij:i=j
  ·subst hij
   have q:=hsw e wr he HS.out.self (m-i) m i (by omega) (by omega)
   rw [show ((m-i:Nat):Int)=(m:Int)-(i:Int) by omega] at q
   go_wp2_with (go_at_call 286; refine q.mono ?_; rintro e w' ⟨rfl,hw⟩)
   go_end0
   exact ⟨rfl,swpR e (m-i) m i,(HB.out.trans HS.out).trans hw,permIn_trans _ _ _ _ _ hP (Zgn e (by omega) i (by omega) (by omega) (by omega) (by omega)),fun k=>(ZqH e (by omega) (by omega) k).trans (HR.out k)⟩
  ·by_cases hgt:j<i
   ·have q:=hsw e wr he HS.out.self (m-i) m j (by omega) (by omega)
    rw [show ((m-i:Nat):Int)=(m:Int)-(i:Int) by omega] at q
    go_wp2_with (go_at_call 286; refine q.mono ?_; rintro e w' ⟨rfl,hw⟩)
    refine ⟨⟨i-j,j,swpR e (m-i) m j,by go_num,rfl,by omega,hj,by omega,hjb,by rw [ZdT]; exact he,permIn_trans _ _ _ _ _ hP (Zgn e (by omega) j (by omega) (by omega) (by omega) (by omega)),fun k=>?_,HS.out.trans hw⟩,by simp [intOf]; omega⟩
    rw [show m-(i-j)=m-i+j by omega]
    exact (ZqI e hgt (by omega) (by omega) k).trans (HR.out k)
   ·have q:=hsw e wr he HS.out.self (m-i) (m+j-i) i (by omega) (by omega)
    rw [show ((m-i:Nat):Int)=(m:Int)-(i:Int) by omega,show ((m+j-i:Nat):Int)=(m:Int)+(j:Int)-(i:Int) by omega] at q
    go_wp2_with (go_at_call 286; refine q.mono ?_; rintro e w' ⟨rfl,hw⟩)
    refine ⟨⟨i,j-i,swpR e (m-i) (m+j-i) i,rfl,by go_num,hi,by omega,hia,by omega,by rw [ZdT]; exact he,permIn_trans _ _ _ _ _ hP (Zgn e (by omega) i (by omega) (by omega) (by omega) (by omega)),fun k=>?_,HS.out.trans hw⟩,by simp [intOf]; omega⟩
    rw [show m+(j-i)=m+j-i by omega]
    exact (ZqJ e (by omega) (by omega) (by omega) k).trans (HR.out k)
omit hk hn hswap in
theorem ZiM {lt:α→α→Bool} {d0:Array α} {W:World} (hL:ZfS f lb enc k lt g T cs n W) (h0:SU enc k g T cs W d0 W) {dj:Array α} {wr:World} (hS:SU enc k g T cs (W.alloc (LSo f lb sf sb)) dj wr) (hd:dj.size=n) (hsw:SwapSwapsK Tryz.prog sf sb enc k g 0 n) (i j:Nat) (hi:i<n) (hj:j<n):
 Calls Tryz.prog f (#[.int .i64 i,.int .i64 j]++lb) wr fun e w'=>e=.returned (.bool (lt dj[i]! dj[j]!))∧SU enc k g T cs (W.alloc (LSo f lb sf sb)) dj w'∧w'.cell? ⟨W.heap.size,0,none⟩=some (.func (.func f) #[] lb)∧w'.cell? ⟨W.heap.size,1,none⟩=some (.func (.func sf) #[] sb)∧
  (callFunc sf (#[.int .i64 i,.int .i64 j]++sb)).run Tryz.prog w'=.ok (.value (.tuple #[])) ((w'.setCells g (i*k) (enc dj[j]!)).setCells g (j*k) (enc dj[i]!)):=by
 have hg:=h0.lt
 refine (hL.on (h0.more (Up.al _ (Up.rfl' W))) dj wr hS hd i j hi hj).mono ?_
 rintro e w' ⟨he,hu⟩
 have hS':=hS.more hu
 have hs:=hsw w' dj hS'.hold hd i j hi hj
 rw [Nat.zero_add,Nat.zero_add] at hs
 exact ⟨he,hS',by rw [hS'.oth (by simp) (by omega)]; simp,by rw [hS'.oth (by simp) (by omega)]; simp,hs⟩
theorem Znv {lt:α→α→Bool} (eg:∀ args w,(callFunc f args).run Tryz.prog w=.ok (.enter f args) w) {d:Array α} {W:World} (hd:d.size=n) (h0:SU enc k g T cs W d W) (hL:ZfS f lb enc k lt g T cs n W) (a b:Nat) (hab:a≤b) (hb:b≤n):
 Calls Tryz.prog 268 #[LS f lb sf sb,.int .i64 a,.int .i64 b] W fun e w'=>e=.returned (.tuple #[])∧SU enc k g T cs W (Sort.insertionSort lt d a b) w':=by
 have hB:SU enc k g T cs W d (W.alloc (LSo f lb sf sb)):=h0.more (Up.al _ (Up.rfl' W))
 have hless:=fun dj wr hS hd' i j hi hj=>ZiM (dj:=dj) (wr:=wr) f lb sf sb n hL h0 hS hd' hswap i j hi hj
 have HB:Hid (SU enc k g T cs W d (W.alloc (LSo f lb sf sb))):=hB
 have hg:=h0.lt
 clear h0 hL
 go_enter Tryz.func268,Tryz.ntmps268
 go_wp2
 go_loopw [6] (fun vi wr=>∃ (i:Nat) (dk:Array α),vi=.int .i64 i∧a<i∧i≤b+1∧dk.size=n∧SU enc k g T cs (W.alloc (LSo f lb sf sb)) dk wr∧
  insOuter lt a b i dk=insOuter lt a b (a+1) d) (fun vi _=>b+1-(intOf vi).toNat)
 case atStart=>exact ⟨a+1,d,by go_num,by omega,by omega,hd,hB.self,rfl⟩
 case round=>
  obtain ⟨i,dk,rfl,hai,hib,hsk,hwr,hO⟩:=hrel
  have HO:Hid (insOuter lt a b i dk=insOuter lt a b (a+1) d):=hO
  clear hO
  go_wp2
  ·go_loopw [7] (fun vj wr2=>∃ (j:Nat) (dj:Array α),vj=.int .i64 j∧a≤j∧j≤i∧dj.size=n∧SU enc k g T cs (W.alloc (LSo f lb sf sb)) dj wr2∧
    insInner lt a j dj=insInner lt a i dk) (fun vj _=>(intOf vj).toNat)
   case atStart=>exact ⟨i,dk,rfl,by omega,Nat.le_refl _,hsk,hwr,rfl⟩
   case round=>
    obtain ⟨j,dj,rfl,haj,hji,hsj,hw2,hI⟩:=hrel
    have hlt:i<b:=by assumption
    have c0:wr.cell? ⟨W.heap.size,0,none⟩=some (.func (.func f) #[] lb):=by rw [hw2.oth (by simp) (by omega)]; simp
    have c1:wr.cell? ⟨W.heap.size,1,none⟩=some (.func (.func sf) #[] sb):=by rw [hw2.oth (by simp) (by omega)]; simp
    have HW:Hid (SU enc k g T cs (W.alloc (LSo f lb sf sb)) dj wr):=hw2
    have HI:Hid (insInner lt a j dj=insInner lt a i dk):=hI
    clear hw2 hI hwr hB
    have out:(j≤a∨lt dj[j]! dj[j-1]! = false)→∀ W',SU enc k g T cs (W.alloc (LSo f lb sf sb)) dj W'→∃ (i':Nat) (dk':Array α),Value.int .i64 ((i:Int)+1)=.int .i64 (i':Nat)∧a<i'∧i'≤b+1∧dk'.size=n∧
     SU enc k g T cs (W.alloc (LSo f lb sf sb)) dk' W'∧insOuter lt a b i' dk'=insOuter lt a b (a+1) d:=fun hs W' hW=>
     ⟨i+1,dj,by go_num,by omega,by omega,hsj,hW,
      by rw [← HO.out,insOuter_go _ _ _ _ _ hlt,← HI.out,insInner_stop _ _ _ _ hs]⟩
    have OUT:Hid _:=out
    clear out
    by_cases hja:a<j
    ·have hl:=hless dj wr HW.out hsj j (j-1) (by omega) (by omega)
     rw [show (((j-1:Nat):Int))=(j:Int)-1 by omega] at hl
     clear hless
     cases hlv:lt dj[j]! dj[j-1]! with
     | true=>
      rw [hlv] at hl
      go_wp2_with (go_at_fn f; refine hl.mono ?_; rintro e w' ⟨rfl,hS,c0',c1',hs⟩)
      refine ⟨?_,by simp [intOf]; omega⟩
      (repeat apply Exists.intro)
      refine ⟨⟨j-1,swp dj j (j-1),by congr 1 <;> omega,by omega,by omega,by rw [size_swp]; exact hsj,hS.swap hk (by omega) (by omega),?_⟩,by rw [decide_eq_true hlt,show ((j-1:Nat):Int)=(j:Int)-1 by omega]⟩
      rw [← HI.out,insInner_go lt a j dj hja hlv]
     | false=>
      rw [hlv] at hl
      go_wp2_with (go_at_fn f; refine hl.mono ?_; rintro e w' ⟨rfl,hS,c0',c1',hs⟩)
      exact ⟨OUT.out (.inr hlv) _ hS,by simp [intOf]; omega⟩
    ·go_wp2
     exact ⟨OUT.out (.inl (by omega)) _ HW.out,by simp [intOf]; omega⟩
  ·have hge:¬ i<b:=by assumption
   go_end0
   exact ⟨rfl,by unfold Sort.insertionSort; rw [← HO.out,insOuter_stop _ _ _ _ _ hge]; exact HB.out.trans hwr⟩
end
end Go.Proofs.YtmcdjilbkmhfoaaGreat
