/- A part of the proof of the statement in the last file of this claim: texts on the language of the program and on its functions. No condition. -/
import Derived.Test.YtmcdjilbkmhfoaaGreatCRetryOrders5
import Derived.Test.YtmcdjilbkmhfoaaGreatCRetryOrders8
import Derived.Test.YtmcdjilbkmhfoaaGreatCRetryOrders7
import Derived.Test.YtmcdjilbkmhfoaaGreatCRetryOrders9
import Derived.Test.YtmcdjilbkmhfoaaGreatCRetryOrders1
import Derived.Sort.LotA
import Derived.Test.YtmcdjilbkmhfoaaGreatProg
import Derived.Shelf.SlSortFuncK.RowK2
import Derived.Shelf.GgSortFunc.SmallK
import Derived.Deep.DeepCutAuto
set_option linter.unusedVariables false
set_option linter.unusedSimpArgs false
namespace Go.Proofs.YtmcdjilbkmhfoaaGreat
set_option maxRecDepth 10000
open Go.RowKit
set_option linter.unusedVariables false
set_option maxHeartbeats 16000000
def Zac (n:YNetwork) (find0_:YNetwork) (find1_:List YTrip) (find2_:List YBooking) (find3_:Int) (places:List ByteArray) (before:List Int) (from4_:ByteArray) (k:Int) (due:Int) (s0:Int):Option (Int ⊕ (Unit ⊕ (YTrip × Bool))):=
 cond (decide (s0<(n.legs.length:Int)))
 ((getI n.legs s0).bind fun y1=>
 (Zk places y1.from_).bind fun y2=>
 (getI places k).bind fun y3=>
 cond (!decide (y1.to_=y3))
 (some (.inl (w64 (s0+1))))
 ((getI before y2).bind fun y4=>
 cond (decide (y4<0))
 (some (.inl (w64 (s0+1))))
 ((getI before y2).bind fun y5=>
 (ZbZ n y5 (decide (y1.from_=from4_))).bind fun y6=>
 (Zcc s0 y6 find0_ find1_ find2_ find3_).bind fun y7=>
 cond y7.2
 ((ZF n y7.1).bind fun y8=>
 cond (decide (y8=due))
 (some (.inr (.inr (y7.1,true))))
 (some (.inl (w64 (s0+1)))))
 (some (.inl (w64 (s0+1)))))))
 (some (.inr (.inl ())))
instance (n:YNetwork) (find0_:YNetwork) (find1_:List YTrip) (find2_:List YBooking) (find3_:Int) (places:List ByteArray) (before:List Int) (from4_:ByteArray) (k:Int) (due:Int):LoopE (Zac n find0_ find1_ find2_ find3_ places before from4_ k due):=⟨fun s0=>(.un::.fn 238 [.rp [.sl (find0_.legs.map cLeg),.sl (find0_.off.map cInt),vi find0_.change],.rp [.sl (find1_.map cTrip)],.rp [.sl (find2_.map cBooking)],.rp [vi find3_]]::.sl (places.map cStr)::.sl (before.map cInt)::vs from4_::vi k::vi due::.be 0 0 0::(U 6 (.be 1 0 0::(U 7 (.sl (n.legs.map cLeg)::vi (n.legs.length:Int)::vi s0::(U 49 [])))))),fun s0=>[some ⟨.of 35,3,[[.sl (n.legs.map cLeg),.sl (n.off.map cInt),vi n.change]]⟩,some ⟨.of 55,2,[[vi 0,vi 0]]⟩]⟩
def ZbU (n:YNetwork) (find0_:YNetwork) (find1_:List YTrip) (find2_:List YBooking) (find3_:Int) (places:List ByteArray) (before:List Int) (from4_:ByteArray) (k:Int) (due:Int):Option (YTrip × Bool):=
 (iterF (Zac n find0_ find1_ find2_ find3_ places before from4_ k due) NN 0).bind (selim (fun o0=>
 some ((⟨0,0⟩:YTrip),false)) (fun r=>some r))
instance (n:YNetwork) (find0_:YNetwork) (find1_:List YTrip) (find2_:List YBooking) (find3_:Int) (places:List ByteArray) (before:List Int) (from4_:ByteArray) (k:Int) (due:Int):CT Tryz.prog (ZbU n find0_ find1_ find2_ find3_ places before from4_ k due):=⟨217,[.ag (cNetwork n),.fn 238 [.rp [.sl (find0_.legs.map cLeg),.sl (find0_.off.map cInt),vi find0_.change],.rp [.sl (find1_.map cTrip)],.rp [.sl (find2_.map cBooking)],.rp [vi find3_]],.sl (places.map cStr),.sl (before.map cInt),vs from4_,vi k,vi due],[],fun r=>.tu [.ag [vi r.1.leg,vi r.1.day],vb r.2],fun r=>[],fun H=>by replace H:=H0 H; unfold ZbU at H; exact callM_of Tryz.func217 rfl Tryz.ntmps217 Tryz.results217 fun Q hQ hQn=>wk3⟩
def ZG (n:YNetwork) (find0_:YNetwork) (find1_:List YTrip) (find2_:List YBooking) (find3_:Int) (from2_:ByteArray) (at4_:Int) (y1:List ByteArray) (y2:Int) (s0:Int × (List (List Int))):Option ((Int × (List (List Int))) ⊕ ((List (List Int)) ⊕ ((List YTrip) × Bool))):=
 cond (decide (s0.1≤(y1.length:Int)))
 ((Zat n find0_ find1_ find2_ find3_ from2_ at4_ s0.1).bind fun y3=>
 cond (decide ((y3.length:Int)=0))
 (some (.inr (.inr ([],false))))
 (cond (decide (y2<0))
 (some (.inr (.inr ([],false))))
 ((frz (.un::.fn 238 [.rp [.sl (find0_.legs.map cLeg),.sl (find0_.off.map cInt),vi find0_.change],.rp [.sl (find1_.map cTrip)],.rp [.sl (find2_.map cBooking)],.rp [vi find3_]]::vs from2_::.un::vi at4_::.be 0 0 0::(U 6 (.ms 1::vi y2::.ms 2::vi s0.1::.sl (y3.map cInt)::(U 116 [])))) [some ⟨.of 35,3,[[.sl (n.legs.map cLeg),.sl (n.off.map cInt),vi n.change]]⟩,some ⟨.of 9,1,y1.map cStr⟩,some ⟨.of 23,1,s0.2.map Zjd⟩]).bind fun _=>
 (chk (appOk ((s0.2:List (List Int)).length+([y3]:List (List Int)).length) 24)).bind fun _=>
 some (.inl ((w64 (s0.1+1)),((s0.2:List (List Int))++[y3]))))))
 (some (.inr (.inl s0.2)))
instance (n:YNetwork) (find0_:YNetwork) (find1_:List YTrip) (find2_:List YBooking) (find3_:Int) (from2_:ByteArray) (at4_:Int) (y1:List ByteArray) (y2:Int):LoopE (ZG n find0_ find1_ find2_ find3_ from2_ at4_ y1 y2):=⟨fun s0=>(.un::.fn 238 [.rp [.sl (find0_.legs.map cLeg),.sl (find0_.off.map cInt),vi find0_.change],.rp [.sl (find1_.map cTrip)],.rp [.sl (find2_.map cBooking)],.rp [vi find3_]]::vs from2_::.un::vi at4_::.be 0 0 0::(U 6 (.ms 1::vi y2::.ms 2::vi s0.1::(U 117 [])))),fun s0=>[some ⟨.of 35,3,[[.sl (n.legs.map cLeg),.sl (n.off.map cInt),vi n.change]]⟩,some ⟨.of 9,1,y1.map cStr⟩,some ⟨.of 23,1,s0.2.map Zjd⟩]⟩
def Zad (n:YNetwork) (find0_:YNetwork) (find1_:List YTrip) (find2_:List YBooking) (find3_:Int) (from2_:ByteArray) (y1:List ByteArray) (y2:Int) (o0:(List (List Int))) (y5:Int) (s1:Int):Option (Int ⊕ Int):=
 (getI o0 s1).bind fun y6=>
 (getI y6 y2).bind fun y7=>
 cond (!decide (y7=y5))
 (some (.inl (w64 (s1+1))))
 (some (.inr s1))
instance (n:YNetwork) (find0_:YNetwork) (find1_:List YTrip) (find2_:List YBooking) (find3_:Int) (from2_:ByteArray) (y1:List ByteArray) (y2:Int) (o0:(List (List Int))) (y5:Int):LoopE (Zad n find0_ find1_ find2_ find3_ from2_ y1 y2 o0 y5):=⟨fun s1=>(.un::.fn 238 [.rp [.sl (find0_.legs.map cLeg),.sl (find0_.off.map cInt),vi find0_.change],.rp [.sl (find1_.map cTrip)],.rp [.sl (find2_.map cBooking)],.rp [vi find3_]]::vs from2_::.un::.un::.be 0 0 0::(U 6 (.ms 1::vi y2::.ms 2::.un::.un::vi y5::vi s1::(U 114 [])))),fun s1=>[some ⟨.of 35,3,[[.sl (n.legs.map cLeg),.sl (n.off.map cInt),vi n.change]]⟩,some ⟨.of 9,1,y1.map cStr⟩,some ⟨.of 23,1,o0.map Zjd⟩]⟩
def ZaW (n:YNetwork) (find0_:YNetwork) (find1_:List YTrip) (find2_:List YBooking) (find3_:Int) (from2_:ByteArray) (y1:List ByteArray) (o0:(List (List Int))) (s2:Int × Int × Int × (List YTrip)):Option ((Int × Int × Int × (List YTrip)) ⊕ ((List YTrip) ⊕ ((List YTrip) × Bool))):=
 cond (decide (0<s2.2.2.1))
 ((getI o0 (w64 (s2.2.2.1-1))).bind fun y8=>
 (ZbU n find0_ find1_ find2_ find3_ (y1:List ByteArray) y8 from2_ s2.1 s2.2.1).bind fun y9=>
 cond (!y9.2)
 (some (.inr (.inr ([],false))))
 ((chk (appOk ((s2.2.2.2:List YTrip).length+([y9.1]:List YTrip).length) 16)).bind fun _=>
 (getI n.legs y9.1.leg).bind fun y10=>
 (Zk (y1:List ByteArray) y10.from_).bind fun y11=>
 (getI o0 (w64 (s2.2.2.1-1))).bind fun y12=>
 (getI y12 y11).bind fun y13=>
 some (.inl (y11,y13,(w64 (s2.2.2.1-1)),((s2.2.2.2:List YTrip)++[y9.1])))))
 (some (.inr (.inl s2.2.2.2)))
instance (n:YNetwork) (find0_:YNetwork) (find1_:List YTrip) (find2_:List YBooking) (find3_:Int) (from2_:ByteArray) (y1:List ByteArray) (o0:(List (List Int))):LoopE (ZaW n find0_ find1_ find2_ find3_ from2_ y1 o0):=⟨fun s2=>(.un::.fn 238 [.rp [.sl (find0_.legs.map cLeg),.sl (find0_.off.map cInt),vi find0_.change],.rp [.sl (find1_.map cTrip)],.rp [.sl (find2_.map cBooking)],.rp [vi find3_]]::vs from2_::.un::.un::.be 0 0 0::(U 6 (.sl ((y1:List ByteArray).map cStr)::vi s2.1::.ms 1::.un::.un::vi s2.2.1::vi s2.2.2.1::.ms 2::(U 113 [])))),fun s2=>[some ⟨.of 35,3,[[.sl (n.legs.map cLeg),.sl (n.off.map cInt),vi n.change]]⟩,some ⟨.of 23,1,o0.map Zjd⟩,some ⟨.of 55,2,s2.2.2.2.map cTrip⟩]⟩
def ZaX (o2:(List YTrip)) (s3:Int × (List YTrip)):Option ((Int × (List YTrip)) ⊕ (List YTrip)):=
 cond (decide (0≤s3.1))
 ((getI o2 s3.1).bind fun y14=>
 (chk (appOk ((s3.2:List YTrip).length+([y14]:List YTrip).length) 16)).bind fun _=>
 some (.inl ((w64 (s3.1-1)),((s3.2:List YTrip)++[y14]))))
 (some (.inr s3.2))
instance (o2:(List YTrip)):LoopE (ZaX o2):=⟨fun s3=>(U 19 (.ms 0::.un::.un::.ms 1::vi s3.1::(U 109 []))),fun s3=>[some ⟨.of 55,2,o2.map cTrip⟩,some ⟨.of 55,2,s3.2.map cTrip⟩]⟩
def Zdw (n:YNetwork) (find0_:YNetwork) (find1_:List YTrip) (find2_:List YBooking) (find3_:Int) (from2_:ByteArray) (to_:ByteArray) (at4_:Int):Option ((List YTrip) × Bool):=
 (ZD n).bind fun y1=>
 (Zk y1 to_).bind fun y2=>
 (iterF (ZG n find0_ find1_ find2_ find3_ from2_ at4_ y1 y2) NN (0,([]:List (List Int)))).bind (selim (fun o0=>
 (getI o0 (y1.length:Int)).bind fun y4=>
 (getI y4 y2).bind fun y5=>
 cond (decide (y5<0))
 (some ([],false))
 ((iterF (Zad n find0_ find1_ find2_ find3_ from2_ y1 y2 o0 y5) NN 0).bind (fun o1=>
 (iterF (ZaW n find0_ find1_ find2_ find3_ from2_ y1 o0) NN (y2,y5,o1,([]:List YTrip))).bind (selim (fun o2=>
 (iterF (ZaX o2) NN ((w64 ((o2.length:Int)-1)),([]:List YTrip))).bind (fun o3=>
 some (o3,true))) (fun r=>some r))))) (fun r=>some r))
instance (n:YNetwork) (find0_:YNetwork) (find1_:List YTrip) (find2_:List YBooking) (find3_:Int) (from2_:ByteArray) (to_:ByteArray) (at4_:Int):CT Tryz.prog (Zdw n find0_ find1_ find2_ find3_ from2_ to_ at4_):=⟨151,[.ag (cNetwork n),.fn 238 [.rp [.sl (find0_.legs.map cLeg),.sl (find0_.off.map cInt),vi find0_.change],.rp [.sl (find1_.map cTrip)],.rp [.sl (find2_.map cBooking)],.rp [vi find3_]],vs from2_,vs to_,vi at4_],[],fun r=>.tu [.ms 0,vb r.2],fun r=>[some ⟨.of 55,2,r.1.map cTrip⟩],fun H=>by replace H:=H0 H; unfold Zdw at H; exact callM_of Tryz.func151 rfl Tryz.ntmps151 Tryz.results151 fun Q hQ hQn=>wk3⟩
def Zem (n:YNetwork) (l:List YBooking) (closed:List YTrip) (weight:Int):Option (YNetwork × (List YTrip) × (List YBooking) × Int):=
 some (n,closed,l,weight)
instance (n:YNetwork) (l:List YBooking) (closed:List YTrip) (weight:Int):CT Tryz.prog (Zem n l closed weight):=⟨199,[.ag (cNetwork n),.sl (l.map cBooking),.sl (closed.map cTrip),vi weight],[],fun r=>.fn 238 [.rp [.sl (r.1.legs.map cLeg),.sl (r.1.off.map cInt),vi r.1.change],.rp [.sl (r.2.1.map cTrip)],.rp [.sl (r.2.2.1.map cBooking)],.rp [vi r.2.2.2]],fun r=>[],fun H=>by replace H:=H0 H; unfold Zem at H; exact callM_of Tryz.func199 rfl Tryz.ntmps199 Tryz.results199 fun Q hQ hQn=>wk3⟩
def ZaF (n:YNetwork) (l:List YBooking) (closed:List YTrip) (from3_:ByteArray) (to_:ByteArray) (at5_:Int) (weight:Int):Option ((List YTrip) × Bool):=
 (Za5 n l).bind fun y1=>
 cond (!y1)
 (some ([],false))
 (cond (decide (weight<1))
 (some ([],false))
 ((Zem n l closed weight).bind fun y2=>
 (Zdw n y2.1 y2.2.1 y2.2.2.1 y2.2.2.2 from3_ to_ at5_).bind fun y3=>
 some (y3.1,y3.2)))
instance (n:YNetwork) (l:List YBooking) (closed:List YTrip) (from3_:ByteArray) (to_:ByteArray) (at5_:Int) (weight:Int):CT Tryz.prog (ZaF n l closed from3_ to_ at5_ weight):=⟨134,[.ag (cNetwork n),.sl (l.map cBooking),.sl (closed.map cTrip),vs from3_,vs to_,vi at5_,vi weight],[],fun r=>.tu [.ms 0,vb r.2],fun r=>[some ⟨.of 55,2,r.1.map cTrip⟩],fun H=>by replace H:=H0 H; unfold ZaF at H; exact callM_of Tryz.func134 rfl Tryz.ntmps134 Tryz.results134 fun Q hQ hQn=>wk3⟩
set_option linter.unusedSimpArgs false
set_option linter.unusedSectionVars false
theorem ZlW:@ZbZ=@ZR:=rfl
def sumM {σ ο ο':Type} (h:ο→ο'):σ ⊕ ο→σ ⊕ ο'
 | .inl s=>.inl s
 | .inr o=>.inr (h o)
theorem Zjz {σ ο ο':Type} {b1:σ→Option (σ ⊕ ο)} {b2:σ→Option (σ ⊕ ο')} (h:ο→ο') (hb:∀ s,b2 s=(b1 s).map (sumM h)):∀ (N:Nat) (s:σ),iterF b2 N s=(iterF b1 N s).map h
 | 0,s=>rfl
 | N+1,s=>by
  have ih:=Zjz h hb N
  unfold iterF
  rw [hb s]
  cases h1:b1 s with
  | none=>rfl
  | some r=>
   cases r with
   | inl s'=>exact ih s'
   | inr o=>rfl
theorem ZmV {α β γ:Type} (x:Option α) (f:α→Option β) (g:β→γ):(x.bind f).map g=x.bind fun a=>(f a).map g:=by cases x <;> rfl
theorem Zm0 {β γ:Type} (b:Bool) (x y:Option β) (g:β→γ):(cond b x y).map g=cond b (x.map g) (y.map g):=by cases b <;> rfl
def Zqi (leg:Int):Unit ⊕ Int→Unit ⊕ (YTrip × Bool)
 | .inl u=>.inl u
 | .inr d=>.inr ((⟨leg,d⟩:YTrip),true)
section
variable {n:YNetwork} (hf:ZZ n)
include hf
theorem Zno (l:List YBooking) (closed:List YTrip) (leg at_ weight:Int) (s:Int):ZcP leg at_ n closed l weight s=(ZP n l closed leg at_ weight s).map (sumM (Zqi leg)):=by
 unfold ZcP ZP
 rw [(ZeJ hf leg s).1,Zgm,ZhD,Zd0]
 simp only [Zm0,ZmV,Option.map_some,sumM,Zqi]
theorem Znp {l:List YBooking} (hl:l.length≤1048576) {closed:List YTrip} (hc:closed.length≤1048576) {leg:Int} {y:YLeg} (hy:getI n.legs leg=some y) (at_ weight:Int):
 ∃ d,ZH n l closed leg at_ weight=some d∧Zcc leg at_ n closed l weight=some (if d<0 then ((⟨0,0⟩:YTrip),false) else ((⟨leg,d⟩:YTrip),true)):=by
 have hl0:Tot (iterF (ZP n l closed leg at_ weight) NN 0) fun r=>∀ d,r=.inr d→0≤d:=by
  refine Tot.loop (fun k s=>∃ i:Nat,s=(i:Int)∧i+k=61) (fun k s hs=>?_) NN 61 0 ⟨0,rfl,rfl⟩ (by unfold NN; omega)
  obtain ⟨i,rfl,hk⟩:=hs
  unfold ZP
  refine Tot.cond (fun hd=>?_) fun hd=>Tot.ret (fun d h=>by cases h)
  have hi:=of_decide_eq_true hd
  have hw:w64 ((i:Int)+1)=((i+1:Nat):Int):=by rw [Zc (by omega)]; omega
  have go:Zkj (fun k (s:Int)=>∃ i:Nat,s=(i:Int)∧i+k=61) (fun r:Unit ⊕ Int=>∀ d,r=.inr d→0≤d) k (Sum.inl (w64 ((i:Int)+1))):=⟨k-1,by omega,i+1,hw,by omega⟩
  obtain ⟨b,hb⟩:=Zp0 hf leg (i:Int)
  obtain ⟨v,hv⟩:=ZeB (n:=n) (t:=⟨leg,(i:Int)⟩) hy
  obtain ⟨q,hq⟩:=ZeW hl (⟨leg,(i:Int)⟩:YTrip)
  rw [hb,Option.bind_some]
  refine Tot.cond (fun _=>?_) fun _=>Tot.ret go
  rw [hv,Option.bind_some]
  refine Tot.cond (fun _=>?_) fun _=>Tot.ret go
  rw [Zd0,Zea hc,Option.bind_some]
  refine Tot.cond (fun _=>?_) fun _=>Tot.ret go
  rw [hy,Option.bind_some,hq,Option.bind_some]
  exact Tot.cond (fun _=>Tot.ret (fun d h=>by cases h; omega)) fun _=>Tot.ret go
 obtain ⟨r,e,hr⟩:=hl0
 have e2:=Zjz (Zqi leg) (Zno hf l closed leg at_ weight) NN (0:Int)
 rw [e] at e2
 unfold ZH Zcc
 rw [e,e2]
 cases r with
 | inl u=>exact ⟨-1,rfl,rfl⟩
 | inr d=>exact ⟨d,rfl,by rw [if_neg (by have:=hr d rfl; omega)]; rfl⟩
theorem ZoW {l:List YBooking} (hl:l.length≤1048576) {closed:List YTrip} (hc:closed.length≤1048576) (weight legs f:Int) {best:List Int} (hb:best.length=(Za n).length) (k:Int) {lst:List Int} (hlst:lst.length=(Za n).length) (ch:Bool) {i:Nat} (hi:i<n.legs.length):
 ∃ lst' ch',Zax n l closed weight (Za n) best f ((i:Int),lst)=some (.inl (((i+1:Nat):Int),lst'))∧ZT n n closed l weight legs (Za n) f (k,best) ((i:Int),ch,lst)=some (.inl (((i+1:Nat):Int),ch',lst'))∧lst'.length=(Za n).length∧((ch'=ch∧lst'=lst)∨ch'=true):=by
 have hp:=plen hf
 have hll:=hf.legs
 have hw:w64 ((i:Int)+1)=((i+1:Nat):Int):=by rw [Zc (by omega)]; omega
 obtain ⟨y,hy,hm⟩:=Zei (xs:=n.legs) (i:=(i:Int)) ⟨by omega,by omega⟩
 obtain ⟨m1,m2⟩:=ZeV hm
 have a0:=ZdG m1
 have a1:=(Zer (Za n) y.from_).2
 have b0:=ZdG m2
 have b1:=(Zer (Za n) y.to_).2
 obtain ⟨v6,g6,_⟩:=Zei (xs:=best) (i:=idxV (Za n) y.from_) ⟨a0,by omega⟩
 obtain ⟨v11,g11,_⟩:=Zei (xs:=lst) (i:=idxV (Za n) y.to_) ⟨b0,by omega⟩
 obtain ⟨z,ez,_⟩:=Zgi (n:=n) v6 (decide (idxV (Za n) y.from_=f))
 obtain ⟨d,ed,ef⟩:=Znp hf hl hc hy z weight
 obtain ⟨e,he⟩:=ZdF (n:=n) (t:=⟨(i:Int),d⟩) hy
 unfold Zax ZT
 have hpa:∀ p,Zk (Za n) p=some (idxV (Za n) p):=fun p=>by rw [Zdd]; exact ZeU hf p
 simp only [decide_eq_true (show (i:Int)<n.legs.length by omega),cond_true,hy,Option.bind_some,ZeU hf,hpa,g6,hw,ZlW,ez,ed,ef,g11,Zgx]
 by_cases hu:v6<0
 ·simp only [decide_eq_true hu,cond_true]
  exact ⟨lst,ch,rfl,rfl,hlst,.inl ⟨rfl,rfl⟩⟩
 simp only [decide_eq_false hu,cond_false]
 by_cases hd:d<0
 ·simp only [decide_eq_true hd,cond_true,if_pos hd,cond_false]
  exact ⟨lst,ch,rfl,rfl,hlst,.inl ⟨rfl,rfl⟩⟩
 simp only [decide_eq_false hd,cond_false,if_neg hd,cond_true,he,Option.bind_some]
 by_cases h1:v11<0
 ·simp only [decide_eq_true h1,cond_true]
  exact ⟨_,true,rfl,rfl,by rw [List.length_set]; exact hlst,.inr rfl⟩
 simp only [decide_eq_false h1,cond_false]
 by_cases h2:e<v11
 ·simp only [decide_eq_true h2,cond_true]
  exact ⟨_,true,rfl,rfl,by rw [List.length_set]; exact hlst,.inr rfl⟩
 ·simp only [decide_eq_false h2,cond_false]
  exact ⟨lst,ch,rfl,rfl,hlst,.inl ⟨rfl,rfl⟩⟩
theorem Zmm {l:List YBooking} (hl:l.length≤1048576) {closed:List YTrip} (hc:closed.length≤1048576) (weight legs f:Int) {best:List Int} (hb:best.length=(Za n).length) (hbl:best.length≤1048576) (k:Int):
 ∃ r ch,Zaf n l closed weight (Za n) best f=some r∧iterF (ZT n n closed l weight legs (Za n) f (k,best)) NN (0,false,best)=some (ch,r)∧r.length=(Za n).length∧(ch=false→r=best):=by
 have hll:=hf.legs
 have key:∀ (d i:Nat),i+d=n.legs.length→∀ (lst:List Int) (ch:Bool),lst.length=(Za n).length→(ch=false→lst=best)→∀ N,d<N→
  ∃ r ch',iterF (Zax n l closed weight (Za n) best f) N ((i:Int),lst)=some r∧iterF (ZT n n closed l weight legs (Za n) f (k,best)) N ((i:Int),ch,lst)=some (ch',r)∧r.length=(Za n).length∧(ch'=false→r=best):=by
  intro d
  induction d with
  | zero=>
   intro i hi lst ch h1 h2 N hN
   obtain ⟨N,rfl⟩:∃ M,N=M+1:=⟨N-1,by omega⟩
   have hnot:¬ (i:Int)<n.legs.length:=by omega
   refine ⟨lst,ch,?_,?_,h1,h2⟩
   ·unfold iterF Zax
    simp only [decide_eq_false hnot,cond_false]; rfl
   ·unfold iterF ZT
    simp only [decide_eq_false hnot,cond_false]; rfl
  | succ d ih=>
   intro i hi lst ch h1 h2 N hN
   obtain ⟨N,rfl⟩:∃ M,N=M+1:=⟨N-1,by omega⟩
   obtain ⟨lst',ch',e1,e2,h3,h4⟩:=ZoW hf hl hc weight legs f hb k h1 ch (show i<n.legs.length by omega)
   obtain ⟨r,c,q1,q2,q3,q4⟩:=ih (i+1) (by omega) lst' ch' h3 (fun h=>by
    rcases h4 with ⟨a,b⟩ | a
    ·rw [b]; exact h2 (a ▸ h)
    ·rw [a] at h; cases h) N (by omega)
   refine ⟨r,c,?_,?_,q3,q4⟩
   ·unfold iterF; rw [e1]; exact q1
   ·unfold iterF; rw [e2]; exact q2
 obtain ⟨r,ch,q1,q2,q3,q4⟩:=key n.legs.length 0 (by omega) best false hb (fun _=>rfl) NN (by unfold NN; omega)
 have e0:((0:Nat):Int)=0:=rfl
 rw [e0] at q1 q2
 refine ⟨r,ch,?_,q2,q3,q4⟩
 unfold Zaf
 rw [Zjx hbl,Option.bind_some,q1]; rfl
omit hf in
theorem Zic {l:List YBooking} {closed:List YTrip} {weight f at_:Int} {i:Nat} (h:ZU n l closed weight f at_ (i+1)=ZU n l closed weight f at_ i):∀ k,ZU n l closed weight f at_ (i+k)=ZU n l closed weight f at_ i
 | 0=>rfl
 | k+1=>by
  have ih:=Zic h k
  have e1:ZU n l closed weight f at_ (i+(k+1))=ZlZ n l closed weight f (ZU n l closed weight f at_ (i+k)):=rfl
  have e2:ZU n l closed weight f at_ (i+1)=ZlZ n l closed weight f (ZU n l closed weight f at_ i):=rfl
  rw [e1,ih,← e2,h]
theorem Zmn {l:List YBooking} (hl:l.length≤1048576) {closed:List YTrip} (hc:closed.length≤1048576) (weight f at_:Int) (hp:(Za n).length≤1048576) (legs:Nat) (hlegs:legs≤1048576):
 iterF (ZS n n closed l weight (legs:Int) (Za n) f) NN (0,ZU n l closed weight f at_ 0)=some (ZU n l closed weight f at_ legs):=by
 have key:∀ (d i:Nat),i+d=legs→∀ N,d<N→iterF (ZS n n closed l weight (legs:Int) (Za n) f) N ((i:Int),ZU n l closed weight f at_ i)=some (ZU n l closed weight f at_ legs):=by
  intro d
  induction d with
  | zero=>
   intro i hi N hN
   obtain ⟨N,rfl⟩:∃ M,N=M+1:=⟨N-1,by omega⟩
   have:i=legs:=by omega
   subst this
   unfold iterF ZS
   simp only [decide_eq_false (show ¬ (i:Int)<(i:Int) by omega),cond_false]; rfl
  | succ d ih=>
   intro i hi N hN
   obtain ⟨N,rfl⟩:∃ M,N=M+1:=⟨N-1,by omega⟩
   have hbl:=Zel hf hl hc weight f at_ i
   have hwi:w64 ((i:Int)+1)=((i+1:Nat):Int):=by rw [Zc (by omega)]; omega
   obtain ⟨r,ch,q1,q2,q3,q4⟩:=Zmm hf hl hc weight (legs:Int) f hbl (by omega) (i:Int)
   have hr:ZU n l closed weight f at_ (i+1)=r:=by
    have:=(Ze6 hf hl hc weight f at_ i).1
    rw [q1] at this
    exact (Option.some.inj this).symm
   have ha:chk (appOk ((([]:List Int):List Int).length+(ZU n l closed weight f at_ i).length) 8)=some ():=by
    simp only [List.length_nil]; exact chk0 (by omega) (by omega)
   have body:ZS n n closed l weight (legs:Int) (Za n) f ((i:Int),ZU n l closed weight f at_ i)=(cond (!ch) (some (.inr r)) (some (.inl (((i+1:Nat):Int),r)))):=by
    unfold ZS
    simp only [decide_eq_true (show (i:Int)<(legs:Int) by omega),cond_true,ha,Option.bind_some,List.nil_append,q2,hwi]
   unfold iterF
   rw [body]
   cases ch with
   | false=>
    have e:=q4 rfl
    rw [← hr] at e
    have hconst:=Zic e (d+1)
    rw [show i+(d+1)=legs by omega] at hconst
    show some r=_
    rw [← hr,e,hconst]
   | true=>
    rw [← hr]
    exact ih (i+1) (by omega) N (by omega)
 exact key legs 0 (by omega) NN (by unfold NN; omega)
theorem Znm (hp:(Za n).length≤1048576) (f:Int) (hf0:0≤f∧f<((Za n).length:Int)) (at_:Int):Zbw (Za n) f at_=some ((List.replicate (Za n).length (-1:Int)).set f.toNat (if 0 > at_ then 0 else at_)):=by
 have hmax:ZcO at_ 0=some (if 0 > at_ then 0 else at_):=by
  unfold ZcO
  by_cases h:at_<0
  ·rw [if_pos (by omega)]
   by_cases h2:0<at_
   ·omega
   ·simp [h2,h]
  ·rw [if_neg (by omega)]
   by_cases h2:0<at_
   ·simp [h2,h]
   ·have:at_=0:=by omega
    subst this; simp
 generalize hm:(if 0 > at_ then 0 else at_:Int)=mx at hmax ⊢
 have hLl:((List.replicate (Za n).length (-1:Int)).set f.toNat mx).length=(Za n).length:=by simp
 have hLi:∀ i:Nat,i<(Za n).length→((List.replicate (Za n).length (-1:Int)).set f.toNat mx)[i]?=some (if (i:Int)=f then mx else -1):=fun i hi=>by
  by_cases h:(i:Int)=f
  ·rw [if_pos h,show f.toNat=i by omega,List.getElem?_set_self (by simpa using hi)]
  ·rw [if_neg h,List.getElem?_set_ne (by omega),List.getElem?_replicate,if_pos hi]
 generalize (List.replicate (Za n).length (-1:Int)).set f.toNat mx=L at hLl hLi ⊢
 have e:iterF (ZaY (Za n) f at_) NN (0,[])=some L:=by
  have:=Zd6 (body:=ZaY (Za n) f at_) (fun i:Nat=>((i:Int),L.take i)) (n:=(Za n).length) (o:=L) (fun i hi=>?_) ?_ NN (by unfold NN; omega)
  ·simpa using this
  ·have hw:w64 ((i:Int)+1)=((i+1:Nat):Int):=by rw [Zc (by omega)]; omega
   have hx:=hLi i hi
   have hlen:(L.take i).length=i:=by rw [List.length_take]; omega
   have ha:∀ x:Int,chk (appOk ((L.take i).length+([x]:List Int).length) 8)=some ():=fun x=>Zdh (by simp only [List.length_cons,List.length_nil]; omega) (by omega)
   unfold ZaY
   rw [← Zft hx]
   by_cases h:(i:Int)=f
   ·simp only [decide_eq_true (show (i:Int)<((Za n).length:Int) by omega),decide_eq_true h,cond_true,hmax,Option.bind_some,ha,hw,if_pos h]
   ·simp only [decide_eq_true (show (i:Int)<((Za n).length:Int) by omega),decide_eq_false h,cond_true,cond_false,Option.bind_some,ha,hw,if_neg h]
  ·unfold ZaY
   simp [← hLl]
 unfold Zbw
 rw [e]; rfl
theorem Zmd {l:List YBooking} (hl:l.length≤1048576) {closed:List YTrip} (hc:closed.length≤1048576) (weight:Int) {from_:ByteArray} (h0:0≤idxV (Za n) from_) {at_:Int} (hat:at_≤100000) (hp:(Za n).length≤1048576) (legs:Nat) (hlegs:legs≤1048576):
 Zat n n closed l weight from_ at_ (legs:Int)=some (ZU n l closed weight (idxV (Za n) from_) at_ legs):=by
 have hlt:=(Zer (Za n) from_).2
 have e0:iterF (Zap n n closed l weight at_ (legs:Int) (Za n) (idxV (Za n) from_)) NN (0,[])=some (List.replicate (Za n).length (-1:Int)):=by
  refine Zd6 (body:=Zap n n closed l weight at_ (legs:Int) (Za n) (idxV (Za n) from_)) (fun i:Nat=>((i:Int),List.replicate i (-1:Int))) (n:=(Za n).length) (o:=List.replicate (Za n).length (-1:Int)) (fun i hi=>?_) ?_ NN (by unfold NN; omega)
  ·have hw:w64 ((i:Int)+1)=((i+1:Nat):Int):=by rw [Zc (by omega)]; omega
   have ha:chk (appOk ((List.replicate i (-1:Int)).length+([(-1)]:List Int).length) 8)=some ():=Zdh (by simp only [List.length_replicate,List.length_cons,List.length_nil]; omega) (by omega)
   unfold Zap
   simp only [decide_eq_true (show (i:Int)<((Za n).length:Int) by omega),cond_true,ha,Option.bind_some,hw,List.replicate_succ']
  ·unfold Zap
   simp
 have hfirst:ZU n l closed weight (idxV (Za n) from_) at_ 0=(List.replicate (Za n).length (-1:Int)).set (idxV (Za n) from_).toNat (if 0 > at_ then 0 else at_):=by
  unfold ZU; rw [Znm hf hp _ ⟨h0,hlt⟩]; rfl
 obtain ⟨x,hx,_⟩:=Zei (xs:=List.replicate (Za n).length (-1:Int)) (i:=idxV (Za n) from_) ⟨h0,by rw [List.length_replicate]; exact hlt⟩
 unfold Zat
 rw [Zdd,(ZaL hf).1,(ZaL hf).2]
 simp only [Option.bind_some,ZeU hf,decide_eq_false (show ¬ idxV (Za n) from_<0 by omega),decide_eq_false (show ¬ 100000<at_ by omega),decide_eq_false (show ¬ (legs:Int)<0 by omega),cond_false,e0,hx,← hfirst,Zmn hf hl hc weight _ at_ hp legs hlegs]
end
section
variable {n:YNetwork} (hf:ZZ n)
include hf
structure Zp6 (n:YNetwork) (l:List YBooking) (closed:List YTrip) (at_ weight:Int) (t:YTrip):Prop where
 trip:Zc3 n t=true
 start:at_≤Zbp n t
 open_:Zar closed t=some false
 room:∃ y q,getI n.legs t.leg=some y∧ZN l t=some q∧weight≤w64 (y.room-q)
theorem ZlM {l:List YBooking} {closed:List YTrip} {leg at_ weight d:Int} (h:ZH n l closed leg at_ weight=some d):d=-1∨Zp6 n l closed at_ weight ⟨leg,d⟩:=by
 unfold ZH at h
 cases e:iterF (ZP n l closed leg at_ weight) NN 0 with
 | none=>rw [e] at h; cases h
 | some r=>
  rw [e] at h
  cases r with
  | inl u=>exact .inl (Option.some.inj h).symm
  | inr d'=>
   obtain rfl:d'=d:=Option.some.inj h
   refine .inr ?_
   have:=Zf9 (body:=ZP n l closed leg at_ weight) (P:=fun r=>∀ d,r=.inr d→Zp6 n l closed at_ weight ⟨leg,d⟩) (fun s o hs=>?_) NN 0 _ e
   ·exact this d' rfl
   ·unfold ZP at hs
    by_cases h60:s≤60
    ·rw [decide_eq_true h60,cond_true] at hs
     obtain ⟨_,b,hb⟩:=ZeJ hf leg s
     have hb':=hb
     rw [hb,Option.bind_some] at hs
     intro d hd
     subst hd
     cases b with
     | false=>simp at hs
     | true=>
      have ht:Zc3 n ⟨leg,s⟩=true:=by unfold Zc3; rw [hb']; rfl
      simp only [cond_true] at hs
      cases h1:Zg n ⟨leg,s⟩ with
      | none=>rw [h1] at hs; cases hs
      | some v=>
       rw [h1,Option.bind_some] at hs
       by_cases h2:at_≤v
       ·rw [decide_eq_true h2,cond_true] at hs
        cases h3:Zar closed ⟨leg,s⟩ with
        | none=>rw [h3] at hs; cases hs
        | some c=>
         rw [h3,Option.bind_some] at hs
         cases c with
         | true=>simp at hs
         | false=>
          simp only [Bool.not_false,cond_true] at hs
          cases h4:getI n.legs leg with
          | none=>rw [h4] at hs; cases hs
          | some y=>
           rw [h4,Option.bind_some] at hs
           cases h5:ZN l ⟨leg,s⟩ with
           | none=>rw [h5] at hs; cases hs
           | some q=>
            rw [h5,Option.bind_some] at hs
            by_cases h6:weight≤w64 (y.room-q)
            ·rw [decide_eq_true h6,cond_true] at hs
             have:s=d:=by simpa using hs
             rw [← this]
             exact ⟨ht,by unfold Zbp; rw [h1]; exact h2,h3,y,q,h4,h5,h6⟩
            ·rw [decide_eq_false h6] at hs; simp at hs
       ·rw [decide_eq_false h2] at hs; simp at hs
    ·rw [decide_eq_false h60] at hs
     intro d hd
     subst hd
     simp at hs
theorem ZnP {l:List YBooking} {closed:List YTrip} {leg at_ weight d:Int} (h:ZH n l closed leg at_ weight=some d):d=-1∨Zc3 n ⟨leg,d⟩=true:=by
 rcases ZlM hf h with h | h
 ·exact .inl h
 ·exact .inr h.trip
omit hf in
theorem Zf6 {α:Type} {xs:List α} {i:Int} {v:α} (h0:0≤i) (h1:i<xs.length):getI (xs.set i.toNat v) i=some v:=by
 unfold getI; rw [if_pos h0,List.getElem?_set_self (by omega)]
omit hf in
theorem Zkv {α:Type} {xs:List α} {i j:Int} {v:α} (h0:0≤i) (h:j≠i):getI (xs.set i.toNat v) j=getI xs j:=by
 unfold getI
 by_cases hj:0≤j
 ·rw [if_pos hj,if_pos hj,List.getElem?_set_ne (by omega)]
 ·rw [if_neg hj,if_neg hj]
def LeAt (r:List Int) (x v:Int):Prop:=∃ w,getI r x=some w∧0≤w∧w≤v
def Zl9 (n:YNetwork) (l:List YBooking) (closed:List YTrip) (weight f:Int) (r:List Int) (i:Nat) (x v:Int):Prop:=
 ∃ (y:YLeg) (d u z:Int),n.legs[i]?=some y∧idxV (Za n) y.to_=x∧getI r (idxV (Za n) y.from_)=some u∧¬ u<0∧ZR n u (decide (idxV (Za n) y.from_=f))=some z∧ZH n l closed (i:Int) z weight=some d∧¬ d<0∧Ze n ⟨(i:Int),d⟩=some v
theorem Zpf (hn:Zb n=some true) {l:List YBooking} (hl:l.length≤1048576) {closed:List YTrip} (hc:closed.length≤1048576) (weight:Int) {best:List Int} (hb:best.length=(Za n).length) (f:Int):
 Tot (Zaf n l closed weight (Za n) best f) fun r=>(∀ x v,getI best x=some v→0≤v→LeAt r x v)∧∀ x v,Cand n l closed weight f best x v→LeAt r x v:=by
 have hp:=plen hf
 have hll:=hf.legs
 unfold Zaf
 refine Tot.bind (P:=fun r=>r=best) ?_ fun r hr=>?_
 ·by_cases h1:best.length≤1048576
  ·exact Tot.of (Zjx h1) rfl
  ·unfold Zbs
   exact Tot.chk (Zgu (by simp only [List.length_nil]; omega) (by omega)) (Tot.ret (by simp))
 ·subst hr
  refine Tot.bind (P:=fun o=>(∀ x v,getI r x=some v→0≤v→LeAt o x v)∧∀ x v,Cand n l closed weight f r x v→LeAt o x v) ?_ fun o ho=>Tot.ret ho
  refine Tot.loop (fun (k:Nat) (s:Int × List Int)=>∃ i:Nat,s.1=(i:Int)∧i+k=n.legs.length∧s.2.length=(Za n).length∧(∀ x v,getI r x=some v→0≤v→LeAt s.2 x v)∧∀ j,j<i→∀ x v,Zl9 n l closed weight f r j x v→LeAt s.2 x v) (fun k s hs=>?_) NN n.legs.length _ ⟨0,rfl,by omega,hb,fun x v h h0=>⟨v,h,h0,Int.le_refl _⟩,fun j hj=>by omega⟩ (by unfold NN; omega)
  obtain ⟨i,hi,hk,hlen,hA,hB⟩:=hs
  unfold Zax
  rw [hi]
  refine Tot.cond (fun hd=>?_) fun hd=>Tot.ret ⟨hA,fun x v h=>?_⟩
  case refine_2=>
   obtain ⟨j,y,d,u,z,c1,c2⟩:=h
   have h1:=(List.getElem?_eq_some_iff.1 c1).1
   have h2:=of_decide_eq_false hd
   exact hB j (by omega) x v ⟨y,d,u,z,c1,c2⟩
  have hlt:=of_decide_eq_true hd
  have hw:w64 ((i:Int)+1)=((i+1:Nat):Int):=by rw [Zc (by omega)]; omega
  obtain ⟨y,hy,hm⟩:=Zei (xs:=n.legs) (i:=(i:Int)) ⟨by omega,hlt⟩
  obtain ⟨m1,m2⟩:=ZeV hm
  have a0:=ZdG m1
  have a1:=(Zer (Za n) y.from_).2
  have b0:=ZdG m2
  have b1:=(Zer (Za n) y.to_).2
  obtain ⟨v6,g6,_⟩:=Zei (xs:=r) (i:=idxV (Za n) y.from_) ⟨a0,by omega⟩
  obtain ⟨v11,g11,_⟩:=Zei (xs:=s.2) (i:=idxV (Za n) y.to_) ⟨b0,by omega⟩
  simp only [hy,Option.bind_some,ZeU hf,g6,hw]
  have hyi:n.legs[i]?=some y:=by rw [Zd] at hy; exact hy
  have go:∀ (s':List Int),s'.length=(Za n).length→(∀ x v,LeAt s.2 x v→LeAt s' x v)→(∀ x v,Zl9 n l closed weight f r i x v→LeAt s' x v)→Zkj (fun (k:Nat) (s:Int × List Int)=>∃ i:Nat,s.1=(i:Int)∧i+k=n.legs.length∧s.2.length=(Za n).length∧(∀ x v,getI r x=some v→0≤v→LeAt s.2 x v)∧∀ j,j<i→∀ x v,Zl9 n l closed weight f r j x v→LeAt s.2 x v) (fun o:List Int=>(∀ x v,getI r x=some v→0≤v→LeAt o x v)∧∀ x v,Cand n l closed weight f r x v→LeAt o x v) k (Sum.inl (((i+1:Nat):Int),s')):=fun s' h1 h2 h3=>
   ⟨k-1,by omega,i+1,rfl,by omega,h1,fun x v h h0=>h2 x v (hA x v h h0),fun j hj x v h=>by
    by_cases hji:j=i
    ·subst hji; exact h3 x v h
    ·exact h2 x v (hB j (by omega) x v h)⟩
  refine Tot.cond (fun hu=>Tot.ret (go _ hlen (fun x v h=>h) fun x v h=>?_)) fun hu=>?_
  ·exfalso
   obtain ⟨y',d,u,z,c1,c2,c3,c4,_⟩:=h
   rw [hyi] at c1
   obtain rfl:=Option.some.inj c1
   rw [g6] at c3
   obtain rfl:=Option.some.inj c3
   exact c4 (of_decide_eq_true hu)
  obtain ⟨z,ez,_⟩:=Zgi (n:=n) v6 (decide (idxV (Za n) y.from_=f))
  obtain ⟨d,ed,_⟩:=Zir hf hl hc hy z weight
  have hcI:∀ x v,Zl9 n l closed weight f r i x v→¬ d<0∧x=idxV (Za n) y.to_∧Ze n ⟨(i:Int),d⟩=some v:=by
   rintro x v ⟨y',d',u,z',c1,c2,c3,c4,c5,c6,c7,c8⟩
   rw [hyi] at c1
   obtain rfl:=Option.some.inj c1
   rw [g6] at c3
   obtain rfl:=Option.some.inj c3
   rw [ez] at c5
   obtain rfl:=Option.some.inj c5
   rw [ed] at c6
   obtain rfl:=Option.some.inj c6
   exact ⟨c7,c2.symm,c8⟩
  rw [ez,Option.bind_some,ed,Option.bind_some]
  refine Tot.cond (fun hdd=>Tot.ret (go _ hlen (fun x v h=>h) fun x v h=>absurd (of_decide_eq_true hdd) (hcI x v h).1)) fun hdn=>?_
  have htr:Zc3 n ⟨(i:Int),d⟩=true:=by
   rcases ZnP hf ed with h | h
   ·subst h; have:=of_decide_eq_false hdn; omega
   ·exact h
  obtain ⟨e,he⟩:=ZdF (n:=n) (t:=⟨(i:Int),d⟩) hy
  have he0:0≤e:=by
   obtain ⟨_,h2,h3,h4,_⟩:=ZbF hf hn htr
   rw [he] at h2
   have:=Option.some.inj h2
   omega
  simp only [he,Option.bind_some,g11]
  have setok:=fun (hv:v11<0∨e<v11)=>go (s.2.set (Int.toNat (idxV (Za n) y.to_)) e) (by rw [List.length_set]; exact hlen) (fun x v h=>by
   obtain ⟨w,hw1,hw2,hw3⟩:=h
   by_cases hx:x=idxV (Za n) y.to_
   ·subst hx
    rw [g11] at hw1
    obtain rfl:=Option.some.inj hw1
    exact ⟨_,Zf6 b0 (by omega),he0,by omega⟩
   ·exact ⟨w,by rw [Zkv b0 hx]; exact hw1,hw2,hw3⟩) (fun x v h=>by
   obtain ⟨_,rfl,h8⟩:=hcI x v h
   rw [he] at h8
   obtain rfl:=Option.some.inj h8
   exact ⟨_,Zf6 b0 (by omega),he0,Int.le_refl _⟩)
  refine Tot.cond (fun h=>Tot.ret (setok (.inl (of_decide_eq_true h)))) fun h1=>Tot.cond (fun h=>Tot.ret (setok (.inr (of_decide_eq_true h)))) fun h2=>Tot.ret (go _ hlen (fun x v h=>h) fun x v h=>?_)
  obtain ⟨_,rfl,h8⟩:=hcI x v h
  rw [he] at h8
  obtain rfl:=Option.some.inj h8
  have h1:=of_decide_eq_false h1
  have h2:=of_decide_eq_false h2
  exact ⟨v11,g11,by omega,by omega⟩
theorem Zhj (hn:Zb n=some true) {l:List YBooking} (hl:l.length≤1048576) {closed:List YTrip} (hc:closed.length≤1048576) (weight f at_:Int) (k:Nat):
 (∀ x v,getI (ZU n l closed weight f at_ k) x=some v→0≤v→LeAt (ZU n l closed weight f at_ (k+1)) x v)∧∀ x v,Cand n l closed weight f (ZU n l closed weight f at_ k) x v→LeAt (ZU n l closed weight f at_ (k+1)) x v:=by
 obtain ⟨r,e,h⟩:=Zpf hf hn hl hc weight (Zel hf hl hc weight f at_ k) f
 have h1:=(Ze6 hf hl hc weight f at_ k).1
 rw [e] at h1
 obtain rfl:=Option.some.inj h1
 exact h
end
section
variable {n:YNetwork} (hf:ZZ n)
include hf
omit hf in
theorem Zqn {l:List ByteArray} {p q:ByteArray} (hp:0≤idxV l p):decide (idxV l p=idxV l q)=decide (p=q):=by
 by_cases h:p=q
 ·subst h; simp
 ·rw [decide_eq_false h]
  refine decide_eq_false fun he=>h ?_
  have h1:=ZeH hp
  have h2:=ZeH (l:=l) (p:=q) (by omega)
  rw [← he,h1] at h2
  exact Option.some.inj h2
def Zp7 (n:YNetwork) (l:List YBooking) (closed:List YTrip) (weight f:Int) (r:List Int) (x v:Int) (t:YTrip):Prop:=
 ∃ (i:Nat) (y:YLeg) (d u z:Int),t=⟨(i:Int),d⟩∧n.legs[i]?=some y∧idxV (Za n) y.to_=x∧getI r (idxV (Za n) y.from_)=some u∧¬ u<0∧ZR n u (decide (idxV (Za n) y.from_=f))=some z∧ZH n l closed (i:Int) z weight=some d∧¬ d<0∧Ze n ⟨(i:Int),d⟩=some v
theorem ZjD {l:List YBooking} (hl:l.length≤1048576) {closed:List YTrip} (hc:closed.length≤1048576) (weight:Int) {from_:ByteArray} {before:List Int} (hb:before.length=(Za n).length) {q0:ByteArray} {x:Int} (hxq:x=idxV (Za n) q0) (hx:0≤x∧x<(Za n).length) (e:Int) {i:Nat} (hi:i<n.legs.length):
 (Zbj n l closed weight (Za n) before (idxV (Za n) from_) x e (i:Int)=some (.inl ((i+1:Nat):Int))∧Zac n n closed l weight (Za n) before from_ x e (i:Int)=some (.inl ((i+1:Nat):Int))∧¬ Zl9 n l closed weight (idxV (Za n) from_) before i x e)∨
 ∃ t,Zbj n l closed weight (Za n) before (idxV (Za n) from_) x e (i:Int)=some (.inr (.inr t))∧Zac n n closed l weight (Za n) before from_ x e (i:Int)=some (.inr (.inr (t,true)))∧Zp7 n l closed weight (idxV (Za n) from_) before x e t:=by
 have hll:=hf.legs
 have hw:w64 ((i:Int)+1)=((i+1:Nat):Int):=by rw [Zc (by omega)]; omega
 obtain ⟨y,hy,hm⟩:=Zei (xs:=n.legs) (i:=(i:Int)) ⟨by omega,by omega⟩
 have hyi:n.legs[i]?=some y:=by rw [Zd] at hy; exact hy
 obtain ⟨m1,m2⟩:=ZeV hm
 have a0:=ZdG m1
 have a1:=(Zer (Za n) y.from_).2
 obtain ⟨v6,g6,_⟩:=Zei (xs:=before) (i:=idxV (Za n) y.from_) ⟨a0,by omega⟩
 obtain ⟨p,gp,_⟩:=Zei (xs:=Za n) (i:=x) hx
 obtain ⟨z,ez,_⟩:=Zgi (n:=n) v6 (decide (idxV (Za n) y.from_=idxV (Za n) from_))
 obtain ⟨d,ed,ef⟩:=Znp hf hl hc hy z weight
 obtain ⟨v,hv⟩:=ZdF (n:=n) (t:=⟨(i:Int),d⟩) hy
 have hpa:∀ p,Zk (Za n) p=some (idxV (Za n) p):=fun p=>by rw [Zdd]; exact ZeU hf p
 have ez':ZbZ n v6 (decide (y.from_=from_))=some z:=by rw [ZlW,← Zqn (l:=Za n) a0]; exact ez
 have hno:∀ {P:Prop},(∀ y' d' u z',n.legs[i]?=some y'→idxV (Za n) y'.to_=x→getI before (idxV (Za n) y'.from_)=some u→¬ u<0→ZR n u (decide (idxV (Za n) y'.from_=idxV (Za n) from_))=some z'→ZH n l closed (i:Int) z' weight=some d'→¬ d'<0→Ze n ⟨(i:Int),d'⟩=some e→y'=y→u=v6→z'=z→d'=d→False)→¬ Zl9 n l closed weight (idxV (Za n) from_) before i x e:=by
  rintro _ H ⟨y',d',u,z',c1,c2,c3,c4,c5,c6,c7,c8⟩
  have q1:y'=y:=by rw [hyi] at c1; exact (Option.some.inj c1).symm
  have q2:u=v6:=by rw [q1,g6] at c3; exact (Option.some.inj c3).symm
  have q3:z'=z:=by rw [q1,q2,ez] at c5; exact (Option.some.inj c5).symm
  have q4:d'=d:=by rw [q3,ed] at c6; exact (Option.some.inj c6).symm
  exact H y' d' u z' c1 c2 c3 c4 c5 c6 c7 c8 q1 q2 q3 q4
 have S:Zbj n l closed weight (Za n) before (idxV (Za n) from_) x e (i:Int)=cond (!decide (y.to_=p)) (some (.inl ((i+1:Nat):Int))) (cond (decide (v6<0)) (some (.inl ((i+1:Nat):Int))) (cond (decide (0≤d)) (cond (decide (v=e)) (some (.inr (.inr ⟨(i:Int),d⟩))) (some (.inl ((i+1:Nat):Int)))) (some (.inl ((i+1:Nat):Int))))):=by
  unfold Zbj
  simp only [decide_eq_true (show (i:Int)<n.legs.length by omega),cond_true,hy,Option.bind_some,ZeU hf,gp,g6,ez,ed,hv,hw]
 have T:Zac n n closed l weight (Za n) before from_ x e (i:Int)=cond (!decide (y.to_=p)) (some (.inl ((i+1:Nat):Int))) (cond (decide (v6<0)) (some (.inl ((i+1:Nat):Int))) (cond (decide (0≤d)) (cond (decide (v=e)) (some (.inr (.inr (⟨(i:Int),d⟩,true)))) (some (.inl ((i+1:Nat):Int)))) (some (.inl ((i+1:Nat):Int))))):=by
  unfold Zac
  simp only [decide_eq_true (show (i:Int)<n.legs.length by omega),cond_true,hy,Option.bind_some,hpa,gp,g6,ez',ef,hw,Zgx]
  by_cases hd:d<0
  ·simp only [if_pos hd,decide_eq_false (show ¬ 0≤d by omega),cond_false]
  ·simp only [if_neg hd,decide_eq_true (show 0≤d by omega),cond_true,hv,Option.bind_some]
 rw [S,T]
 by_cases h1:y.to_=p
 ·by_cases h2:v6<0
  ·refine .inl ⟨by simp [h1,h2],by simp [h1,h2],hno (P:=True) fun y' d' u z' c1 c2 c3 c4 c5 c6 c7 c8 q1 q2 q3 q4=>c4 (by rw [q2]; exact h2)⟩
  ·by_cases h3:0≤d
   ·by_cases h4:v=e
    ·refine .inr ⟨⟨(i:Int),d⟩,by simp [h1,h2,h3,h4],by simp [h1,h2,h3,h4],i,y,d,v6,z,rfl,hyi,?_,g6,h2,ez,ed,by omega,by rw [hv,h4]⟩
     have g:=ZeH (l:=Za n) (p:=q0) (by omega)
     rw [← hxq,gp] at g
     rw [h1,Option.some.inj g,hxq]
    ·refine .inl ⟨by simp [h1,h2,h3,h4],by simp [h1,h2,h3,h4],hno (P:=True) fun y' d' u z' c1 c2 c3 c4 c5 c6 c7 c8 q1 q2 q3 q4=>h4 (by rw [q4,hv] at c8; exact Option.some.inj c8)⟩
   ·refine .inl ⟨by simp [h1,h2,h3],by simp [h1,h2,h3],hno (P:=True) fun y' d' u z' c1 c2 c3 c4 c5 c6 c7 c8 q1 q2 q3 q4=>c7 (by rw [q4]; omega)⟩
 ·refine .inl ⟨by simp [h1],by simp [h1],hno (P:=True) fun y' d' u z' c1 c2 c3 c4 c5 c6 c7 c8 q1 q2 q3 q4=>h1 ?_⟩
  rw [q1] at c2
  have g:=ZeH (ZdG m2)
  rw [c2,gp] at g
  exact (Option.some.inj g).symm
theorem ZjC {l:List YBooking} (hl:l.length≤1048576) {closed:List YTrip} (hc:closed.length≤1048576) (weight:Int) {from_:ByteArray} {before:List Int} (hb:before.length=(Za n).length) {q0:ByteArray} {x:Int} (hxq:x=idxV (Za n) q0) (hx:0≤x∧x<(Za n).length) (e:Int) (hcd:Cand n l closed weight (idxV (Za n) from_) before x e):
 ∃ t,ZdS n l closed weight (Za n) before (idxV (Za n) from_) x e=some t∧ZbU n n closed l weight (Za n) before from_ x e=some (t,true)∧Zp7 n l closed weight (idxV (Za n) from_) before x e t:=by
 have hll:=hf.legs
 obtain ⟨i0,hci⟩:=hcd
 have hi0:i0<n.legs.length:=by obtain ⟨y,_,_,_,c1,_⟩:=hci; exact (List.getElem?_eq_some_iff.1 c1).1
 have key:∀ (d i:Nat),i+d=i0→∀ N,d<N→∃ t,iterF (Zbj n l closed weight (Za n) before (idxV (Za n) from_) x e) N (i:Int)=some (.inr t)∧iterF (Zac n n closed l weight (Za n) before from_ x e) N (i:Int)=some (.inr (t,true))∧Zp7 n l closed weight (idxV (Za n) from_) before x e t:=by
  intro d
  induction d with
  | zero=>
   intro i hi N hN
   obtain ⟨N,rfl⟩:∃ M,N=M+1:=⟨N-1,by omega⟩
   rcases ZjD hf hl hc weight hb hxq hx e (from_:=from_) (i:=i) (by omega) with ⟨_,_,h⟩ | ⟨t,h1,h2,h3⟩
   ·exact absurd ((show i=i0 by omega) ▸ hci) h
   ·exact ⟨t,by unfold iterF; rw [h1]; rfl,by unfold iterF; rw [h2]; rfl,h3⟩
  | succ d ih=>
   intro i hi N hN
   obtain ⟨N,rfl⟩:∃ M,N=M+1:=⟨N-1,by omega⟩
   rcases ZjD hf hl hc weight hb hxq hx e (from_:=from_) (i:=i) (by omega) with ⟨h1,h2,_⟩ | ⟨t,h1,h2,h3⟩
   ·obtain ⟨t,q1,q2,q3⟩:=ih (i+1) (by omega) N (by omega)
    exact ⟨t,by unfold iterF; rw [h1]; exact q1,by unfold iterF; rw [h2]; exact q2,q3⟩
   ·exact ⟨t,by unfold iterF; rw [h1]; rfl,by unfold iterF; rw [h2]; rfl,h3⟩
 obtain ⟨t,h1,h2,h3⟩:=key i0 0 (by omega) NN (by unfold NN; omega)
 have e0:((0:Nat):Int)=0:=rfl
 rw [e0] at h1 h2
 exact ⟨t,by unfold ZdS; rw [h1]; rfl,by unfold ZbU; rw [h2]; rfl,h3⟩
omit hf in
theorem Zpd {o:List YTrip} (h:o.length≤1048576):iterF (ZaX o) NN ((w64 ((o.length:Int)-1)),([]:List YTrip))=some o.reverse:=by
 have key:∀ (m:Nat),m≤o.length→∀ N,m<N→iterF (ZaX o) N ((m:Int)-1,(o.drop m).reverse)=some o.reverse:=by
  intro m
  induction m with
  | zero=>
   intro hm N hN
   obtain ⟨N,rfl⟩:∃ M,N=M+1:=⟨N-1,by omega⟩
   unfold iterF ZaX
   simp
  | succ m ih=>
   intro hm N hN
   obtain ⟨N,rfl⟩:∃ M,N=M+1:=⟨N-1,by omega⟩
   have hg:getI o (((m+1:Nat):Int)-1)=some o[m]:=by
    rw [show ((m+1:Nat):Int)-1=(m:Int) by omega,Zd]; exact List.getElem?_eq_getElem (by omega)
   have hw:w64 (((m+1:Nat):Int)-1-1)=(m:Int)-1:=by rw [Zc (by omega)]; omega
   have ha:chk (appOk ((o.drop (m+1)).reverse.length+([o[m]]:List YTrip).length) 16)=some ():=Zdh (by simp only [List.length_reverse,List.length_drop,List.length_cons,List.length_nil]; omega) (by omega)
   have hd:o.drop m=o[m]::o.drop (m+1):=List.drop_eq_getElem_cons (by omega)
   have q:=ih (by omega) N (by omega)
   rw [hd,List.reverse_cons] at q
   unfold iterF
   unfold ZaX
   simp only [decide_eq_true (show (0:Int)≤((m+1:Nat):Int)-1 by omega),cond_true,hg,Option.bind_some,ha,hw]
   exact q
 have:=key o.length (Nat.le_refl _) NN (by unfold NN; omega)
 rw [List.drop_length] at this
 rw [Zc (by omega)]
 exact this
def allV (n:YNetwork) (l:List YBooking) (closed:List YTrip) (weight f at_:Int):List (List Int):=(List.range ((Za n).length+1)).map (ZU n l closed weight f at_)
omit hf in
theorem Zhh {l:List YBooking} {closed:List YTrip} {weight f at_:Int} {k:Nat} (hk:k≤(Za n).length):getI (allV n l closed weight f at_) (k:Int)=some (ZU n l closed weight f at_ k):=by
 rw [Zd]; unfold allV
 rw [List.getElem?_map,List.getElem?_range (by omega)]; rfl
theorem ZmU (hn:Zb n=some true) {l:List YBooking} (hl:l.length≤1048576) {closed:List YTrip} (hc:closed.length≤1048576) (weight:Int) {from_:ByteArray} (at_:Int)
 (hC:Zr n l=true∧0≤idxV (Za n) from_∧at_≤100000∧1≤weight):
 ∀ (k:Nat) (q0:ByteArray) (x e:Int) (back:List YTrip),x=idxV (Za n) q0→0≤x→getI (ZU n l closed weight (idxV (Za n) from_) at_ k) x=some e→0≤e→(k=0∨¬ getI (ZU n l closed weight (idxV (Za n) from_) at_ (k-1)) x=some e)→back.length+k≤(Za n).length→∀ N,k<N→
  ∃ back',iterF (ZJ n l closed from_ at_ weight (Za n) (idxV (Za n) from_)) N (x,e,(k:Int),back.reverse)=some back'.reverse∧iterF (ZaW n n closed l weight from_ (Za n) (allV n l closed weight (idxV (Za n) from_) at_)) N (x,e,(k:Int),back)=some (.inl back')∧back'.length≤(Za n).length:=by
 have hlg:=Zfs hn
 have hp:(Za n).length≤40:=by have:=Zbk n; omega
 intro k
 induction k with
 | zero=>
  intro q0 x e back hxq hx hg he hnot hlen N hN
  obtain ⟨N,rfl⟩:∃ M,N=M+1:=⟨N-1,by omega⟩
  refine ⟨back,?_,?_,by omega⟩
  ·unfold iterF ZJ; simp
  ·unfold iterF ZaW; simp
 | succ k ih=>
  intro q0 x e back hxq hx hg he hnot hlen N hN
  obtain ⟨N,rfl⟩:∃ M,N=M+1:=⟨N-1,by omega⟩
  have hbl:=Zel hf hl hc weight (idxV (Za n) from_) at_
  have hnx:¬ getI (ZU n l closed weight (idxV (Za n) from_) at_ k) x=some e:=by
   rcases hnot with h | h
   ·omega
   ·exact h
  have hcd:Cand n l closed weight (idxV (Za n) from_) (ZU n l closed weight (idxV (Za n) from_) at_ k) x e:=by
   rcases (Ze6 hf hl hc weight (idxV (Za n) from_) at_ k).2 x e hg with h | h
   ·exact absurd h hnx
   ·exact h
  have hxl:x<(Za n).length:=by rw [hxq]; exact (Zer (Za n) q0).2
  obtain ⟨t,hs,hi,i,y,d,u,z,rfl,c1,c2,c3,c4,c5,c6,c7,c8⟩:=ZjC hf hl hc weight (hbl k) hxq ⟨hx,hxl⟩ e hcd
  have hfb:=Zd8 hf hl hc weight at_ hC (k:=k) (by omega)
  have hw:w64 (((k+1:Nat):Int)-1)=(k:Int):=by rw [Zc (by omega)]; omega
  have hy:getI n.legs (i:Int)=some y:=by rw [Zd]; exact c1
  have ha1:chk (appOk (([⟨(i:Int),d⟩]:List YTrip).length+back.reverse.length) 16)=some ():=Zdh (by simp only [List.length_reverse,List.length_cons,List.length_nil]; omega) (by omega)
  have ha2:chk (appOk (back.length+([⟨(i:Int),d⟩]:List YTrip).length) 16)=some ():=Zdh (by simp only [List.length_cons,List.length_nil]; omega) (by omega)
  have hag:=Zhh (n:=n) (l:=l) (closed:=closed) (weight:=weight) (f:=idxV (Za n) from_) (at_:=at_) (k:=k) (by omega)
  have hpa:Zk (Za n) y.from_=some (idxV (Za n) y.from_):=by rw [Zdd]; exact ZeU hf _
  have a0:=ZdG (ZeV (List.mem_of_getElem? c1)).1
  obtain ⟨back',q1,q2,q3⟩:=ih y.from_ (idxV (Za n) y.from_) u (back++[⟨(i:Int),d⟩]) rfl a0 c3 (by omega) (by
   by_cases hk0:k=0
   ·exact .inl hk0
   ·refine .inr fun hu=>hnx ?_
    obtain ⟨k',rfl⟩:∃ k',k=k'+1:=⟨k-1,by omega⟩
    have hb1:=(Zhj hf hn hl hc weight (idxV (Za n) from_) at_ k').2 x e ⟨i,y,d,u,z,c1,c2,hu,c4,c5,c6,c7,c8⟩
    obtain ⟨w,w1,w2,w3⟩:=hb1
    obtain ⟨w',v1,v2,v3⟩:=(Zhj hf hn hl hc weight (idxV (Za n) from_) at_ (k'+1)).1 x w w1 w2
    rw [hg] at v1
    obtain rfl:=Option.some.inj v1
    rw [w1,show w=e by omega]) (by simp only [List.length_append,List.length_cons,List.length_nil]; omega) N (by omega)
  refine ⟨back',?_,?_,q3⟩
  ·have hb:ZJ n l closed from_ at_ weight (Za n) (idxV (Za n) from_) (x,e,((k+1:Nat):Int),back.reverse)=some (.inl (idxV (Za n) y.from_,u,(k:Int),[⟨(i:Int),d⟩]++back.reverse)):=by
    unfold ZJ
    simp only [decide_eq_true (show (0:Int)<((k+1:Nat):Int) by omega),cond_true,hw,hfb,Option.bind_some,hs,ha1,hy,ZeU hf,c3]
   rw [List.reverse_append,List.reverse_singleton] at q1
   unfold iterF
   rw [hb]
   exact q1
  ·have hb:ZaW n n closed l weight from_ (Za n) (allV n l closed weight (idxV (Za n) from_) at_) (x,e,((k+1:Nat):Int),back)=some (.inl (idxV (Za n) y.from_,u,(k:Int),back++[⟨(i:Int),d⟩])):=by
    unfold ZaW
    simp only [decide_eq_true (show (0:Int)<((k+1:Nat):Int) by omega),cond_true,hw,hag,Option.bind_some,hi,Bool.not_true,cond_false,ha2,hy,hpa,c3]
   unfold iterF
   rw [hb]
   exact q2
theorem Zin {l:List YBooking} (hl:l.length≤1048576) {closed:List YTrip} (hc:closed.length≤1048576) (weight:Int) {from_:ByteArray} (at_:Int) (hp:(Za n).length≤40)
 (hC:Zr n l=true∧0≤idxV (Za n) from_∧at_≤100000∧1≤weight) {x e:Int} (hx:0≤x∧x<(Za n).length) (hg:getI (ZU n l closed weight (idxV (Za n) from_) at_ (Za n).length) x=some e):
 ∃ k:Nat,k≤(Za n).length∧getI (ZU n l closed weight (idxV (Za n) from_) at_ k) x=some e∧(k=0∨¬ getI (ZU n l closed weight (idxV (Za n) from_) at_ (k-1)) x=some e)∧
  iterF (Zam n l closed from_ at_ weight (Za n) (idxV (Za n) from_) x e) NN 0=some (k:Int)∧iterF (Zad n n closed l weight from_ (Za n) x (allV n l closed weight (idxV (Za n) from_) at_) e) NN 0=some (k:Int):=by
 have hbl:=Zel hf hl hc weight (idxV (Za n) from_) at_
 have key:∀ (dd i:Nat),i+dd=(Za n).length→(i=0∨¬ getI (ZU n l closed weight (idxV (Za n) from_) at_ (i-1)) x=some e)→∀ N,dd<N→
  ∃ k:Nat,k≤(Za n).length∧getI (ZU n l closed weight (idxV (Za n) from_) at_ k) x=some e∧(k=0∨¬ getI (ZU n l closed weight (idxV (Za n) from_) at_ (k-1)) x=some e)∧
  iterF (Zam n l closed from_ at_ weight (Za n) (idxV (Za n) from_) x e) N (i:Int)=some (k:Int)∧iterF (Zad n n closed l weight from_ (Za n) x (allV n l closed weight (idxV (Za n) from_) at_) e) N (i:Int)=some (k:Int):=by
  intro dd
  induction dd with
  | zero=>
   intro i hi h0 N hN
   obtain ⟨N,rfl⟩:∃ M,N=M+1:=⟨N-1,by omega⟩
   obtain rfl:i=(Za n).length:=by omega
   refine ⟨(Za n).length,Nat.le_refl _,hg,h0,?_,?_⟩
   ·unfold iterF Zam
    simp only [Zd8 hf hl hc weight at_ hC (Nat.le_refl _),Option.bind_some,hg,decide_true,Bool.not_true,cond_false]
   ·unfold iterF Zad
    simp only [Zhh (Nat.le_refl _),Option.bind_some,hg,decide_true,Bool.not_true,cond_false]
  | succ dd ih=>
   intro i hi h0 N hN
   obtain ⟨N,rfl⟩:∃ M,N=M+1:=⟨N-1,by omega⟩
   have hw:w64 ((i:Int)+1)=((i+1:Nat):Int):=by rw [Zc (by omega)]; omega
   obtain ⟨v,hv,_⟩:=Zei (xs:=ZU n l closed weight (idxV (Za n) from_) at_ i) (i:=x) ⟨hx.1,by rw [hbl]; exact hx.2⟩
   by_cases hve:v=e
   ·subst hve
    refine ⟨i,by omega,hv,h0,?_,?_⟩
    ·unfold iterF Zam
     simp only [Zd8 hf hl hc weight at_ hC (show i≤(Za n).length by omega),Option.bind_some,hv,decide_true,Bool.not_true,cond_false]
    ·unfold iterF Zad
     simp only [Zhh (show i≤(Za n).length by omega),Option.bind_some,hv,decide_true,Bool.not_true,cond_false]
   ·obtain ⟨k,q1,q2,q3,q4,q5⟩:=ih (i+1) (by omega) (.inr (by rw [Nat.add_sub_cancel,hv]; simpa using hve)) N (by omega)
    refine ⟨k,q1,q2,q3,?_,?_⟩
    ·have hb:Zam n l closed from_ at_ weight (Za n) (idxV (Za n) from_) x e (i:Int)=some (.inl ((i+1:Nat):Int)):=by
      unfold Zam
      simp only [Zd8 hf hl hc weight at_ hC (show i≤(Za n).length by omega),Option.bind_some,hv,decide_eq_false hve,Bool.not_false,cond_true,hw]
     unfold iterF
     rw [hb]
     exact q4
    ·have hb:Zad n n closed l weight from_ (Za n) x (allV n l closed weight (idxV (Za n) from_) at_) e (i:Int)=some (.inl ((i+1:Nat):Int)):=by
      unfold Zad
      simp only [Zhh (show i≤(Za n).length by omega),Option.bind_some,hv,decide_eq_false hve,Bool.not_false,cond_true,hw]
     unfold iterF
     rw [hb]
     exact q5
 obtain ⟨k,q1,q2,q3,q4,q5⟩:=key (Za n).length 0 (by omega) (.inl rfl) NN (by unfold NN; omega)
 exact ⟨k,q1,q2,q3,q4,q5⟩
theorem Zkm {l:List YBooking} {closed:List YTrip} (weight:Int) {from_:ByteArray} {at_:Int} (h:idxV (Za n) from_<0∨100000<at_) (legs:Int):Zat n n closed l weight from_ at_ legs=some []:=by
 unfold Zat
 rw [Zdd,(ZaL hf).1,(ZaL hf).2]
 simp only [Option.bind_some,ZeU hf]
 by_cases h1:idxV (Za n) from_<0
 ·simp only [decide_eq_true h1,cond_true]
 ·simp only [decide_eq_false h1,cond_false,decide_eq_true (show 100000<at_ by omega),cond_true]
theorem Zf1 {l:List YBooking} (hl:l.length≤1048576) {closed:List YTrip} (hc:closed.length≤1048576) (from_ to_:ByteArray) (at_ weight:Int):
 ∃ r,ZaF n l closed from_ to_ at_ weight=some r∧Zq n l closed from_ to_ at_ weight=some r:=by
 have hplen:=plen hf
 have hpa:∀ p,Zk (Za n) p=some (idxV (Za n) p):=fun p=>by rw [Zdd]; exact ZeU hf p
 unfold ZaF Zq Zem Zdw
 rw [ZfM hf hl,(ZaL hf).1,(ZaL hf).2]
 simp only [Option.bind_some,ZeU hf,hpa]
 by_cases hB:Zr n l=true
 case neg=>
  have hB:Zr n l=false:=by simpa using hB
  have e:Zv n l closed from_ at_ weight ((Za n).length:Int)=some []:=by
   unfold Zv
   rw [(ZaL hf).2]
   simp only [Option.bind_some,ZeU hf,Zb2 hf hl,hB,Bool.not_false,cond_true]
  refine ⟨([],false),by simp only [hB,Bool.not_false,cond_true],?_⟩
  simp only [e,Option.bind_some]
  by_cases h:idxV (Za n) to_<0
  ·simp only [decide_eq_true h,cond_true]
  ·simp only [decide_eq_false h,cond_false,List.length_nil]; rfl
 have hn:=(ZV hB).1
 have hlg:=Zfs hn
 have hp:(Za n).length≤40:=by have:=Zbk n; omega
 simp only [hB,Bool.not_true,cond_false]
 by_cases hw1:weight<1
 ·have e:Zv n l closed from_ at_ weight ((Za n).length:Int)=some []:=by
   unfold Zv
   rw [(ZaL hf).2]
   simp only [Option.bind_some,ZeU hf,Zb2 hf hl,hB,Bool.not_true,cond_false,decide_eq_true hw1,cond_true]
   by_cases h1:idxV (Za n) from_<0
   ·simp only [decide_eq_true h1,cond_true]
   ·by_cases h2:100000<at_
    ·simp only [decide_eq_false h1,decide_eq_true h2,cond_true,cond_false]
    ·simp only [decide_eq_false h1,decide_eq_false h2,cond_false]
  refine ⟨([],false),by simp only [decide_eq_true hw1,cond_true],?_⟩
  simp only [e,Option.bind_some]
  by_cases h:idxV (Za n) to_<0
  ·simp only [decide_eq_true h,cond_true]
  ·simp only [decide_eq_false h,cond_false,List.length_nil]; rfl
 simp only [decide_eq_false hw1,cond_false]
 by_cases hA:idxV (Za n) from_<0∨100000<at_
 ·have e:Zv n l closed from_ at_ weight ((Za n).length:Int)=some []:=by
   unfold Zv
   rw [(ZaL hf).2]
   simp only [Option.bind_some,ZeU hf,Zb2 hf hl,hB,Bool.not_true,cond_false]
   by_cases h1:idxV (Za n) from_<0
   ·simp only [decide_eq_true h1,cond_true]
   ·simp only [decide_eq_false h1,cond_false,decide_eq_true (show 100000<at_ by omega),cond_true]
  have e0:iterF (ZG n n closed l weight from_ at_ (Za n) (idxV (Za n) to_)) NN (0,([]:List (List Int)))=some (.inr ([],false)):=by
   obtain ⟨N,hN⟩:∃ N,NN=N+1:=⟨NN-1,by unfold NN; omega⟩
   rw [hN]
   unfold iterF ZG
   simp only [decide_eq_true (show (0:Int)≤((Za n).length:Int) by omega),cond_true,Zkm hf weight hA,Option.bind_some,List.length_nil]
   rfl
  refine ⟨([],false),by rw [e0]; rfl,?_⟩
  simp only [e,Option.bind_some]
  by_cases h:idxV (Za n) to_<0
  ·simp only [decide_eq_true h,cond_true]
  ·simp only [decide_eq_false h,cond_false,List.length_nil]; rfl
 have hC:Zr n l=true∧0≤idxV (Za n) from_∧at_≤100000∧1≤weight:=⟨hB,by omega,by omega,by omega⟩
 have hbl:=Zel hf hl hc weight (idxV (Za n) from_) at_
 have hfl:=(Zer (Za n) from_).2
 have hav:=fun (k:Nat) (hk:k≤(Za n).length)=>Zmd hf hl hc weight hC.2.1 hC.2.2.1 (by omega) k (by omega)
 by_cases ht:idxV (Za n) to_<0
 ·have e0:iterF (ZG n n closed l weight from_ at_ (Za n) (idxV (Za n) to_)) NN (0,([]:List (List Int)))=some (.inr ([],false)):=by
   obtain ⟨N,hN⟩:∃ N,NN=N+1:=⟨NN-1,by unfold NN; omega⟩
   rw [hN]
   have h0:=hav 0 (by omega)
   rw [show ((0:Nat):Int)=0 from rfl] at h0
   unfold iterF ZG
   simp only [decide_eq_true (show (0:Int)≤((Za n).length:Int) by omega),cond_true,h0,Option.bind_some,decide_eq_true ht]
   cases decide (((ZU n l closed weight (idxV (Za n) from_) at_ 0).length:Int)=0) <;> rfl
  have hfb:=Zd8 hf hl hc weight at_ hC (k:=(Za n).length) (Nat.le_refl _)
  refine ⟨([],false),by rw [e0]; rfl,?_⟩
  simp only [hfb,Option.bind_some,decide_eq_true ht,cond_true]
 have e0:iterF (ZG n n closed l weight from_ at_ (Za n) (idxV (Za n) to_)) NN (0,([]:List (List Int)))=some (.inl (allV n l closed weight (idxV (Za n) from_) at_)):=by
  refine Zd6 (body:=ZG n n closed l weight from_ at_ (Za n) (idxV (Za n) to_)) (fun i:Nat=>((i:Int),(List.range i).map (ZU n l closed weight (idxV (Za n) from_) at_))) (n:=(Za n).length+1) (o:=.inl (allV n l closed weight (idxV (Za n) from_) at_)) (fun i hi=>?_) ?_ NN (by unfold NN; omega)
  ·have hw:w64 ((i:Int)+1)=((i+1:Nat):Int):=by rw [Zc (by omega)]; omega
   have ha:chk (appOk (((List.range i).map (ZU n l closed weight (idxV (Za n) from_) at_)).length+([ZU n l closed weight (idxV (Za n) from_) at_ i]:List (List Int)).length) 24)=some ():=Zdh (by simp only [List.length_map,List.length_range,List.length_cons,List.length_nil]; omega) (by omega)
   unfold ZG
   simp only [decide_eq_true (show (i:Int)≤((Za n).length:Int) by omega),cond_true,hav i (by omega),Option.bind_some,decide_eq_false (show ¬ (((ZU n l closed weight (idxV (Za n) from_) at_ i).length:Int)=0) by rw [hbl]; omega),cond_false,decide_eq_false ht,frz,ha,hw,List.range_succ,List.map_append,List.map_cons,List.map_nil]
  ·unfold ZG
   simp only [decide_eq_false (show ¬ (((Za n).length+1:Nat):Int)≤((Za n).length:Int) by omega),cond_false]
   rfl
 have htl:=(Zer (Za n) to_).2
 obtain ⟨due,hdue,_⟩:=Zei (xs:=ZU n l closed weight (idxV (Za n) from_) at_ (Za n).length) (i:=idxV (Za n) to_) ⟨by omega,by rw [hbl]; exact htl⟩
 rw [e0]
 simp only [Option.bind_some,selim,Zhh (Nat.le_refl _),hdue,Zd8 hf hl hc weight at_ hC (Nat.le_refl _),decide_eq_false ht,cond_false,decide_eq_false (show ¬ (((ZU n l closed weight (idxV (Za n) from_) at_ (Za n).length).length:Int)=0) by rw [hbl]; omega)]
 by_cases hd:due<0
 ·exact ⟨([],false),by simp only [decide_eq_true hd,cond_true]; rfl,by simp only [decide_eq_true hd,cond_true]⟩
 simp only [decide_eq_false hd,cond_false]
 obtain ⟨k,q1,q2,q3,q4,q5⟩:=Zin hf hl hc weight at_ hp hC ⟨by omega,htl⟩ hdue
 obtain ⟨back,b1,b2,b3⟩:=ZmU hf hn hl hc weight at_ hC k to_ (idxV (Za n) to_) due [] rfl (by omega) q2 (by omega) q3 (by simp only [List.length_nil]; omega) NN (by unfold NN; omega)
 rw [List.reverse_nil] at b1
 refine ⟨(back.reverse,true),?_,?_⟩
 ·simp only [q5,Option.bind_some,b2,selim,Zpd (show back.length≤1048576 by omega)]
 ·simp only [q4,Option.bind_some,b1]
end
inductive Zi7 (n:YNetwork) (l:List YBooking) (closed:List YTrip) (weight:Int) (from_:ByteArray) (at_:Int):Nat→ByteArray→Int→List YTrip→Prop
 | nil {q:ByteArray} {e:Int} (h0:0≤idxV (Za n) q) (hg:getI (ZU n l closed weight (idxV (Za n) from_) at_ 0) (idxV (Za n) q)=some e) (he:0≤e):Zi7 n l closed weight from_ at_ 0 q e []
 | snoc {k:Nat} {y:YLeg} {u z d e:Int} {i:Nat} {way:List YTrip} (hp:Zi7 n l closed weight from_ at_ k y.from_ u way) (c1:n.legs[i]?=some y)
  (hg:getI (ZU n l closed weight (idxV (Za n) from_) at_ (k+1)) (idxV (Za n) y.to_)=some e)
  (c5:ZR n u (decide (idxV (Za n) y.from_=idxV (Za n) from_))=some z) (c6:ZH n l closed (i:Int) z weight=some d) (c7:¬ d<0) (c8:Ze n ⟨(i:Int),d⟩=some e):Zi7 n l closed weight from_ at_ (k+1) y.to_ e (way++[⟨(i:Int),d⟩])
section
variable {n:YNetwork} (hf:ZZ n)
include hf
theorem ZqC (hn:Zb n=some true) {l:List YBooking} (hl:l.length≤1048576) {closed:List YTrip} (hc:closed.length≤1048576) (weight:Int) {from_:ByteArray} (at_:Int)
 (hC:Zr n l=true∧0≤idxV (Za n) from_∧at_≤100000∧1≤weight):
 ∀ (k:Nat) (q0:ByteArray) (e:Int) (tail:List YTrip),0≤idxV (Za n) q0→getI (ZU n l closed weight (idxV (Za n) from_) at_ k) (idxV (Za n) q0)=some e→0≤e→(k=0∨¬ getI (ZU n l closed weight (idxV (Za n) from_) at_ (k-1)) (idxV (Za n) q0)=some e)→tail.length+k≤(Za n).length→∀ N,k<N→
  ∃ way,iterF (ZJ n l closed from_ at_ weight (Za n) (idxV (Za n) from_)) N (idxV (Za n) q0,e,(k:Int),tail)=some (way++tail)∧Zi7 n l closed weight from_ at_ k q0 e way:=by
 have hlg:=Zfs hn
 have hp:(Za n).length≤40:=by have:=Zbk n; omega
 intro k
 induction k with
 | zero=>
  intro q0 e tail hx hg he hnot hlen N hN
  obtain ⟨N,rfl⟩:∃ M,N=M+1:=⟨N-1,by omega⟩
  exact ⟨[],by unfold iterF ZJ; simp,.nil hx hg he⟩
 | succ k ih=>
  intro q0 e tail hx hg he hnot hlen N hN
  obtain ⟨N,rfl⟩:∃ M,N=M+1:=⟨N-1,by omega⟩
  have hbl:=Zel hf hl hc weight (idxV (Za n) from_) at_
  have hnx:¬ getI (ZU n l closed weight (idxV (Za n) from_) at_ k) (idxV (Za n) q0)=some e:=by
   rcases hnot with h | h
   ·omega
   ·exact h
  have hcd:Cand n l closed weight (idxV (Za n) from_) (ZU n l closed weight (idxV (Za n) from_) at_ k) (idxV (Za n) q0) e:=by
   rcases (Ze6 hf hl hc weight (idxV (Za n) from_) at_ k).2 _ e hg with h | h
   ·exact absurd h hnx
   ·exact h
  have hxl:=(Zer (Za n) q0).2
  obtain ⟨t,hs,hi,i,y,d,u,z,rfl,c1,c2,c3,c4,c5,c6,c7,c8⟩:=ZjC hf hl hc weight (hbl k) (q0:=q0) rfl ⟨hx,hxl⟩ e hcd
  have hfb:=Zd8 hf hl hc weight at_ hC (k:=k) (by omega)
  have hw:w64 (((k+1:Nat):Int)-1)=(k:Int):=by rw [Zc (by omega)]; omega
  have hy:getI n.legs (i:Int)=some y:=by rw [Zd]; exact c1
  have ha1:chk (appOk (([⟨(i:Int),d⟩]:List YTrip).length+tail.length) 16)=some ():=Zdh (by simp only [List.length_cons,List.length_nil]; omega) (by omega)
  obtain ⟨m1,m2⟩:=ZeV (List.mem_of_getElem? c1)
  have a0:=ZdG m1
  obtain ⟨way,q1,q2⟩:=ih y.from_ u ([⟨(i:Int),d⟩]++tail) a0 c3 (by omega) (by
   by_cases hk0:k=0
   ·exact .inl hk0
   ·refine .inr fun hu=>hnx ?_
    obtain ⟨k',rfl⟩:∃ k',k=k'+1:=⟨k-1,by omega⟩
    have hb1:=(Zhj hf hn hl hc weight (idxV (Za n) from_) at_ k').2 _ e ⟨i,y,d,u,z,c1,c2,hu,c4,c5,c6,c7,c8⟩
    obtain ⟨w,w1,w2,w3⟩:=hb1
    obtain ⟨w',v1,v2,v3⟩:=(Zhj hf hn hl hc weight (idxV (Za n) from_) at_ (k'+1)).1 _ w w1 w2
    rw [hg] at v1
    obtain rfl:=Option.some.inj v1
    rw [w1,show w=e by omega]) (by simp only [List.length_append,List.length_cons,List.length_nil]; omega) N (by omega)
  have hq:y.to_=q0:=by
   have g1:=ZeH (ZdG m2)
   have g2:=ZeH hx
   rw [c2,g2] at g1
   exact (Option.some.inj g1).symm
  refine ⟨way++[⟨(i:Int),d⟩],?_,?_⟩
  ·have hb:ZJ n l closed from_ at_ weight (Za n) (idxV (Za n) from_) (idxV (Za n) q0,e,((k+1:Nat):Int),tail)=some (.inl (idxV (Za n) y.from_,u,(k:Int),[⟨(i:Int),d⟩]++tail)):=by
    unfold ZJ
    simp only [decide_eq_true (show (0:Int)<((k+1:Nat):Int) by omega),cond_true,hw,hfb,Option.bind_some,hs,ha1,hy,ZeU hf,c3]
   unfold iterF
   rw [hb,List.append_assoc]
   exact q1
  ·subst hq
   exact .snoc q2 c1 hg c5 c6 c7 c8
omit hf in
theorem Zih {t:YTrip} (ht:Zc3 n t=true):∀ (way:List YTrip) (p:ByteArray) (a:Int),ZcD n p a way→(way=[]→Zd1 n t=p∧a≤Zbp n t)→(∀ t',way.getLast?=some t'→Zd1 n t=ZaS n t'∧ZbH n t'+n.change≤Zbp n t)→ZcD n p a (way++[t])
 | [],p,a,_,h1,_=>⟨ht,(h1 rfl).1,(h1 rfl).2,trivial⟩
 | x::way,p,a,hc,h1,h2=>by
  obtain ⟨c1,c2,c3,c4⟩:=hc
  refine ⟨c1,c2,c3,Zih ht way _ _ c4 (fun hw=>?_) fun t' h=>?_⟩
  ·subst hw
   exact h2 x rfl
  ·cases way with
   | nil=>simp at h
   | cons y ys=>exact h2 t' (by rw [List.getLast?_cons_cons]; exact h)
omit hf in
theorem ZjQ:∀ (m:Nat) (l:List Nat),l.Nodup→(∀ x∈l,x<m)→l.length≤m
 | 0,l,_,h=>by
  cases l with
  | nil=>simp
  | cons x xs=>have:=h x (by simp); omega
 | m+1,l,hn,h=>by
  have h1:=ZjQ m (l.erase m) (hn.erase m) fun x hx=>by
   have h2:=(List.Nodup.mem_erase_iff hn).1 hx
   have:=h x h2.2
   have h3:=h2.1
   omega
  have h4:l.length≤(l.erase m).length+1:=by rw [List.length_erase]; split <;> omega
  omega
section
variable (hn:Zb n=some true) {l:List YBooking} (hl:l.length≤1048576) {closed:List YTrip} (hc:closed.length≤1048576) (weight:Int) {from_:ByteArray} (at_:Int) (hfr:0≤idxV (Za n) from_) (hat:at_≤100000)
include hn hl hc hfr hat
omit hfr hat in
theorem Zjc (f:Int) {x u:Int} {j:Nat} (hg:getI (ZU n l closed weight f at_ j) x=some u) (h0:0≤u):∀ d,LeAt (ZU n l closed weight f at_ (j+d)) x u
 | 0=>⟨u,hg,h0,Int.le_refl _⟩
 | d+1=>by
  obtain ⟨w,w1,w2,w3⟩:=Zjc f hg h0 d
  obtain ⟨w',v1,v2,v3⟩:=(Zhj hf hn hl hc weight f at_ (j+d)).1 x w w1 w2
  exact ⟨w',v1,v2,by omega⟩
structure Zq4 (n:YNetwork) (l:List YBooking) (closed:List YTrip) (weight:Int) (from_:ByteArray) (at_:Int) (k:Nat) (q:ByteArray) (e:Int) (way:List YTrip):Prop where
 time:0≤e∧e≤100000
 seen:∀ p∈from_::way.map (ZaS n),∃ (j:Nat) (u:Int),j≤k∧getI (ZU n l closed weight (idxV (Za n) from_) at_ j) (idxV (Za n) p)=some u∧0≤u∧u≤e
 nodup:(from_::way.map (ZaS n)).Nodup
 last:(from_::way.map (ZaS n)).getLast?=some q
 chain:ZcD n from_ (if 0 > at_ then 0 else at_) way
 ends:way=[]∧e=(if 0 > at_ then 0 else at_)∨∃ t,way.getLast?=some t∧ZbH n t=e
 found:∀ t∈way,Zar closed t=some false∧∃ y q,getI n.legs t.leg=some y∧ZN l t=some q∧weight≤w64 (y.room-q)
 idx:0≤idxV (Za n) q
theorem ZqD {k:Nat} {q:ByteArray} {e:Int} {way:List YTrip} (h:Zi7 n l closed weight from_ at_ k q e way):Zq4 n l closed weight from_ at_ k q e way:=by
 have hlg:=Zfs hn
 have hp:(Za n).length≤40:=by have:=Zbk n; omega
 have hlt:=(Zer (Za n) from_).2
 induction h with
 | nil h0 hg he=>
  rename_i q e
  have hb:ZU n l closed weight (idxV (Za n) from_) at_ 0=(List.replicate (Za n).length (-1:Int)).set (idxV (Za n) from_).toNat (if 0 > at_ then 0 else at_):=by
   unfold ZU; rw [Znm hf (by omega) _ ⟨hfr,hlt⟩]; rfl
  rw [hb] at hg
  have hq:idxV (Za n) q=idxV (Za n) from_∧e=(if 0 > at_ then 0 else at_):=by
   rcases Zlx hfr hg with ⟨a,b⟩ | h
   ·exact ⟨a,b⟩
   ·exfalso
    obtain ⟨_,h2⟩:=getI_some h
    have:=List.mem_of_getElem? h2
    have:=List.eq_of_mem_replicate this
    omega
  have hqf:from_=q:=by
   have g1:=ZeH h0
   have g2:=ZeH hfr
   rw [hq.1,g2] at g1
   exact Option.some.inj g1
  subst hqf
  have he2:=hq.2
  refine ⟨⟨he,by rw [he2]; split <;> omega⟩,fun p hp=>?_,by simp,rfl,trivial,.inl ⟨rfl,he2⟩,fun t ht=>by simp at ht,hfr⟩
  have:p=from_:=by simpa using hp
  subst this
  exact ⟨0,e,Nat.le_refl _,by rw [hb]; exact hg,he,Int.le_refl _⟩
 | snoc hpt c1 hg c5 c6 c7 c8 ih=>
  rename_i k y u z d e i way
  have hleg:getI n.legs (i:Int)=some y:=by rw [Zd]; exact c1
  have hfo:Zp6 n l closed z weight ⟨(i:Int),d⟩:=by
   rcases ZlM hf c6 with h | h
   ·omega
   ·exact h
  obtain ⟨_,t2,t3,t4,t5⟩:=ZbF hf hn hfo.trip
  have hee:ZbH n ⟨(i:Int),d⟩=e:=by rw [c8] at t2; exact (Option.some.inj t2).symm
  have hto:ZaS n ⟨(i:Int),d⟩=y.to_:=by unfold ZaS; rw [hleg]; rfl
  have hfrom:Zd1 n ⟨(i:Int),d⟩=y.from_:=by unfold Zd1; rw [hleg]; rfl
  obtain ⟨n0,n1⟩:=Zdb hn
  have hz:z=if idxV (Za n) y.from_=idxV (Za n) from_ then u else u+n.change:=by
   unfold ZR at c5
   by_cases h:idxV (Za n) y.from_=idxV (Za n) from_
   ·rw [decide_eq_true h,cond_true] at c5; rw [if_pos h]; exact (Option.some.inj c5).symm
   ·rw [decide_eq_false h,cond_false,Zc (by have:=ih.time; omega)] at c5; rw [if_neg h]; exact (Option.some.inj c5).symm
  have hzu:u≤z:=by rw [hz]; split <;> omega
  have hst:=hfo.start
  have hue:u<e:=by omega
  obtain ⟨m1,m2⟩:=ZeV (List.mem_of_getElem? c1)
  have hnew:∀ p∈from_::way.map (ZaS n),p≠y.to_:=fun p hp heq=>by
   obtain ⟨j,u',hj,hg',h0,hu⟩:=ih.seen p hp
   rw [heq] at hg'
   obtain ⟨w,w1,w2,w3⟩:=Zjc hf hn hl hc weight at_ _ hg' h0 (k+1-j)
   rw [show j+(k+1-j)=k+1 by omega,hg] at w1
   have:=Option.some.inj w1
   omega
  have happ:from_::(way++[(⟨(i:Int),d⟩:YTrip)]).map (ZaS n)=(from_::way.map (ZaS n))++[y.to_]:=by
   rw [List.map_append,List.map_cons,List.map_nil,hto]; rfl
  refine ⟨⟨by omega,by omega⟩,fun p hp=>?_,?_,?_,?_,.inr ⟨_,List.getLast?_concat,hee⟩,fun t ht=>?_,ZdG m2⟩
  ·rw [happ] at hp
   rcases List.mem_append.1 hp with hp | hp
   ·obtain ⟨j,u',hj,hg',h0,hu⟩:=ih.seen p hp
    exact ⟨j,u',by omega,hg',h0,by omega⟩
   ·obtain rfl:=List.mem_singleton.1 hp
    exact ⟨k+1,e,Nat.le_refl _,hg,by omega,Int.le_refl _⟩
  ·rw [happ,List.nodup_append]
   exact ⟨ih.nodup,by simp,fun a ha b hb=>by rw [List.mem_singleton] at hb; rw [hb]; exact hnew a ha⟩
  ·rw [happ]; exact List.getLast?_concat
  ·refine Zih hfo.trip way _ _ ih.chain (fun hw=>?_) fun t' ht'=>?_
   ·subst hw
    have hq:from_=y.from_:=by have:=ih.last; simpa using this
    rcases ih.ends with ⟨_,he⟩ | ⟨t,ht,_⟩
    ·exact ⟨by rw [hfrom,hq],by omega⟩
    ·simp at ht
   ·have hmem:t'∈way:=List.mem_of_getLast? ht'
    have hlast:ZaS n t'=y.from_:=by
     have h1:=ih.last
     cases way with
     | nil=>simp at ht'
     | cons x xs=>
      rw [List.map_cons,List.getLast?_cons_cons,← List.map_cons,List.getLast?_map,ht'] at h1
      exact Option.some.inj h1
    have hne:¬ idxV (Za n) y.from_=idxV (Za n) from_:=fun he=>by
     have g1:=ZeH (ZdG m1)
     have g2:=ZeH hfr
     rw [he,g2] at g1
     have hff:from_=y.from_:=Option.some.inj g1
     have hnd:=ih.nodup
     rw [List.nodup_cons] at hnd
     exact hnd.1 (by rw [hff,← hlast]; exact List.mem_map_of_mem hmem)
    rw [if_neg hne] at hz
    rcases ih.ends with ⟨hw,_⟩ | ⟨t'',ht'',he''⟩
    ·rw [hw] at ht'; simp at ht'
    ·rw [ht'] at ht''
     obtain rfl:=Option.some.inj ht''
     exact ⟨by rw [hfrom,hlast],by rw [he'']; omega⟩
  ·rcases List.mem_append.1 ht with ht | ht
   ·exact ih.found t ht
   ·obtain rfl:=List.mem_singleton.1 ht
    exact ⟨hfo.open_,hfo.room⟩
end
end
end Go.Proofs.YtmcdjilbkmhfoaaGreat
namespace Go.Proofs.YtmcdjilbkmhfoaaGreat
set_option maxRecDepth 10000
open Go.Sort
set_option linter.unusedVariables false
set_option linter.unusedSimpArgs false
section
variable {α:Type} [Inhabited α]
theorem gx {d:Array α} {x y:Nat} (h:x=y):d[x]! = d[y]!:=by rw [h]
def swpR (d:Array α) (a b:Nat):Nat→Array α
 | 0=>d
 | n+1=>swp (swpR d a b n) (a+n) (b+n)
theorem ZdT (d:Array α) (a b:Nat):∀ n,(swpR d a b n).size=d.size
 | 0=>rfl
 | n+1=>by rw [swpR,size_swp,ZdT d a b n]
theorem Zgn (d:Array α) {a b lo hi:Nat} (h1:lo≤a):∀ n,a+n≤hi→lo≤b→b+n≤hi→hi≤d.size→PermIn lo hi d (swpR d a b n)
 | 0,_,_,_,_=>permIn_refl _ _ _
 | n+1,h2,h3,h4,h5=>permIn_trans _ _ _ _ _ (Zgn d h1 n (by omega) h3 (by omega) h5) (swp_permIn _ _ _ _ _ (by omega) (by omega) (by omega) (by omega) (by rw [ZdT]; omega))
theorem Zhd (d:Array α) {a b:Nat}:∀ n,a+n≤b→b+n≤d.size→∀ k,(swpR d a b n)[k]! = if a≤k∧k<a+n then d[b+(k-a)]! else if b≤k∧k<b+n then d[a+(k-b)]! else d[k]!
 | 0,_,_,k=>by rw [if_neg (by omega),if_neg (by omega)]; rfl
 | n+1,h1,h2,k=>by
  have ih:=Zhd d (a:=a) (b:=b) n (by omega) (by omega)
  rw [swpR,swp_get (swpR d a b n) (i:=a+n) (j:=b+n) (by rw [ZdT]; omega) (by rw [ZdT]; omega),ih,ih,ih]
  repeat' split
  all_goals first | (exfalso; omega) | exact gx (by omega)
def rotF (d:Array α) (a m b k:Nat):α:=if a≤k∧k<a+(b-m) then d[m+(k-a)]! else if a+(b-m)≤k∧k<b then d[k-(b-m)]! else d[k]!
theorem ZqI (e:Array α) {m i j:Nat} (h:j<i) (hi:i≤m) (hs:m+j≤e.size) (k:Nat):rotF (swpR e (m-i) m j) (m-i+j) m (m+j) k=rotF e (m-i) m (m+j) k:=by
 unfold rotF
 simp only [Zhd e (a:=m-i) (b:=m) j (by omega) (by omega)]
 repeat' split
 all_goals first | (exfalso; omega) | exact gx (by omega)
theorem ZqJ (e:Array α) {m i j:Nat} (h:i<j) (hi:i≤m) (hs:m+j≤e.size) (k:Nat):rotF (swpR e (m-i) (m+j-i) i) (m-i) m (m+j-i) k=rotF e (m-i) m (m+j) k:=by
 unfold rotF
 simp only [Zhd e (a:=m-i) (b:=m+j-i) i (by omega) (by omega)]
 repeat' split
 all_goals first | (exfalso; omega) | exact gx (by omega)
theorem ZqH (e:Array α) {m i:Nat} (hi:i≤m) (hs:m+i≤e.size) (k:Nat):(swpR e (m-i) m i)[k]! = rotF e (m-i) m (m+i) k:=by
 unfold rotF
 rw [Zhd e i (by omega) (by omega)]
 repeat' split
 all_goals first | (exfalso; omega) | exact gx (by omega)
theorem ZhR (d:Array α) {a m b:Nat} (h:m≤a∨b≤m) (hab:a≤m) (hb:m≤b) (k:Nat):d[k]! = rotF d a m b k:=by
 unfold rotF
 repeat' split
 all_goals first | (exfalso; omega) | exact gx (by omega)
def shU (d:Array α) (a:Nat):Nat→Array α
 | 0=>d
 | n+1=>swp (shU d a n) (a+n) (a+n+1)
theorem Ze2 (d:Array α) (a:Nat):∀ n,(shU d a n).size=d.size
 | 0=>rfl
 | n+1=>by rw [shU,size_swp,Ze2 d a n]
theorem Zl1 (d:Array α) {a hi:Nat}:∀ n,a+n<hi→hi≤d.size→PermIn a hi d (shU d a n)
 | 0,_,_=>permIn_refl _ _ _
 | n+1,h2,h5=>permIn_trans _ _ _ _ _ (Zl1 d n (by omega) h5) (swp_permIn _ _ _ _ _ (by omega) (by omega) (by omega) (by omega) (by rw [Ze2]; omega))
theorem Zog (d:Array α) {a:Nat}:∀ n,a+n<d.size→∀ k,(shU d a n)[k]! = rotF d a (a+1) (a+1+n) k
 | 0,h,k=>ZhR d (.inr (by omega)) (by omega) (by omega) k
 | n+1,h,k=>by
  have ih:=Zog d (a:=a) n (by omega)
  rw [shU,swp_get (shU d a n) (i:=a+n) (j:=a+n+1) (by rw [Ze2]; omega) (by rw [Ze2]; omega),ih,ih,ih]
  unfold rotF
  repeat' split
  all_goals first | (exfalso; omega) | exact gx (by omega)
def shD (d:Array α) (m:Nat):Nat→Array α
 | 0=>d
 | n+1=>swp (shD d m n) (m-n) (m-n-1)
theorem Ze1 (d:Array α) (m:Nat):∀ n,(shD d m n).size=d.size
 | 0=>rfl
 | n+1=>by rw [shD,size_swp,Ze1 d m n]
theorem Zl0 (d:Array α) {m lo:Nat}:∀ n,lo+n≤m→m<d.size→PermIn lo (m+1) d (shD d m n)
 | 0,_,_=>permIn_refl _ _ _
 | n+1,h2,h5=>permIn_trans _ _ _ _ _ (Zl0 d n (by omega) h5) (swp_permIn _ _ _ _ _ (by omega) (by omega) (by omega) (by omega) (by rw [Ze1]; omega))
theorem Zof (d:Array α) {m:Nat}:∀ n,n≤m→m<d.size→∀ k,(shD d m n)[k]! = rotF d (m-n) m (m+1) k
 | 0,h,h',k=>ZhR d (.inl (by omega)) (by omega) (by omega) k
 | n+1,h,h',k=>by
  have ih:=Zof d (m:=m) n (by omega) h'
  rw [shD,swp_get (shD d m n) (i:=m-n) (j:=m-n-1) (by rw [Ze1]; omega) (by rw [Ze1]; omega),ih,ih,ih]
  unfold rotF
  repeat' split
  all_goals first | (exfalso; omega) | exact gx (by omega)
variable {lt:α→α→Bool}
theorem ZfH (hO:SWO lt) {a b:Nat} {d:Array α} (h:SortedIn lt a b d) {i j:Nat} (h1:a≤i) (h2:i≤j) (h3:j<b):lt d[j]! d[i]! = false:=by
 rcases Nat.lt_or_ge i j with h4 | h4
 ·exact h i j h1 h4 h3
 ·have:i=j:=by omega
  subst this; exact hO.irrefl _
theorem ZfQ {a b a' b':Nat} {d:Array α} (h:SortedIn lt a b d) (h1:a≤a') (h2:b'≤b):SortedIn lt a' b' d:=fun i j hi hij hj=>h i j (by omega) hij (by omega)
theorem ZhZ {a b:Nat} {d e:Array α} (h:SortedIn lt a b d) (he:∀ k,a≤k→k<b→e[k]! = d[k]!):SortedIn lt a b e:=fun i j hi hij hj=>by
 rw [he i hi (by omega),he j (by omega) hj]; exact h i j hi hij hj
theorem Zok {a b:Nat} {d:Array α} (h:b≤a+1):SortedIn lt a b d:=fun i j hi hij hj=>by omega
theorem Zrk (hO:SWO lt) {a m b s t mid:Nat} {d e:Array α} (h1:SortedIn lt a m d) (h2:SortedIn lt m b d) (hs:a≤s∧s≤m) (ht:m≤t∧t≤b) (hmid:s+(t-m)=mid)
 (c1:a<s→t<b→lt d[t]! d[s-1]! = false) (c2:s<m→m<t→lt d[t-1]! d[s]! = true) (hr:∀ k,e[k]! = rotF d s m t k):
 SortedIn lt a s e∧SortedIn lt s mid e∧SortedIn lt mid t e∧SortedIn lt t b e∧∀ i j,a≤i→i<mid→mid≤j→j<b→lt e[j]! e[i]! = false:=by
 have g1:∀ k,k<s→e[k]! = d[k]!:=fun k h=>by rw [hr]; unfold rotF; rw [if_neg (by omega),if_neg (by omega)]
 have g2:∀ k,s≤k→k<mid→e[k]! = d[m+(k-s)]!:=fun k h h'=>by rw [hr]; unfold rotF; rw [if_pos (by omega)]
 have g3:∀ k,mid≤k→k<t→e[k]! = d[k-(t-m)]!:=fun k h h'=>by rw [hr]; unfold rotF; rw [if_neg (by omega),if_pos (by omega)]
 have g4:∀ k,t≤k→e[k]! = d[k]!:=fun k h=>by rw [hr]; unfold rotF; rw [if_neg (by omega),if_neg (by omega)]
 refine ⟨fun i j hi hij hj=>?_,fun i j hi hij hj=>?_,fun i j hi hij hj=>?_,fun i j hi hij hj=>?_,fun i j hi hi' hj hj'=>?_⟩
 ·rw [g1 i (by omega),g1 j hj]; exact h1 i j hi hij (by omega)
 ·rw [g2 i hi (by omega),g2 j (by omega) hj]; exact h2 _ _ (by omega) (by omega) (by omega)
 ·rw [g3 i hi (by omega),g3 j (by omega) hj]; exact h1 _ _ (by omega) (by omega) (by omega)
 ·rw [g4 i hi,g4 j (by omega)]; exact h2 i j (by omega) hij hj
 ·rcases Nat.lt_or_ge i s with x | x <;> rcases Nat.lt_or_ge j t with y | y
  ·rw [g1 i x,g3 j hj y]; exact h1 _ _ hi (by omega) (by omega)
  ·rw [g1 i x,g4 j y]
   have a1:=ZfH hO h2 (i:=t) (j:=j) ht.1 y hj'
   have a2:=c1 (by omega) (by omega)
   have a3:=ZfH hO h1 (i:=i) (j:=s-1) hi (by omega) (by omega)
   exact hO.ntrans _ _ _ (hO.ntrans _ _ _ a1 a2) a3
  ·rw [g2 i x hi',g3 j hj y]
   have a1:=ZfH hO h2 (i:=m+(i-s)) (j:=t-1) (by omega) (by omega) (by omega)
   have a2:=c2 (by omega) (by omega)
   have a3:=ZfH hO h1 (i:=s) (j:=j-(t-m)) hs.1 (by omega) (by omega)
   cases hv:lt d[j-(t-m)]! d[m+(i-s)]! with
   | false=>rfl
   | true=>
    cases hw:lt d[j-(t-m)]! d[t-1]! with
    | false=>rw [hO.ntrans _ _ _ hw a1] at hv; cases hv
    | true=>rw [hO.trans _ _ _ hw a2] at a3; cases a3
  ·rw [g2 i x hi',g4 j y]; exact h2 _ _ (by omega) (by omega) hj'
theorem glue (hO:SWO lt) {a mid b:Nat} {e e1 e2:Array α} (hb:b≤e.size) (ha:a≤mid) (hm:mid≤b) (p1:PermIn a mid e e1) (p2:PermIn mid b e1 e2) (s1:SortedIn lt a mid e1) (s2:SortedIn lt mid b e2)
 (hc:∀ i j,a≤i→i<mid→mid≤j→j<b→lt e[j]! e[i]! = false):PermIn a b e e2∧SortedIn lt a b e2:=by
 have z1:=p1.1
 have z2:=p2.1
 refine ⟨permIn_trans _ _ _ _ _ (permIn_mono _ _ _ _ _ _ (Nat.le_refl _) hm hb p1) (permIn_mono _ _ _ _ _ _ ha (Nat.le_refl _) (by omega) p2),fun i j hi hij hj=>?_⟩
 have k1:∀ i j,a≤i→i<mid→mid≤j→j<b→lt e1[j]! e1[i]! = false:=fun i j hi hi' hj hj'=>by
  rw [p1.2.1 j (.inr hj)]
  exact permIn_all e e1 a mid (fun x=>lt e[j]! x=false) (by omega) p1 (fun i h h'=>hc i j h h' hj hj') i hi hi'
 have k2:∀ i j,a≤i→i<mid→mid≤j→j<b→lt e2[j]! e2[i]! = false:=fun i j hi hi' hj hj'=>by
  rw [p2.2.1 i (.inl hi')]
  exact permIn_all e1 e2 mid b (fun y=>lt y e1[i]! = false) (by omega) p2 (fun j h h'=>k1 i j hi hi' h h') j hj hj'
 rcases Nat.lt_or_ge i mid with x | x
 ·rcases Nat.lt_or_ge j mid with y | y
  ·rw [p2.2.1 i (.inl x),p2.2.1 j (.inl y)]; exact s1 i j hi hij y
  ·exact k2 i j hi x y hj
 ·exact s2 i j x hij hj
theorem ZoP (hO:SWO lt) {a b i:Nat} {d e:Array α} (h:SortedIn lt (a+1) b d) (h1:a+1≤i) (h2:i≤b) (c1:i=a+1∨lt d[i-1]! d[a]! = true) (c2:i=b∨lt d[i]! d[a]! = false) (hr:∀ k,e[k]! = rotF d a (a+1) i k):SortedIn lt a b e:=by
 have g1:∀ k,a≤k→k<i-1→e[k]! = d[k+1]!:=fun k h h'=>by rw [hr]; unfold rotF; rw [if_pos (by omega)]; exact gx (by omega)
 have g2:e[i-1]! = d[a]!:=by rw [hr]; unfold rotF; rw [if_neg (by omega),if_pos (by omega)]; exact gx (by omega)
 have g3:∀ k,i≤k→e[k]! = d[k]!:=fun k h=>by rw [hr]; unfold rotF; rw [if_neg (by omega),if_neg (by omega)]
 have lo:∀ p,a≤p→p<i-1→lt d[a]! d[p+1]! = false:=fun p h5 h6=>by
  rcases c1 with c1 | c1
  ·omega
  ·exact hO.ntrans _ _ _ (hO.asymmA c1) (ZfH hO h (i:=p+1) (j:=i-1) (by omega) (by omega) (by omega))
 have hi:∀ q,i≤q→q<b→lt d[q]! d[a]! = false:=fun q h5 h6=>by
  rcases c2 with c2 | c2
  ·omega
  ·exact hO.ntrans _ _ _ (ZfH hO h (i:=i) (j:=q) h1 h5 h6) c2
 intro p q hp hpq hq
 rcases Nat.lt_trichotomy p (i-1) with x | x | x
 ·rcases Nat.lt_trichotomy q (i-1) with y | y | y
  ·rw [g1 p hp x,g1 q (by omega) y]; exact h _ _ (by omega) (by omega) (by omega)
  ·rw [y,g2,g1 p hp x]; exact lo p hp x
  ·rw [g1 p hp x,g3 q (by omega)]; exact h _ _ (by omega) (by omega) hq
 ·rw [x,g2,g3 q (by omega)]; exact hi q (by omega) hq
 ·rw [g3 p (by omega),g3 q (by omega)]; exact h _ _ (by omega) hpq hq
theorem Znw (hO:SWO lt) {a m i:Nat} {d e:Array α} (h:SortedIn lt a m d) (h1:a≤i) (h2:i≤m) (c1:i=a∨lt d[m]! d[i-1]! = false) (c2:i=m∨lt d[m]! d[i]! = true) (hr:∀ k,e[k]! = rotF d i m (m+1) k):SortedIn lt a (m+1) e:=by
 have g1:∀ k,k<i→e[k]! = d[k]!:=fun k h=>by rw [hr]; unfold rotF; rw [if_neg (by omega),if_neg (by omega)]
 have g2:e[i]! = d[m]!:=by rw [hr]; unfold rotF; rw [if_pos (by omega)]; exact gx (by omega)
 have g3:∀ k,i<k→k≤m→e[k]! = d[k-1]!:=fun k h h'=>by rw [hr]; unfold rotF; rw [if_neg (by omega),if_pos (by omega)]; exact gx (by omega)
 have lo:∀ p,a≤p→p<i→lt d[m]! d[p]! = false:=fun p h5 h6=>by
  rcases c1 with c1 | c1
  ·omega
  ·exact hO.ntrans _ _ _ c1 (ZfH hO h (i:=p) (j:=i-1) h5 (by omega) (by omega))
 have hi:∀ q,i<q→q≤m→lt d[q-1]! d[m]! = false:=fun q h5 h6=>by
  rcases c2 with c2 | c2
  ·omega
  ·exact hO.ntrans _ _ _ (ZfH hO h (i:=i) (j:=q-1) h1 (by omega) (by omega)) (hO.asymmA c2)
 intro p q hp hpq hq
 rcases Nat.lt_trichotomy p i with x | x | x
 ·rcases Nat.lt_trichotomy q i with y | y | y
  ·rw [g1 p x,g1 q y]; exact h _ _ hp hpq (by omega)
  ·rw [y,g2,g1 p x]; exact lo p hp x
  ·rw [g1 p x,g3 q y (by omega)]; exact ZfH hO h (by omega) (by omega) (by omega)
 ·rw [x,g2,g3 q (by omega) (by omega)]; exact hi q (by omega) (by omega)
 ·rw [g3 p x (by omega),g3 q (by omega) (by omega)]; exact ZfH hO h (by omega) (by omega) (by omega)
def Runs (lt:α→α→Bool) (bs n:Nat) (d:Array α):Prop:=∀ q,SortedIn lt (q*bs) (min (q*bs+bs) n) d
end
end Go.Proofs.YtmcdjilbkmhfoaaGreat
namespace Go.Proofs.YtmcdjilbkmhfoaaGreat
set_option maxRecDepth 10000
open Go.RowKit Go.Lib Go.Sort
set_option linter.unusedVariables false
set_option linter.unusedSimpArgs false
set_option linter.unusedSectionVars false
set_option maxRecDepth 100000
set_option maxHeartbeats 4000000
section
variable {α:Type} [Inhabited α] {enc:α→List Value} {k:Nat} {g:Nat} {T:TypeId} {cs:Nat}
structure SU (enc:α→List Value) (k:Nat) (g:Nat) (T:TypeId) (cs:Nat) (w0:World) (d:Array α) (W:World):Prop where
 up:UpO (fun b=>b=g) w0 W
 hold:HoldsK enc k W g 0 d
 row:∃ cells,W.heap[g]?=some (.cells cells T (0,0))∧cells.size=cs
theorem SU.lt {w0 W:World} {d:Array α} (h:SU enc k g T cs w0 d W):g<W.heap.size:=by
 obtain ⟨c,h1,_⟩:=h.row
 exact (Array.getElem?_eq_some_iff.1 h1).1
theorem SU.more {w0 W W':World} {d:Array α} (h:SU enc k g T cs w0 d W) (u:Up W W'):SU enc k g T cs w0 d W':=by
 have hl:=h.lt
 refine ⟨⟨u.os.trans h.up.os,u.tape.trans h.up.tape,u.output.trans h.up.output,Nat.le_trans h.up.size u.size,fun b hb hn=>(u.block b (Nat.lt_of_lt_of_le hb h.up.size)).trans (h.up.block b hb hn)⟩,fun j hj=>⟨(u.cell (p:=⟨g,0+j,none⟩) hl).trans (h.hold j hj).1,(u.frozen (p:=⟨g,0+j,none⟩) hl).trans (h.hold j hj).2⟩,?_⟩
 obtain ⟨c,h1,h2⟩:=h.row
 exact ⟨c,(u.block g hl).trans h1,h2⟩
theorem SU.trans {w0 W W':World} {d d':Array α} (h:SU enc k g T cs w0 d W) (h':SU enc k g T cs W d' W'):SU enc k g T cs w0 d' W':=⟨h.up.trans h'.up fun _ _ h=>h,h'.hold,h'.row⟩
theorem SU.self {w0 W:World} {d:Array α} (h:SU enc k g T cs w0 d W):SU enc k g T cs W d W:=⟨UpO.refl _ _,h.hold,h.row⟩
theorem SU.oth {w0 W:World} {d:Array α} (h:SU enc k g T cs w0 d W) {b o:Nat} (hb:b<w0.heap.size) (hn:b≠g):W.cell? ⟨b,o,none⟩=w0.cell? ⟨b,o,none⟩:=Zbt (h.up.block b hb hn)
theorem SU.swap (hk:∀ x,(enc x).length=k) {w0 W:World} {d:Array α} (h:SU enc k g T cs w0 d W) {i j:Nat} (hi:i<d.size) (hj:j<d.size):SU enc k g T cs w0 (swp d i j) ((W.setCells g (i*k) (enc d[j]!)).setCells g (j*k) (enc d[i]!)):=by
 have e:=putRowK_swp enc k hk W g 0 d i j hi hj
 rw [putRowK_self enc k W g 0 d h.hold,Nat.zero_add,Nat.zero_add] at e
 rw [e]
 have hl:=h.lt
 refine ⟨h.up.trans (O':=fun b=>b=g) ⟨rfl,rfl,rfl,by rw [size_putRowK]; exact Nat.le_refl _,fun b hb hn=>?_⟩ fun _ _ h=>h,holdsK_putRowK enc k W g 0 d _ h.hold (size_swp _ _ _),?_⟩
 ·show (W.heap.modify g _)[b]?=_
  rw [Array.getElem?_modify,if_neg (fun e=>hn e.symm)]
 ·obtain ⟨c,h1,h2⟩:=h.row
  refine ⟨putCells id 0 (flatK enc k (swp d i j)) c,?_,?_⟩
  ·show (W.heap.modify g _)[g]?=_
   rw [Array.getElem?_modify,if_pos rfl,h1]
   rfl
  ·simp [putCells,h2]
def ZfS (f:Nat) (lb:Array Value) (enc:α→List Value) (k:Nat) (lt:α→α→Bool) (g:Nat) (T:TypeId) (cs n:Nat) (w0:World):Prop:=
 ∀ (d:Array α) (W:World),SU enc k g T cs w0 d W→d.size=n→∀ i j:Nat,i<n→j<n→Calls Tryz.prog f (#[.int .i64 i,.int .i64 j]++lb) W fun e w'=>e=.returned (.bool (lt d[i]! d[j]!))∧Up W w'
theorem ZfS.on {f:Nat} {lb:Array Value} {lt:α→α→Bool} {n:Nat} {w0 W:World} {d:Array α} (h:ZfS f lb enc k lt g T cs n w0) (hW:SU enc k g T cs w0 d W):ZfS f lb enc k lt g T cs n W:=fun d' W' h'=>h d' W' (hW.trans h')
abbrev LS (f:Nat) (lb:Array Value) (sf:Nat) (sb:Array Value):Value:=.agg #[.func (.func f) #[] lb,.func (.func sf) #[] sb]
abbrev LSo (f:Nat) (lb:Array Value) (sf:Nat) (sb:Array Value):Obj:=.cells #[.func (.func f) #[] lb,.func (.func sf) #[] sb] 245
variable (hk:∀ x,(enc x).length=k) (f:Nat) (lb:Array Value) (sf:Nat) (sb:Array Value) (n:Nat) (hn:n<1152921504606846976) (hswap:SwapSwapsK Tryz.prog sf sb enc k g 0 n)
include hk hn hswap
theorem ZqR {d:Array α} {W:World} (hd:d.size=n) (h0:SU enc k g T cs W d W) (a b m:Nat) (h1:a+m≤b) (h2:b+m≤n):
 Calls Tryz.prog 286 #[LS f lb sf sb,.int .i64 a,.int .i64 b,.int .i64 m] W fun e w'=>e=.returned (.tuple #[])∧SU enc k g T cs W (swpR d a b m) w':=by
 have hg:=h0.lt
 have hB:SU enc k g T cs W d (W.alloc (LSo f lb sf sb)):=h0.more (Up.al _ (Up.rfl' W))
 go_enter Tryz.func286,Tryz.ntmps286
 go_wp2
 go_loopw [8] (fun vi wr=>∃ i:Nat,vi=.int .i64 i∧i≤m∧SU enc k g T cs (W.alloc (LSo f lb sf sb)) (swpR d a b i) wr) (fun vi _=>m-(intOf vi).toNat)
 case atStart=>exact ⟨0,by go_num,by omega,hB.self⟩
 case round=>
  obtain ⟨i,rfl,him,hS⟩:=hrel
  have c1:wr.cell? ⟨W.heap.size,1,none⟩=some (.func (.func sf) #[] sb):=by rw [hS.oth (by simp) (by omega)]; simp
  have HS:Hid (SU enc k g T cs (W.alloc (LSo f lb sf sb)) (swpR d a b i) wr):=hS
  clear hS
  by_cases hi:i<m
  ·have hs:=hswap wr (swpR d a b i) HS.out.hold (by rw [ZdT]; exact hd) (a+i) (b+i) (by omega) (by omega)
   rw [show ((a+i:Nat):Int)=(a:Int)+(i:Int) by omega,show ((b+i:Nat):Int)=(b:Int)+(i:Int) by omega] at hs
   go_wp2
   exact ⟨⟨i+1,by go_num,by omega,HS.out.swap hk (by rw [ZdT]; omega) (by rw [ZdT]; omega)⟩,by simp [intOf]; omega⟩
  ·go_wp2
   go_end0
   have:i=m:=by omega
   subst this
   exact ⟨rfl,hB.trans HS.out⟩
theorem Zpe {d:Array α} {W:World} (hd:d.size=n) (h0:SU enc k g T cs W d W) (a m b:Nat) (h1:a≤m) (h2:m≤b) (h3:b≤n) (h4:a<m∧m<b):
 Calls Tryz.prog 273 #[LS f lb sf sb,.int .i64 a,.int .i64 m,.int .i64 b] W fun e w'=>e=.returned (.tuple #[])∧∃ e,SU enc k g T cs W e w'∧PermIn a b d e∧∀ k,e[k]! = rotF d a m b k:=by
 have hg:=h0.lt
 have hB:SU enc k g T cs W d (W.alloc (LSo f lb sf sb)):=h0.more (Up.al _ (Up.rfl' W))
 have hsw:=fun (d':Array α) (W':World) (hd':d'.size=n) (h':SU enc k g T cs W' d' W') (a b m:Nat) (h1:a+m≤b) (h2:b+m≤n)=>ZqR hk f lb sf sb n hn hswap (T:=T) (cs:=cs) hd' h' a b m h1 h2
 go_enter Tryz.func273,Tryz.ntmps273
 go_wp2
 go_loopw [8,9] (fun vi vj wr=>∃ (i j:Nat) (e:Array α),vi=.int .i64 i∧vj=.int .i64 j∧0<i∧0<j∧i≤m-a∧j≤b-m∧e.size=n∧PermIn a b d e∧(∀ k,rotF e (m-i) m (m+j) k=rotF d a m b k)∧SU enc k g T cs (W.alloc (LSo f lb sf sb)) e wr) (fun vi vj _=>(intOf vi).toNat+(intOf vj).toNat)
 case atStart=>exact ⟨m-a,b-m,d,by go_num,by go_num,by omega,by omega,Nat.le_refl _,Nat.le_refl _,hd,permIn_refl _ _ _,fun k=>by rw [show m-(m-a)=a by omega,show m+(b-m)=b by omega],hB.self⟩
 case round=>
  obtain ⟨i,j,e,rfl,rfl,hi,hj,hia,hjb,he,hP,hR,hS⟩:=hrel
  have c0:wr.cell? ⟨W.heap.size,0,none⟩=some (.func (.func f) #[] lb):=by rw [hS.oth (by simp) (by omega)]; simp
  have c1:wr.cell? ⟨W.heap.size,1,none⟩=some (.func (.func sf) #[] sb):=by rw [hS.oth (by simp) (by omega)]; simp
  have HS:Hid (SU enc k g T cs (W.alloc (LSo f lb sf sb)) e wr):=hS
  have HR:Hid (∀ k,rotF e (m-i) m (m+j) k=rotF d a m b k):=hR
  have HB:Hid (SU enc k g T cs W d (W.alloc (LSo f lb sf sb))):=hB
  clear hS hR hB h0
  by_cases hij:i=j
  ·subst hij
   have q:=hsw e wr he HS.out.self (m-i) m i (by omega) (by omega)
   rw [show ((m-i:Nat):Int)=(m:Int)-(i:Int) by omega] at q
   go_wp2_with (go_at_call 286; refine q.mono ?_; rintro e w' ⟨rfl,hw⟩)
   go_end0
   exact ⟨rfl,swpR e (m-i) m i,(HB.out.trans HS.out).trans hw,permIn_trans _ _ _ _ _ hP (Zgn e (by omega) i (by omega) (by omega) (by omega) (by omega)),fun k=>(ZqH e (by omega) (by omega) k).trans (HR.out k)⟩
  ·by_cases hgt:j<i
   ·have q:=hsw e wr he HS.out.self (m-i) m j (by omega) (by omega)
    rw [show ((m-i:Nat):Int)=(m:Int)-(i:Int) by omega] at q
    go_wp2_with (go_at_call 286; refine q.mono ?_; rintro e w' ⟨rfl,hw⟩)
    refine ⟨⟨i-j,j,swpR e (m-i) m j,by go_num,rfl,by omega,hj,by omega,hjb,by rw [ZdT]; exact he,permIn_trans _ _ _ _ _ hP (Zgn e (by omega) j (by omega) (by omega) (by omega) (by omega)),fun k=>?_,HS.out.trans hw⟩,by simp [intOf]; omega⟩
    rw [show m-(i-j)=m-i+j by omega]
    exact (ZqI e hgt (by omega) (by omega) k).trans (HR.out k)
   ·have q:=hsw e wr he HS.out.self (m-i) (m+j-i) i (by omega) (by omega)
    rw [show ((m-i:Nat):Int)=(m:Int)-(i:Int) by omega,show ((m+j-i:Nat):Int)=(m:Int)+(j:Int)-(i:Int) by omega] at q
    go_wp2_with (go_at_call 286; refine q.mono ?_; rintro e w' ⟨rfl,hw⟩)
    refine ⟨⟨i,j-i,swpR e (m-i) (m+j-i) i,rfl,by go_num,hi,by omega,hia,by omega,by rw [ZdT]; exact he,permIn_trans _ _ _ _ _ hP (Zgn e (by omega) i (by omega) (by omega) (by omega) (by omega)),fun k=>?_,HS.out.trans hw⟩,by simp [intOf]; omega⟩
    rw [show m+(j-i)=m+j-i by omega]
    exact (ZqJ e (by omega) (by omega) (by omega) k).trans (HR.out k)
omit hk hn hswap in
theorem ZiM {lt:α→α→Bool} {d0:Array α} {W:World} (hL:ZfS f lb enc k lt g T cs n W) (h0:SU enc k g T cs W d0 W) {dj:Array α} {wr:World} (hS:SU enc k g T cs (W.alloc (LSo f lb sf sb)) dj wr) (hd:dj.size=n) (hsw:SwapSwapsK Tryz.prog sf sb enc k g 0 n) (i j:Nat) (hi:i<n) (hj:j<n):
 Calls Tryz.prog f (#[.int .i64 i,.int .i64 j]++lb) wr fun e w'=>e=.returned (.bool (lt dj[i]! dj[j]!))∧SU enc k g T cs (W.alloc (LSo f lb sf sb)) dj w'∧w'.cell? ⟨W.heap.size,0,none⟩=some (.func (.func f) #[] lb)∧w'.cell? ⟨W.heap.size,1,none⟩=some (.func (.func sf) #[] sb)∧
  (callFunc sf (#[.int .i64 i,.int .i64 j]++sb)).run Tryz.prog w'=.ok (.value (.tuple #[])) ((w'.setCells g (i*k) (enc dj[j]!)).setCells g (j*k) (enc dj[i]!)):=by
 have hg:=h0.lt
 refine (hL.on (h0.more (Up.al _ (Up.rfl' W))) dj wr hS hd i j hi hj).mono ?_
 rintro e w' ⟨he,hu⟩
 have hS':=hS.more hu
 have hs:=hsw w' dj hS'.hold hd i j hi hj
 rw [Nat.zero_add,Nat.zero_add] at hs
 exact ⟨he,hS',by rw [hS'.oth (by simp) (by omega)]; simp,by rw [hS'.oth (by simp) (by omega)]; simp,hs⟩
theorem Znv {lt:α→α→Bool} (eg:∀ args w,(callFunc f args).run Tryz.prog w=.ok (.enter f args) w) {d:Array α} {W:World} (hd:d.size=n) (h0:SU enc k g T cs W d W) (hL:ZfS f lb enc k lt g T cs n W) (a b:Nat) (hab:a≤b) (hb:b≤n):
 Calls Tryz.prog 268 #[LS f lb sf sb,.int .i64 a,.int .i64 b] W fun e w'=>e=.returned (.tuple #[])∧SU enc k g T cs W (Sort.insertionSort lt d a b) w':=by
 have hB:SU enc k g T cs W d (W.alloc (LSo f lb sf sb)):=h0.more (Up.al _ (Up.rfl' W))
 have hless:=fun dj wr hS hd' i j hi hj=>ZiM (dj:=dj) (wr:=wr) f lb sf sb n hL h0 hS hd' hswap i j hi hj
 have HB:Hid (SU enc k g T cs W d (W.alloc (LSo f lb sf sb))):=hB
 have hg:=h0.lt
 clear h0 hL
 go_enter Tryz.func268,Tryz.ntmps268
 go_wp2
 go_loopw [6] (fun vi wr=>∃ (i:Nat) (dk:Array α),vi=.int .i64 i∧a<i∧i≤b+1∧dk.size=n∧SU enc k g T cs (W.alloc (LSo f lb sf sb)) dk wr∧
  insOuter lt a b i dk=insOuter lt a b (a+1) d) (fun vi _=>b+1-(intOf vi).toNat)
 case atStart=>exact ⟨a+1,d,by go_num,by omega,by omega,hd,hB.self,rfl⟩
 case round=>
  obtain ⟨i,dk,rfl,hai,hib,hsk,hwr,hO⟩:=hrel
  have HO:Hid (insOuter lt a b i dk=insOuter lt a b (a+1) d):=hO
  clear hO
  go_wp2
  ·go_loopw [7] (fun vj wr2=>∃ (j:Nat) (dj:Array α),vj=.int .i64 j∧a≤j∧j≤i∧dj.size=n∧SU enc k g T cs (W.alloc (LSo f lb sf sb)) dj wr2∧
    insInner lt a j dj=insInner lt a i dk) (fun vj _=>(intOf vj).toNat)
   case atStart=>exact ⟨i,dk,rfl,by omega,Nat.le_refl _,hsk,hwr,rfl⟩
   case round=>
    obtain ⟨j,dj,rfl,haj,hji,hsj,hw2,hI⟩:=hrel
    have hlt:i<b:=by assumption
    have c0:wr.cell? ⟨W.heap.size,0,none⟩=some (.func (.func f) #[] lb):=by rw [hw2.oth (by simp) (by omega)]; simp
    have c1:wr.cell? ⟨W.heap.size,1,none⟩=some (.func (.func sf) #[] sb):=by rw [hw2.oth (by simp) (by omega)]; simp
    have HW:Hid (SU enc k g T cs (W.alloc (LSo f lb sf sb)) dj wr):=hw2
    have HI:Hid (insInner lt a j dj=insInner lt a i dk):=hI
    clear hw2 hI hwr hB
    have out:(j≤a∨lt dj[j]! dj[j-1]! = false)→∀ W',SU enc k g T cs (W.alloc (LSo f lb sf sb)) dj W'→∃ (i':Nat) (dk':Array α),Value.int .i64 ((i:Int)+1)=.int .i64 (i':Nat)∧a<i'∧i'≤b+1∧dk'.size=n∧
     SU enc k g T cs (W.alloc (LSo f lb sf sb)) dk' W'∧insOuter lt a b i' dk'=insOuter lt a b (a+1) d:=fun hs W' hW=>
     ⟨i+1,dj,by go_num,by omega,by omega,hsj,hW,
      by rw [← HO.out,insOuter_go _ _ _ _ _ hlt,← HI.out,insInner_stop _ _ _ _ hs]⟩
    have OUT:Hid _:=out
    clear out
    by_cases hja:a<j
    ·have hl:=hless dj wr HW.out hsj j (j-1) (by omega) (by omega)
     rw [show (((j-1:Nat):Int))=(j:Int)-1 by omega] at hl
     clear hless
     cases hlv:lt dj[j]! dj[j-1]! with
     | true=>
      rw [hlv] at hl
      go_wp2_with (go_at_fn f; refine hl.mono ?_; rintro e w' ⟨rfl,hS,c0',c1',hs⟩)
      refine ⟨?_,by simp [intOf]; omega⟩
      (repeat apply Exists.intro)
      refine ⟨⟨j-1,swp dj j (j-1),by congr 1 <;> omega,by omega,by omega,by rw [size_swp]; exact hsj,hS.swap hk (by omega) (by omega),?_⟩,by rw [decide_eq_true hlt,show ((j-1:Nat):Int)=(j:Int)-1 by omega]⟩
      rw [← HI.out,insInner_go lt a j dj hja hlv]
     | false=>
      rw [hlv] at hl
      go_wp2_with (go_at_fn f; refine hl.mono ?_; rintro e w' ⟨rfl,hS,c0',c1',hs⟩)
      exact ⟨OUT.out (.inr hlv) _ hS,by simp [intOf]; omega⟩
    ·go_wp2
     exact ⟨OUT.out (.inl (by omega)) _ HW.out,by simp [intOf]; omega⟩
  ·have hge:¬ i<b:=by assumption
   go_end0
   exact ⟨rfl,by unfold Sort.insertionSort; rw [← HO.out,insOuter_stop _ _ _ _ _ hge]; exact HB.out.trans hwr⟩
end
section
variable {α:Type} [Inhabited α] {enc:α→List Value} {k:Nat} {g:Nat} {T:TypeId} {cs:Nat}
variable (hk:∀ x,(enc x).length=k) (f:Nat) (lb:Array Value) (sf:Nat) (sb:Array Value) (n:Nat) (hn:n<1152921504606846976) (hswap:SwapSwapsK Tryz.prog sf sb enc k g 0 n)
include hk hn hswap
theorem ZrB {lt:α→α→Bool} (hO:SWO lt) (eg:∀ args w,(callFunc f args).run Tryz.prog w=.ok (.enter f args) w) {d:Array α} {W:World} (hd:d.size=n) (h0:SU enc k g T cs W d W) (hL:ZfS f lb enc k lt g T cs n W) (a m b:Nat) (h1:m=a+1) (h2:m<b) (hb:b≤n) (hs:SortedIn lt m b d):
 Calls Tryz.prog 269 #[LS f lb sf sb,.int .i64 a,.int .i64 m,.int .i64 b] W fun e w'=>e=.returned (.tuple #[])∧∃ e,SU enc k g T cs W e w'∧PermIn a b d e∧SortedIn lt a b e:=by
 have hB:SU enc k g T cs W d (W.alloc (LSo f lb sf sb)):=h0.more (Up.al _ (Up.rfl' W))
 have hless:=fun dj wr hS hd' i j hi hj=>ZiM (dj:=dj) (wr:=wr) f lb sf sb n hL h0 hS hd' hswap i j hi hj
 have HB:Hid (SU enc k g T cs W d (W.alloc (LSo f lb sf sb))):=hB
 have HSs:Hid (SortedIn lt m b d):=hs
 have hg:=h0.lt
 clear h0 hL hs
 have hma:(m:Int)-(a:Int)=1:=by omega
 have H1:Hid (m=a+1):=h1
 clear h1
 go_enter Tryz.func269,Tryz.ntmps269
 go_wp2
 go_loopw [8,9] (fun vi vj wr=>∃ (i j:Nat),vi=.int .i64 i∧vj=.int .i64 j∧m≤i∧i≤j∧j≤b∧(i=m∨lt d[i-1]! d[a]! = true)∧(j=b∨lt d[j]! d[a]! = false)∧SU enc k g T cs (W.alloc (LSo f lb sf sb)) d wr) (fun vi vj _=>(intOf vj).toNat-(intOf vi).toNat)
 case atStart=>exact ⟨m,b,rfl,rfl,by omega,by omega,by omega,.inl rfl,.inl rfl,hB.self⟩
 case round=>
  obtain ⟨i,j,rfl,rfl,hi,hij,hj,hc1,hc2,hS⟩:=hrel
  have c0:wr.cell? ⟨W.heap.size,0,none⟩=some (.func (.func f) #[] lb):=by rw [hS.oth (by simp) (by omega)]; simp
  have c1:wr.cell? ⟨W.heap.size,1,none⟩=some (.func (.func sf) #[] sb):=by rw [hS.oth (by simp) (by omega)]; simp
  have HS:Hid (SU enc k g T cs (W.alloc (LSo f lb sf sb)) d wr):=hS
  have HC1:Hid (i=m∨lt d[i-1]! d[a]! = true):=hc1
  have HC2:Hid (j=b∨lt d[j]! d[a]! = false):=hc2
  clear hS hB hc1 hc2
  by_cases hlt:i<j
  ·have hl:=hless d wr HS.out hd ((i+j) / 2) a (by omega) (by omega)
   rw [show (((i+j) / 2:Nat):Int)=((i:Int)+(j:Int)) / 2 by omega] at hl
   clear hless
   cases hlv:lt d[(i+j) / 2]! d[a]! with
   | true=>
    rw [hlv] at hl
    go_wp2_with (go_at_fn f; refine hl.mono ?_; rintro e w' ⟨rfl,hS,c0',c1',_⟩)
    refine ⟨?_,by simp [intOf]; omega⟩
    exact ⟨(i+j) / 2+1,j,by go_num,rfl,by omega,by omega,by omega,.inr (by rw [Nat.add_sub_cancel]; exact hlv),HC2.out,hS⟩
   | false=>
    rw [hlv] at hl
    go_wp2_with (go_at_fn f; refine hl.mono ?_; rintro e w' ⟨rfl,hS,c0',c1',_⟩)
    refine ⟨?_,by simp [intOf]; omega⟩
    exact ⟨i,(i+j) / 2,rfl,by go_num,by omega,by omega,by omega,HC1.out,.inr hlv,hS⟩
  ·have hij':i=j:=by omega
   subst hij'
   go_wp2
   go_loopw [11] (fun vq wr2=>∃ q:Nat,vq=.int .i64 ((a:Int)+(q:Int))∧a+q+1≤i∧SU enc k g T cs (W.alloc (LSo f lb sf sb)) (shU d a q) wr2) (fun vq _=>i-(intOf vq).toNat)
   case atStart=>exact ⟨0,by go_num,by omega,HS.out⟩
   case round=>
    obtain ⟨q,rfl,hq,hS2⟩:=hrel
    have c0:wr.cell? ⟨W.heap.size,0,none⟩=some (.func (.func f) #[] lb):=by rw [hS2.oth (by simp) (by omega)]; simp
    have c1:wr.cell? ⟨W.heap.size,1,none⟩=some (.func (.func sf) #[] sb):=by rw [hS2.oth (by simp) (by omega)]; simp
    have HS2:Hid (SU enc k g T cs (W.alloc (LSo f lb sf sb)) (shU d a q) wr):=hS2
    clear hS2
    by_cases hqi:a+q+1<i
    ·have hs:=hswap wr (shU d a q) HS2.out.hold (by rw [Ze2]; exact hd) (a+q) (a+q+1) (by omega) (by omega)
     rw [Nat.zero_add,Nat.zero_add,show ((a+q+1:Nat):Int)=(a:Int)+(q:Int)+1 by omega,show ((a+q:Nat):Int)=(a:Int)+(q:Int) by omega] at hs
     have hlt2:(a:Int)+(q:Int)<(i:Int)-1:=by omega
     go_wp2
     exact ⟨⟨q+1,by congr 1,by omega,HS2.out.swap hk (by rw [Ze2]; omega) (by rw [Ze2]; omega)⟩,by simp [intOf]; omega⟩
    ·have hge2:¬ (a:Int)+(q:Int)<(i:Int)-1:=by omega
     go_wp2
     (try simp only [Exit.inBlock,Exit.then])
     refine bodyPost_ret (results_none rfl _ _ _) rfl ?_
     refine ⟨rfl,shU d a q,HB.out.trans HS2.out,Zl1 d q (by omega) (by omega),?_⟩
     obtain rfl:=H1.out
     exact ZoP hO HSs.out (by omega) hj HC1.out HC2.out (fun k=>by rw [show i=a+1+q by omega]; exact Zog d q (by omega) k)
theorem ZrC {lt:α→α→Bool} (hO:SWO lt) (eg:∀ args w,(callFunc f args).run Tryz.prog w=.ok (.enter f args) w) {d:Array α} {W:World} (hd:d.size=n) (h0:SU enc k g T cs W d W) (hL:ZfS f lb enc k lt g T cs n W) (a m b:Nat) (h1:b=m+1) (h2:a+1<m) (hb:b≤n) (hs:SortedIn lt a m d):
 Calls Tryz.prog 269 #[LS f lb sf sb,.int .i64 a,.int .i64 m,.int .i64 b] W fun e w'=>e=.returned (.tuple #[])∧∃ e,SU enc k g T cs W e w'∧PermIn a b d e∧SortedIn lt a b e:=by
 have hB:SU enc k g T cs W d (W.alloc (LSo f lb sf sb)):=h0.more (Up.al _ (Up.rfl' W))
 have hless:=fun dj wr hS hd' i j hi hj=>ZiM (dj:=dj) (wr:=wr) f lb sf sb n hL h0 hS hd' hswap i j hi hj
 have HB:Hid (SU enc k g T cs W d (W.alloc (LSo f lb sf sb))):=hB
 have HSs:Hid (SortedIn lt a m d):=hs
 have hg:=h0.lt
 clear h0 hL hs
 have hna:((m:Int)-(a:Int) == 1)=false:=by simp; omega
 have hmb:(b:Int)-(m:Int)=1:=by omega
 have H1:Hid (b=m+1):=h1
 have hlt3:m<b:=by omega
 clear h1
 go_enter Tryz.func269,Tryz.ntmps269
 go_wp2
 clear hna hmb
 go_loopw [12,13] (fun vi vj wr=>∃ (i j:Nat),vi=.int .i64 i∧vj=.int .i64 j∧a≤i∧i≤j∧j≤m∧(i=a∨lt d[m]! d[i-1]! = false)∧(j=m∨lt d[m]! d[j]! = true)∧SU enc k g T cs (W.alloc (LSo f lb sf sb)) d wr) (fun vi vj _=>(intOf vj).toNat-(intOf vi).toNat)
 case atStart=>exact ⟨a,m,rfl,rfl,by omega,by omega,by omega,.inl rfl,.inl rfl,hB.self⟩
 case round=>
  obtain ⟨i,j,rfl,rfl,hi,hij,hj,hc1,hc2,hS⟩:=hrel
  have c0:wr.cell? ⟨W.heap.size,0,none⟩=some (.func (.func f) #[] lb):=by rw [hS.oth (by simp) (by omega)]; simp
  have c1:wr.cell? ⟨W.heap.size,1,none⟩=some (.func (.func sf) #[] sb):=by rw [hS.oth (by simp) (by omega)]; simp
  have HS:Hid (SU enc k g T cs (W.alloc (LSo f lb sf sb)) d wr):=hS
  have HC1:Hid (i=a∨lt d[m]! d[i-1]! = false):=hc1
  have HC2:Hid (j=m∨lt d[m]! d[j]! = true):=hc2
  clear hS hB hc1 hc2
  by_cases hlt:i<j
  ·have hl:=hless d wr HS.out hd m ((i+j) / 2) (by omega) (by omega)
   rw [show (((i+j) / 2:Nat):Int)=((i:Int)+(j:Int)) / 2 by omega] at hl
   clear hless
   cases hlv:lt d[m]! d[(i+j) / 2]! with
   | true=>
    rw [hlv] at hl
    go_wp2_with (go_at_fn f; refine hl.mono ?_; rintro e w' ⟨rfl,hS,c0',c1',_⟩)
    refine ⟨?_,by simp [intOf]; omega⟩
    exact ⟨i,(i+j) / 2,rfl,by go_num,by omega,by omega,by omega,HC1.out,.inr hlv,hS⟩
   | false=>
    rw [hlv] at hl
    go_wp2_with (go_at_fn f; refine hl.mono ?_; rintro e w' ⟨rfl,hS,c0',c1',_⟩)
    refine ⟨?_,by simp [intOf]; omega⟩
    exact ⟨(i+j) / 2+1,j,by go_num,rfl,by omega,by omega,by omega,.inr (by rw [Nat.add_sub_cancel]; exact hlv),HC2.out,hS⟩
  ·have hij':i=j:=by omega
   subst hij'
   go_wp2
   go_loopw [15] (fun vq wr2=>∃ q:Nat,vq=.int .i64 ((m:Int)-(q:Int))∧q+i≤m∧SU enc k g T cs (W.alloc (LSo f lb sf sb)) (shD d m q) wr2) (fun vq _=>(intOf vq).toNat)
   case atStart=>exact ⟨0,by go_num,by omega,HS.out⟩
   case round=>
    obtain ⟨q,rfl,hq,hS2⟩:=hrel
    have c0:wr.cell? ⟨W.heap.size,0,none⟩=some (.func (.func f) #[] lb):=by rw [hS2.oth (by simp) (by omega)]; simp
    have c1:wr.cell? ⟨W.heap.size,1,none⟩=some (.func (.func sf) #[] sb):=by rw [hS2.oth (by simp) (by omega)]; simp
    have HS2:Hid (SU enc k g T cs (W.alloc (LSo f lb sf sb)) (shD d m q) wr):=hS2
    clear hS2
    by_cases hqi:q+i<m
    ·have hs:=hswap wr (shD d m q) HS2.out.hold (by rw [Ze1]; exact hd) (m-q) (m-q-1) (by omega) (by omega)
     rw [Nat.zero_add,Nat.zero_add,show ((m-q-1:Nat):Int)=(m:Int)-(q:Int)-1 by omega,show ((m-q:Nat):Int)=(m:Int)-(q:Int) by omega] at hs
     have hlt2:(i:Int)<(m:Int)-(q:Int):=by omega
     go_wp2
     exact ⟨⟨q+1,by congr 1; omega,by omega,HS2.out.swap hk (by rw [Ze1]; omega) (by rw [Ze1]; omega)⟩,by simp [intOf]; omega⟩
    ·have hge2:¬ (i:Int)<(m:Int)-(q:Int):=by omega
     go_wp2
     (try simp only [Exit.inBlock,Exit.then])
     refine bodyPost_ret (results_none rfl _ _ _) rfl ?_
     obtain rfl:=H1.out
     refine ⟨rfl,shD d m q,HB.out.trans HS2.out,Zl0 d q (by omega) (by omega),?_⟩
     exact Znw hO HSs.out hi hj HC1.out HC2.out (fun k=>by rw [show i=m-q by omega]; exact Zof d q (by omega) (by omega) k)
end
section
variable {α:Type} [Inhabited α] {enc:α→List Value} {k:Nat} {g:Nat} {T:TypeId} {cs:Nat}
variable (hk:∀ x,(enc x).length=k) (f:Nat) (lb:Array Value) (sf:Nat) (sb:Array Value) (n:Nat) (hn:n<1152921504606846976) (hswap:SwapSwapsK Tryz.prog sf sb enc k g 0 n)
include hk hn hswap
theorem ZrD {lt:α→α→Bool} (hO:SWO lt) (eg:∀ args w,(callFunc f args).run Tryz.prog w=.ok (.enter f args) w):∀ (N:Nat) (d:Array α) (W:World),d.size=n→SU enc k g T cs W d W→ZfS f lb enc k lt g T cs n W→∀ (a m b:Nat),b-a≤N→a<m→m<b→b≤n→SortedIn lt a m d→SortedIn lt m b d→
 Calls Tryz.prog 269 #[LS f lb sf sb,.int .i64 a,.int .i64 m,.int .i64 b] W fun e w'=>e=.returned (.tuple #[])∧∃ e,SU enc k g T cs W e w'∧PermIn a b d e∧SortedIn lt a b e:=by
 intro N
 induction N with
 | zero=>intro d W hd h0 hL a m b hN h1 h2; omega
 | succ N ih=>
 intro d W hd h0 hL a m b hN h1 h2 hb hs1 hs2
 by_cases hma:m=a+1
 ·exact ZrB hk f lb sf sb n hn hswap hO eg hd h0 hL a m b hma h2 hb hs2
 by_cases hmb:b=m+1
 ·exact ZrC hk f lb sf sb n hn hswap hO eg hd h0 hL a m b hmb (by omega) hb hs1
 have hB:SU enc k g T cs W d (W.alloc (LSo f lb sf sb)):=h0.more (Up.al _ (Up.rfl' W))
 have hless:=fun dj wr hS hd' i j hi hj=>ZiM (dj:=dj) (wr:=wr) f lb sf sb n hL h0 hS hd' hswap i j hi hj
 have HL:Hid (∀ d' W',SU enc k g T cs (W.alloc (LSo f lb sf sb)) d' W'→ZfS f lb enc k lt g T cs n W'):=fun d' W' h'=>hL.on (hB.trans h')
 have HB:Hid (SU enc k g T cs W d (W.alloc (LSo f lb sf sb))):=hB
 have HS1:Hid (SortedIn lt a m d):=hs1
 have HS2:Hid (SortedIn lt m b d):=hs2
 have hrot:=fun (d':Array α) (W':World) (hd':d'.size=n) (h':SU enc k g T cs W' d' W') (a m b:Nat) (h1:a≤m) (h2:m≤b) (h3:b≤n) (h4:a<m∧m<b)=>Zpe hk f lb sf sb n hn hswap (T:=T) (cs:=cs) hd' h' a m b h1 h2 h3 h4
 have HR:Hid _:=hrot
 have HI:Hid _:=ih
 have HLS:Hid _:=hless
 have hg:=h0.lt
 clear h0 hL hs1 hs2 hrot ih hless
 have hna:((m:Int)-(a:Int) == 1)=false:=by simp; omega
 have hnb:((b:Int)-(m:Int) == 1)=false:=by simp; omega
 have hmid:((a:Int)+(b:Int)) / 2=(((a+b) / 2:Nat):Int):=by omega
 obtain ⟨mid,hmd⟩:∃ mid,mid=(a+b) / 2:=⟨_,rfl⟩
 rw [← hmd] at hmid
 have hm1:2*mid≤a+b:=by omega
 have hm2:a+b≤2*mid+1:=by omega
 clear hmd hma hmb
 go_enter Tryz.func269,Tryz.ntmps269
 go_upto_if 106 with (fail)
 go_cut [18,19] (fun s18 s19 wx=>∃ s0 r0:Nat,s18=.int .i64 s0∧s19=.int .i64 r0∧a≤s0∧s0≤r0∧r0≤m∧r0≤mid∧((m≤mid∧s0=a∧r0=m)∨(mid<m∧s0+b=mid+m∧r0=mid))∧wx=W.alloc (LSo f lb sf sb))
 case first=>
  by_cases hmm:mid<m
  ·have hmm':(mid:Int)<(m:Int):=by omega
   go_wp2
   go_meet
   exact ⟨mid+m-b,mid,by go_num,rfl,by omega,by omega,by omega,by omega,.inr ⟨hmm,by omega,rfl⟩,rfl⟩
  ·have hmm':¬ (mid:Int)<(m:Int):=by omega
   go_wp2
   go_meet
   exact ⟨a,m,rfl,rfl,by omega,by omega,by omega,by omega,.inl ⟨by omega,rfl,rfl⟩,rfl⟩
 case rest=>
  obtain ⟨s0,r0,rfl,rfl,ha0,hsr,hrm,hrd,hs0,rfl⟩:=hcut
  clear hna hnb hmid hB
  have HS0:Hid ((m≤mid∧s0=a∧r0=m)∨(mid<m∧s0+b=mid+m∧r0=mid)):=hs0
  clear hs0
  go_wp2
  go_loopw [18,19] (fun vs vr wr=>∃ (s r:Nat),vs=.int .i64 s∧vr=.int .i64 r∧s0≤s∧s≤r∧r≤r0∧(s=s0∨lt d[mid+m-s]! d[s-1]! = false)∧(r=r0∨lt d[mid+m-1-r]! d[r]! = true)∧SU enc k g T cs (W.alloc (LSo f lb sf sb)) d wr) (fun vs vr _=>(intOf vr).toNat-(intOf vs).toNat)
  case atStart=>exact ⟨s0,r0,rfl,rfl,by omega,by omega,by omega,.inl rfl,.inl rfl,HB.out.self⟩
  case round=>
   obtain ⟨s,r,rfl,rfl,hs,hsr2,hr,hc1,hc2,hS⟩:=hrel
   have c0:wr.cell? ⟨W.heap.size,0,none⟩=some (.func (.func f) #[] lb):=by rw [hS.oth (by simp) (by omega)]; simp
   have c1:wr.cell? ⟨W.heap.size,1,none⟩=some (.func (.func sf) #[] sb):=by rw [hS.oth (by simp) (by omega)]; simp
   have HS:Hid (SU enc k g T cs (W.alloc (LSo f lb sf sb)) d wr):=hS
   have HC1:Hid (s=s0∨lt d[mid+m-s]! d[s-1]! = false):=hc1
   have HC2:Hid (r=r0∨lt d[mid+m-1-r]! d[r]! = true):=hc2
   clear hS hc1 hc2
   by_cases hlt:s<r
   ·have hq:mid+m-1-(s+r) / 2<n:=by rcases HS0.out with h | h <;> omega
    have hl:=HLS.out d wr HS.out hd (mid+m-1-(s+r) / 2) ((s+r) / 2) hq (by omega)
    rw [show ((mid+m-1-(s+r) / 2:Nat):Int)=(mid:Int)+(m:Int)-1-((s:Int)+(r:Int)) / 2 by omega,show (((s+r) / 2:Nat):Int)=((s:Int)+(r:Int)) / 2 by omega] at hl
    cases hlv:lt d[mid+m-1-(s+r) / 2]! d[(s+r) / 2]! with
    | true=>
     rw [hlv] at hl
     go_wp2_with (go_at_fn f; refine hl.mono ?_; rintro e w' ⟨rfl,hS,c0',c1',_⟩)
     refine ⟨?_,by simp [intOf]; omega⟩
     exact ⟨s,(s+r) / 2,rfl,by go_num,by omega,by omega,by omega,HC1.out,.inr hlv,hS⟩
    | false=>
     rw [hlv] at hl
     go_wp2_with (go_at_fn f; refine hl.mono ?_; rintro e w' ⟨rfl,hS,c0',c1',_⟩)
     refine ⟨?_,by simp [intOf]; omega⟩
     exact ⟨(s+r) / 2+1,r,by go_num,rfl,by omega,by omega,by omega,.inr (by rw [Nat.add_sub_cancel,show mid+m-((s+r) / 2+1)=mid+m-1-(s+r) / 2 by omega]; exact hlv),HC2.out,hS⟩
   ·have hsr':s=r:=by omega
    subst hsr'
    have hge:¬ s<s:=by omega
    obtain ⟨t,ht⟩:∃ t,t=mid+m-s:=⟨_,rfl⟩
    have htz:(mid:Int)+(m:Int)-(s:Int)=(t:Int):=by omega
    have hms:m≤t:=by omega
    have hst:s+(t-m)=mid:=by omega
    have htb:t≤b:=by rcases HS0.out with h | h <;> omega
    have HT:Hid (t=mid+m-s):=ht
    clear ht
    have dz:∀ x y:Nat,decide ((x:Int)<(y:Int))=decide (x<y):=fun x y=>by by_cases h:x<y <;> simp [h]
    have DZ:Hid _:=dz
    clear dz
    clear hge
    have HC1':Hid (a<s→t<b→lt d[t]! d[s-1]! = false):=fun h1 h2=>by
     rcases HC1.out with h | h
     ·rcases HS0.out with h3 | h3 <;> omega
     ·rw [HT.out]; exact h
    have HC2':Hid (s<m→m<t→lt d[t-1]! d[s]! = true):=fun h1 h2=>by
     rcases HC2.out with h | h
     ·rcases HS0.out with h3 | h3 <;> omega
     ·rw [show t-1=mid+m-1-s by rw [HT.out]; omega]; exact h
    go_upto_region 40 with (fail)
    go_cut [145] (fun s145 wx=>s145=.bool (decide (s<m∧m<t))∧wx=wr)
    case first=>
     by_cases q1:s<m
     ·by_cases q2:m<t
      ·have q3:decide (s<m∧m<t)=true:=decide_eq_true ⟨q1,q2⟩
       go_wp2
       go_meet
       exact ⟨by rw [q3],rfl⟩
      ·have q3:decide (s<m∧m<t)=false:=decide_eq_false fun h=>q2 h.2
       go_wp2
       go_meet
       exact ⟨by rw [q3],rfl⟩
     ·have q3:decide (s<m∧m<t)=false:=decide_eq_false fun h=>q1 h.1
      go_wp2
      go_meet
      exact ⟨by rw [q3],rfl⟩
    case rest=>
    obtain ⟨rfl,rfl⟩:=hcut
    go_upto_if 145 with (fail)
    go_cut [] (fun wx=>∃ e,SU enc k g T cs (W.alloc (LSo f lb sf sb)) e wx∧PermIn a b d e∧∀ k,e[k]! = rotF d s m t k)
    case first=>
     by_cases q:s<m∧m<t
     ·have q3:decide (s<m∧m<t)=true:=decide_eq_true q
      have hc:=HR.out d wc hd HS.out.self s m t (by omega) (by omega) (by omega) q
      go_wp2_with (go_at_call 273; refine hc.mono ?_; rintro e w' ⟨rfl,hE⟩)
      go_meet
      obtain ⟨e,hE1,hE2,hE3⟩:=hE
      exact ⟨e,HS.out.trans hE1,permIn_mono _ _ _ _ _ _ (by omega) (by omega) (by omega) hE2,hE3⟩
     ·have q3:decide (s<m∧m<t)=false:=decide_eq_false q
      go_wp2
      go_meet
      exact ⟨d,HS.out,permIn_refl _ _ _,fun k=>ZhR d (by omega) (by omega) (by omega) k⟩
    case rest=>
    obtain ⟨e,hE1,hE2,hE3⟩:=hcut
    obtain ⟨g1,g2,g3,g4,g5⟩:=Zrk hO HS1.out HS2.out ⟨by omega,by omega⟩ ⟨hms,htb⟩ hst HC1'.out HC2'.out hE3
    have G1:Hid (SortedIn lt a s e):=g1
    have G2:Hid (SortedIn lt s mid e):=g2
    have G3:Hid (SortedIn lt mid t e):=g3
    have G4:Hid (SortedIn lt t b e):=g4
    have G5:Hid (∀ i j,a≤i→i<mid→mid≤j→j<b→lt e[j]! e[i]! = false):=g5
    have hed:e.size=n:=hE2.1.trans hd
    have c0:wc.cell? ⟨W.heap.size,0,none⟩=some (.func (.func f) #[] lb):=by rw [hE1.oth (by simp) (by omega)]; simp
    have c1:wc.cell? ⟨W.heap.size,1,none⟩=some (.func (.func sf) #[] sb):=by rw [hE1.oth (by simp) (by omega)]; simp
    have HE1:Hid (SU enc k g T cs (W.alloc (LSo f lb sf sb)) e wc):=hE1
    have HE2:Hid (PermIn a b d e):=hE2
    clear g1 g2 g3 g4 g5 hE1 hE2 hE3
    go_upto_region 42 with (fail)
    go_cut [158] (fun s158 wx=>s158=.bool (decide (a<s∧s<mid))∧wx=wc)
    case first=>
     by_cases q1:a<s
     ·by_cases q2:s<mid
      ·have q3:decide (a<s∧s<mid)=true:=decide_eq_true ⟨q1,q2⟩
       go_wp2
       go_meet
       exact ⟨by rw [q3],rfl⟩
      ·have q3:decide (a<s∧s<mid)=false:=decide_eq_false fun h=>q2 h.2
       go_wp2
       go_meet
       exact ⟨by rw [q3],rfl⟩
     ·have q3:decide (a<s∧s<mid)=false:=decide_eq_false fun h=>q1 h.1
      go_wp2
      go_meet
      exact ⟨by rw [q3],rfl⟩
    case rest=>
    obtain ⟨rfl,rfl⟩:=hcut
    go_upto_if 158 with (fail)
    go_cut [] (fun wx=>∃ e1,SU enc k g T cs (W.alloc (LSo f lb sf sb)) e1 wx∧PermIn a mid e e1∧SortedIn lt a mid e1)
    case first=>
     by_cases q:a<s∧s<mid
     ·have q3:decide (a<s∧s<mid)=true:=decide_eq_true q
      have hc:=HI.out e _ hed HE1.out.self (HL.out e _ HE1.out) a s mid (by omega) q.1 q.2 (by omega) G1.out G2.out
      go_wp2_with (go_at_call 269; refine hc.mono ?_; rintro e' w' ⟨rfl,hE⟩)
      go_meet
      obtain ⟨e1,hE1,hE2,hE3⟩:=hE
      exact ⟨e1,HE1.out.trans hE1,hE2,hE3⟩
     ·have q3:decide (a<s∧s<mid)=false:=decide_eq_false q
      go_wp2
      go_meet
      refine ⟨e,HE1.out,permIn_refl _ _ _,?_⟩
      by_cases q4:a<s
      ·exact ZfQ G1.out (Nat.le_refl _) (by omega)
      ·exact ZfQ G2.out (by omega) (Nat.le_refl _)
    case rest=>
    obtain ⟨e1,hF1,hF2,hF3⟩:=hcut
    have hed1:e1.size=n:=hF2.1.trans hed
    have g3:SortedIn lt mid t e1:=ZhZ G3.out fun k h1 h2=>hF2.2.1 k (.inr h1)
    have g4:SortedIn lt t b e1:=ZhZ G4.out fun k h1 h2=>hF2.2.1 k (.inr (by omega))
    have c0':wc.cell? ⟨W.heap.size,0,none⟩=some (.func (.func f) #[] lb):=by rw [hF1.oth (by simp) (by omega)]; simp
    have c1':wc.cell? ⟨W.heap.size,1,none⟩=some (.func (.func sf) #[] sb):=by rw [hF1.oth (by simp) (by omega)]; simp
    have K3:Hid (SortedIn lt mid t e1):=g3
    have K4:Hid (SortedIn lt t b e1):=g4
    have HF1:Hid (SU enc k g T cs (W.alloc (LSo f lb sf sb)) e1 wc):=hF1
    have HF2:Hid (PermIn a mid e e1):=hF2
    have HF3:Hid (SortedIn lt a mid e1):=hF3
    clear g3 g4 hF1 hF2 hF3
    have fin:∀ w' e2,SU enc k g T cs (W.alloc (LSo f lb sf sb)) e2 w'→PermIn mid b e1 e2→SortedIn lt mid b e2→∃ e,SU enc k g T cs W e w'∧PermIn a b d e∧SortedIn lt a b e:=fun w' e2 h1 h2 h3=>by
     obtain ⟨x1,x2⟩:=glue hO (by omega) (by omega) (by omega) HF2.out h2 HF3.out h3 G5.out
     exact ⟨e2,HB.out.trans h1,permIn_trans _ _ _ _ _ HE2.out x1,x2⟩
    have FIN:Hid _:=fin
    clear fin
    go_upto_region 44 with (fail)
    go_cut [171] (fun s171 wx=>s171=.bool (decide (mid<t∧t<b))∧wx=wc)
    case first=>
     by_cases q1:mid<t
     ·by_cases q2:t<b
      ·have q3:decide (mid<t∧t<b)=true:=decide_eq_true ⟨q1,q2⟩
       go_wp2
       go_meet
       exact ⟨by rw [q3],rfl⟩
      ·have q3:decide (mid<t∧t<b)=false:=decide_eq_false fun h=>q2 h.2
       go_wp2
       go_meet
       exact ⟨by rw [q3],rfl⟩
     ·have q3:decide (mid<t∧t<b)=false:=decide_eq_false fun h=>q1 h.1
      go_wp2
      go_meet
      exact ⟨by rw [q3],rfl⟩
    case rest=>
    obtain ⟨rfl,rfl⟩:=hcut
    by_cases q:mid<t∧t<b
    ·have q3:decide (mid<t∧t<b)=true:=decide_eq_true q
     have hc:=HI.out e1 _ hed1 HF1.out.self (HL.out e1 _ HF1.out) mid t b (by omega) q.1 q.2 hb K3.out K4.out
     go_wp2_with (go_at_call 269; refine hc.mono ?_; rintro e' w' ⟨rfl,hE⟩)
     go_end0
     obtain ⟨e2,hE1,hE2,hE3⟩:=hE
     exact ⟨rfl,FIN.out _ e2 (HF1.out.trans hE1) hE2 hE3⟩
    ·have q3:decide (mid<t∧t<b)=false:=decide_eq_false q
     go_wp2
     go_end0
     refine ⟨rfl,FIN.out _ e1 HF1.out (permIn_refl _ _ _) ?_⟩
     by_cases q4:mid<t
     ·exact ZfQ K3.out (Nat.le_refl _) (by omega)
     ·exact ZfQ K4.out (by omega) (Nat.le_refl _)
end
section
variable {α:Type} [Inhabited α] {lt:α→α→Bool}
def MI (lt:α→α→Bool) (bs n q:Nat) (d:Array α):Prop:=(∀ p,p<q→SortedIn lt (p*(2*bs)) (p*(2*bs)+2*bs) d)∧∀ p,2*q≤p→SortedIn lt (p*bs) (min (p*bs+bs) n) d
theorem mul2 (q bs:Nat):(2*q)*bs=q*(2*bs):=by rw [Nat.mul_comm 2 q,Nat.mul_assoc]
theorem MI.zero {bs n:Nat} {d:Array α} (h:Runs lt bs n d):MI lt bs n 0 d:=⟨fun p hp=>by omega,fun p _=>h p⟩
theorem MI.left {bs n q A:Nat} {d:Array α} (h:MI lt bs n q d) (hA:A=q*(2*bs)) (hn:A+bs≤n):SortedIn lt A (A+bs) d:=by
 have:=h.2 (2*q) (Nat.le_refl _)
 rw [mul2,← hA,Nat.min_eq_left hn] at this
 exact this
theorem MI.right {bs n q A:Nat} {d:Array α} (h:MI lt bs n q d) (hA:A=q*(2*bs)):SortedIn lt (A+bs) (min (A+2*bs) n) d:=by
 have:=h.2 (2*q+1) (by omega)
 rw [Nat.add_mul,Nat.one_mul,mul2,← hA,show A+bs+bs=A+2*bs by omega] at this
 exact this
theorem MI.last {bs n q A:Nat} {d:Array α} (h:MI lt bs n q d) (hA:A=q*(2*bs)) (hn:n≤A+bs):SortedIn lt A n d:=by
 have:=h.2 (2*q) (Nat.le_refl _)
 rw [mul2,← hA,Nat.min_eq_right hn] at this
 exact this
theorem MI.step {bs n q A:Nat} {d e:Array α} (h:MI lt bs n q d) (hA:A=q*(2*bs)) (hp:PermIn A (A+2*bs) d e) (hs:SortedIn lt A (A+2*bs) e):MI lt bs n (q+1) e:=by
 refine ⟨fun p hpq=>?_,fun p hpq=>?_⟩
 ·rcases Nat.lt_or_ge p q with h1 | h1
  ·have h2:(p+1)*(2*bs)≤q*(2*bs):=Nat.mul_le_mul_right _ h1
   rw [Nat.add_mul,Nat.one_mul] at h2
   exact ZhZ (h.1 p h1) fun k _ hk=>hp.2.1 k (.inl (by omega))
  ·have:p=q:=by omega
   subst this
   rw [← hA]; exact hs
 ·have h2:(2*(q+1))*bs≤p*bs:=Nat.mul_le_mul_right _ hpq
  rw [mul2,Nat.add_mul,Nat.one_mul] at h2
  exact ZhZ (h.2 p (by omega)) fun k hk _=>hp.2.1 k (.inr (by omega))
theorem MI.fin {bs n q A:Nat} {d e:Array α} (h:MI lt bs n q d) (hA:A=q*(2*bs)) (hn:n<A+2*bs) (hp:PermIn A n d e) (hs:SortedIn lt A n e):Runs lt (2*bs) n e:=by
 intro p
 rcases Nat.lt_trichotomy p q with h1 | h1 | h1
 ·have h2:(p+1)*(2*bs)≤q*(2*bs):=Nat.mul_le_mul_right _ h1
  rw [Nat.add_mul,Nat.one_mul] at h2
  exact ZhZ (ZfQ (h.1 p h1) (Nat.le_refl _) (Nat.min_le_left _ _)) fun k _ hk=>hp.2.1 k (.inl (by omega))
 ·subst h1
  rw [← hA,Nat.min_eq_right (by omega)]; exact hs
 ·have h2:(q+1)*(2*bs)≤p*(2*bs):=Nat.mul_le_mul_right _ h1
  rw [Nat.add_mul,Nat.one_mul] at h2
  exact Zok (by omega)
def BI (lt:α→α→Bool) (q:Nat) (d:Array α):Prop:=∀ p,p<q→SortedIn lt (p*20) (p*20+20) d
theorem BI.step {q:Nat} {d e:Array α} (h:BI lt q d) (hp:PermIn (q*20) (q*20+20) d e) (hs:SortedIn lt (q*20) (q*20+20) e):BI lt (q+1) e:=fun p hpq=>by
 by_cases h1:p=q
 ·subst h1; exact hs
 ·exact ZhZ (h p (by omega)) fun k _ hk=>hp.2.1 k (.inl (by omega))
theorem BI.fin {q n:Nat} {d e:Array α} (h:BI lt q d) (hn:n<q*20+20) (hp:PermIn (q*20) n d e) (hs:SortedIn lt (q*20) n e):Runs lt 20 n e:=fun p=>by
 rcases Nat.lt_trichotomy p q with h1 | h1 | h1
 ·exact ZhZ (ZfQ (h p h1) (Nat.le_refl _) (Nat.min_le_left _ _)) fun k _ hk=>hp.2.1 k (.inl (by omega))
 ·subst h1
  exact ZfQ hs (Nat.le_refl _) (Nat.min_le_right _ _)
 ·exact Zok (by omega)
variable {enc:α→List Value} {k:Nat} {g:Nat} {T:TypeId} {cs:Nat}
variable (hk:∀ x,(enc x).length=k) (f:Nat) (lb:Array Value) (sf:Nat) (sb:Array Value) (n:Nat) (hn:n<1152921504606846976) (hswap:SwapSwapsK Tryz.prog sf sb enc k g 0 n)
include hk hn hswap
theorem Zpk (hO:SWO lt) (eg:∀ args w,(callFunc f args).run Tryz.prog w=.ok (.enter f args) w) {d:Array α} {W:World} (hd:d.size=n) (h0:SU enc k g T cs W d W) (hL:ZfS f lb enc k lt g T cs n W):
 Calls Tryz.prog 241 #[LS f lb sf sb,.int .i64 n] W fun e w'=>e=.returned (.tuple #[])∧∃ e,SU enc k g T cs W e w'∧PermIn 0 n d e∧SortedIn lt 0 n e:=by
 have hB:SU enc k g T cs W d (W.alloc (LSo f lb sf sb)):=h0.more (Up.al _ (Up.rfl' W))
 have HL:Hid (∀ d' W',SU enc k g T cs (W.alloc (LSo f lb sf sb)) d' W'→ZfS f lb enc k lt g T cs n W'):=fun d' W' h'=>hL.on (hB.trans h')
 have HB:Hid (SU enc k g T cs W d (W.alloc (LSo f lb sf sb))):=hB
 have hI:=fun (d':Array α) (W':World) (hd':d'.size=n) (h':SU enc k g T cs W' d' W') (hL':ZfS f lb enc k lt g T cs n W') (a b:Nat) (hab:a≤b) (hb:b≤n)=>Znv hk f lb sf sb n hn hswap eg hd' h' hL' a b hab hb
 have hM:=fun (d':Array α) (W':World) (hd':d'.size=n) (h':SU enc k g T cs W' d' W') (hL':ZfS f lb enc k lt g T cs n W') (a m b:Nat)=>ZrD hk f lb sf sb n hn hswap hO eg (b-a) d' W' hd' h' hL' a m b (Nat.le_refl _)
 have HI:Hid _:=hI
 have HM:Hid _:=hM
 have hg:=h0.lt
 clear h0 hL hI hM
 go_enter Tryz.func241,Tryz.ntmps241
 go_wp2
 go_loopw [5,6] (fun v5 v6 wr=>∃ (q:Nat) (dk:Array α),v5=.int .i64 ((q:Int)*20)∧v6=.int .i64 ((q:Int)*20+20)∧q*20≤n∧PermIn 0 n d dk∧BI lt q dk∧SU enc k g T cs (W.alloc (LSo f lb sf sb)) dk wr) (fun v5 v6 _=>n-(intOf v5).toNat)
 case atStart=>exact ⟨0,d,by go_num,by go_num,by omega,permIn_refl _ _ _,fun p hp=>by omega,hB.self⟩
 case round=>
  obtain ⟨q,dk,rfl,rfl,hq,hP,hBI,hS⟩:=hrel
  have c0:wr.cell? ⟨W.heap.size,0,none⟩=some (.func (.func f) #[] lb):=by rw [hS.oth (by simp) (by omega)]; simp
  have c1:wr.cell? ⟨W.heap.size,1,none⟩=some (.func (.func sf) #[] sb):=by rw [hS.oth (by simp) (by omega)]; simp
  have hds:dk.size=n:=hP.1.trans hd
  have HS:Hid (SU enc k g T cs (W.alloc (LSo f lb sf sb)) dk wr):=hS
  have HP:Hid (PermIn 0 n d dk):=hP
  have HBI:Hid (BI lt q dk):=hBI
  clear hS hB hP hBI
  by_cases hle:q*20+20≤n
  ·have hlez:(q:Int)*20+20≤(n:Int):=by omega
   have hc:=HI.out dk wr hds HS.out.self (HL.out dk wr HS.out) (q*20) (q*20+20) (by omega) hle
   rw [show ((q*20:Nat):Int)=(q:Int)*20 by omega,show ((q*20+20:Nat):Int)=(q:Int)*20+20 by omega] at hc
   go_wp2_with (go_at_call 268; refine hc.mono ?_; rintro e w' ⟨rfl,hE⟩)
   have x:=insertionSort_holds hO dk (q*20) (q*20+20) (by omega) (by omega)
   exact ⟨⟨q+1,_,by congr 1 <;> omega,by congr 1 <;> omega,by omega,permIn_trans _ _ _ _ _ HP.out (permIn_mono _ _ _ _ _ _ (by omega) (by omega) (by omega) x.1),HBI.out.step x.1 x.2,HS.out.trans hE⟩,by simp [intOf]; omega⟩
  ·have hlez:¬ (q:Int)*20+20≤(n:Int):=by omega
   have hc:=HI.out dk wr hds HS.out.self (HL.out dk wr HS.out) (q*20) n hq (Nat.le_refl _)
   rw [show ((q*20:Nat):Int)=(q:Int)*20 by omega] at hc
   go_wp2_with (go_at_call 268; refine hc.mono ?_; rintro e w' ⟨rfl,hE⟩)
   have x:=insertionSort_holds hO dk (q*20) n (by omega) (by omega)
   have hR0:=HBI.out.fin (by omega) x.1 x.2
   have hP0:=permIn_trans _ _ _ _ _ HP.out (permIn_mono _ _ _ _ _ _ (by omega) (Nat.le_refl _) (by omega) x.1)
   have hS0:=HS.out.trans hE
   clear x c0 c1
   go_loopw [4,5,6,7] (fun v4 v5 v6 v7 wr=>∃ (bs:Nat) (dk:Array α),v4=.int .i64 (bs:Int)∧1≤bs∧bs≤2*n+20∧PermIn 0 n d dk∧Runs lt bs n dk∧SU enc k g T cs (W.alloc (LSo f lb sf sb)) dk wr) (fun v4 _ _ _ _=>n-(intOf v4).toNat)
   case atStart=>exact ⟨20,_,by go_num,by omega,by omega,hP0,hR0,hS0⟩
   case round=>
    obtain ⟨bs,dk2,rfl,hb1,hb2,hP2,hR2,hS2⟩:=hrel
    have HP2:Hid (PermIn 0 n d dk2):=hP2
    have HR2:Hid (Runs lt bs n dk2):=hR2
    have HS2:Hid (SU enc k g T cs (W.alloc (LSo f lb sf sb)) dk2 wr):=hS2
    clear hP2 hR2 hS2 hP0 hR0 hS0 hE hlez hle hc HS HP HBI hq
    by_cases hlt:bs<n
    ·go_wp2
     go_loopw [5,6] (fun v5 v6 wr=>∃ (A:Nat) (dk:Array α),v5=.int .i64 (A:Int)∧v6=.int .i64 ((A:Int)+2*(bs:Int))∧A≤n∧PermIn 0 n d dk∧(∃ q,A=q*(2*bs)∧MI lt bs n q dk)∧SU enc k g T cs (W.alloc (LSo f lb sf sb)) dk wr) (fun v5 v6 _=>n-(intOf v5).toNat)
     case atStart=>exact ⟨0,dk2,by go_num,by go_num,by omega,HP2.out,⟨0,by omega,MI.zero HR2.out⟩,HS2.out⟩
     case round=>
      obtain ⟨A,dk3,rfl,rfl,hA,hP3,hM3,hS3⟩:=hrel
      have c0:wr.cell? ⟨W.heap.size,0,none⟩=some (.func (.func f) #[] lb):=by rw [hS3.oth (by simp) (by omega)]; simp
      have c1:wr.cell? ⟨W.heap.size,1,none⟩=some (.func (.func sf) #[] sb):=by rw [hS3.oth (by simp) (by omega)]; simp
      have hds3:dk3.size=n:=hP3.1.trans hd
      have HP3:Hid (PermIn 0 n d dk3):=hP3
      have HM3:Hid (∃ q,A=q*(2*bs)∧MI lt bs n q dk3):=hM3
      have HS3:Hid (SU enc k g T cs (W.alloc (LSo f lb sf sb)) dk3 wr):=hS3
      clear hP3 hM3 hS3
      by_cases hle:A+2*bs≤n
      ·have hlez:(A:Int)+2*(bs:Int)≤(n:Int):=by omega
       have hc:=HM.out dk3 wr hds3 HS3.out.self (HL.out dk3 wr HS3.out) A (A+bs) (A+2*bs) (by omega) (by omega) hle (by obtain ⟨q,h1,h2⟩:=HM3.out; exact h2.left h1 (by omega)) (by obtain ⟨q,h1,h2⟩:=HM3.out; have:=h2.right h1; rwa [Nat.min_eq_left hle] at this)
       rw [show ((A+bs:Nat):Int)=(A:Int)+(bs:Int) by omega,show ((A+2*bs:Nat):Int)=(A:Int)+2*(bs:Int) by omega] at hc
       go_wp2_with (go_at_call 269; refine hc.mono ?_; rintro e w' ⟨rfl,hE⟩)
       obtain ⟨e,hE1,hE2,hE3⟩:=hE
       exact ⟨⟨A+2*bs,e,by congr 1 <;> omega,by congr 1 <;> omega,hle,permIn_trans _ _ _ _ _ HP3.out (permIn_mono _ _ _ _ _ _ (by omega) hle (by omega) hE2),(by obtain ⟨q,h1,h2⟩:=HM3.out; exact ⟨q+1,by rw [Nat.add_mul,Nat.one_mul,← h1],h2.step h1 hE2 hE3⟩),HS3.out.trans hE1⟩,by simp [intOf]; omega⟩
      ·have hlez:¬ (A:Int)+2*(bs:Int)≤(n:Int):=by omega
       by_cases hm:A+bs<n
       ·have hmz:(A:Int)+(bs:Int)<(n:Int):=by omega
        have hc:=HM.out dk3 wr hds3 HS3.out.self (HL.out dk3 wr HS3.out) A (A+bs) n (by omega) (by omega) (Nat.le_refl _) (by obtain ⟨q,h1,h2⟩:=HM3.out; exact h2.left h1 (by omega)) (by obtain ⟨q,h1,h2⟩:=HM3.out; have:=h2.right h1; rwa [Nat.min_eq_right (by omega)] at this)
        rw [show ((A+bs:Nat):Int)=(A:Int)+(bs:Int) by omega] at hc
        go_wp2_with (go_at_call 269; refine hc.mono ?_; rintro e w' ⟨rfl,hE⟩)
        obtain ⟨e,hE1,hE2,hE3⟩:=hE
        exact ⟨⟨2*bs,e,by congr 1 <;> omega,by omega,by omega,permIn_trans _ _ _ _ _ HP3.out (permIn_mono _ _ _ _ _ _ (by omega) (Nat.le_refl _) (by omega) hE2),(by obtain ⟨q,h1,h2⟩:=HM3.out; exact h2.fin h1 (by omega) hE2 hE3),HS3.out.trans hE1⟩,by simp [intOf]; omega⟩
       ·have hmz:¬ (A:Int)+(bs:Int)<(n:Int):=by omega
        go_wp2
        exact ⟨⟨2*bs,dk3,by congr 1 <;> omega,by omega,by omega,HP3.out,(by obtain ⟨q,h1,h2⟩:=HM3.out; exact h2.fin h1 (by omega) (permIn_refl _ _ _) (h2.last h1 (by omega))),HS3.out⟩,by simp [intOf]; omega⟩
    ·have hge:¬ (bs:Int)<(n:Int):=by omega
     go_wp2
     go_end0
     refine ⟨rfl,dk2,HB.out.trans HS2.out,HP2.out,?_⟩
     have:=HR2.out 0
     rw [Nat.zero_mul,Nat.zero_add,Nat.min_eq_right (by omega)] at this
     exact this
end
end Go.Proofs.YtmcdjilbkmhfoaaGreat
