/- A part of the proof of the statement in the last file of this claim: texts on the language of the program and on its functions. No condition. -/
import Derived.Test.YtmcdjilbkmhfoaaGreatCAcceptOrder11
import Derived.Test.YtmcdjilbkmhfoaaGreatCRetryOrders5
import Derived.Test.YtmcdjilbkmhfoaaGreatCRetryOrders8
import Derived.Test.YtmcdjilbkmhfoaaGreatCAcceptOrder9
import Derived.Test.YtmcdjilbkmhfoaaGreatCRetryOrders7
import Derived.Test.YtmcdjilbkmhfoaaGreatCAcceptOrder10
namespace Go.Proofs.YtmcdjilbkmhfoaaGreat
set_option maxRecDepth 10000
open Go.RowKit
set_option linter.unusedVariables false
set_option linter.unusedSimpArgs false
set_option linter.unusedSectionVars false
def ZhP (n:YNetwork) (bs:List YBooking) (cl:List YTrip) (now:Int) (i:Nat) (o:YOrder):Bool:=Zej ⟨n,[],bs,cl,now,[],[],0⟩ i o
structure Zi6 (w:YWorld) (c:Nat→List YTrip):Prop where
 fit:WFit w
 books:Zr w.network w.bookings=true
 now:0≤w.now∧w.now≤100000
 olen:w.orders.length≤30
 ord:∀ (i:Nat) (o:YOrder),w.orders[i]?=some o→ZhP w.network w.bookings (c i) w.now i o=true
 sum:(w.orders.map fun o=>o.way.length).sum=w.bookings.length
 cl:∀ i,(c i).length≤1048576
structure Zi8 (w:YWorld):Prop where
 closed:w.closed.length≤20
 scans:w.scans.length≤200
 skip:w.skip.length≤50
 made:w.scans.length≤w.made∧w.made≤1000000000
 cl:allI (ZfK w) 0 w.closed=true
 sc:allI (ZkR w) 0 w.scans=true
structure OrdP (n:YNetwork) (bs:List YBooking) (cl:List YTrip) (now:Int) (i:Nat) (o:YOrder):Prop where
 ok:Zkk ⟨n,[],bs,cl,now,[],[],0⟩ i o
 chain:ZcD n o.from_ (o.at_+1) o.way
 st:Zhg n o now
section
variable {w:YWorld} {c:Nat→List YTrip} (h:Zi6 w c) {i:Nat} {o:YOrder} (ho:w.orders[i]?=some o)
include h ho
end
/-! The bookings are those of the ways. -/
structure Zfv (w w':YWorld):Prop where
 network:w'.network=w.network
 now:w'.now=w.now
 closed:w'.closed=w.closed
 scans:w'.scans=w.scans
 skip:w'.skip=w.skip
 made:w'.made=w.made
 len:w'.orders.length=w.orders.length
theorem Zfv.refl (w:YWorld):Zfv w w:=⟨rfl,rfl,rfl,rfl,rfl,rfl,rfl⟩
theorem Zfv.trans {a b c:YWorld} (h:Zfv a b) (k:Zfv b c):Zfv a c:=⟨k.1.trans h.1,k.2.trans h.2,k.3.trans h.3,k.4.trans h.4,k.5.trans h.5,k.6.trans h.6,k.7.trans h.7⟩
theorem Zfv.new (w:YWorld) (i:Nat) (o:YOrder) (ts:List YTrip) (bs:List YBooking):Zfv w (newW w i o ts bs):=⟨rfl,rfl,rfl,rfl,rfl,rfl,by simp only [newW,List.length_set]⟩
set_option maxHeartbeats 16000000
def ZwA (w:YWorld) (from1_:ByteArray) (to_:ByteArray) (service:Int) (weight:Int):Option (YWorld × Int × Bool):=
 (ZcJ w).bind fun y1=>
 (Zdq w).bind fun y2=>
 cond (!y2)
 (some (y1,0,false))
 (cond (decide (30≤(w.orders.length:Int)))
 (some (y1,0,false))
 (cond (decide (from1_=to_))
 (some (y1,0,false))
 ((Zo service 1 3).bind fun y3=>
 cond (!y3)
 (some (y1,0,false))
 ((Zo weight 1 30000).bind fun y4=>
 cond (!y4)
 (some (y1,0,false))
 ((Zq w.network w.bookings w.closed from1_ to_ (w64 (w.now+1)) weight).bind fun y5=>
 (Zx w.network w.bookings (w64 ((w.orders.length:Int)+1)) weight y5.1).bind fun y6=>
 cond (!y5.2)
 (some (y1,0,false))
 (cond (!y6.2)
 (some (y1,0,false))
 ((Zxb w.network service from1_ to_ (w64 (w.now+1))).bind fun y7=>
 (frz (.un::vs from1_::(U 3 (.be 0 0 0::(U 4 (.be 1 0 0::.un::.un::.be 2 0 0::.un::.un::vi (w64 ((w.orders.length:Int)+1))::.un::.un::.be 10 0 0::(U 99 [])))))) [some ⟨.of 41,10,[[.sl (w.network.legs.map cLeg),.sl (w.network.off.map cInt),vi w.network.change,.sl (w.orders.map cOrder),.sl (w.bookings.map cBooking),.sl (w.closed.map cTrip),vi w.now,.sl (w.scans.map cScan),.sl (w.skip.map cInt),vi w.made]]⟩,some ⟨.of 41,10,[[.v (.slice none 0 0),.v (.slice none 0 0),vi 0,.v (.slice none 0 0),.v (.slice none 0 0),.v (.slice none 0 0),vi 0,.v (.slice none 0 0),.v (.slice none 0 0),vi 0]]⟩,some ⟨.of 41,10,[[.ms 3,.ms 4,vi y1.network.change,.ms 5,.ms 6,.ms 7,vi y1.now,.ms 8,.ms 9,vi y1.made]]⟩,some ⟨.of 67,6,y1.network.legs.map cLeg⟩,some ⟨.of 3,1,y1.network.off.map cInt⟩,some ⟨.of 62,11,y1.orders.map cOrder⟩,some ⟨.of 135,4,y6.1.map cBooking⟩,some ⟨.of 55,2,y1.closed.map cTrip⟩,some ⟨.of 130,6,y1.scans.map cScan⟩,some ⟨.of 3,1,y1.skip.map cInt⟩,some ⟨.of 62,11,[[vs from1_,vs to_,vi service,vi weight,vi w.now,vi y7,.sl (y5.1.map cTrip),vi 0,vi 1,vs from1_,vi 0]]⟩]).bind fun _=>
 (chk (appOk ((y1.orders:List YOrder).length+([(⟨from1_,to_,service,weight,w.now,y7,y5.1,0,1,from1_,0⟩:YOrder)]:List YOrder).length) 128)).bind fun _=>
 (rhoM [2,3,4,12,6,7,8,9]).bind fun _=>
 (Zxd (⟨y1.network,((y1.orders:List YOrder)++[(⟨from1_,to_,service,weight,w.now,y7,y5.1,0,1,from1_,0⟩:YOrder)]),y6.1,y1.closed,y1.now,y1.scans,y1.skip,y1.made⟩:YWorld) (⟨(w64 ((w.orders.length:Int)+1)),w.now,1,from1_,(⟨0,0⟩:YTrip)⟩:YScan)).bind fun y8=>
 some (y8,(w64 ((w.orders.length:Int)+1)),true))))))))
instance (w:YWorld) (from1_:ByteArray) (to_:ByteArray) (service:Int) (weight:Int):CT Tryz.prog (ZwA w from1_ to_ service weight):=⟨46,[.ag (cWorld w),vs from1_,vs to_,vi service,vi weight],[],fun r=>.tu [.ag [.ms 0,.ms 1,vi r.1.network.change,.ms 2,.ms 3,.ms 4,vi r.1.now,.ms 5,.ms 6,vi r.1.made],vi r.2.1,vb r.2.2],fun r=>[some ⟨.of 67,6,r.1.network.legs.map cLeg⟩,some ⟨.of 3,1,r.1.network.off.map cInt⟩,some ⟨.of 62,11,r.1.orders.map cOrder⟩,some ⟨.of 135,4,r.1.bookings.map cBooking⟩,some ⟨.of 55,2,r.1.closed.map cTrip⟩,some ⟨.of 130,6,r.1.scans.map cScan⟩,some ⟨.of 3,1,r.1.skip.map cInt⟩],fun H=>by replace H:=H0 H; unfold ZwA at H; exact callM_of Tryz.func46 rfl Tryz.ntmps46 Tryz.results46 fun Q hQ hQn=>wk3⟩
section
variable {n:YNetwork} (hf:ZZ n) (hn:Zb n=some true)
include hf hn
theorem Zw7 {leg z:Int} {y:YLeg} (hy:getI n.legs leg=some y):Zxj n leg z=ZH n [] [] leg z 0:=by
 have hlo:=(Zqy hf hn y (Zg6 hy)).room
 have hw:w64 (y.room-0)=y.room:=by rw [Zc (by omega)]; omega
 have hb:Zxg n leg z=ZP n [] [] leg z 0:=by
  funext s
  unfold Zxg ZP
  cases decide (s≤60) with
  | false=>rfl
  | true=>
  cases Zw n leg s with
  | none=>rfl
  | some b=>
  cases b with
  | false=>rfl
  | true=>
  simp only [cond_true,Option.bind_some]
  cases Zg n ⟨leg,s⟩ with
  | none=>rfl
  | some v=>
  simp only [Option.bind_some]
  cases decide (z≤v) with
  | false=>rfl
  | true=>
  have hc:Zar [] (⟨leg,s⟩:YTrip)=some false:=by rw [Zd0,Zea (by simp)]; rfl
  simp only [cond_true,hc,Option.bind_some,Bool.not_false,hy,ZwI,hw,decide_eq_true hlo.1]
 unfold Zxj ZH
 rw [hb]
theorem Zw4 (best:List Int) (f:Int):Zxf n (Za n) best f=Zaf n [] [] 0 (Za n) best f:=by
 have hb:Zxe n (Za n) best f=Zax n [] [] 0 (Za n) best f:=by
  funext s
  unfold Zxe Zax
  cases decide (s.1<(n.legs.length:Int)) with
  | false=>simp only [cond_false]
  | true=>
  simp only [cond_true]
  cases hy:getI n.legs s.1 with
  | none=>simp only [Option.bind_none]
  | some y=>simp only [Option.bind_some,Zw7 hf hn hy]
 unfold Zxf Zaf
 rw [hb]
theorem ZwQ {from_:ByteArray} {at_:Int} (hfr:0≤idxV (Za n) from_) (hat:at_≤100000) {k:Nat} (hk:k≤(Za n).length):Zxa n from_ at_ (k:Int)=some (ZU n [] [] 0 (idxV (Za n) from_) at_ k):=by
 have hp:=plen hf
 obtain ⟨r0,e0,_⟩:=Zjp hf (idxV (Za n) from_) at_
 have h0:ZU n [] [] 0 (idxV (Za n) from_) at_ 0=r0:=by unfold ZU; rw [e0]; rfl
 unfold Zxa
 rw [(ZaL hf).2]
 simp only [Option.bind_some,ZeU hf,hn,Bool.not_true,cond_false,decide_eq_false (show ¬ idxV (Za n) from_<0 by omega),decide_eq_false (show ¬ 100000<at_ by omega),decide_eq_false (show ¬ (k:Int)<0 by omega),e0]
 have e:iterF (Zw8 n (k:Int) (Za n) (idxV (Za n) from_)) NN (0,ZU n [] [] 0 (idxV (Za n) from_) at_ 0)=some (ZU n [] [] 0 (idxV (Za n) from_) at_ k):=by
  refine Zd6 (body:=Zw8 n (k:Int) (Za n) (idxV (Za n) from_)) (fun i:Nat=>((i:Int),ZU n [] [] 0 (idxV (Za n) from_) at_ i)) (n:=k) (o:=ZU n [] [] 0 (idxV (Za n) from_) at_ k) (fun i hi=>?_) ?_ NN (by unfold NN; omega)
  ·unfold Zw8
   rw [decide_eq_true (show (i:Int)<(k:Int) by omega),decide_eq_true (show (i:Int)<((Za n).length:Int) by omega),cond_true,cond_true,Zw4 hf hn,(Ze6 hf (l:=[]) (by simp) (closed:=[]) (by simp) 0 _ at_ i).1,Option.bind_some,Zc (by omega)]
   rfl
  ·unfold Zw8
   simp
 rw [← h0,e]; rfl
theorem ZwR {from_ to_:ByteArray} {at_:Int} (hfr:0≤idxV (Za n) from_) (hat:at_≤100000) (hto:0≤idxV (Za n) to_) {e:Int} (he:getI (ZU n [] [] 0 (idxV (Za n) from_) at_ (Za n).length) (idxV (Za n) to_)=some e):Zw9 n from_ to_ at_=some e:=by
 have hlt:=(Zer (Za n) to_).2
 have hbl:=Zel hf (l:=[]) (by simp) (closed:=[]) (by simp) 0 (idxV (Za n) from_) at_ (Za n).length
 unfold Zw9
 rw [(ZaL hf).2]
 simp only [Option.bind_some,ZeU hf,ZwQ hf hn hfr hat (Nat.le_refl _),decide_eq_false (show ¬ idxV (Za n) to_<0 by omega),decide_eq_false (show ¬ (((ZU n [] [] 0 (idxV (Za n) from_) at_ (Za n).length).length:Int)=0) by rw [hbl]; omega),cond_false,he]
omit hf hn in
theorem ZwK {service e at_:Int} {from_ to_:ByteArray} (he:Zw9 n from_ to_ at_=some e) (h0:0≤e) (h1:e≤100000) (hs:1≤service∧service≤3):Zxb n service from_ to_ at_=some (dueV e service):=by
 unfold Zxb
 rw [he]
 simp only [Option.bind_some,ZcU]
 have d1:e.tdiv 1440=e / 1440:=Int.tdiv_eq_ediv_of_nonneg h0
 have d2:e.tmod 1440=e % 1440:=Int.tmod_eq_emod_of_nonneg h0
 have hb:0≤e / 1440∧e / 1440≤69:=by omega
 have hwr:IntKind.i64.wrap (e / 1440)=e / 1440:=Zc (by omega)
 have hk:∃ k:Int,0≤k∧k≤4∧w64 (w64 (service-1)*w64 (service-1))=k∧k=(if service=1 then 0 else if service=2 then 1 else 4):=by
  rcases (show service=1∨service=2∨service=3 by omega) with rfl | rfl | rfl
  ·exact ⟨0,by omega,by omega,by decide,by simp⟩
  ·exact ⟨1,by omega,by omega,by decide,by simp⟩
  ·exact ⟨4,by omega,by omega,by decide,by simp⟩
 obtain ⟨k,k0,k1,k2,k3⟩:=hk
 rw [d1,d2,hwr,decide_eq_true hs.1,decide_eq_true hs.2,decide_eq_false (show ¬ e<0 by omega),k2]
 simp only [cond_false,Bool.and_self,Bool.not_true]
 unfold dueV
 rw [← k3]
 by_cases hd:1080<e % 1440
 ·rw [decide_eq_true hd,if_pos hd,cond_true]
  rw [Zc (n:=e / 1440+1) (by omega),Zc (n:=e / 1440+1+k) (by omega),Zc (n:=(e / 1440+1+k)*1440) (by omega),Zc (by omega)]
 ·rw [decide_eq_false hd,if_neg hd,cond_false]
  rw [Zc (n:=e / 1440+k) (by omega),Zc (n:=(e / 1440+k)*1440) (by omega),Zc (by omega),Int.add_zero]
theorem ZwC {l:List YBooking} (hl:l.length≤1048576) {closed:List YTrip} (hc:closed.length≤1048576) {from_ to_:ByteArray} {at_ weight service:Int} (hs:1≤service∧service≤3) {way:List YTrip} (h:Zq n l closed from_ to_ at_ weight=some (way,true)):
 ∃ d,Zeg n service from_ to_ at_=some d∧Zxb n service from_ to_ at_=some d∧0≤d∧d≤200000:=by
 obtain ⟨d,d1,d2,d3⟩:=ZwO hf hn hl hc hs h
 have hR:=Zj3 hf hl hc h
 obtain ⟨q1,q2,q3,q4⟩:=hR.hC
 have hlt:=(Zer (Za n) to_).2
 have hbl:=Zel hf (l:=[]) (by simp) (closed:=[]) (by simp) 0 (idxV (Za n) from_) at_ (Za n).length
 obtain ⟨e,he,_⟩:=Zei (xs:=ZU n [] [] 0 (idxV (Za n) from_) at_ (Za n).length) (i:=idxV (Za n) to_) ⟨hR.hto,by rw [hbl]; exact hlt⟩
 have e1:=ZwF hf hn q2 q3 hR.hto he
 have e2:=ZwR hf hn q2 q3 hR.hto he
 have hpos:0≤e∧e≤100000:=by
  unfold Zeg at d1
  rw [e1,Option.bind_some] at d1
  obtain ⟨v,hv,h0⟩:∃ v,LeAt (ZU n [] [] 0 (idxV (Za n) from_) at_ (Za n).length) (idxV (Za n) to_) v∧v≤100000:=ZwE hf hn hl hc h
  obtain ⟨v',v1,v2,v3⟩:=hv
  rw [he] at v1
  obtain rfl:=Option.some.inj v1
  exact ⟨v2,by omega⟩
 refine ⟨dueV e service,ZwH e1 hpos.1 hpos.2 hs,ZwK e2 hpos.1 hpos.2 hs,?_⟩
 have:=Zw1 (service:=service) hpos.1 hpos.2
 omega
end
theorem ZwM {w:YWorld} (h:WOk w) (from_ to_:ByteArray) (service weight:Int):
 ∃ r,Zwz w from_ to_ service weight=some r∧ZwA w from_ to_ service weight=some r∧(r=(w,0,false)∧ZwT w from_ to_ service weight∨∃ way ys due,ZsB w from_ to_ service weight r way ys due):=by
 have hf:=h.fit
 obtain ⟨p1,p2,p3,p4,p5,p6,p7⟩:=h.parts
 obtain ⟨r,e,hr⟩:=ZwX h from_ to_ service weight fun way hw hs=>by
  obtain ⟨d,d1,_,d2,d3⟩:=ZwC hf.net h.net hf.bookings hf.closed hs hw
  exact ⟨d,d1,d2,d3⟩
 refine ⟨r,e,?_,hr⟩
 have hw1:w64 (w.now+1)=w.now+1:=Zc (by omega)
 have hw2:w64 ((w.orders.length:Int)+1)=(w.orders.length:Int)+1:=Zc (by omega)
 have start:∀ X,(∀ (q:Option (YWorld × Int × Bool)),q=some r→True)→X=some r→X=some r:=fun _ _ e=>e
 unfold ZwA
 rw [Zm4 hf,Option.bind_some,Ziw hf,h.ok,Option.bind_some,hw1,hw2]
 simp only [Bool.not_true,cond_false,ZcU,Option.bind_some]
 -- what follows where all is well but the way
 obtain ⟨⟨way,b⟩,e1,e2⟩:=Zf1 hf.net hf.bookings hf.closed from_ to_ (w.now+1) weight
 have hbt:=ZwY hf.net (show w.bookings.length≤1048000 by omega) ((w.orders.length:Int)+1) weight way
 obtain ⟨y6,e6,_⟩:=hbt
 rw [e2]
 simp only [Option.bind_some]
 rw [e6]
 simp only [Option.bind_some]
 rcases hr with ⟨rfl,hR⟩ | ⟨way',ys,due,hT⟩
 ·by_cases c1:30≤w.orders.length
  ·rw [decide_eq_true (show (30:Int)≤(w.orders.length:Int) by omega)]; rfl
  rw [decide_eq_false (show ¬ (30:Int)≤(w.orders.length:Int) by omega),cond_false]
  by_cases c2:from_=to_
  ·rw [decide_eq_true c2]; rfl
  rw [decide_eq_false c2,cond_false]
  by_cases c3:1≤service∧service≤3
  case neg=>
   have:(decide (1≤service) && decide (service≤3))=false:=by rw [← Bool.decide_and]; exact decide_eq_false c3
   rw [this]; rfl
  rw [decide_eq_true c3.1,decide_eq_true c3.2]
  by_cases c4:1≤weight∧weight≤30000
  case neg=>
   have:(decide (1≤weight) && decide (weight≤30000))=false:=by rw [← Bool.decide_and]; exact decide_eq_false c4
   rw [this]; rfl
  rw [decide_eq_true c4.1,decide_eq_true c4.2]
  simp only [Bool.and_self,Bool.not_true,cond_false]
  rcases hR with hx | hx | hx | hx | ⟨x,hx⟩ | ⟨wy,l,hx,hy⟩
  ·exact absurd hx c1
  ·exact absurd hx c2
  ·exact absurd c3 hx
  ·exact absurd c4 hx
  ·rw [e2] at hx
   have hb:b=false:=congrArg Prod.snd (Option.some.inj hx)
   rw [hb]; rfl
  ·rw [e2] at hx
   have hb:way=wy:=congrArg Prod.fst (Option.some.inj hx)
   rw [← hb,e6] at hy
   have hb2:y6.2=false:=congrArg Prod.snd (Option.some.inj hy)
   rw [hb2]
   cases b <;> rfl
 ·have hrm:=hT.room
  rw [e2] at hrm
  have hb:b=true:=congrArg Prod.snd (Option.some.inj hrm)
  have hway:way=way':=congrArg Prod.fst (Option.some.inj hrm)
  subst hway
  subst hb
  have hbk:=hT.book
  rw [e6] at hbk
  obtain rfl:=Option.some.inj hbk
  have hok:=hT.ok
  obtain ⟨k1,k2,_⟩:=hok.parts
  have k2':(w.orders++[newO w from_ to_ service weight due way]).length≤30:=k2
  rw [List.length_append] at k2'
  simp only [List.length_cons,List.length_nil] at k2'
  have hv:=Zh2 hok.ok (i:=w.orders.length) (o:=newO w from_ to_ service weight due way) (by
   show (w.orders++[newO w from_ to_ service weight due way])[w.orders.length]?=_
   rw [List.getElem?_append_right (Nat.le_refl _),Nat.sub_self]; rfl)
  unfold Zej at hv
  simp only [Bool.and_eq_true,Bool.not_eq_true',decide_eq_true_iff,decide_eq_false_iff_not] at hv
  have c3:1≤service∧service≤3:=hv.1.1.1.1.1.1.1.1.2
  have c4:1≤weight∧weight≤30000:=hv.1.1.1.1.1.1.1.2
  obtain ⟨d,d1,d2,_⟩:=ZwC hf.net h.net hf.bookings hf.closed c3 hT.room
  have hpr:=hT.prom
  rw [d1] at hpr
  obtain rfl:=Option.some.inj hpr
  have hR:=Zj3 hf.net hf.bookings hf.closed hT.room
  have hlen:=hR.len
  have ha:chk (appOk (w.orders.length+([newO w from_ to_ service weight d way]:List YOrder).length) 128)=some ():=Zdh (by simp only [List.length_cons,List.length_nil]; omega) (by omega)
  have hsi:=Zxq (w:=⟨w.network,w.orders++[newO w from_ to_ service weight d way],ys,w.closed,w.now,w.scans,w.skip,w.made⟩) ⟨by simp only; omega,p4,by simp only; omega⟩ ⟨(w.orders.length:Int)+1,w.now,1,from_,⟨0,0⟩⟩
  rw [decide_eq_false (show ¬ (30:Int)≤(w.orders.length:Int) by omega),cond_false,decide_eq_false hT.ne,cond_false,decide_eq_true c3.1,decide_eq_true c3.2,decide_eq_true c4.1,decide_eq_true c4.2]
  simp only [Bool.and_self,Bool.not_true,cond_false,d2,Option.bind_some,frz,rhoM]
  unfold newO at ha hsi
  rw [ha]
  simp only [Option.bind_some]
  rw [hsi,hT.res]
  rfl
set_option maxRecDepth 4000
theorem Zsd {t t':TypeId} {l:Nat}:(TK.mk t (some t')).st [.ms l]=TK.mk t (some t'):=nrfl rfl
attribute [go_sem] Zsd
theorem Zm7 {m m':Mem} {α:Type} {f:α→List PV} [hf:PlainC f] {ρ:Nat→Option Nat} {t t':TypeId} {k l j k2 n:Nat} {T2:TK} {es2:List (List PV)} {cs:List PV} {x:α} {xs:List α} (hm:msAt 0 cs=some (l,j)) (h1:Zo5 m=true) (hl:look m l=some ⟨T2,k2,es2⟩) (ht:T2.t=t') (h:cutL ρ m m' cs (f x)):
 cutF ρ m m' ⟨⟨t,some t'⟩,k,(xs.map f).set n cs⟩ ⟨⟨t,some t'⟩,k,(xs.set n x).map f⟩:=by
 by_cases hn:n<xs.length
 ·exact Zjj hn hm h1 hl ht h
 ·rw [List.set_eq_of_length_le (by simpa using hn),List.set_eq_of_length_le (by omega)]
  exact cutB_same
theorem yc {p:Prop} (h:p:=by (try simp only [U_s,U_z]); (with_reducible refine cutS ?_); (first | (with_reducible apply ZpD) | (with_reducible apply ZpE) | (with_reducible apply ZpF) | (with_reducible apply ZpG) | (with_reducible apply ZpH) | (with_reducible apply ZpI) | (with_reducible apply ZpJ) | (with_reducible apply ZpK) | (with_reducible apply ZpL) | (with_reducible apply ZpM) | (with_reducible apply Zm9) | (with_reducible apply Zna) | (with_reducible apply Znb)); (repeat' (first       | (with_reducible exact ZpU) | (with_reducible refine ZpV ?_) | (with_reducible refine ZpW ?_) | (with_reducible refine cutT_un ?_)       | (with_reducible refine cutT_c ?_ ?_)       | (with_reducible exact cutT_nil)       | (with_reducible exact cutV_c rfl)       | exact cutV_c rfl       | (with_reducible exact cutL_nil)       | (with_reducible refine cutL_c ?_ ?_)       | exact .c _ rfl       | exact .un _       | exact cutC_ms rfl rfl       | exact cutC_be rfl rfl       | exact Zhn | exact cutC_nilsl       | exact cutC_nilms rfl rfl       | (refine cutC_fms rfl ?_) | (refine Zjm rfl rfl ?_) | (refine Zln rfl rfl rfl ?_)       | (refine cutC_fbe rfl rfl ?_)       | (with_reducible refine Zlm ?_) | (with_reducible refine cutV_ag ?_)       | (with_reducible refine cutV_tu ?_)       | (with_reducible exact cutAs_nil)       | (with_reducible refine cutAs_c ?_ ?_)       | (with_reducible refine cutA_ag ?_)       | (with_reducible refine cutA_k ?_)       | (with_reducible refine cutV_k ?_)       | (with_reducible exact rowsOk_nil)       | (refine rowsOk_live rfl ?_ ?_)       | (refine ZhS rfl ?_) | (refine rowsOk_new rfl ?_)       | (with_reducible refine rowsOk_dead ?_)       | (with_reducible refine cutB_one ?_)       | (with_reducible exact Zlj)       | (with_reducible refine Zll ?_)       | (with_reducible exact ZpC)       | (with_reducible refine ZpB ?_ ?_)       | (with_reducible exact cutB_same)       | (with_reducible refine Zg3 ?_)       | exact cutB_same       | (refine Zg3 ?_)       | (refine Zlk ?_)       | (refine Zjl ?_)       | (refine Zjk rfl ?_)       | (refine Zik rfl rfl rfl rfl ?_)       | (refine Zm7 rfl rfl rfl rfl ?_)       | (simp only [cInt,cStr,cBool,cB8,Zii,cLabel,cParcel,cZone,cRate,cLeg,cNetwork,cTrip,cBooking,cScan,cOrder,cWorld,cLine,cAct,cOffice,cItem,cChute,cInlet,cCentre,cThing,cBelief])       | (with_unfolding_all rfl))); (all_goals first | (exact dropped_of rfl) | exact none); (first | done | fail)):p:=h
theorem wk4 {p:Prop} (h:p:=by
 (simp only [List.length_cons,List.length_nil,Nat.reduceAdd,Nat.reduceSub,List.replicate_succ,List.replicate_zero,List.cons_append,List.nil_append,go_sem]);
 repeat' (first
  | ((with_reducible refine ZnV ?_ ?_ ?_); (focus (simp [isR])); (focus (simp only [go_sem])); (simp only [List.cons_append,List.nil_append]))
  | ((with_reducible refine ZlU H rfl (by kernel_rfl) ?_); (clear H; intro H; simp only [go_sem,Nat.reduceAdd,Nat.reduceSub,Nat.reduceMul,Nat.reduceLT,Nat.reduceLeDiff,Nat.reduceEqDiff,if_true,eq_self]))
  | ((with_reducible refine Zrv (rhoH H) ?_); (refine Zlh H rfl rfl ?_ ?_ ?_ ?_ ?_ ?_ ?_ ?_); (focus (first | rfl | (simp only [CT.args,List.map_cons,List.map_nil,renA,renC,ren1,sig_z,sig_s,sig_n]; done))); (focus (simp [CT.args,CT.m0,goodA,goodC,lowA,lowC,low1,isR])); (focus (first | exact List.nodup_nil | decide)); (focus ((simp only [CT.m0]); (repeat' (first | exact Zfo | (refine Zfn (by rfl) ?_) | (refine Zfp (by rfl) (by rfl) (by simp [goodC,lowC,low1,isR]) ?_))))); (focus (intro y_; simp [CT.mem,CT.m0])); (focus (intro y_; (simp only [CT.mem]); (repeat (first | exact Zjw | exact Zfz | exact Zgy | (refine hm_c Zfz ?_) | (refine hm_c (Zbz (by simp [goodC,isR])) ?_) | exact Zbz (by simp [goodC,isR]) | (refine Zhz ?_))))); (focus (intro y_; (simp [CT.res,goodV,goodA,goodC,isR]))); (clear H; intro y_ hy H; simp only [CT.res,CT.mem,putIn,List.drop_succ_cons,List.drop_zero,Option.map_none,go_sem,Nat.reduceAdd,Nat.reduceSub,Nat.reduceMul,Nat.reduceLT,Nat.reduceLeDiff,Nat.reduceEqDiff,if_true,eq_self]))
  | ((with_reducible refine jnS (jnH H) ?_); (first | ((refine Zn4 H ?_ ?_ (fun K_ hL H=>?_) (fun o_ H=>?_)); (focus (decide +kernel)); (focus (decide +kernel))) | ((refine Zn3 H ?_ ?_ (fun K_ hL H=>?_) (fun o_ H=>?_)); (focus (decide +kernel)); (focus (decide +kernel)))))
  | ((with_reducible refine rhoS (rhoH H) ?_); (refine ZmW H rfl rfl rfl ?_ ?_ ?_ ?_ ?_ ?_ ?_ ?_); (focus (first | rfl | (simp only [CT.args,List.map_cons,List.map_nil,renA,renC,ren1,sig_z,sig_s,sig_n]; done))); (focus (simp [CT.args,CT.m0,goodA,goodC,lowA,lowC,low1,isR])); (focus (first | exact List.nodup_nil | decide)); (focus ((simp only [CT.m0]); (repeat' (first | exact Zfo | (refine Zfn (by rfl) ?_) | (refine Zfp (by rfl) (by rfl) (by simp [goodC,lowC,low1,isR]) ?_))))); (focus (intro y_; simp [CT.mem,CT.m0])); (focus (intro y_; (simp only [CT.mem]); (repeat (first | exact Zjw | exact Zfz | exact Zgy | (refine hm_c Zfz ?_) | (refine hm_c (Zbz (by simp [goodC,isR])) ?_) | exact Zbz (by simp [goodC,isR]) | (refine Zhz ?_))))); (focus (intro y_; (simp [CT.res,goodV,goodA,goodC,isR]))); (clear H; intro y_ hy H; simp only [CT.res,CT.mem,putIn,List.drop_succ_cons,List.drop_zero,Option.map_none,go_sem,Nat.reduceAdd,Nat.reduceSub,Nat.reduceMul,Nat.reduceLT,Nat.reduceLeDiff,Nat.reduceEqDiff,if_true,eq_self]))
  | ((with_reducible refine ZlV H ?_ ?_); (focus (exact yc)); (clear H; intro z_ H))
  | ((with_reducible refine Zn2 H ?_ ?_); (focus (exact yc)); (clear H; intro H))
  | ((with_reducible refine pwp_seq ?_); intro K_ hK)
  | ((with_reducible refine pwp_block ?_))
  | ((with_reducible refine pwp_region ?_); simp only [go_sem,Nat.reduceAdd,Nat.reduceSub,Nat.reduceMul,Nat.reduceLT,Nat.reduceLeDiff,Nat.reduceEqDiff,if_true,eq_self])
  | ((with_reducible refine pwp_skip ?_); (try simp only [thenP_normal,blockP_normal]))
  | ((with_reducible refine pwp_exit ?_); (simp only [thenP_exit,blockP_exit,thenP_normal,blockP_normal,if_true,if_false,eq_self,Nat.reduceEqDiff,Nat.one_ne_zero,Nat.zero_ne_one]); (try simp only [bexR,bsr,bsl] at H))
  | ((with_reducible refine pwp_ret ?_); (try simp only [thenP_ret,blockP_ret]))
  | ((with_reducible refine hQ _ _ ?_); (try simp only [bexR,bsr,bsl] at H); replace H:=Hret H; subst H; simp only [Fin,resP,oneP,go_sem,Nat.reduceAdd,Nat.reduceSub,Nat.reduceMul,Nat.reduceLT,Nat.reduceLeDiff,Nat.reduceEqDiff,if_true,eq_self]; exact yc)
  | ((with_reducible refine hQn _ _ ?_); (try simp only [bexR,bsr,bsl] at H); replace H:=Hret H; subst H; simp only [Fin,resP,oneP,go_sem,Nat.reduceAdd,Nat.reduceSub,Nat.reduceMul,Nat.reduceLT,Nat.reduceLeDiff,Nat.reduceEqDiff,if_true,eq_self]; exact yc)
  | ((with_reducible refine Zri ?_); (refine gate2_intro (fun hg=>Hc1k H hg ?_) (fun hg=>Hc2k H hg ?_)) <;> (clear H; intro H; simp only [go_sem,Nat.reduceAdd,Nat.reduceSub,Nat.reduceMul,Nat.reduceLT,Nat.reduceLeDiff,Nat.reduceEqDiff,if_true,eq_self]))
  | ((with_reducible refine pwp_condE ?_); simp only [evP_tmp,getD_z,getD_s,evP_bool]; (first | (with_reducible refine condP_tt ?_) | (with_reducible refine condP_ff ?_) | ((refine condP_intro (fun hg=>Hc1k H hg ?_) (fun hg=>Hc2k H hg ?_)) <;> (clear H; intro H))))
  | ((with_reducible refine idxS ?_); replace H:=Hcall H; obtain ⟨y_,hy,H⟩:=H; (with_reducible apply idx_sl hy); (focus (first | (simp only [go_sem]; done) | (simp only [go_sem]; decide))); (focus (first | rfl | (simp only [go_sem]; rfl))); simp only [go_sem,Nat.reduceAdd,Nat.reduceSub,Nat.reduceMul,Nat.reduceLT,Nat.reduceLeDiff,Nat.reduceEqDiff,if_true,eq_self])
  | ((with_reducible refine idxM ?_); replace H:=Hcall H; obtain ⟨y_,hy,H⟩:=H; (first | (refine Zns hy (by rfl) (by first | (simp only [go_sem]; done) | (simp only [go_sem]; decide)) (by first | rfl | (simp only [go_sem]; rfl)) ?_) | (refine Zlz hy (by rfl) (by first | (simp only [go_sem]; done) | (simp only [go_sem]; decide)) (by first | rfl | (simp only [go_sem]; rfl)) ?_)); simp only [go_sem,Nat.reduceAdd,Nat.reduceSub,Nat.reduceMul,Nat.reduceLT,Nat.reduceLeDiff,Nat.reduceEqDiff,if_true,eq_self])
  | ((with_reducible refine idxB ?_); replace H:=Hcall H; obtain ⟨y_,hy,H⟩:=H; (with_reducible apply idx_str hy); (focus (simp only [go_sem])); simp only [go_sem,Nat.reduceAdd,Nat.reduceSub,Nat.reduceMul,Nat.reduceLT,Nat.reduceLeDiff,Nat.reduceEqDiff,if_true,eq_self])
  | ((with_reducible refine Zq6 ?_); replace H:=Hcall H; obtain ⟨y_,hy,H⟩:=H; (first | ((with_reducible apply call_deep); (focus (exact CT.ok hy)); (focus (simp [isCA,isC,isC1])); (focus (exact Nat.le_of_ble_eq_true rfl)); (focus (exact xf)); (focus (first | exact ZoM rfl | exact ZoN rfl | exact Zlv rfl | exact Zlw rfl | exact (fun h=>(by cases h)) | (simp [CT.res,goodV,goodA,goodC,isR]))); (simp only [CT.res,CT.mem,go_sem,Nat.reduceAdd,Nat.reduceSub,Nat.reduceMul,Nat.reduceLT,Nat.reduceLeDiff,Nat.reduceEqDiff,if_true,eq_self])) | ((with_reducible apply call_deep); (focus (exact xs)); (focus (simp [isCA,isC,isC1])); (focus (exact Nat.le_of_ble_eq_true rfl)); (focus (exact xf)); (focus (first | exact ZoM rfl | exact ZoN rfl | exact Zlv rfl | exact Zlw rfl | exact (fun h=>(by cases h)) | (simp [CT.res,goodV,goodA,goodC,isR]))); (simp only [CT.res,CT.mem,go_sem,Nat.reduceAdd,Nat.reduceSub,Nat.reduceMul,Nat.reduceLT,Nat.reduceLeDiff,Nat.reduceEqDiff,if_true,eq_self])) | ((with_reducible apply call_flat); (focus (first | (simp only [snapA,ZgX,Zgl,ZgW,live_look,look_z,look_s,rowQ_map,drop_mp,take_mp,List.forall_mem_nil,true_and,and_true,if_true]; (first | exact CT.ok hy | (simp only [all_nil,all_cons,isC,isC1,true_and,and_true,if_true]; exact CT.ok hy))) | (simp only [snapA,ZgX,Zgl,ZgW,live_look,look_z,look_s,rowQ_map,drop_mp,take_mp,List.forall_mem_nil,true_and,and_true,if_true]; (first | (exact xs) | (simp only [all_nil,all_cons,isC,isC1,true_and,and_true,if_true]; (exact xs)))) | (simp only [snapA,ZgX,Zgl,ZgW,live_look,look_z,look_s,rowQ_map,drop_mp,take_mp,List.forall_mem_nil,true_and,and_true,if_true]; (exact xs)))); (focus (exact Nat.le_of_ble_eq_true rfl)); (focus (exact xf)); (focus (first | exact ZpR rfl | exact (fun _=>rfl) | (simp [CT.res,goodV,goodA,goodC,isF]))); (simp only [CT.res,CT.mem,go_sem,Nat.reduceAdd,Nat.reduceSub,Nat.reduceMul,Nat.reduceLT,Nat.reduceLeDiff,Nat.reduceEqDiff,if_true,eq_self]))))
  | ((with_reducible refine slcS ?_); replace H:=Hchk H; obtain ⟨hc,H⟩:=H; (first | ((with_reducible apply slice_sl hc); (focus rfl); (focus rfl); (focus (first | (simp only [go_sem]; done) | (simp only [go_sem]; decide))); (focus (first | rfl | (intro x_; rfl))); simp only [go_sem,Nat.reduceAdd,Nat.reduceSub,Nat.reduceMul,Nat.reduceLT,Nat.reduceLeDiff,Nat.reduceEqDiff,if_true,eq_self]) | ((refine Zj5 hc (by rfl) (by rfl) (by rfl) (by first | (simp only [go_sem]; done) | (simp only [go_sem]; decide)) (by first | rfl | (simp only [go_sem]; rfl)) ?_); simp only [go_sem,Nat.reduceAdd,Nat.reduceSub,Nat.reduceMul,Nat.reduceLT,Nat.reduceLeDiff,Nat.reduceEqDiff,if_true,eq_self]) | ((with_reducible apply slice_str hc); (focus rfl); (focus rfl); (focus (simp only [go_sem])); simp only [go_sem,Nat.reduceAdd,Nat.reduceSub,Nat.reduceMul,Nat.reduceLT,Nat.reduceLeDiff,Nat.reduceEqDiff,if_true,eq_self])))
  | ((with_reducible refine appS ?_); replace H:=Hchk H; obtain ⟨hc,H⟩:=H; (first | (refine ZmR hc (by first | (simp only [go_sem]; done) | (simp only [go_sem]; rfl)) (by first | (simp only [go_sem]; done) | (simp only [go_sem]; rfl)) (by first | (simp only [go_sem]; done) | (simp only [go_sem]; rfl)) (by first | (simp only [go_sem]; done) | (simp only [go_sem]; rfl)) (by rfl) (by first | rfl | exact ZiZ (by rfl) (by rfl) (by rfl)) rfl rfl (by intro x_; rfl) rfl ?_) | (refine ZmS hc (by first | (simp only [go_sem]; done) | (simp only [go_sem]; rfl)) (by first | (simp only [go_sem]; done) | (simp only [go_sem]; rfl)) (by first | (simp only [go_sem]; done) | (simp only [go_sem]; rfl)) (by first | (simp only [go_sem]; done) | (simp only [go_sem]; rfl)) (by first | rfl | exact ZiZ (by rfl) (by rfl) (by rfl)) rfl rfl (by intro x_; rfl) ?_) | (refine ZmQ hc rfl (by first | (simp only [go_sem]; done) | (simp only [go_sem]; rfl)) (by first | (simp only [go_sem]; done) | (simp only [go_sem]; rfl)) (by first | (simp only [go_sem]; done) | (simp only [go_sem]; rfl)) (by first | (simp only [go_sem]; done) | (simp only [go_sem]; rfl)) (by rfl) (by rfl) (by rfl) (by rfl) rfl rfl (by rfl) ?_)); simp only [go_sem,Nat.reduceAdd,Nat.reduceSub,Nat.reduceMul,Nat.reduceLT,Nat.reduceLeDiff,Nat.reduceEqDiff,if_true,eq_self])
  | ((with_reducible refine mkS ?_); replace H:=Hchk H; obtain ⟨hc,H⟩:=H; (refine ZpX hc (by first | (simp only [go_sem]; done) | (simp only [go_sem]; rfl)) (by first | (simp only [go_sem]; done) | (simp only [go_sem]; rfl)) (by first | (simp only [go_sem]; done) | (simp only [go_sem]; rfl)) (by first | (simp only [go_sem]; done) | (simp only [go_sem]; rfl)) rfl rfl ?_); simp only [go_sem,Nat.reduceAdd,Nat.reduceSub,Nat.reduceMul,Nat.reduceLT,Nat.reduceLeDiff,Nat.reduceEqDiff,if_true,eq_self])
  | ((with_reducible refine optS ?_); (first | (with_reducible refine opt_if (by decide) ?_) | (replace H:=Hchk H; obtain ⟨hc,H⟩:=H; (first | (refine opt_if hc ?_) | (refine opt_if (of_decide_eq_true hc) ?_) | (refine opt_if ⟨rfl,of_decide_eq_true hc⟩ ?_)))); simp only [go_sem,Nat.reduceAdd,Nat.reduceSub,Nat.reduceMul,Nat.reduceLT,Nat.reduceLeDiff,Nat.reduceEqDiff,if_true,eq_self])
  | ((with_reducible refine Zro ?_); (refine pwp_loopH (Hlp H) ?_ ?_); (focus (simp only [LoopE.T,LoopE.M,U_s,U_z]; exact yc)); (clear H; intro n_ s_ H K_ hL; replace H:=Hrd H; simp only [LoopE.T,LoopE.M,U_s,U_z]))
  | ((with_reducible refine pwp_draw (by kernel_rfl) ?_); simp only [go_sem,Nat.reduceAdd,Nat.reduceSub,Nat.reduceMul,Nat.reduceLT,Nat.reduceLeDiff,Nat.reduceEqDiff,if_true,eq_self])
  | ((with_reducible refine endD_intro (by kernel_rfl) ?_); (try simp only [thenP_normal,blockP_normal]))
  | ((with_reducible refine hK _ _ ?_); clear hK)
  | (clear hK; (with_reducible refine hK _ _ ?_); clear hK)
  | (clear hK; clear hK; (with_reducible refine hK _ _ ?_); clear hK)
  | (clear hK; clear hK; clear hK; (with_reducible refine hK _ _ ?_); clear hK)
  | (clear hK; clear hK; clear hK; clear hK; (with_reducible refine hK _ _ ?_); clear hK)
  | (clear hK; clear hK; clear hK; clear hK; clear hK; (with_reducible refine hK _ _ ?_); clear hK)
  | ((with_reducible refine And.intro ?_ ?_); omega)
  | (simp only [nxt_app,nxd_app,nxe_app,atM_app]; simp only [go_sem,Nat.reduceAdd,Nat.reduceSub,Nat.reduceMul,Nat.reduceLT,Nat.reduceLeDiff,Nat.reduceEqDiff,if_true,eq_self])
  | ((first | simp only [lit3 hy,Option.map_some,List.drop_zero,go_sem] | simp only [ZoX hy,Option.map_some,List.drop_zero,go_sem] | simp only [ZiJ hy,ZfA hy,ZgM hy,go_sem,Nat.reduceAdd,Nat.reduceSub,Nat.reduceMul,Nat.reduceLT,Nat.reduceLeDiff,Nat.reduceEqDiff,if_true,eq_self] | simp only [ZfA hy,ZgM hy,go_sem,Nat.reduceAdd,Nat.reduceSub,Nat.reduceMul,Nat.reduceLT,Nat.reduceLeDiff,Nat.reduceEqDiff,if_true,eq_self]))
  | ((with_reducible replace H:=HexL H); (with_reducible refine hL _ _ _ H ?_); (try simp only [LoopE.T,LoopE.M,U_s,U_z]); exact yc)
  | ((with_reducible replace H:=HexL H); clear hL; (with_reducible refine hL _ _ _ H ?_); (try simp only [LoopE.T,LoopE.M,U_s,U_z]); exact yc)
  | ((with_reducible refine jnX H hL ?_); exact yc)
  | (with_reducible exact (Zq1 H).elim)
  | ((with_reducible replace H:=rgH H); obtain ⟨y_,hy,H⟩:=H; (first | simp only [lit3 hy,Option.map_some,List.drop_zero,go_sem] | simp only [ZoX hy,Option.map_some,List.drop_zero,go_sem] | simp only [ZiJ hy,ZfA hy,ZgM hy,go_sem,Nat.reduceAdd,Nat.reduceSub,Nat.reduceMul,Nat.reduceLT,Nat.reduceLeDiff,Nat.reduceEqDiff,if_true,eq_self] | simp only [ZfA hy,ZgM hy,go_sem,Nat.reduceAdd,Nat.reduceSub,Nat.reduceMul,Nat.reduceLT,Nat.reduceLeDiff,Nat.reduceEqDiff,if_true,eq_self])))):p:=h
def ZwB (w:YWorld) (from1_:ByteArray) (to_:ByteArray) (service:Int) (weight:Int):Option (YWorld × Int × Bool):=
 (Zdz w).bind fun y1=>
 (Zdi w).bind fun y2=>
 cond (!y2)
 (some (y1,0,false))
 (cond (decide (30≤(w.orders.length:Int)))
 (some (y1,0,false))
 (cond (decide (from1_=to_))
 (some (y1,0,false))
 ((Zj service 1 3).bind fun y3=>
 cond (!y3)
 (some (y1,0,false))
 ((Zj weight 1 30000).bind fun y4=>
 cond (!y4)
 (some (y1,0,false))
 ((ZaF w.network w.bookings w.closed from1_ to_ (w64 (w.now+1)) weight).bind fun y5=>
 cond (!y5.2)
 (some (y1,0,false))
 ((ZaB w.network w.bookings (w64 ((w.orders.length:Int)+1)) weight y5.1).bind fun y6=>
 cond (!y6.2)
 (some (y1,0,false))
 ((Zeg w.network service from1_ to_ (w64 (w.now+1))).bind fun y7=>
 (ZA y5.1).bind fun y8=>
 (chk (appOk ((y1.orders:List YOrder).length+([(⟨from1_,to_,service,weight,w.now,y7,y8,0,1,from1_,0⟩:YOrder)]:List YOrder).length) 128)).bind fun _=>
 (frz (.un::vs from1_::(U 3 (.be 0 0 0::(U 4 (.be 1 0 0::.un::.un::.be 2 0 0::vi (w64 ((w.orders.length:Int)+1))::(U 102 [])))))) [some ⟨.of 41,10,[[.sl (w.network.legs.map cLeg),.sl (w.network.off.map cInt),vi w.network.change,.sl (w.orders.map cOrder),.sl (w.bookings.map cBooking),.sl (w.closed.map cTrip),vi w.now,.sl (w.scans.map cScan),.sl (w.skip.map cInt),vi w.made]]⟩,some ⟨.of 41,10,[[.v (.slice none 0 0),.v (.slice none 0 0),vi 0,.v (.slice none 0 0),.v (.slice none 0 0),.v (.slice none 0 0),vi 0,.v (.slice none 0 0),.v (.slice none 0 0),vi 0]]⟩,some ⟨.of 41,10,[[.ms 3,.ms 4,vi y1.network.change,.ms 5,.ms 6,.ms 7,vi y1.now,.ms 8,.ms 9,vi y1.made]]⟩,some ⟨.of 67,6,y1.network.legs.map cLeg⟩,some ⟨.of 3,1,y1.network.off.map cInt⟩,some ⟨⟨62,some 55⟩,11,((y1.orders:List YOrder)++[(⟨from1_,to_,service,weight,w.now,y7,y8,0,1,from1_,0⟩:YOrder)]).map cOrder⟩,some ⟨.of 135,4,y6.1.map cBooking⟩,some ⟨.of 55,2,y1.closed.map cTrip⟩,some ⟨.of 130,6,y1.scans.map cScan⟩,some ⟨.of 3,1,y1.skip.map cInt⟩]).bind fun _=>
 (rhoM [2,3,4,5,6,7,8,9]).bind fun _=>
 (Zxh (⟨y1.network,((y1.orders:List YOrder)++[(⟨from1_,to_,service,weight,w.now,y7,y8,0,1,from1_,0⟩:YOrder)]),y6.1,y1.closed,y1.now,y1.scans,y1.skip,y1.made⟩:YWorld) (⟨(w64 ((w.orders.length:Int)+1)),w.now,1,from1_,(⟨0,0⟩:YTrip)⟩:YScan)).bind fun y9=>
 some (y9,(w64 ((w.orders.length:Int)+1)),true))))))))
instance (w:YWorld) (from1_:ByteArray) (to_:ByteArray) (service:Int) (weight:Int):CT Tryz.prog (ZwB w from1_ to_ service weight):=⟨47,[.ag (cWorld w),vs from1_,vs to_,vi service,vi weight],[],fun r=>.tu [.ag [.ms 0,.ms 1,vi r.1.network.change,.ms 2,.ms 3,.ms 4,vi r.1.now,.ms 5,.ms 6,vi r.1.made],vi r.2.1,vb r.2.2],fun r=>[some ⟨.of 67,6,r.1.network.legs.map cLeg⟩,some ⟨.of 3,1,r.1.network.off.map cInt⟩,some ⟨⟨62,some 55⟩,11,r.1.orders.map cOrder⟩,some ⟨.of 135,4,r.1.bookings.map cBooking⟩,some ⟨.of 55,2,r.1.closed.map cTrip⟩,some ⟨.of 130,6,r.1.scans.map cScan⟩,some ⟨.of 3,1,r.1.skip.map cInt⟩],fun H=>by replace H:=H0 H; unfold ZwB at H; exact callM_of Tryz.func47 rfl Tryz.ntmps47 Tryz.results47 fun Q hQ hQn=>wk4⟩
set_option maxRecDepth 100000
theorem arg5 {w:World} {S:Nat→Prop} {p:PV} {u v1 v2 v3 v4:Value} (hp:Rep w (E1 S (fun _=>none) 0) p u) (h1:v1.oneCell'=true) (h2:v2.oneCell'=true) (h3:v3.oneCell'=true) (h4:v4.oneCell'=true):∀ (i:Nat) (r:PV),[p,.v v1,.v v2,.v v3,.v v4][i]?=some r→∃ x,#[u,v1,v2,v3,v4][i]?=some x∧Rep w (E1 S (fun _=>none) 0) r x:=by
 intro i r h
 match i,h with
 | 0,h=>obtain rfl:=Option.some.inj h; exact ⟨_,rfl,hp⟩
 | 1,h=>obtain rfl:=Option.some.inj h; exact ⟨_,rfl,.c (.v _ h1)⟩
 | 2,h=>obtain rfl:=Option.some.inj h; exact ⟨_,rfl,.c (.v _ h2)⟩
 | 3,h=>obtain rfl:=Option.some.inj h; exact ⟨_,rfl,.c (.v _ h3)⟩
 | 4,h=>obtain rfl:=Option.some.inj h; exact ⟨_,rfl,.c (.v _ h4)⟩
 | n+5,h=>simp at h
theorem ZwW (w:YWorld) (f o:ByteArray) (s q:Int):ZwB w f o s q=Zwz w f o s q:=rfl
theorem ZwD {w:YWorld} (hf:WFit w) (hv:Zek w=false) (f o:ByteArray) (s q:Int):Zwz w f o s q=some (w,0,false)∧ZwA w f o s q=some (w,0,false):=by
 unfold Zwz ZwA
 rw [Zm3 hf,Zm4 hf,Option.bind_some,Option.bind_some,Ziq hf,Ziw hf,hv,Option.bind_some,Option.bind_some]
 exact ⟨rfl,rfl⟩
theorem ZwU {x:YWorld} (ht:totWorld x≤1048576) (f o:ByteArray) (s q:Int):∃ (g:YWorld) (n:Int) (b:Bool),ZwB x f o s q=some (g,n,b)∧ZwA x f o s q=some (g,n,b)∧ZaZ g g=some true∧Zh4 g 1:=by
 have hf:=Zk5 ht
 rw [ZwW]
 cases hv:Zek x with
 | false=>exact ⟨x,0,false,(ZwD hf hv f o s q).1,(ZwD hf hv f o s q).2,eqrW hf,ZnI ht⟩
 | true=>
  obtain ⟨r,h1,h2,h3⟩:=ZwM ⟨hf,hv⟩ f o s q
  rcases h3 with ⟨rfl,_⟩ | ⟨way,ys,due,hT⟩
  ·exact ⟨_,_,_,h1,h2,eqrW hf,ZnI ht⟩
  ·obtain ⟨_,_,_,rfl,_,hok⟩:=hT
   exact ⟨_,_,_,h1,h2,eqrW hok.fit,hok.mkFit⟩
end Go.Proofs.YtmcdjilbkmhfoaaGreat
