/- A part of the proof of the statement in the last file of this claim: texts on the language of the program and on its functions. No condition. -/
import Derived.Test.YtmcdjilbkmhfoaaGreatCShutTrip11
import Derived.Test.YtmcdjilbkmhfoaaGreatCRetryOrders5
import Derived.Test.YtmcdjilbkmhfoaaGreatCRetryOrders8
import Derived.Test.YtmcdjilbkmhfoaaGreatCShutTrip9
import Derived.Test.YtmcdjilbkmhfoaaGreatCRetryOrders7
import Derived.Test.YtmcdjilbkmhfoaaGreatCShutTrip10
namespace Go.Proofs.YtmcdjilbkmhfoaaGreat
set_option maxRecDepth 10000
open Go.RowKit
set_option linter.unusedVariables false
set_option linter.unusedSimpArgs false
set_option linter.unusedSectionVars false
def ZhP (n:YNetwork) (bs:List YBooking) (cl:List YTrip) (now:Int) (i:Nat) (o:YOrder):Bool:=Zej ⟨n,[],bs,cl,now,[],[],0⟩ i o
theorem ZnU (w:YWorld) (i:Nat) (o:YOrder):Zej w i o=ZhP w.network w.bookings w.closed w.now i o:=rfl
structure Zi6 (w:YWorld) (c:Nat→List YTrip):Prop where
 fit:WFit w
 books:Zr w.network w.bookings=true
 now:0≤w.now∧w.now≤100000
 olen:w.orders.length≤30
 ord:∀ (i:Nat) (o:YOrder),w.orders[i]?=some o→ZhP w.network w.bookings (c i) w.now i o=true
 sum:(w.orders.map fun o=>o.way.length).sum=w.bookings.length
 cl:∀ i,(c i).length≤1048576
theorem ZpS {α:Type} (f:α→Nat):∀ {l:List α} {x:α},x∈l→f x≤(l.map f).sum
 | a::l,x,h=>by
  simp only [List.map_cons,List.sum_cons]
  rcases List.mem_cons.1 h with rfl | h
  ·omega
  ·have:=ZpS f h; omega
theorem Zou {w:YWorld} (hf:WFit w) (ho:w.orders.length≤1000):Zl7 w=((w.orders.map fun o=>o.way.length).sum:Nat):=by
 have:=Zkg w.orders 0 hf.way (by omega)
 rw [Nat.zero_add] at this
 exact this
structure Zi8 (w:YWorld):Prop where
 closed:w.closed.length≤20
 scans:w.scans.length≤200
 skip:w.skip.length≤50
 made:w.scans.length≤w.made∧w.made≤1000000000
 cl:allI (ZfK w) 0 w.closed=true
 sc:allI (ZkR w) 0 w.scans=true
theorem Zk6 {w:YWorld} (h:WOk w):Zi6 w (fun _=>w.closed)∧Zi8 w:=by
 obtain ⟨p1,p2,p3,p4,p5,p6,p7⟩:=h.parts
 have hv:=h.ok
 unfold Zek at hv
 simp only [Bool.and_eq_true,Bool.not_eq_true',decide_eq_true_iff,decide_eq_false_iff_not] at hv
 obtain ⟨⟨⟨⟨⟨⟨⟨⟨⟨⟨h1,h2⟩,h3⟩,h4⟩,h5⟩,h6⟩,h7⟩,h8⟩,h9⟩,h10⟩,h11⟩:=hv
 refine ⟨⟨h.fit,h1,p1,p2,fun i o ho=>?_,?_,fun _=>h.fit.closed⟩,⟨p3,p4,p5,p6,h8,h9⟩⟩
 ·rw [← ZnU]; exact Zh2 h.ok ho
 ·have:=Zou h.fit (by omega)
  rw [this] at h11
  omega
theorem Zpw {w:YWorld} (h:Zi6 w (fun _=>w.closed)) (k:Zi8 w):WOk w:=by
 refine ⟨h.fit,?_⟩
 have:=h.olen
 have:=k.closed
 have:=k.scans
 have:=k.skip
 unfold Zek
 simp only [Bool.and_eq_true,Bool.not_eq_true',decide_eq_true_iff,decide_eq_false_iff_not]
 refine ⟨⟨⟨⟨⟨⟨⟨⟨⟨⟨h.books,h.now⟩,by omega⟩,by omega⟩,by omega⟩,by omega⟩,k.made⟩,k.cl⟩,k.sc⟩,?_⟩,?_⟩
 ·refine Zdr.2 fun i o ho=>?_
  rw [Nat.zero_add]
  exact h.ord i o ho
 ·rw [Zou h.fit (by omega),h.sum]
structure OrdP (n:YNetwork) (bs:List YBooking) (cl:List YTrip) (now:Int) (i:Nat) (o:YOrder):Prop where
 ok:Zkk ⟨n,[],bs,cl,now,[],[],0⟩ i o
 chain:ZcD n o.from_ (o.at_+1) o.way
 st:Zhg n o now
section
variable {w:YWorld} {c:Nat→List YTrip} (h:Zi6 w c) {i:Nat} {o:YOrder} (ho:w.orders[i]?=some o)
include h ho
theorem Zgg:o.way.length≤120:=by
 have:=ZpS (fun o:YOrder=>o.way.length) (List.mem_of_getElem? ho)
 have:=(ZV h.books).2
 have:=h.sum
 omega
theorem ZcS:OrdP w.network w.bookings (c i) w.now i o:=by
 have hn:=(ZV h.books).1
 have hl:=Zgg h ho
 have hO:=ZlO (w:=⟨w.network,[],w.bookings,c i,w.now,[],[],0⟩) ⟨h.fit.net,by simp,h.fit.bookings,h.cl i,by simp,by simp,by simp⟩ (i:=i) (o:=o) (by omega) (h.ord i o ho)
 have hw:w64 (o.at_+1)=o.at_+1:=by
  have h1:0≤o.at_:=hO.at_.1
  have h2:o.at_≤w.now:=hO.at_.2
  have:=h.now
  rw [Zc (by omega)]
 have hc:=ZhC h.fit.net hn (by omega) hO.isWay
 rw [hw] at hc
 exact ⟨hO,hc,(Zh0 h.fit.net hn hO.gone (by omega) hO.trip w.now).1 hO.st⟩
theorem Zd3:0≤Zh o∧Zh o≤o.way.length∧(Zu o).length=(Zh o).toNat∧o.gone≤Zh o:=by
 have hO:=(ZcS h ho).ok
 obtain ⟨g0,g1⟩:=hO.gone
 have hk:0≤Zh o∧Zh o≤o.way.length∧o.gone≤Zh o:=by
  unfold Zh
  by_cases hs:o.state=2
  ·rw [if_pos hs]
   rcases hO.cases with c1 | c1 | c1
   ·have:=c1.1; omega
   ·have:=c1.2; omega
   ·have:=c1.1; omega
  ·rw [if_neg hs]; omega
 refine ⟨hk.1,hk.2.1,?_,hk.2.2⟩
 unfold Zu
 rw [List.length_take]; omega
theorem ZeY:o.way=Zu o++Ze0 o:=(List.take_append_drop _ _).symm
theorem ZlE {j:Nat} (hj:j<(Zu o).length):(Zu o)[j]?=o.way[j]?:=by
 have:=(Zd3 h ho).2.2.1
 unfold Zu
 rw [List.getElem?_take,if_pos (by omega)]
theorem Znf (hs:¬ o.state=3):endP w.network o.from_ (Zu o)=Zbx w.network o:=by
 have hP:=ZcS h ho
 obtain ⟨k0,k1,k2,k3⟩:=Zd3 h ho
 obtain ⟨g0,g1⟩:=hP.ok.gone
 unfold Zbx
 rcases hP.st.cases with ⟨s1,s2,s3,s4,s5⟩ | ⟨s1,s2,s3,t,t1,t2,t3⟩ | s
 ·rw [if_neg (by omega),s2]
  unfold Zhy
  have hcv:Zh o=o.gone:=by unfold Zh; rw [if_neg (by omega)]
  by_cases hg:0<o.gone
  ·have hlt:(o.gone-1).toNat<o.way.length:=by omega
   rw [if_pos hg,List.getElem?_eq_getElem hlt]
   refine ZfZ ?_
   unfold Zu
   rw [hcv,Zd9 (by omega) (by omega),show o.gone.toNat-1=(o.gone-1).toNat by omega,List.getElem?_eq_getElem hlt]
  ·rw [if_neg hg]
   unfold Zu
   rw [hcv,show o.gone.toNat=0 by omega]; rfl
 ·rw [if_pos s1,t1]
  refine ZfZ ?_
  have hcv:Zh o=o.gone+1:=by unfold Zh; rw [if_pos s1]
  have hlt:=(List.getElem?_eq_some_iff.1 t1).1
  unfold Zu
  rw [hcv,Zd9 (by omega) (by omega),show (o.gone+1).toNat-1=o.gone.toNat by omega,t1]
 ·exact absurd s.1 hs
theorem Zne:endA w.network (o.at_+1) (Zu o)≤atR w.network w.now o∧w.now+1≤atR w.network w.now o∧0≤atR w.network w.now o:=by
 have hP:=ZcS h ho
 have hnow:=h.now
 have h2:o.at_≤w.now:=hP.ok.at_.2
 unfold atR
 cases hl:(Zu o).getLast? with
 | none=>
  rw [List.getLast?_eq_none_iff] at hl
  rw [hl]
  refine ⟨?_,?_,?_⟩ <;> simp only [endA,List.foldl_nil] <;> omega
 | some t=>
  rw [Zjn hl]
  simp only
  split <;> omega
theorem ZjP {more:List YTrip} {bs:List YBooking} (hs:¬ o.state=3) (hne:¬ Zbx w.network o=o.to_)
 (hb1:∀ t∈Zu o,Zct bs ((i+1:Nat):Int) t o.weight=true) (hb2:∀ t∈more,Zct bs ((i+1:Nat):Int) t o.weight=true)
 (hc:ZcD w.network (Zbx w.network o) (atR w.network w.now o) more) (hl:more.length≤20) (hend:more=[]∨(Zbx w.network o::more.map (ZaS w.network)).Nodup∧(Zbx w.network o::more.map (ZaS w.network)).getLast?=some o.to_)
 (hopen:more.any (ZK w.closed)=false):ZhP w.network bs w.closed w.now i (Zay o (Zu o++more))=true:=by
 have hP:=ZcS h ho
 have hn:=(ZV h.books).1
 have hlen:=Zgg h ho
 obtain ⟨k0,k1,k2,k3⟩:=Zd3 h ho
 obtain ⟨g0,g1⟩:=hP.ok.gone
 have hnow:=h.now
 obtain ⟨a1,a2,a3⟩:=Zne h ho
 have hep:=Znf h ho hs
 have hv:=h.ord i o ho
 unfold ZhP Zej at hv ⊢
 simp only [Bool.and_eq_true,Bool.not_eq_true',decide_eq_true_iff,decide_eq_false_iff_not] at hv ⊢
 obtain ⟨⟨⟨⟨⟨⟨⟨⟨⟨⟨⟨h1,h2⟩,h3⟩,h4⟩,h5⟩,h6⟩,h7⟩,h8⟩,h9⟩,h10⟩,h11⟩,h12⟩:=hv
 have hch:ZcD w.network o.from_ (o.at_+1) (Zu o++more):=by
  have:=hP.chain
  rw [ZeY h ho] at this
  refine (Zhl _).2 ⟨((Zhl _).1 this).1,?_⟩
  rw [hep]
  exact Zjf hc a1
 have htr:=Zfj hch
 have hget:∀ (j:Nat),j<(Zu o).length→(Zu o++more)[j]?=o.way[j]?:=fun j hj=>by
  rw [List.getElem?_append_left hj]
  exact ZlE h ho hj
 refine ⟨⟨⟨⟨⟨⟨⟨⟨⟨⟨⟨h1,h2⟩,h3⟩,h4⟩,h5⟩,h6⟩,h7⟩,?_⟩,?_⟩,?_⟩,?_⟩,?_⟩
 ·simp only [Zay,List.length_append]; omega
 ·refine Zdr.2 fun j t hj=>?_
  have hj':(Zu o++more)[j]?=some t:=hj
  have htm:=List.mem_of_getElem? hj'
  unfold wayC
  simp only [Bool.and_eq_true,Bool.not_eq_true',Bool.and_eq_false_imp,decide_eq_true_iff,decide_eq_false_iff_not,Nat.zero_add]
  refine ⟨⟨htr t htm,?_⟩,fun he hj1=>?_⟩
  ·rcases List.mem_append.1 htm with hm | hm
   ·exact hb1 t hm
   ·exact hb2 t hm
  ·have hj1':j+1<(Zu o++more).length:=hj1
   have he':ZaS w.network t=o.to_:=he
   rw [List.length_append] at hj1'
   by_cases hjk:j<(Zu o).length
   ·rw [hget j hjk] at hj'
    have:=Zdr.1 h9 j t hj'
    unfold wayC at this
    simp only [Bool.and_eq_true,Bool.not_eq_true',Bool.and_eq_false_imp,decide_eq_true_iff,decide_eq_false_iff_not,Nat.zero_add] at this
    have hno:=this.2 he'
    have hjl:=(List.getElem?_eq_some_iff.1 hj').1
    refine hne ?_
    rw [← hep,← he']
    refine ZfZ ?_
    unfold Zu
    rw [Zd9 (by omega) (by omega),show (Zh o).toNat-1=j by omega,hj']
   ·rw [List.getElem?_append_right (by omega)] at hj'
    rcases hend with rfl | ⟨hnd,hla⟩
    ·simp at hj'
    rw [List.getLast?_eq_getElem?,List.length_cons,List.length_map,Nat.add_sub_cancel] at hla
    have q1:(Zbx w.network o::more.map (ZaS w.network))[j-(Zu o).length+1]?=some o.to_:=by rw [List.getElem?_cons_succ,List.getElem?_map,hj',Option.map_some,he']
    have q2:=List.pairwise_iff_getElem.1 hnd (j-(Zu o).length+1) more.length (by simp; omega) (by simp) (by omega)
    exact q2 ((List.getElem?_eq_some_iff.1 q1).2.trans (List.getElem?_eq_some_iff.1 hla).2.symm)
 ·have hw:w64 (o.at_+1)=o.at_+1:=by
   have q1:0≤o.at_:=h6.1
   have q2:o.at_≤w.now:=h6.2
   rw [Zc (by omega)]
  show (Zan w.network (Zu o++more) o.from_ (endP w.network o.from_ (Zu o++more)) (w64 (o.at_+1))).getD false=true
  have hl2:(Zu o++more).length≤1048576:=by rw [List.length_append]; omega
  rw [hw,Zko h.fit.net hn hl2 (by omega) (Zo7 h.fit.net hn (by omega) htr) hch rfl]; rfl
 ·have hS:Zhg w.network (Zay o (Zu o++more)) w.now:=by
   refine ⟨fun t hg ht=>?_,?_⟩
   ·have hg':0<o.gone:=hg
    have ht':(Zu o++more)[(o.gone-1).toNat]?=some t:=ht
    rw [hget _ (by omega)] at ht'
    exact hP.st.past t hg' ht'
   ·have hhere:Zhy w.network (Zay o (Zu o++more))=Zhy w.network o:=by
     unfold Zhy
     by_cases hg:0<o.gone
     ·rw [if_pos hg,if_pos (show 0<(Zay o (Zu o++more)).gone from hg)]
      show (((Zu o++more)[(o.gone-1).toNat]?).map (ZaS w.network)).getD ⟨#[]⟩=_
      rw [hget _ (by omega)]
     ·rw [if_neg hg,if_neg (show ¬ 0<(Zay o (Zu o++more)).gone from hg)]; rfl
    rcases hP.st.cases with ⟨s1,s2,s3,s4,s5⟩ | ⟨s1,s2,s3,t,t1,t2,t3⟩ | s
    ·refine .inl ⟨s1,by rw [hhere]; exact s2,by rw [hhere]; exact s3,s4,fun t ht=>?_⟩
     have ht':(Zu o++more)[o.gone.toNat]?=some t:=ht
     have hcv:Zh o=o.gone:=by unfold Zh; rw [if_neg (by omega)]
     rw [List.getElem?_append_right (by omega),show o.gone.toNat-(Zu o).length=0 by omega] at ht'
     cases more with
     | nil=>simp at ht'
     | cons x xs=>
      obtain rfl:x=t:=by simpa using ht'
      have:=hc.2.2.1
      omega
    ·have hcv:Zh o=o.gone+1:=by unfold Zh; rw [if_pos s1]
     refine .inr (.inl ⟨s1,s2,s3,t,?_,t2,t3⟩)
     show (Zu o++more)[o.gone.toNat]?=some t
     rw [hget _ (by omega)]; exact t1
    ·exact absurd s.1 hs
  show (Zl w.network (Zay o (Zu o++more)) w.now).getD false=true
  rw [(Zh0 h.fit.net hn (o:=Zay o (Zu o++more)) ⟨g0,by simp only [Zay,List.length_append]; omega⟩ (by simp only [Zay,List.length_append]; omega) htr w.now).2 hS]; rfl
 ·have hd:((Zay o (Zu o++more)).way.drop (Zh (Zay o (Zu o++more))).toNat)=more:=by
   show (Zu o++more).drop (Zh o).toNat=more
   rw [← k2,List.drop_left]
  rw [hd]; exact hopen
theorem ZfN {t:YTrip} (ht:t∈o.way):(⟨((i+1:Nat):Int),t,o.weight⟩:YBooking)∈w.bookings:=by
 obtain ⟨j,hj,rfl⟩:=List.getElem_of_mem ht
 have:=Zdr.1 (ZcS h ho).ok.way j _ (List.getElem?_eq_getElem hj)
 unfold wayC at this
 simp only [Bool.and_eq_true] at this
 have:=this.1.2
 unfold Zct at this
 obtain ⟨x,h1,h2⟩:=List.any_eq_true.1 this
 rw [← of_decide_eq_true h2]; exact h1
theorem ZjE {t:YTrip} (ht:t∈Zu o):(⟨((i+1:Nat):Int),t,o.weight⟩:YBooking)∈Zb3 w i o:=by
 have hP:=ZcS h ho
 have hn:=(ZV h.books).1
 have hnd:=ZfJ h.fit.net hn hP.chain
 rw [ZeY h ho] at hnd
 have hw:t∈o.way:=by rw [ZeY h ho]; exact List.mem_append_left _ ht
 exact ZjM.2 ⟨ZfN h ho hw,fun hx=>(List.nodup_append.1 hnd).2.2 t ht t hx.2 rfl⟩
theorem ZoV:(Zb3 w i o).length+(Ze0 o).length=w.bookings.length:=by
 have hP:=ZcS h ho
 have hn:=(ZV h.books).1
 have hnd:=ZfJ h.fit.net hn hP.chain
 rw [ZeY h ho] at hnd
 exact Znc h.books (List.nodup_append.1 hnd).2.1 fun t ht=>ZfN h ho (by rw [ZeY h ho]; exact List.mem_append_right _ ht)
theorem ZlL {more:List YTrip} {bs:List YBooking} (hb:Zr w.network bs=true) (hl:bs.length=(Zb3 w i o).length+more.length) (hin:∀ b∈Zb3 w i o,b∈bs)
 (hO:ZhP w.network bs w.closed w.now i (Zay o (Zu o++more))=true) (hm:more.length≤20):Zi6 (newW w i o (Zu o++more) bs) (fun j=>if j=i then w.closed else c j):=by
 have hlen:=Zgg h ho
 obtain ⟨k0,k1,k2,k3⟩:=Zd3 h ho
 have hbl:=(ZV hb).2
 have hil:=(List.getElem?_eq_some_iff.1 ho).1
 have hwl:(Zu o).length+(Ze0 o).length=o.way.length:=by
  have:=congrArg List.length (ZeY h ho)
  rw [List.length_append] at this; omega
 refine ⟨⟨h.fit.net,?_,?_,h.fit.closed,h.fit.scans,h.fit.skip,fun x hx=>?_⟩,hb,h.now,?_,fun j x hx=>?_,?_,fun j=>?_⟩
 ·simp only [newW,List.length_set]; exact h.fit.orders
 ·simp only [newW]; omega
 ·rcases List.mem_or_eq_of_mem_set hx with hx | rfl
  ·exact h.fit.way x hx
  ·simp only [Zay,List.length_append]; omega
 ·simp only [newW,List.length_set]; exact h.olen
 ·have hx':(w.orders.set i (Zay o (Zu o++more)))[j]?=some x:=hx
  show ZhP w.network bs (if j=i then w.closed else c j) w.now j x=true
  by_cases hji:j=i
  ·subst hji
   rw [List.getElem?_set_self hil] at hx'
   obtain rfl:=Option.some.inj hx'
   rw [if_pos rfl]; exact hO
  ·rw [if_neg hji]
   rw [List.getElem?_set_ne (fun e=>hji e.symm)] at hx'
   have hv:=h.ord j x hx'
   unfold ZhP Zej at hv ⊢
   simp only [Bool.and_eq_true,Bool.not_eq_true',decide_eq_true_iff,decide_eq_false_iff_not] at hv ⊢
   obtain ⟨⟨⟨⟨⟨⟨⟨⟨⟨⟨⟨h1,h2⟩,h3⟩,h4⟩,h5⟩,h6⟩,h7⟩,h8⟩,h9⟩,h10⟩,h11⟩,h12⟩:=hv
   refine ⟨⟨⟨⟨⟨⟨⟨⟨⟨⟨⟨h1,h2⟩,h3⟩,h4⟩,h5⟩,h6⟩,h7⟩,h8⟩,?_⟩,h10⟩,h11⟩,h12⟩
   refine Zdr.2 fun a t ha=>?_
   have:=Zdr.1 h9 a t ha
   unfold wayC at this ⊢
   simp only [Bool.and_eq_true] at this ⊢
   refine ⟨⟨this.1.1,?_⟩,this.2⟩
   have hbk:=this.1.2
   unfold Zct at hbk ⊢
   obtain ⟨y,y1,y2⟩:=List.any_eq_true.1 hbk
   obtain rfl:=of_decide_eq_true y2
   exact List.any_eq_true.2 ⟨_,hin _ (ZjM.2 ⟨y1,fun e=>hji (by have:=e.1; simp only at this; omega)⟩),y2⟩
 ·have:=Zom (fun o:YOrder=>o.way.length) (Zay o (Zu o++more)) ho
  have e:(Zay o (Zu o++more)).way.length=(Zu o).length+more.length:=List.length_append
  simp only [e] at this
  have hs:=h.sum
  have hll:=ZoV h ho
  show ((w.orders.set i (Zay o (Zu o++more))).map fun o=>o.way.length).sum=bs.length
  omega
 ·show (if j=i then w.closed else c j).length≤1048576
  split
  ·exact h.fit.closed
  ·exact h.cl j
theorem Zmx (hs:¬ o.state=3) (hne:¬ Zbx w.network o=o.to_):∃ w',Za0 w ((i+1:Nat):Int)=some w'∧ZfT w i o w'∧Zi6 w' (fun j=>if j=i then w.closed else c j):=by
 have hP:=ZcS h ho
 have hn:=(ZV h.books).1
 have hlen:=Zgg h ho
 have hil:=(List.getElem?_eq_some_iff.1 ho).1
 have hol:=h.olen
 obtain ⟨w',e,hR⟩:=ZqG h.fit hn h.books h.now (by omega) ho hP.ok.gone (fun h2=>by
  rcases hP.ok.cases with c1 | c1 | c1
  ·have:=c1.1; omega
  ·exact c1.2
  ·have:=c1.1; omega) hP.ok.trip (by omega)
 refine ⟨w',e,hR,?_⟩
 rcases hR with ⟨_,rfl⟩ | ⟨way,bs,hN,rfl⟩
 ·have hO:=ZjP h ho (more:=[]) (bs:=Zb3 w i o) hs hne (fun t ht=>?_) (by simp) trivial (by simp) (.inl rfl) rfl
  ·have:=ZlL h ho (more:=[]) (bs:=Zb3 w i o) (Zhk h.fit.net h.books (Ze8 _ _ _)) (by simp) (fun b hb=>hb) hO (by simp)
   rw [List.append_nil] at this
   exact this
  ·unfold Zct
   exact List.any_eq_true.2 ⟨_,ZjE h ho ht,decide_eq_true rfl⟩
 ·obtain ⟨a1,a2,a3⟩:=Zne h ho
  have hat:(if 0 > atR w.network w.now o then 0 else atR w.network w.now o)=atR w.network w.now o:=if_neg (by omega)
  have hch:=hN.wayR.chain
  rw [hat] at hch
  have hpl:=hN.perm.length_eq
  have hnl:(Zdc ((i+1:Nat):Int) o.weight way).length=way.length:=by unfold Zdc; rw [List.length_map]
  rw [List.length_append,hnl] at hpl
  have hO:=ZjP h ho (more:=way) (bs:=bs) hs hne (fun t ht=>?_) (fun t ht=>?_) hch hN.wayR.len (.inr ⟨hN.wayR.nodup,hN.wayR.last⟩) ?_
  ·exact ZlL h ho hN.books hpl (fun b hb=>hN.perm.mem_iff.2 (List.mem_append_left _ hb)) hO hN.wayR.len
  ·unfold Zct
   exact List.any_eq_true.2 ⟨_,hN.perm.mem_iff.2 (List.mem_append_left _ (ZjE h ho ht)),decide_eq_true rfl⟩
  ·unfold Zct
   refine List.any_eq_true.2 ⟨⟨((i+1:Nat):Int),t,o.weight⟩,hN.perm.mem_iff.2 (List.mem_append_right _ ?_),decide_eq_true rfl⟩
   unfold Zdc; exact List.mem_map_of_mem ht
  ·refine List.any_eq_false.2 fun t ht=>?_
   have:=(hN.wayR.found t ht).1
   rw [Zd0,Zea h.fit.closed] at this
   have:=Option.some.inj this
   show ¬ ZK w.closed t=true
   unfold ZK
   rw [this]; simp
end
/-! The bookings are those of the ways. -/
def allN:Nat→List YOrder→List YBooking
 | _,[]=>[]
 | i,o::os=>Zdc ((i+1:Nat):Int) o.weight o.way++allN (i+1) os
theorem Zk8:∀ (os:List YOrder) (i:Nat),(allN i os).length=(os.map fun o=>o.way.length).sum
 | [],_=>rfl
 | o::os,i=>by
  unfold allN Zdc
  rw [List.length_append,List.length_map,Zk8 os,List.map_cons,List.sum_cons]
theorem ZgZ {b:YBooking}:∀ {os:List YOrder} {i:Nat},b∈allN i os↔∃ (j:Nat) (o:YOrder) (t:YTrip),os[j]?=some o∧t∈o.way∧b=⟨((i+j+1:Nat):Int),t,o.weight⟩
 | [],i=>by simp [allN]
 | o::os,i=>by
  unfold allN Zdc
  rw [List.mem_append,ZgZ (os:=os) (i:=i+1),List.mem_map]
  constructor
  ·rintro (⟨t,h1,h2⟩ | ⟨j,o',t,h1,h2,h3⟩)
   ·exact ⟨0,o,t,rfl,h1,h2.symm⟩
   ·exact ⟨j+1,o',t,by simpa using h1,h2,by rw [h3,show i+1+j+1=i+(j+1)+1 by omega]⟩
  ·rintro ⟨j,o',t,h1,h2,h3⟩
   cases j with
   | zero=>
    obtain rfl:o=o':=by simpa using h1
    exact .inl ⟨t,h2,h3.symm⟩
   | succ j=>exact .inr ⟨j,o',t,by simpa using h1,h2,by rw [h3,show i+1+j+1=i+(j+1)+1 by omega]⟩
theorem Zib:∀ {os:List YOrder} {i:Nat},(∀ o∈os,o.way.Nodup)→(allN i os).Nodup
 | [],i,_=>List.nodup_nil
 | o::os,i,h=>by
  unfold allN
  refine List.nodup_append.2 ⟨?_,Zib fun x hx=>h x (by simp [hx]),fun a ha b hb e=>?_⟩
  ·unfold Zdc List.Nodup
   rw [List.pairwise_map]
   exact (h o (by simp)).imp fun {a b} hne e=>hne (by simpa using e)
  ·obtain ⟨j,o',t,_,_,h3⟩:=ZgZ.1 hb
   unfold Zdc at ha
   obtain ⟨t',_,rfl⟩:=List.mem_map.1 ha
   rw [h3] at e
   have:=congrArg YBooking.thing e
   simp only at this
   omega
theorem Zmf {w:YWorld} {c:Nat→List YTrip} (h:Zi6 w c) {b:YBooking} (hb:b∈w.bookings):∃ (j:Nat) (o:YOrder) (t:YTrip),w.orders[j]?=some o∧t∈o.way∧b=⟨((j+1:Nat):Int),t,o.weight⟩:=by
 have hn:=(ZV h.books).1
 have hnd:(allN 0 w.orders).Nodup:=Zib fun o ho=>by
  obtain ⟨i,hi,rfl⟩:=List.getElem_of_mem ho
  exact ZfJ h.fit.net hn (ZcS h (List.getElem?_eq_getElem hi)).chain
 have hsub:∀ x∈allN 0 w.orders,x∈w.bookings:=fun x hx=>by
  obtain ⟨j,o,t,h1,h2,rfl⟩:=ZgZ.1 hx
  rw [Nat.zero_add]
  exact ZfN h h1 h2
 have hlen:(allN 0 w.orders).length=w.bookings.length:=by rw [Zk8,h.sum]
 have hin:b∈allN 0 w.orders:=Classical.byContradiction fun hx=>by
  have:=Zfd (xs:=b::allN 0 w.orders) (ys:=w.bookings) (List.nodup_cons.2 ⟨hx,hnd⟩) fun x hm=>by
   rcases List.mem_cons.1 hm with rfl | hm
   ·exact hb
   ·exact hsub x hm
  simp only [List.length_cons] at this
  omega
 obtain ⟨j,o,t,h1,h2,h3⟩:=ZgZ.1 hin
 rw [Nat.zero_add] at h3
 exact ⟨j,o,t,h1,h2,h3⟩
theorem ZxD {w:YWorld} {c:Nat→List YTrip} (h:Zi6 w c) {i:Nat} {o:YOrder} (ho:w.orders[i]?=some o) (hr:¬ Ze0 o=[]):¬ o.state=3∧¬ Zbx w.network o=o.to_:=by
 have hP:=ZcS h ho
 obtain ⟨k0,k1,k2,k3⟩:=Zd3 h ho
 have hlt:Zh o<o.way.length:=by
  rcases Int.lt_or_le (Zh o) o.way.length with hx | hx
  ·exact hx
  ·exact absurd (List.drop_eq_nil_of_le (by omega)) hr
 have hs:¬ o.state=3:=fun hs=>by
  rcases hP.ok.cases with ⟨c1,_⟩ | ⟨c1,_⟩ | ⟨c1,c2,_⟩
  ·omega
  ·omega
  ·have:Zh o=o.gone:=by unfold Zh; rw [if_neg (by omega)]
   omega
 refine ⟨hs,fun he=>?_⟩
 rw [← Znf h ho hs] at he
 by_cases h0:0<Zh o
 ·have hkt:(Zh o).toNat-1<o.way.length:=by omega
  have hlast:(Zu o).getLast?=some o.way[(Zh o).toNat-1]:=by
   unfold Zu
   rw [Zd9 (by omega) (by omega)]
   exact List.getElem?_eq_getElem hkt
  rw [ZfZ hlast] at he
  have:=Zdr.1 hP.ok.way _ _ (List.getElem?_eq_getElem hkt)
  unfold wayC at this
  simp only [Bool.and_eq_true,Bool.not_eq_true',Bool.and_eq_false_imp,decide_eq_true_iff,decide_eq_false_iff_not,Nat.zero_add] at this
  exact this.2 he (by omega)
 ·have:Zu o=[]:=by unfold Zu; rw [show (Zh o).toNat=0 by omega]; rfl
  rw [this] at he
  exact hP.ok.fromto he
structure Zfv (w w':YWorld):Prop where
 network:w'.network=w.network
 now:w'.now=w.now
 closed:w'.closed=w.closed
 scans:w'.scans=w.scans
 skip:w'.skip=w.skip
 made:w'.made=w.made
 len:w'.orders.length=w.orders.length
theorem Zfv.refl (w:YWorld):Zfv w w:=⟨rfl,rfl,rfl,rfl,rfl,rfl,rfl⟩
theorem Zfv.trans {a b c:YWorld} (h:Zfv a b) (k:Zfv b c):Zfv a c:=⟨k.1.trans h.1,k.2.trans h.2,k.3.trans h.3,k.4.trans h.4,k.5.trans h.5,k.6.trans h.6,k.7.trans h.7⟩
theorem Zfv.new (w:YWorld) (i:Nat) (o:YOrder) (ts:List YTrip) (bs:List YBooking):Zfv w (newW w i o ts bs):=⟨rfl,rfl,rfl,rfl,rfl,rfl,by simp only [newW,List.length_set]⟩
theorem ZqW {n:YNetwork} (hf:ZZ n) {l:List YBooking} {closed:List YTrip} {weight at_:Int} {from_ to_:ByteArray} {way:List YTrip} (h:WayR n l closed weight from_ to_ at_ way):way.length≤(Za n).length-1:=by
 have:=Zfd (xs:=from_::way.map (ZaS n)) (ys:=Za n) h.nodup fun p hp=>by
  rcases List.mem_cons.1 hp with rfl | hp
  ·exact Zrl h.hC.2.1
  ·obtain ⟨t,ht,rfl⟩:=List.mem_map.1 hp
   obtain ⟨y,hy,hym⟩:=ZbE hf (Zfj h.chain t ht)
   have f2:ZaS n t=y.to_:=by unfold ZaS; rw [hy]; rfl
   rw [f2]
   exact (ZeV hym).2
 simp only [List.length_cons,List.length_map] at this
 omega
def Ziz (n:YNetwork) (o o':YOrder):Prop:=o'=o∨∃ more,more.length≤(Za n).length-1∧o'=Zay o (Zu o++more)
theorem Zpb {w w':YWorld} (hf:ZZ w.network) {i:Nat} {o:YOrder} (hR:ZfT w i o w') (ho:w.orders[i]?=some o):Zfv w w'∧(∃ o',w'.orders[i]?=some o'∧Ziz w.network o o')∧∀ j,¬ j=i→w'.orders[j]?=w.orders[j]?:=by
 have hil:=(List.getElem?_eq_some_iff.1 ho).1
 rcases hR with ⟨_,rfl⟩ | ⟨way,bs,hN,rfl⟩
 ·refine ⟨Zfv.new _ _ _ _ _,⟨Zay o (Zu o),?_,.inr ⟨[],by simp,by rw [List.append_nil]⟩⟩,fun j hj=>?_⟩
  ·show (w.orders.set i _)[i]?=_
   rw [List.getElem?_set_self hil]
  ·show (w.orders.set i _)[j]?=_
   rw [List.getElem?_set_ne (fun e=>hj e.symm)]
 ·refine ⟨Zfv.new _ _ _ _ _,⟨_,?_,.inr ⟨way,ZqW hf hN.wayR,rfl⟩⟩,fun j hj=>?_⟩
  ·show (w.orders.set i _)[i]?=_
   rw [List.getElem?_set_self hil]
  ·show (w.orders.set i _)[j]?=_
   rw [List.getElem?_set_ne (fun e=>hj e.symm)]
def tupS (w:YWorld):Int × Int × Int × (List YLeg) × (List Int) × (List YOrder) × (List YBooking) × (List YTrip) × (List YScan) × (List Int):=(w.network.change,w.now,w.made,w.network.legs,w.network.off,w.orders,w.bookings,w.closed,w.scans,w.skip)
set_option maxHeartbeats 16000000
def ZaJ (w:YWorld) (i:Int):Option YWorld:=
 (getI w.orders i).bind fun y1=>
 (ZaO y1).bind fun y2=>
 cond (decide (0<y2))
 ((getI y1.way (w64 (y2-1))).bind fun y3=>
 (Ze w.network y3).bind fun y4=>
 (ZcO (w64 (w.now+1)) (w64 (y4+w.network.change))).bind fun y5=>
 (Zcm w.network w.bookings (w64 (i+1)) (w64 (w.now+1))).bind fun y6=>
 (Zae w.network y1).bind fun y7=>
 (Zq w.network y6 w.closed y7 y1.to_ y5 y1.weight).bind fun y8=>
 (Zx w.network y6 (w64 (i+1)) y1.weight y8.1).bind fun y9=>
 (chk (slOk 0 y2 y1.way.length)).bind fun _=>
 (chk (appOk ((([]:List YTrip):List YTrip).length+((subL y1.way 0 y2):List YTrip).length) 16)).bind fun _=>
 (getI w.orders i).bind fun y10=>
 cond y9.2
 ((getI w.orders i).bind fun y11=>
 (chk (appOk ((((([]:List YTrip):List YTrip)++(subL y1.way 0 y2)):List YTrip).length+(y8.1:List YTrip).length) 16)).bind fun _=>
 (getI w.orders i).bind fun y12=>
 some (⟨w.network,(w.orders.set (Int.toNat i) (⟨y10.from_,y10.to_,y10.service,y10.weight,y10.at_,y10.due,((((([]:List YTrip):List YTrip)++(subL y1.way 0 y2)):List YTrip)++y8.1),y10.gone,y10.state,y10.place,y10.ended⟩:YOrder)),y9.1,w.closed,w.now,w.scans,w.skip,w.made⟩:YWorld))
 (some (⟨w.network,(w.orders.set (Int.toNat i) (⟨y10.from_,y10.to_,y10.service,y10.weight,y10.at_,y10.due,((([]:List YTrip):List YTrip)++(subL y1.way 0 y2)),y10.gone,y10.state,y10.place,y10.ended⟩:YOrder)),y6,w.closed,w.now,w.scans,w.skip,w.made⟩:YWorld)))
 ((Zcm w.network w.bookings (w64 (i+1)) (w64 (w.now+1))).bind fun y13=>
 (Zae w.network y1).bind fun y14=>
 (Zq w.network y13 w.closed y14 y1.to_ (w64 (w.now+1)) y1.weight).bind fun y15=>
 (Zx w.network y13 (w64 (i+1)) y1.weight y15.1).bind fun y16=>
 (chk (slOk 0 y2 y1.way.length)).bind fun _=>
 (chk (appOk ((([]:List YTrip):List YTrip).length+((subL y1.way 0 y2):List YTrip).length) 16)).bind fun _=>
 (getI w.orders i).bind fun y17=>
 cond y16.2
 ((getI w.orders i).bind fun y18=>
 (chk (appOk ((((([]:List YTrip):List YTrip)++(subL y1.way 0 y2)):List YTrip).length+(y15.1:List YTrip).length) 16)).bind fun _=>
 (getI w.orders i).bind fun y19=>
 some (⟨w.network,(w.orders.set (Int.toNat i) (⟨y17.from_,y17.to_,y17.service,y17.weight,y17.at_,y17.due,((((([]:List YTrip):List YTrip)++(subL y1.way 0 y2)):List YTrip)++y15.1),y17.gone,y17.state,y17.place,y17.ended⟩:YOrder)),y16.1,w.closed,w.now,w.scans,w.skip,w.made⟩:YWorld))
 (some (⟨w.network,(w.orders.set (Int.toNat i) (⟨y17.from_,y17.to_,y17.service,y17.weight,y17.at_,y17.due,((([]:List YTrip):List YTrip)++(subL y1.way 0 y2)),y17.gone,y17.state,y17.place,y17.ended⟩:YOrder)),y13,w.closed,w.now,w.scans,w.skip,w.made⟩:YWorld)))
instance (w:YWorld) (i:Int):CT Tryz.prog (ZaJ w i):=⟨123,[.be 0 0 0,vi i],[some ⟨.of 41,10,[[.ms 1,.ms 2,vi w.network.change,.ms 3,.ms 4,.ms 5,vi w.now,.ms 6,.ms 7,vi w.made]]⟩,some ⟨.of 67,6,w.network.legs.map cLeg⟩,some ⟨.of 3,1,w.network.off.map cInt⟩,some ⟨.of 62,11,w.orders.map cOrder⟩,some ⟨.of 135,4,w.bookings.map cBooking⟩,some ⟨.of 55,2,w.closed.map cTrip⟩,some ⟨.of 130,6,w.scans.map cScan⟩,some ⟨.of 3,1,w.skip.map cInt⟩],fun r=>.tu [],fun r=>[some ⟨.of 41,10,[[.ms 1,.ms 2,vi r.network.change,.ms 3,.ms 8,.ms 5,vi r.now,.ms 6,.ms 7,vi r.made]]⟩,some ⟨.of 67,6,r.network.legs.map cLeg⟩,some ⟨.of 3,1,r.network.off.map cInt⟩,some ⟨.of 62,11,r.orders.map cOrder⟩,none,some ⟨.of 55,2,r.closed.map cTrip⟩,some ⟨.of 130,6,r.scans.map cScan⟩,some ⟨.of 3,1,r.skip.map cInt⟩,some ⟨.of 135,4,r.bookings.map cBooking⟩],fun H=>by replace H:=H0 H; unfold ZaJ at H; exact callM_of Tryz.func123 rfl Tryz.ntmps123 Tryz.results123 fun Q hQ hQn=>wk3⟩
theorem ZbL {α β:Type} {x:Option α} {f:α→Option β} {r:β}:x.bind f=some r↔∃ a,x=some a∧f a=some r:=by
 cases x <;> simp
theorem ZmZ {α:Type} {b:Bool} {x y:α} {P:α→Prop} (h:b=true→P x) (k:b=false→P y):P (cond b x y):=by
 cases b with
 | true=>exact h rfl
 | false=>exact k rfl
theorem Zoc {n:YNetwork} {l:List YBooking} {closed:List YTrip} {from_ to_:ByteArray} {at_ weight:Int} {x:List YTrip} (h:Zq n l closed from_ to_ at_ weight=some (x,false)):x=[]:=by
 unfold Zq at h
 obtain ⟨y1,_,h⟩:=ZbL.1 h
 obtain ⟨y2,_,h⟩:=ZbL.1 h
 obtain ⟨y3,_,h⟩:=ZbL.1 h
 obtain ⟨y4,_,h⟩:=ZbL.1 h
 revert h
 have nil:(some (([]:List YTrip),false))=some (x,false)→x=[]:=fun e=>by
  have:=congrArg Prod.fst (Option.some.inj e); exact this.symm
 refine ZmZ (P:=fun z=>z=some (x,false)→x=[]) (fun _=>nil) fun _=>ZmZ (P:=fun z=>z=some (x,false)→x=[]) (fun _=>nil) fun _ h=>?_
 obtain ⟨y5,_,h⟩:=ZbL.1 h
 revert h
 refine ZmZ (P:=fun z=>z=some (x,false)→x=[]) (fun _=>nil) fun _ h=>?_
 obtain ⟨y6,_,h⟩:=ZbL.1 h
 obtain ⟨o0,_,h⟩:=ZbL.1 h
 obtain ⟨o1,_,h⟩:=ZbL.1 h
 have:=congrArg Prod.snd (Option.some.inj h)
 cases this
section
variable {w:YWorld} {c:Nat→List YTrip} (h:Zi6 w c) {i:Nat} {o:YOrder} (ho:w.orders[i]?=some o)
include h ho
theorem ZkO {a b:Nat} {s t:YTrip} (hab:a<b) (ha:o.way[a]?=some s) (hb:o.way[b]?=some t):ZbH w.network s≤Zbp w.network t∧Zbp w.network s<ZbH w.network s:=by
 have hn:=(ZV h.books).1
 have hO:=ZcS h ho
 obtain ⟨c0,c1⟩:=Zdb hn
 have hs:=hO.ok.trip s (List.mem_of_getElem? ha)
 obtain ⟨t1,t2,t3,t4,t5⟩:=ZbF h.fit.net hn hs
 refine ⟨?_,by omega⟩
 have hal:=(List.getElem?_eq_some_iff.1 ha).1
 have hbl:=(List.getElem?_eq_some_iff.1 hb).1
 have h1:o.way[a+1]?=some o.way[a+1]:=List.getElem?_eq_getElem (by omega)
 have hn1:=((ZiE hO.chain ha).2 _ h1).1
 by_cases hb1:b=a+1
 ·subst hb1
  rw [hb] at h1
  rw [← Option.some.inj h1] at hn1
  omega
 ·have hlt:=ZiF h.fit.net hn hO.chain
  have:=List.pairwise_iff_getElem.1 hlt (a+1) b (by omega) hbl (by omega)
  rw [(List.getElem?_eq_some_iff.1 hb).2] at this
  omega
theorem ZjB {t:YTrip} (ht:t∈Zu o):Zbp w.network t≤w.now:=by
 have hO:=ZcS h ho
 obtain ⟨k0,k1,k2,k3⟩:=Zd3 h ho
 obtain ⟨g0,g1⟩:=hO.ok.gone
 obtain ⟨a,ha,hae⟩:=List.getElem_of_mem ht
 have hao:o.way[a]?=some t:=by rw [← ZlE h ho ha,← hae]; exact List.getElem?_eq_getElem ha
 have past:0<o.gone→a≤(o.gone-1).toNat→Zbp w.network t≤w.now:=fun hg hle=>by
  have hgl:(o.gone-1).toNat<o.way.length:=by omega
  have hp:=hO.st.past _ hg (List.getElem?_eq_getElem hgl)
  by_cases hag:a=(o.gone-1).toNat
  ·subst hag
   rw [List.getElem?_eq_getElem hgl] at hao
   rw [Option.some.inj hao] at hp
   have hn:=(ZV h.books).1
   obtain ⟨t1,t2,t3,t4,t5⟩:=ZbF h.fit.net hn (hO.ok.trip t (by rw [← Option.some.inj hao]; exact List.getElem_mem hgl))
   omega
  ·have:=ZkO h ho (a:=a) (b:=(o.gone-1).toNat) (by omega) hao (List.getElem?_eq_getElem hgl)
   have hn:=(ZV h.books).1
   obtain ⟨t1,t2,t3,t4,t5⟩:=ZbF h.fit.net hn (hO.ok.trip _ (List.getElem_mem hgl))
   omega
 rcases hO.st.cases with ⟨s1,s2,s3,s4,s5⟩ | ⟨s1,s2,s3,t2,u1,u2,u3⟩ | ⟨s1,s2,s3,s4,s5,s6⟩
 ·have hcv:Zh o=o.gone:=by unfold Zh; rw [if_neg (by omega)]
  exact past (by omega) (by omega)
 ·have hcv:Zh o=o.gone+1:=by unfold Zh; rw [if_pos s1]
  by_cases hag:a=o.gone.toNat
  ·subst hag
   rw [u1] at hao
   rw [Option.some.inj hao] at u2
   exact u2
  ·exact past (by omega) (by omega)
 ·have hcv:Zh o=o.gone:=by unfold Zh; rw [if_neg (by omega)]
  exact past (by omega) (by omega)
theorem ZmA {t:YTrip} (ht:t∈Ze0 o):w.now<Zbp w.network t:=by
 have hO:=ZcS h ho
 obtain ⟨k0,k1,k2,k3⟩:=Zd3 h ho
 obtain ⟨g0,g1⟩:=hO.ok.gone
 obtain ⟨a,ha,hae⟩:=List.getElem_of_mem ht
 have hao:o.way[(Zh o).toNat+a]?=some t:=by
  have:=List.getElem?_eq_getElem ha
  rw [hae] at this
  unfold Ze0 at this
  rw [List.getElem?_drop] at this
  exact this
 have hal:=(List.getElem?_eq_some_iff.1 hao).1
 rcases hO.st.cases with ⟨s1,s2,s3,s4,s5⟩ | ⟨s1,s2,s3,t2,u1,u2,u3⟩ | ⟨s1,s2,s3,s4,s5,s6⟩
 ·have hcv:Zh o=o.gone:=by unfold Zh; rw [if_neg (by omega)]
  have hgl:o.gone.toNat<o.way.length:=by omega
  have h5:=s5 _ (List.getElem?_eq_getElem hgl)
  by_cases h0:a=0
  ·subst h0
   rw [hcv,Nat.add_zero,List.getElem?_eq_getElem hgl] at hao
   rw [← Option.some.inj hao]; exact h5
  ·have:=ZkO h ho (a:=o.gone.toNat) (by omega) (List.getElem?_eq_getElem hgl) hao
   omega
 ·have hcv:Zh o=o.gone+1:=by unfold Zh; rw [if_pos s1]
  have:=ZkO h ho (a:=o.gone.toNat) (by omega) u1 hao
  omega
 ·have hcv:Zh o=o.gone:=by unfold Zh; rw [if_neg (by omega)]
  omega
theorem ZpP:Zcm w.network w.bookings ((i+1:Nat):Int) (w.now+1)=some (Zb3 w i o):=by
 have hn:=(ZV h.books).1
 have hbl:=(ZV h.books).2
 have hO:=ZcS h ho
 unfold Zcm
 rw [Zb2 h.fit.net h.fit.bookings,h.books,Option.bind_some]
 have e:iterF (Za8 w.network w.bookings ((i+1:Nat):Int) (w.now+1) true) NN (0,[])=some (Zb3 w i o):=by
  refine Zd6 (body:=Za8 w.network w.bookings ((i+1:Nat):Int) (w.now+1) true) (fun j:Nat=>((j:Int),Zeq ((i+1:Nat):Int) (Ze0 o) (w.bookings.take j))) (n:=w.bookings.length) (fun j hj=>?_) ?_ NN (by unfold NN; omega)
  ·have hg:getI w.bookings (j:Int)=some w.bookings[j]:=by rw [Zd]; exact List.getElem?_eq_getElem hj
   have hw:w64 ((j:Int)+1)=((j+1:Nat):Int):=Zt hj (by omega)
   have hfl:(Zeq ((i+1:Nat):Int) (Ze0 o) (w.bookings.take j)).length≤1000:=Nat.le_trans (List.length_filter_le _ _) (by rw [List.length_take]; omega)
   have ha:chk (appOk ((Zeq ((i+1:Nat):Int) (Ze0 o) (w.bookings.take j)).length+([w.bookings[j]]:List YBooking).length) 32)=some ():=Zdh (by simp only [List.length_cons,List.length_nil]; omega) (by omega)
   have hs:Zeq ((i+1:Nat):Int) (Ze0 o) (w.bookings.take (j+1))=Zeq ((i+1:Nat):Int) (Ze0 o) (w.bookings.take j)++(if (decide (w.bookings[j].thing=((i+1:Nat):Int)) && ZK (Ze0 o) w.bookings[j].trip)=true then [] else [w.bookings[j]]):=by
    unfold Zeq
    rw [List.take_succ_eq_append_getElem hj,List.filter_append]
    simp only [List.filter_cons,List.filter_nil]
    cases decide (w.bookings[j].thing=((i+1:Nat):Int)) && ZK (Ze0 o) w.bookings[j].trip <;> rfl
   obtain ⟨t1,t2,t3,t4,t5⟩:=ZbF h.fit.net hn (Zme h.fit.net h.books (List.getElem_mem hj))
   unfold Za8
   simp only [decide_eq_true (show (j:Int)<w.bookings.length by omega),cond_true,cond_false,Bool.not_true,hg,Option.bind_some,hw,ha,t1]
   rw [hs]
   by_cases hth:w.bookings[j].thing=((i+1:Nat):Int)
   ·rw [decide_eq_true hth]
    simp only [Bool.not_true,cond_false,Bool.true_and]
    obtain ⟨j',o',t',q1,q2,q3⟩:=Zmf h (List.getElem_mem hj)
    have hjj:j'=i:=by
     have:=congrArg YBooking.thing q3
     rw [hth] at this
     simp only at this
     omega
    subst hjj
    rw [ho] at q1
    obtain rfl:=Option.some.inj q1
    have htr:w.bookings[j].trip=t':=congrArg YBooking.trip q3
    rw [htr]
    rw [ZeY h ho] at q2
    cases hc:ZK (Ze0 o) t' with
    | true=>
     have:=ZmA h ho (ZdZ.1 hc)
     rw [decide_eq_false (by omega),if_pos rfl,List.append_nil]; rfl
    | false=>
     rcases List.mem_append.1 q2 with q2 | q2
     ·have:=ZjB h ho q2
      rw [decide_eq_true (by omega),if_neg (by simp)]; rfl
     ·rw [ZdZ.2 q2] at hc; cases hc
   ·rw [decide_eq_false hth]; rfl
  ·unfold Za8 Zb3
   simp [List.take_length]
 rw [e]; rfl
theorem Zqb (hs:¬ o.state=3):∃ w',ZaJ w (i:Int)=some w'∧ZfT w i o w':=by
 have hn:=(ZV h.books).1
 have hbl:=(ZV h.books).2
 have hO:=ZcS h ho
 have hlen:=Zgg h ho
 obtain ⟨k0,k1,k2,k3⟩:=Zd3 h ho
 obtain ⟨g0,g1⟩:=hO.ok.gone
 obtain ⟨c0,c1⟩:=Zdb hn
 have hil:=(List.getElem?_eq_some_iff.1 ho).1
 have hol:=h.olen
 have hnow:=h.now
 have hoi:getI w.orders (i:Int)=some o:=by rw [Zd]; exact ho
 have hcome:ZaO o=some (Zh o):=(Zgw hO.ok.gone (by omega)).1
 have hsub:subL o.way 0 (Zh o)=Zu o:=by unfold subL Zu; simp
 have hsl:chk (slOk 0 (Zh o) o.way.length)=some ():=Zfw (by unfold slOk; exact decide_eq_true ⟨Int.le_refl _,k0,k1⟩)
 have hw1:w64 (w.now+1)=w.now+1:=Zc (by omega)
 have hwi:w64 ((i:Int)+1)=((i+1:Nat):Int):=by rw [Zc (by omega)]; omega
 have hll:(Zb3 w i o).length≤120:=Nat.le_trans (Ze8 _ _ _).length_le hbl
 have hlv:=Zhk h.fit.net h.books (Ze8 ((i+1:Nat):Int) (Ze0 o) w.bookings)
 have hkl:(Zu o).length≤120:=by rw [k2]; omega
 have hhere:Zae w.network o=some (Zbx w.network o):=by
  unfold Zae Zbx
  rcases hO.st.cases with ⟨s1,_⟩ | ⟨s1,s2,s3,t2,u1,u2,u3⟩ | ⟨s1,_⟩
  ·rw [decide_eq_false (by omega),if_neg (by omega)]; rfl
  ·have hg:getI o.way o.gone=some t2:=by unfold getI; rw [if_pos g0]; exact u1
   obtain ⟨y,hy,_⟩:=ZbE h.fit.net (hO.ok.trip t2 (List.mem_of_getElem? u1))
   rw [decide_eq_true s1,if_pos s1,cond_true,hg,u1,Option.bind_some,hy,Option.bind_some,Option.map_some,Option.getD_some]
   unfold ZaS
   rw [hy]; rfl
  ·exact absurd s1 hs
 have ha0:chk (appOk ((([]:List YTrip)).length+(Zu o).length) 16)=some ():=Zdh (by simp only [List.length_nil]; omega) (by omega)
 obtain ⟨⟨way,b⟩,_,e2⟩:=Zf1 h.fit.net (l:=Zb3 w i o) (by omega) h.fit.closed (Zbx w.network o) o.to_ (atR w.network w.now o) o.weight
 have tail:∀ a,a=atR w.network w.now o→∃ w',((Zq w.network (Zb3 w i o) w.closed (Zbx w.network o) o.to_ a o.weight).bind fun y8=>
  (Zx w.network (Zb3 w i o) ((i+1:Nat):Int) o.weight y8.1).bind fun y9=>
  cond y9.2
  ((chk (appOk ((([]++Zu o):List YTrip).length+(y8.1:List YTrip).length) 16)).bind fun _=>
  some (newW w i o (Zu o++y8.1) y9.1))
  (some (newW w i o (Zu o) (Zb3 w i o))))=some w'∧ZfT w i o w':=by
  rintro a rfl
  rw [e2,Option.bind_some]
  cases b with
  | false=>
   obtain rfl:=Zoc e2
   have hsp:=ZfV h.fit.net (show (Zb3 w i o).length≤1048000 by omega) ((i+1:Nat):Int) o.weight (way:=[]) (d:=Zb3 w i o) (by simp [Zdc]) (Zlf hlv)
   rw [if_pos ⟨hlv,by simp,hlv⟩] at hsp
   have ha:chk (appOk ((([]++Zu o):List YTrip).length+([]:List YTrip).length) 16)=some ():=Zdh (by simp only [List.nil_append,List.length_nil]; omega) (by omega)
   exact ⟨_,by rw [hsp]; simp only [Option.bind_some,cond_true,ha,List.append_nil],.inl ⟨.inl ⟨[],e2⟩,rfl⟩⟩
  | true=>
  have hR:=Zj3 h.fit.net (show (Zb3 w i o).length≤1048576 by omega) h.fit.closed e2
  have hwl:=hR.len
  have hnl:(Zdc ((i+1:Nat):Int) o.weight way).length=way.length:=by unfold Zdc; rw [List.length_map]
  obtain ⟨d,d1,d2⟩:=Zoj (Zb3 w i o++Zdc ((i+1:Nat):Int) o.weight way) (by rw [List.length_append,hnl]; omega)
  have hsp:=ZfV h.fit.net (show (Zb3 w i o).length≤1048000 by omega) ((i+1:Nat):Int) o.weight d1 d2
  by_cases hbd:Zr w.network d=true
  ·rw [if_pos ⟨hlv,hwl,hbd⟩] at hsp
   have ha:chk (appOk ((([]++Zu o):List YTrip).length+way.length) 16)=some ():=Zdh (by simp only [List.nil_append]; omega) (by omega)
   exact ⟨_,by rw [hsp]; simp only [Option.bind_some,cond_true,ha],.inr ⟨way,d,⟨e2,hsp,hR,d1,hbd⟩,rfl⟩⟩
  ·rw [if_neg (fun hx=>hbd hx.2.2)] at hsp
   exact ⟨_,by rw [hsp]; rfl,.inl ⟨.inr ⟨way,e2,hsp⟩,rfl⟩⟩
 unfold ZaJ
 rw [hoi,Option.bind_some,hcome,Option.bind_some]
 by_cases h0:0<Zh o
 ·have hkt:(Zh o).toNat-1<o.way.length:=by omega
  have hlast:(Zu o).getLast?=some o.way[(Zh o).toNat-1]:=by
   unfold Zu
   rw [Zd9 (by omega) (by omega)]
   exact List.getElem?_eq_getElem hkt
  have hgk:getI o.way (w64 (Zh o-1))=some o.way[(Zh o).toNat-1]:=by
   rw [Zc (by omega)]
   unfold getI
   rw [if_pos (by omega),show (Zh o-1).toNat=(Zh o).toNat-1 by omega]
   exact List.getElem?_eq_getElem hkt
  obtain ⟨t1,t2,t3,t4,t5⟩:=ZbF h.fit.net hn (hO.ok.trip _ (List.getElem_mem hkt))
  have hwe:w64 (ZbH w.network o.way[(Zh o).toNat-1]+w.network.change)=ZbH w.network o.way[(Zh o).toNat-1]+w.network.change:=Zc (by omega)
  have hmax:ZcO (w.now+1) (ZbH w.network o.way[(Zh o).toNat-1]+w.network.change)=some (atR w.network w.now o):=by
   unfold ZcO atR
   rw [hlast]
   simp only
   by_cases hm:w.now+1<ZbH w.network o.way[(Zh o).toNat-1]+w.network.change
   ·rw [decide_eq_true hm,if_pos hm]; rfl
   ·rw [decide_eq_false hm,if_neg hm]; rfl
  rw [decide_eq_true h0,cond_true,hgk]
  simp only [Option.bind_some,t2,hw1,hwe,hmax,hwi,ZpP h ho,hhere,hsl,hsub,ha0,hoi]
  obtain ⟨w',q1,q2⟩:=tail _ rfl
  refine ⟨w',?_,q2⟩
  rw [← q1]
  simp only [newW,Zay,Int.toNat_natCast,List.nil_append]
 ·have hlast:(Zu o).getLast?=none:=by
   unfold Zu
   rw [show (Zh o).toNat=0 by omega]; rfl
  have hate:w.now+1=atR w.network w.now o:=by unfold atR; rw [hlast]
  rw [decide_eq_false h0,cond_false]
  simp only [Option.bind_some,hw1,hwi,ZpP h ho,hhere,hsl,hsub,ha0,hoi]
  obtain ⟨w',q1,q2⟩:=tail _ hate
  refine ⟨w',?_,q2⟩
  rw [← q1]
  simp only [newW,Zay,Int.toNat_natCast,List.nil_append]
omit h ho in
theorem Zn8 {a b:YWorld} (h1:ZfT w i o a) (h2:ZfT w i o b):a=b:=by
 have no:∀ {way bs},Zp9 w i o→Zpx w i o way bs→False:=fun {way bs} hx hy=>by
  rcases hx with ⟨x,hx⟩ | ⟨x,hx,hb⟩
  ·rw [hy.room] at hx
   have:=congrArg Prod.snd (Option.some.inj hx); cases this
  ·rw [hy.room] at hx
   have hxx:way=x:=congrArg Prod.fst (Option.some.inj hx)
   rw [← hxx,hy.book] at hb
   have:=congrArg Prod.snd (Option.some.inj hb); cases this
 rcases h1 with ⟨n1,rfl⟩ | ⟨w1,b1,n1,rfl⟩ <;> rcases h2 with ⟨n2,rfl⟩ | ⟨w2,b2,n2,rfl⟩
 ·rfl
 ·exact (no n1 n2).elim
 ·exact (no n2 n1).elim
 ·have e:=n2.room
  rw [n1.room] at e
  have hw:w1=w2:=congrArg Prod.fst (Option.some.inj e)
  subst hw
  have e2:=n2.book
  rw [n1.book] at e2
  have hb:b1=b2:=congrArg Prod.fst (Option.some.inj e2)
  subst hb
  rfl
theorem Zmc (hs:¬ o.state=3) (hne:¬ Zbx w.network o=o.to_):∃ w',ZaJ w (i:Int)=some w'∧Za0 w ((i+1:Nat):Int)=some w'∧ZfT w i o w'∧Zi6 w' (fun j=>if j=i then w.closed else c j):=by
 obtain ⟨a,a1,a2,a3⟩:=Zmx h ho hs hne
 obtain ⟨b,b1,b2⟩:=Zqb h ho hs
 obtain rfl:=Zn8 b2 a2
 exact ⟨b,b1,a1,a2,a3⟩
end
def Zxs (t:YTrip) (y1:YWorld) (s0:Int × Int × Int × Int × (List YLeg) × (List Int) × (List YOrder) × (List YBooking) × (List YTrip) × (List YScan) × (List Int)):Option ((Int × Int × Int × Int × (List YLeg) × (List Int) × (List YOrder) × (List YBooking) × (List YTrip) × (List YScan) × (List Int)) ⊕ (Int × Int × Int × (List YLeg) × (List Int) × (List YOrder) × (List YBooking) × (List YTrip) × (List YScan) × (List Int))):=
 cond (decide (s0.1<(y1.orders.length:Int)))
 ((getI s0.2.2.2.2.2.2.1 s0.1).bind fun y6=>
 (Zbq y6).bind fun y7=>
 (chk (slOk y7 (y6.way.length:Int) y6.way.length)).bind fun _=>
 (ZaC (subL y6.way y7 (y6.way.length:Int)) t).bind fun y8=>
 cond y8
 ((rhoM [2,3,4,5,6,7,8,9]).bind fun _=>
 (Za0 (⟨(⟨s0.2.2.2.2.1,s0.2.2.2.2.2.1,s0.2.1⟩:YNetwork),s0.2.2.2.2.2.2.1,s0.2.2.2.2.2.2.2.1,s0.2.2.2.2.2.2.2.2.1,s0.2.2.1,s0.2.2.2.2.2.2.2.2.2.1,s0.2.2.2.2.2.2.2.2.2.2,s0.2.2.2.1⟩:YWorld) (w64 (s0.1+1))).bind fun y9=>
 some (.inl ((w64 (s0.1+1)),y9.network.change,y9.now,y9.made,y9.network.legs,y9.network.off,y9.orders,y9.bookings,y9.closed,y9.scans,y9.skip)))
 (some (.inl ((w64 (s0.1+1)),s0.2.1,s0.2.2.1,s0.2.2.2.1,s0.2.2.2.2.1,s0.2.2.2.2.2.1,s0.2.2.2.2.2.2.1,s0.2.2.2.2.2.2.2.1,s0.2.2.2.2.2.2.2.2.1,s0.2.2.2.2.2.2.2.2.2.1,s0.2.2.2.2.2.2.2.2.2.2))))
 (some (.inr (s0.2.1,s0.2.2.1,s0.2.2.2.1,s0.2.2.2.2.1,s0.2.2.2.2.2.1,s0.2.2.2.2.2.2.1,s0.2.2.2.2.2.2.2.1,s0.2.2.2.2.2.2.2.2.1,s0.2.2.2.2.2.2.2.2.2.1,s0.2.2.2.2.2.2.2.2.2.2)))
instance (t:YTrip) (y1:YWorld):LoopE (Zxs t y1):=⟨fun s0=>(U 3 (.be 0 0 0::.be 1 0 0::.un::.be 2 0 0::(U 44 (vi (y1.orders.length:Int)::vi s0.1::(U 19 []))))),fun s0=>[some ⟨.of 55,2,[[vi t.leg,vi t.day]]⟩,some ⟨.of 41,10,[[.v (.slice none 0 0),.v (.slice none 0 0),vi 0,.v (.slice none 0 0),.v (.slice none 0 0),.v (.slice none 0 0),vi 0,.v (.slice none 0 0),.v (.slice none 0 0),vi 0]]⟩,some ⟨.of 41,10,[[.ms 3,.ms 4,vi s0.2.1,.ms 5,.ms 6,.ms 7,vi s0.2.2.1,.ms 8,.ms 9,vi s0.2.2.2.1]]⟩,some ⟨.of 67,6,s0.2.2.2.2.1.map cLeg⟩,some ⟨.of 3,1,s0.2.2.2.2.2.1.map cInt⟩,some ⟨.of 62,11,s0.2.2.2.2.2.2.1.map cOrder⟩,some ⟨.of 135,4,s0.2.2.2.2.2.2.2.1.map cBooking⟩,some ⟨.of 55,2,s0.2.2.2.2.2.2.2.2.1.map cTrip⟩,some ⟨.of 130,6,s0.2.2.2.2.2.2.2.2.2.1.map cScan⟩,some ⟨.of 3,1,s0.2.2.2.2.2.2.2.2.2.2.map cInt⟩]⟩
def Zxu (w:YWorld) (t:YTrip):Option (YWorld × Bool):=
 (ZbT w).bind fun y1=>
 (Zdi w).bind fun y2=>
 cond (!y2)
 (some (y1,false))
 ((ZW w.network t).bind fun y3=>
 cond (!y3)
 (some (y1,false))
 ((Zah w.network t).bind fun y4=>
 cond (decide (y4≤w.now))
 (some (y1,false))
 ((ZaC w.closed t).bind fun y5=>
 cond y5
 (some (y1,false))
 (cond (decide (20≤(w.closed.length:Int)))
 (some (y1,false))
 ((chk (appOk ((y1.closed:List YTrip).length+([t]:List YTrip).length) 16)).bind fun _=>
 (iterF (Zxs t y1) NN (0,y1.network.change,y1.now,y1.made,y1.network.legs,y1.network.off,y1.orders,y1.bookings,((y1.closed:List YTrip)++[t]),y1.scans,y1.skip)).bind (fun o0=>
 some ((⟨(⟨o0.2.2.2.1,o0.2.2.2.2.1,o0.1⟩:YNetwork),o0.2.2.2.2.2.1,o0.2.2.2.2.2.2.1,o0.2.2.2.2.2.2.2.1,o0.2.1,o0.2.2.2.2.2.2.2.2.1,o0.2.2.2.2.2.2.2.2.2,o0.2.2.1⟩:YWorld),true)))))))
instance (w:YWorld) (t:YTrip):CT Tryz.prog (Zxu w t):=⟨43,[.ag (cWorld w),.ag (cTrip t)],[],fun r=>.tu [.ag [.sl (r.1.network.legs.map cLeg),.sl (r.1.network.off.map cInt),vi r.1.network.change,.sl (r.1.orders.map cOrder),.sl (r.1.bookings.map cBooking),.sl (r.1.closed.map cTrip),vi r.1.now,.sl (r.1.scans.map cScan),.sl (r.1.skip.map cInt),vi r.1.made],vb r.2],fun r=>[],fun H=>by replace H:=H0 H; unfold Zxu at H; exact callM_of Tryz.func43 rfl Tryz.ntmps43 Tryz.results43 fun Q hQ hQn=>wk3⟩
def Zxr (t:YTrip) (s0:Int × Int × Int × Int × (List YLeg) × (List Int) × (List YOrder) × (List YBooking) × (List YTrip) × (List YScan) × (List Int)):Option ((Int × Int × Int × Int × (List YLeg) × (List Int) × (List YOrder) × (List YBooking) × (List YTrip) × (List YScan) × (List Int)) ⊕ (Int × Int × Int × (List YLeg) × (List Int) × (List YOrder) × (List YBooking) × (List YTrip) × (List YScan) × (List Int))):=
 cond (decide (s0.1<(s0.2.2.2.2.2.2.1.length:Int)))
 ((getI s0.2.2.2.2.2.2.1 s0.1).bind fun y6=>
 (ZaO y6).bind fun y7=>
 (chk (slOk y7 (y6.way.length:Int) y6.way.length)).bind fun _=>
 (Zar (subL y6.way y7 (y6.way.length:Int)) t).bind fun y8=>
 cond y8
 ((rhoM [2,3,4,5,6,7,8,9]).bind fun _=>
 (ZaJ (⟨(⟨s0.2.2.2.2.1,s0.2.2.2.2.2.1,s0.2.1⟩:YNetwork),s0.2.2.2.2.2.2.1,s0.2.2.2.2.2.2.2.1,s0.2.2.2.2.2.2.2.2.1,s0.2.2.1,s0.2.2.2.2.2.2.2.2.2.1,s0.2.2.2.2.2.2.2.2.2.2,s0.2.2.2.1⟩:YWorld) s0.1).bind fun y9=>
 some (.inl ((w64 (s0.1+1)),y9.network.change,y9.now,y9.made,y9.network.legs,y9.network.off,y9.orders,y9.bookings,y9.closed,y9.scans,y9.skip)))
 (some (.inl ((w64 (s0.1+1)),s0.2.1,s0.2.2.1,s0.2.2.2.1,s0.2.2.2.2.1,s0.2.2.2.2.2.1,s0.2.2.2.2.2.2.1,s0.2.2.2.2.2.2.2.1,s0.2.2.2.2.2.2.2.2.1,s0.2.2.2.2.2.2.2.2.2.1,s0.2.2.2.2.2.2.2.2.2.2))))
 (some (.inr (s0.2.1,s0.2.2.1,s0.2.2.2.1,s0.2.2.2.2.1,s0.2.2.2.2.2.1,s0.2.2.2.2.2.2.1,s0.2.2.2.2.2.2.2.1,s0.2.2.2.2.2.2.2.2.1,s0.2.2.2.2.2.2.2.2.2.1,s0.2.2.2.2.2.2.2.2.2.2)))
instance (t:YTrip):LoopE (Zxr t):=⟨fun s0=>(U 3 (.be 0 0 0::.be 1 0 0::.un::.be 2 0 0::vi s0.1::(U 63 []))),fun s0=>[some ⟨.of 55,2,[[vi t.leg,vi t.day]]⟩,some ⟨.of 41,10,[[.v (.slice none 0 0),.v (.slice none 0 0),vi 0,.v (.slice none 0 0),.v (.slice none 0 0),.v (.slice none 0 0),vi 0,.v (.slice none 0 0),.v (.slice none 0 0),vi 0]]⟩,some ⟨.of 41,10,[[.ms 3,.ms 4,vi s0.2.1,.ms 5,.ms 6,.ms 7,vi s0.2.2.1,.ms 8,.ms 9,vi s0.2.2.2.1]]⟩,some ⟨.of 67,6,s0.2.2.2.2.1.map cLeg⟩,some ⟨.of 3,1,s0.2.2.2.2.2.1.map cInt⟩,some ⟨.of 62,11,s0.2.2.2.2.2.2.1.map cOrder⟩,some ⟨.of 135,4,s0.2.2.2.2.2.2.2.1.map cBooking⟩,some ⟨.of 55,2,s0.2.2.2.2.2.2.2.2.1.map cTrip⟩,some ⟨.of 130,6,s0.2.2.2.2.2.2.2.2.2.1.map cScan⟩,some ⟨.of 3,1,s0.2.2.2.2.2.2.2.2.2.2.map cInt⟩]⟩
def Zxt (w:YWorld) (t:YTrip):Option (YWorld × Bool):=
 (ZcJ w).bind fun y1=>
 (Zdq w).bind fun y2=>
 cond (!y2)
 (some (y1,false))
 ((ZM w.network t).bind fun y3=>
 cond (!y3)
 (some (y1,false))
 ((Zg w.network t).bind fun y4=>
 cond (decide (y4≤w.now))
 (some (y1,false))
 ((Zar w.closed t).bind fun y5=>
 cond y5
 (some (y1,false))
 (cond (decide (20≤(w.closed.length:Int)))
 (some (y1,false))
 ((chk (appOk ((y1.closed:List YTrip).length+([t]:List YTrip).length) 16)).bind fun _=>
 (iterF (Zxr t) NN (0,y1.network.change,y1.now,y1.made,y1.network.legs,y1.network.off,y1.orders,y1.bookings,((y1.closed:List YTrip)++[t]),y1.scans,y1.skip)).bind (fun o0=>
 some ((⟨(⟨o0.2.2.2.1,o0.2.2.2.2.1,o0.1⟩:YNetwork),o0.2.2.2.2.2.1,o0.2.2.2.2.2.2.1,o0.2.2.2.2.2.2.2.1,o0.2.1,o0.2.2.2.2.2.2.2.2.1,o0.2.2.2.2.2.2.2.2.2,o0.2.2.1⟩:YWorld),true)))))))
instance (w:YWorld) (t:YTrip):CT Tryz.prog (Zxt w t):=⟨41,[.ag (cWorld w),.ag (cTrip t)],[],fun r=>.tu [.ag [.ms 0,.ms 1,vi r.1.network.change,.ms 2,.ms 3,.ms 4,vi r.1.now,.ms 5,.ms 6,vi r.1.made],vb r.2],fun r=>[some ⟨.of 67,6,r.1.network.legs.map cLeg⟩,some ⟨.of 3,1,r.1.network.off.map cInt⟩,some ⟨.of 62,11,r.1.orders.map cOrder⟩,some ⟨.of 135,4,r.1.bookings.map cBooking⟩,some ⟨.of 55,2,r.1.closed.map cTrip⟩,some ⟨.of 130,6,r.1.scans.map cScan⟩,some ⟨.of 3,1,r.1.skip.map cInt⟩],fun H=>by replace H:=H0 H; unfold Zxt at H; exact callM_of Tryz.func41 rfl Tryz.ntmps41 Tryz.results41 fun Q hQ hQn=>wk3⟩
theorem Zrn {σ σ' ο ο':Type} {b:σ→Option (σ ⊕ ο)} {b':σ'→Option (σ' ⊕ ο')} (I:Nat→σ→σ'→Prop) {P:ο→ο'→Prop}
 (h:∀ k s s',I k s s'→(∃ t t' k',b s=some (.inl t)∧b' s'=some (.inl t')∧k'<k∧I k' t t')∨∃ o o',b s=some (.inr o)∧b' s'=some (.inr o')∧P o o'):
 ∀ (N k:Nat) (s:σ) (s':σ'),I k s s'→k<N→∃ o o',iterF b N s=some o∧iterF b' N s'=some o'∧P o o'
 | 0,k,s,s',_,hN=>by omega
 | N+1,k,s,s',hI,hN=>by
  simp only [iterF]
  rcases h k s s' hI with ⟨t,t',k',e,e',hk,hI'⟩ | ⟨o,o',e,e',hP⟩
  ·rw [e,e']
   exact Zrn I h N k' t t' hI' (by omega)
  ·rw [e,e']
   exact ⟨o,o',rfl,rfl,hP⟩
structure Shut (w:YWorld) (t:YTrip) (x:YWorld):Prop where
 trip:Zc3 w.network t=true
 later:w.now<Zbp w.network t
 new:¬ t∈w.closed
 few:w.closed.length<20
 ok:WOk x
 same:Zfv ⟨w.network,w.orders,w.bookings,w.closed++[t],w.now,w.scans,w.skip,w.made⟩ x
 ord:∀ (i:Nat) (o:YOrder),w.orders[i]?=some o→∃ o',x.orders[i]?=some o'∧(¬ t∈Ze0 o→o'=o)∧Ziz w.network o o'
theorem ZxG {w:YWorld} (h:WOk w) (t:YTrip):∃ r,Zxu w t=some r∧Zxt w t=some r∧(r=(w,false)∨∃ x,r=(x,true)∧Shut w t x):=by
 have hf:=h.fit
 obtain ⟨p1,p2,p3,p4,p5,p6,p7⟩:=h.parts
 obtain ⟨hP,hRs⟩:=Zk6 h
 unfold Zxu Zxt
 rw [Zm3 hf,Zm4 hf,Option.bind_some,Option.bind_some,Ziq hf,Ziw hf,h.ok,Option.bind_some,Option.bind_some,(ZeL hf.net t).1,ZlB hf.net h.net,Option.bind_some,Option.bind_some]
 simp only [Bool.not_true,cond_false]
 cases htb:Zc3 w.network t with
 | false=>exact ⟨_,rfl,rfl,.inl rfl⟩
 | true=>
 obtain ⟨t1,t2,t3,t4,t5⟩:=ZbF hf.net h.net htb
 have hst:Zah w.network t=some (Zbp w.network t):=by rw [Zgm]; exact t1
 rw [hst,t1,Option.bind_some,Option.bind_some]
 simp only [Bool.not_true,cond_false]
 by_cases c1:Zbp w.network t≤w.now
 ·exact ⟨_,by rw [decide_eq_true c1]; rfl,by rw [decide_eq_true c1]; rfl,.inl rfl⟩
 rw [decide_eq_false c1,cond_false,cond_false,Zd0,Zea hf.closed,Option.bind_some,Option.bind_some]
 have hcb:(w.closed.any fun y=>decide (y=t))=ZK w.closed t:=rfl
 rw [hcb]
 cases hcl:ZK w.closed t with
 | true=>exact ⟨_,rfl,rfl,.inl rfl⟩
 | false=>
 simp only [cond_false]
 by_cases c2:(20:Int)≤(w.closed.length:Int)
 ·exact ⟨_,by rw [decide_eq_true c2]; rfl,by rw [decide_eq_true c2]; rfl,.inl rfl⟩
 have ha:chk (appOk (w.closed.length+([t]:List YTrip).length) 16)=some ():=Zdh (by simp only [List.length_cons,List.length_nil]; omega) (by omega)
 rw [decide_eq_false c2,cond_false,cond_false,ha,Option.bind_some,Option.bind_some]
 let w1:YWorld:=⟨w.network,w.orders,w.bookings,w.closed++[t],w.now,w.scans,w.skip,w.made⟩
 have hf1:WFit w1:=⟨hf.net,hf.orders,hf.bookings,by simp only [w1,List.length_append,List.length_cons,List.length_nil]; omega,hf.scans,hf.skip,hf.way⟩
 have hnc:¬ t∈w.closed:=fun hm=>by rw [ZdZ.2 hm] at hcl; cases hcl
 have key:∃ r r',iterF (Zxs t w) NN (0,tupS w1)=some r∧iterF (Zxr t) NN (0,tupS w1)=some r'∧r'=r∧∃ u,r=tupS u∧Zfv w1 u∧Zi6 u (fun j=>if j<w.orders.length then u.closed else w.closed)∧∀ (i:Nat) (o:YOrder),w.orders[i]?=some o→∃ o',u.orders[i]?=some o'∧(¬ t∈Ze0 o→o'=o)∧Ziz w.network o o':=by
  refine Zrn (fun (k:Nat) (s s':Int × Int × Int × Int × (List YLeg) × (List Int) × (List YOrder) × (List YBooking) × (List YTrip) × (List YScan) × (List Int))=>s'=s∧∃ (i:Nat) (u:YWorld),s=((i:Int),tupS u)∧i+k=w.orders.length∧Zfv w1 u∧Zi6 u (fun j=>if j<i then u.closed else w.closed)∧
   (∀ (j:Nat) (o:YOrder),w.orders[j]?=some o→∃ o',u.orders[j]?=some o'∧(¬ t∈Ze0 o→o'=o)∧Ziz w.network o o')∧∀ j,i≤j→u.orders[j]?=w.orders[j]?) (fun k s s' hs=>?_) NN w.orders.length _ _ ⟨rfl,0,w1,rfl,by omega,Zfv.refl _,⟨hf1,hP.books,hP.now,hP.olen,fun i o ho=>hP.ord i o ho,hP.sum,fun i=>by simp; omega⟩,fun j o ho=>⟨o,ho,fun _=>rfl,Or.inl rfl⟩,fun j _=>rfl⟩ (by unfold NN; omega)
  obtain ⟨rfl,i,u,rfl,hk,hS,hU,hold,hrest⟩:=hs
  have hul:u.orders.length=w.orders.length:=hS.len
  by_cases hlt:i<w.orders.length
  ·have hd1:decide ((i:Int)<(w.orders.length:Int))=true:=decide_eq_true (by omega)
   have hd2:decide ((i:Int)<(u.orders.length:Int))=true:=decide_eq_true (by omega)
   have hwi:w64 ((i:Int)+1)=((i+1:Nat):Int):=by rw [Zc (by omega)]; omega
   have hio:=List.getElem?_eq_getElem hlt
   have huo:u.orders[i]?=some w.orders[i]:=by rw [hrest i (Nat.le_refl _)]; exact hio
   have hg:getI u.orders (i:Int)=some w.orders[i]:=by rw [Zd]; exact huo
   have hO:=ZcS hU huo
   have hlen:=Zgg hU huo
   obtain ⟨k0,k1,k2,k3⟩:=Zd3 hU huo
   have hcome2:ZaO w.orders[i]=some (Zh w.orders[i]):=(Zgw hO.ok.gone (by omega)).1
   have hcome:Zbq w.orders[i]=some (Zh w.orders[i]):=by
    rw [(Zgw hO.ok.gone (by omega)).2.2,if_neg (by omega)]
   have hsl:chk (slOk (Zh w.orders[i]) (w.orders[i].way.length:Int) w.orders[i].way.length)=some ():=Zfw (by unfold slOk; exact decide_eq_true ⟨k0,k1,Int.le_refl _⟩)
   have hsub:subL w.orders[i].way (Zh w.orders[i]) (w.orders[i].way.length:Int)=Ze0 w.orders[i]:=by
    unfold subL Ze0
    rw [List.take_of_length_le (by rw [List.length_drop]; omega)]
   have hrl:(Ze0 w.orders[i]).length≤1048576:=by unfold Ze0; rw [List.length_drop]; omega
   have hcr:((Ze0 w.orders[i]).any fun y=>decide (y=t))=ZK (Ze0 w.orders[i]) t:=rfl
   cases hc:ZK (Ze0 w.orders[i]) t
   rotate_left
   ·have hm:=ZdZ.1 hc
    obtain ⟨r1,r2⟩:=ZxD hU huo (fun e=>by rw [e] at hm; cases hm)
    obtain ⟨u',e2,e,hR,hU'⟩:=Zmc hU huo r1 r2
    obtain ⟨s1,⟨o',o1,o2⟩,s3⟩:=Zpb hU.fit.net hR huo
    rw [hS.network] at o2
    have e':Za0 ⟨⟨u.network.legs,u.network.off,u.network.change⟩,u.orders,u.bookings,u.closed,u.now,u.scans,u.skip,u.made⟩ ((i+1:Nat):Int)=some u':=e
    have e2':ZaJ ⟨⟨u.network.legs,u.network.off,u.network.change⟩,u.orders,u.bookings,u.closed,u.now,u.scans,u.skip,u.made⟩ (i:Int)=some u':=e2
    refine .inl ⟨(((i+1:Nat):Int),tupS u'),_,k-1,?_,?_,by omega,rfl,i+1,u',rfl,by omega,hS.trans s1,?_,fun j o ho=>?_,fun j hj=>?_⟩
    ·unfold Zxs
     simp only [tupS,hd1,cond_true,hg,Option.bind_some,hcome,hsl,hsub,Zea hrl,hwi,hcr,hc,rhoM,e']
    ·unfold Zxr
     show cond (decide ((i:Int)<(u.orders.length:Int))) _ _=_
     rw [hd2]
     simp only [tupS,cond_true,hg,Option.bind_some,hcome2,hsl,hsub,Zd0,Zea hrl,hwi,hcr,hc,rhoM,e2']
    ·have ef:(fun j=>if j=i then u.closed else if j<i then u.closed else w.closed)=fun j=>if j<i+1 then u'.closed else w.closed:=by
      funext j
      rw [s1.closed]
      by_cases hj:j=i
      ·rw [if_pos hj,if_pos (by omega)]
      ·rw [if_neg hj]
       by_cases hj2:j<i
       ·rw [if_pos hj2,if_pos (by omega)]
       ·rw [if_neg hj2,if_neg (by omega)]
     rw [← ef]; exact hU'
    ·by_cases hj:j=i
     ·subst hj
      rw [hio] at ho
      obtain rfl:=Option.some.inj ho
      exact ⟨o',o1,fun hx=>absurd hm hx,o2⟩
     ·rw [s3 j hj]; exact hold j o ho
    ·rw [s3 j (by omega)]; exact hrest j (by omega)
   ·refine .inl ⟨(((i+1:Nat):Int),tupS u),_,k-1,?_,?_,by omega,rfl,i+1,u,rfl,by omega,hS,⟨hU.fit,hU.books,hU.now,hU.olen,fun j o ho=>?_,hU.sum,fun j=>?_⟩,hold,fun j hj=>hrest j (by omega)⟩
    ·unfold Zxs
     simp only [tupS,hd1,cond_true,cond_false,hg,Option.bind_some,hcome,hsl,hsub,Zea hrl,hwi,hcr,hc]
    ·unfold Zxr
     show cond (decide ((i:Int)<(u.orders.length:Int))) _ _=_
     rw [hd2]
     simp only [tupS,cond_true,cond_false,hg,Option.bind_some,hcome2,hsl,hsub,Zd0,Zea hrl,hwi,hcr,hc]
    ·by_cases hj:j=i
     ·subst hj
      rw [huo] at ho
      obtain rfl:=Option.some.inj ho
      have hv:=hU.ord j _ huo
      rw [if_neg (Nat.lt_irrefl j)] at hv
      rw [if_pos (Nat.lt_succ_self j)]
      unfold ZhP Zej at hv ⊢
      simp only [Bool.and_eq_true,Bool.not_eq_true'] at hv ⊢
      refine ⟨hv.1,?_⟩
      have h12:=hv.2
      rw [hS.closed]
      refine List.any_eq_false.2 fun y hy hyc=>?_
      have:=List.any_eq_false.1 h12 y hy
      have hyc':=ZdZ.1 hyc
      rcases List.mem_append.1 hyc' with hx | hx
      ·exact this (ZdZ.2 hx)
      ·obtain rfl:=List.mem_singleton.1 hx
       have:ZK (Ze0 w.orders[j]) y=true:=ZdZ.2 hy
       rw [this] at hc; cases hc
     ·have hv:=hU.ord j o ho
      by_cases hj2:j<i
      ·rw [if_pos hj2] at hv
       rw [if_pos (by omega)]; exact hv
      ·rw [if_neg hj2] at hv
       rw [if_neg (by omega)]; exact hv
    ·show (if j<i+1 then u.closed else w.closed).length≤1048576
     split
     ·exact hU.fit.closed
     ·exact hf.closed
  ·have hd1:decide ((i:Int)<(w.orders.length:Int))=false:=decide_eq_false (by omega)
   have hd2:decide ((i:Int)<(u.orders.length:Int))=false:=decide_eq_false (by omega)
   refine .inr ⟨tupS u,_,?_,?_,rfl,u,rfl,hS,?_,hold⟩
   ·unfold Zxs
    simp only [tupS,hd1,cond_false]
   ·unfold Zxr
    show cond (decide ((i:Int)<(u.orders.length:Int))) _ _=_
    rw [hd2]
    simp only [tupS,cond_false]
   refine ⟨hU.fit,hU.books,hU.now,hU.olen,fun j o ho=>?_,hU.sum,fun j=>?_⟩
   ·have hj:=(List.getElem?_eq_some_iff.1 ho).1
    have hv:=hU.ord j o ho
    rw [if_pos (by omega)] at hv
    rw [if_pos (by omega)]; exact hv
   ·show (if j<w.orders.length then u.closed else w.closed).length≤1048576
    split
    ·exact hU.fit.closed
    ·exact hf.closed
 obtain ⟨r,_,e,e2,rfl,u,rfl,hS,hU,hold⟩:=key
 have e':iterF (Zxs t w) NN (0,w.network.change,w.now,w.made,w.network.legs,w.network.off,w.orders,w.bookings,w.closed++[t],w.scans,w.skip)=some (tupS u):=e
 have e2':iterF (Zxr t) NN (0,w.network.change,w.now,w.made,w.network.legs,w.network.off,w.orders,w.bookings,w.closed++[t],w.scans,w.skip)=some (tupS u):=e2
 rw [e',e2',Option.bind_some]
 refine ⟨(u,true),rfl,rfl,.inr ⟨u,rfl,htb,by omega,hnc,by omega,?_,hS,hold⟩⟩
 refine Zpw ⟨hU.fit,hU.books,hU.now,hU.olen,fun j o ho=>?_,hU.sum,fun _=>hU.fit.closed⟩ ⟨?_,by rw [hS.scans]; exact hRs.scans,by rw [hS.skip]; exact hRs.skip,by rw [hS.scans,hS.made]; exact hRs.made,?_,?_⟩
 ·have hj:=(List.getElem?_eq_some_iff.1 ho).1
  have hv:=hU.ord j o ho
  rw [if_pos (by rw [← hS.len]; exact hj)] at hv
  exact hv
 ·rw [hS.closed]; simp only [w1,List.length_append,List.length_cons,List.length_nil]; omega
 ·refine Zdr.2 fun j x hx=>?_
  unfold ZfK
  rw [hS.closed,hS.network] at *
  have hx':(w.closed++[t])[j]?=some x:=hx
  rw [Nat.zero_add]
  show (Zc3 w.network x && !ZK ((w.closed++[t]).take j) x)=true
  by_cases hj:j<w.closed.length
  ·rw [List.getElem?_append_left hj] at hx'
   have:=Zdr.1 hRs.cl j x hx'
   unfold ZfK at this
   rw [Nat.zero_add] at this
   rw [List.take_append_of_le_length (by omega)]
   exact this
  ·rw [List.getElem?_append_right (by omega)] at hx'
   have hj0:j-w.closed.length=0:=by
    have:=(List.getElem?_eq_some_iff.1 hx').1
    simp only [List.length_cons,List.length_nil] at this; omega
   rw [hj0] at hx'
   obtain rfl:t=x:=by simpa using hx'
   rw [show j=w.closed.length by omega,List.take_left,hcl,htb]; rfl
 ·refine Zdr.2 fun j x hx=>?_
  rw [hS.scans] at hx
  have:=Zdr.1 hRs.sc j x hx
  unfold ZkR at this ⊢
  rw [hS.network,hS.now]
  exact this
set_option maxRecDepth 4000
theorem Zsd {t t':TypeId} {l:Nat}:(TK.mk t (some t')).st [.ms l]=TK.mk t (some t'):=nrfl rfl
attribute [go_sem] Zsd
theorem Zm7 {m m':Mem} {α:Type} {f:α→List PV} [hf:PlainC f] {ρ:Nat→Option Nat} {t t':TypeId} {k l j k2 n:Nat} {T2:TK} {es2:List (List PV)} {cs:List PV} {x:α} {xs:List α} (hm:msAt 0 cs=some (l,j)) (h1:Zo5 m=true) (hl:look m l=some ⟨T2,k2,es2⟩) (ht:T2.t=t') (h:cutL ρ m m' cs (f x)):
 cutF ρ m m' ⟨⟨t,some t'⟩,k,(xs.map f).set n cs⟩ ⟨⟨t,some t'⟩,k,(xs.set n x).map f⟩:=by
 by_cases hn:n<xs.length
 ·exact Zjj hn hm h1 hl ht h
 ·rw [List.set_eq_of_length_le (by simpa using hn),List.set_eq_of_length_le (by omega)]
  exact cutB_same
theorem yc {p:Prop} (h:p:=by (try simp only [U_s,U_z]); (with_reducible refine cutS ?_); (first | (with_reducible apply ZpD) | (with_reducible apply ZpE) | (with_reducible apply ZpF) | (with_reducible apply ZpG) | (with_reducible apply ZpH) | (with_reducible apply ZpI) | (with_reducible apply ZpJ) | (with_reducible apply ZpK) | (with_reducible apply ZpL) | (with_reducible apply ZpM) | (with_reducible apply Zm9) | (with_reducible apply Zna) | (with_reducible apply Znb)); (repeat' (first       | (with_reducible exact ZpU) | (with_reducible refine ZpV ?_) | (with_reducible refine ZpW ?_) | (with_reducible refine cutT_un ?_)       | (with_reducible refine cutT_c ?_ ?_)       | (with_reducible exact cutT_nil)       | (with_reducible exact cutV_c rfl)       | exact cutV_c rfl       | (with_reducible exact cutL_nil)       | (with_reducible refine cutL_c ?_ ?_)       | exact .c _ rfl       | exact .un _       | exact cutC_ms rfl rfl       | exact cutC_be rfl rfl       | exact Zhn | exact cutC_nilsl       | exact cutC_nilms rfl rfl       | (refine cutC_fms rfl ?_) | (refine Zjm rfl rfl ?_) | (refine Zln rfl rfl rfl ?_)       | (refine cutC_fbe rfl rfl ?_)       | (with_reducible refine Zlm ?_) | (with_reducible refine cutV_ag ?_)       | (with_reducible refine cutV_tu ?_)       | (with_reducible exact cutAs_nil)       | (with_reducible refine cutAs_c ?_ ?_)       | (with_reducible refine cutA_ag ?_)       | (with_reducible refine cutA_k ?_)       | (with_reducible refine cutV_k ?_)       | (with_reducible exact rowsOk_nil)       | (refine rowsOk_live rfl ?_ ?_)       | (refine ZhS rfl ?_) | (refine rowsOk_new rfl ?_)       | (with_reducible refine rowsOk_dead ?_)       | (with_reducible refine cutB_one ?_)       | (with_reducible exact Zlj)       | (with_reducible refine Zll ?_)       | (with_reducible exact ZpC)       | (with_reducible refine ZpB ?_ ?_)       | (with_reducible exact cutB_same)       | (with_reducible refine Zg3 ?_)       | exact cutB_same       | (refine Zg3 ?_)       | (refine Zlk ?_)       | (refine Zjl ?_)       | (refine Zjk rfl ?_)       | (refine Zik rfl rfl rfl rfl ?_)       | (refine Zm7 rfl rfl rfl rfl ?_)       | (simp only [cInt,cStr,cBool,cB8,Zii,cLabel,cParcel,cZone,cRate,cLeg,cNetwork,cTrip,cBooking,cScan,cOrder,cWorld,cLine,cAct,cOffice,cItem,cChute,cInlet,cCentre,cThing,cBelief])       | (with_unfolding_all rfl))); (all_goals first | (exact dropped_of rfl) | exact none); (first | done | fail)):p:=h
theorem wk4 {p:Prop} (h:p:=by
 (simp only [List.length_cons,List.length_nil,Nat.reduceAdd,Nat.reduceSub,List.replicate_succ,List.replicate_zero,List.cons_append,List.nil_append,go_sem]);
 repeat' (first
  | ((with_reducible refine ZnV ?_ ?_ ?_); (focus (simp [isR])); (focus (simp only [go_sem])); (simp only [List.cons_append,List.nil_append]))
  | ((with_reducible refine ZlU H rfl (by kernel_rfl) ?_); (clear H; intro H; simp only [go_sem,Nat.reduceAdd,Nat.reduceSub,Nat.reduceMul,Nat.reduceLT,Nat.reduceLeDiff,Nat.reduceEqDiff,if_true,eq_self]))
  | ((with_reducible refine Zrv (rhoH H) ?_); (refine Zlh H rfl rfl ?_ ?_ ?_ ?_ ?_ ?_ ?_ ?_); (focus (first | rfl | (simp only [CT.args,List.map_cons,List.map_nil,renA,renC,ren1,sig_z,sig_s,sig_n]; done))); (focus (simp [CT.args,CT.m0,goodA,goodC,lowA,lowC,low1,isR])); (focus (first | exact List.nodup_nil | decide)); (focus ((simp only [CT.m0]); (repeat' (first | exact Zfo | (refine Zfn (by rfl) ?_) | (refine Zfp (by rfl) (by rfl) (by simp [goodC,lowC,low1,isR]) ?_))))); (focus (intro y_; simp [CT.mem,CT.m0])); (focus (intro y_; (simp only [CT.mem]); (repeat (first | exact Zjw | exact Zfz | exact Zgy | (refine hm_c Zfz ?_) | (refine hm_c (Zbz (by simp [goodC,isR])) ?_) | exact Zbz (by simp [goodC,isR]) | (refine Zhz ?_))))); (focus (intro y_; (simp [CT.res,goodV,goodA,goodC,isR]))); (clear H; intro y_ hy H; simp only [CT.res,CT.mem,putIn,List.drop_succ_cons,List.drop_zero,Option.map_none,go_sem,Nat.reduceAdd,Nat.reduceSub,Nat.reduceMul,Nat.reduceLT,Nat.reduceLeDiff,Nat.reduceEqDiff,if_true,eq_self]))
  | ((with_reducible refine jnS (jnH H) ?_); (first | ((refine Zn4 H ?_ ?_ (fun K_ hL H=>?_) (fun o_ H=>?_)); (focus (decide +kernel)); (focus (decide +kernel))) | ((refine Zn3 H ?_ ?_ (fun K_ hL H=>?_) (fun o_ H=>?_)); (focus (decide +kernel)); (focus (decide +kernel)))))
  | ((with_reducible refine rhoS (rhoH H) ?_); (refine ZmW H rfl rfl rfl ?_ ?_ ?_ ?_ ?_ ?_ ?_ ?_); (focus (first | rfl | (simp only [CT.args,List.map_cons,List.map_nil,renA,renC,ren1,sig_z,sig_s,sig_n]; done))); (focus (simp [CT.args,CT.m0,goodA,goodC,lowA,lowC,low1,isR])); (focus (first | exact List.nodup_nil | decide)); (focus ((simp only [CT.m0]); (repeat' (first | exact Zfo | (refine Zfn (by rfl) ?_) | (refine Zfp (by rfl) (by rfl) (by simp [goodC,lowC,low1,isR]) ?_))))); (focus (intro y_; simp [CT.mem,CT.m0])); (focus (intro y_; (simp only [CT.mem]); (repeat (first | exact Zjw | exact Zfz | exact Zgy | (refine hm_c Zfz ?_) | (refine hm_c (Zbz (by simp [goodC,isR])) ?_) | exact Zbz (by simp [goodC,isR]) | (refine Zhz ?_))))); (focus (intro y_; (simp [CT.res,goodV,goodA,goodC,isR]))); (clear H; intro y_ hy H; simp only [CT.res,CT.mem,putIn,List.drop_succ_cons,List.drop_zero,Option.map_none,go_sem,Nat.reduceAdd,Nat.reduceSub,Nat.reduceMul,Nat.reduceLT,Nat.reduceLeDiff,Nat.reduceEqDiff,if_true,eq_self]))
  | ((with_reducible refine ZlV H ?_ ?_); (focus (exact yc)); (clear H; intro z_ H))
  | ((with_reducible refine Zn2 H ?_ ?_); (focus (exact yc)); (clear H; intro H))
  | ((with_reducible refine pwp_seq ?_); intro K_ hK)
  | ((with_reducible refine pwp_block ?_))
  | ((with_reducible refine pwp_region ?_); simp only [go_sem,Nat.reduceAdd,Nat.reduceSub,Nat.reduceMul,Nat.reduceLT,Nat.reduceLeDiff,Nat.reduceEqDiff,if_true,eq_self])
  | ((with_reducible refine pwp_skip ?_); (try simp only [thenP_normal,blockP_normal]))
  | ((with_reducible refine pwp_exit ?_); (simp only [thenP_exit,blockP_exit,thenP_normal,blockP_normal,if_true,if_false,eq_self,Nat.reduceEqDiff,Nat.one_ne_zero,Nat.zero_ne_one]); (try simp only [bexR,bsr,bsl] at H))
  | ((with_reducible refine pwp_ret ?_); (try simp only [thenP_ret,blockP_ret]))
  | ((with_reducible refine hQ _ _ ?_); (try simp only [bexR,bsr,bsl] at H); replace H:=Hret H; subst H; simp only [Fin,resP,oneP,go_sem,Nat.reduceAdd,Nat.reduceSub,Nat.reduceMul,Nat.reduceLT,Nat.reduceLeDiff,Nat.reduceEqDiff,if_true,eq_self]; exact yc)
  | ((with_reducible refine hQn _ _ ?_); (try simp only [bexR,bsr,bsl] at H); replace H:=Hret H; subst H; simp only [Fin,resP,oneP,go_sem,Nat.reduceAdd,Nat.reduceSub,Nat.reduceMul,Nat.reduceLT,Nat.reduceLeDiff,Nat.reduceEqDiff,if_true,eq_self]; exact yc)
  | ((with_reducible refine Zri ?_); (refine gate2_intro (fun hg=>Hc1k H hg ?_) (fun hg=>Hc2k H hg ?_)) <;> (clear H; intro H; simp only [go_sem,Nat.reduceAdd,Nat.reduceSub,Nat.reduceMul,Nat.reduceLT,Nat.reduceLeDiff,Nat.reduceEqDiff,if_true,eq_self]))
  | ((with_reducible refine pwp_condE ?_); simp only [evP_tmp,getD_z,getD_s,evP_bool]; (first | (with_reducible refine condP_tt ?_) | (with_reducible refine condP_ff ?_) | ((refine condP_intro (fun hg=>Hc1k H hg ?_) (fun hg=>Hc2k H hg ?_)) <;> (clear H; intro H))))
  | ((with_reducible refine idxS ?_); replace H:=Hcall H; obtain ⟨y_,hy,H⟩:=H; (with_reducible apply idx_sl hy); (focus (first | (simp only [go_sem]; done) | (simp only [go_sem]; decide))); (focus (first | rfl | (simp only [go_sem]; rfl))); simp only [go_sem,Nat.reduceAdd,Nat.reduceSub,Nat.reduceMul,Nat.reduceLT,Nat.reduceLeDiff,Nat.reduceEqDiff,if_true,eq_self])
  | ((with_reducible refine idxM ?_); replace H:=Hcall H; obtain ⟨y_,hy,H⟩:=H; (first | (refine Zns hy (by rfl) (by first | (simp only [go_sem]; done) | (simp only [go_sem]; decide)) (by first | rfl | (simp only [go_sem]; rfl)) ?_) | (refine Zlz hy (by rfl) (by first | (simp only [go_sem]; done) | (simp only [go_sem]; decide)) (by first | rfl | (simp only [go_sem]; rfl)) ?_)); simp only [go_sem,Nat.reduceAdd,Nat.reduceSub,Nat.reduceMul,Nat.reduceLT,Nat.reduceLeDiff,Nat.reduceEqDiff,if_true,eq_self])
  | ((with_reducible refine idxB ?_); replace H:=Hcall H; obtain ⟨y_,hy,H⟩:=H; (with_reducible apply idx_str hy); (focus (simp only [go_sem])); simp only [go_sem,Nat.reduceAdd,Nat.reduceSub,Nat.reduceMul,Nat.reduceLT,Nat.reduceLeDiff,Nat.reduceEqDiff,if_true,eq_self])
  | ((with_reducible refine Zq6 ?_); replace H:=Hcall H; obtain ⟨y_,hy,H⟩:=H; (first | ((with_reducible apply call_deep); (focus (exact CT.ok hy)); (focus (simp [isCA,isC,isC1])); (focus (exact Nat.le_of_ble_eq_true rfl)); (focus (exact xf)); (focus (first | exact ZoM rfl | exact ZoN rfl | exact Zlv rfl | exact Zlw rfl | exact (fun h=>(by cases h)) | (simp [CT.res,goodV,goodA,goodC,isR]))); (simp only [CT.res,CT.mem,go_sem,Nat.reduceAdd,Nat.reduceSub,Nat.reduceMul,Nat.reduceLT,Nat.reduceLeDiff,Nat.reduceEqDiff,if_true,eq_self])) | ((with_reducible apply call_deep); (focus (exact xs)); (focus (simp [isCA,isC,isC1])); (focus (exact Nat.le_of_ble_eq_true rfl)); (focus (exact xf)); (focus (first | exact ZoM rfl | exact ZoN rfl | exact Zlv rfl | exact Zlw rfl | exact (fun h=>(by cases h)) | (simp [CT.res,goodV,goodA,goodC,isR]))); (simp only [CT.res,CT.mem,go_sem,Nat.reduceAdd,Nat.reduceSub,Nat.reduceMul,Nat.reduceLT,Nat.reduceLeDiff,Nat.reduceEqDiff,if_true,eq_self])) | ((with_reducible apply call_flat); (focus (first | (simp only [snapA,ZgX,Zgl,ZgW,live_look,look_z,look_s,rowQ_map,drop_mp,take_mp,List.forall_mem_nil,true_and,and_true,if_true]; (first | exact CT.ok hy | (simp only [all_nil,all_cons,isC,isC1,true_and,and_true,if_true]; exact CT.ok hy))) | (simp only [snapA,ZgX,Zgl,ZgW,live_look,look_z,look_s,rowQ_map,drop_mp,take_mp,List.forall_mem_nil,true_and,and_true,if_true]; (first | (exact xs) | (simp only [all_nil,all_cons,isC,isC1,true_and,and_true,if_true]; (exact xs)))) | (simp only [snapA,ZgX,Zgl,ZgW,live_look,look_z,look_s,rowQ_map,drop_mp,take_mp,List.forall_mem_nil,true_and,and_true,if_true]; (exact xs)))); (focus (exact Nat.le_of_ble_eq_true rfl)); (focus (exact xf)); (focus (first | exact ZpR rfl | exact (fun _=>rfl) | (simp [CT.res,goodV,goodA,goodC,isF]))); (simp only [CT.res,CT.mem,go_sem,Nat.reduceAdd,Nat.reduceSub,Nat.reduceMul,Nat.reduceLT,Nat.reduceLeDiff,Nat.reduceEqDiff,if_true,eq_self]))))
  | ((with_reducible refine slcS ?_); replace H:=Hchk H; obtain ⟨hc,H⟩:=H; (first | ((with_reducible apply slice_sl hc); (focus rfl); (focus rfl); (focus (first | (simp only [go_sem]; done) | (simp only [go_sem]; decide))); (focus (first | rfl | (intro x_; rfl))); simp only [go_sem,Nat.reduceAdd,Nat.reduceSub,Nat.reduceMul,Nat.reduceLT,Nat.reduceLeDiff,Nat.reduceEqDiff,if_true,eq_self]) | ((refine Zj5 hc (by rfl) (by rfl) (by rfl) (by first | (simp only [go_sem]; done) | (simp only [go_sem]; decide)) (by first | rfl | (simp only [go_sem]; rfl)) ?_); simp only [go_sem,Nat.reduceAdd,Nat.reduceSub,Nat.reduceMul,Nat.reduceLT,Nat.reduceLeDiff,Nat.reduceEqDiff,if_true,eq_self]) | ((with_reducible apply slice_str hc); (focus rfl); (focus rfl); (focus (simp only [go_sem])); simp only [go_sem,Nat.reduceAdd,Nat.reduceSub,Nat.reduceMul,Nat.reduceLT,Nat.reduceLeDiff,Nat.reduceEqDiff,if_true,eq_self])))
  | ((with_reducible refine appS ?_); replace H:=Hchk H; obtain ⟨hc,H⟩:=H; (first | (refine ZmR hc (by first | (simp only [go_sem]; done) | (simp only [go_sem]; rfl)) (by first | (simp only [go_sem]; done) | (simp only [go_sem]; rfl)) (by first | (simp only [go_sem]; done) | (simp only [go_sem]; rfl)) (by first | (simp only [go_sem]; done) | (simp only [go_sem]; rfl)) (by rfl) (by first | rfl | exact ZiZ (by rfl) (by rfl) (by rfl)) rfl rfl (by intro x_; rfl) rfl ?_) | (refine ZmS hc (by first | (simp only [go_sem]; done) | (simp only [go_sem]; rfl)) (by first | (simp only [go_sem]; done) | (simp only [go_sem]; rfl)) (by first | (simp only [go_sem]; done) | (simp only [go_sem]; rfl)) (by first | (simp only [go_sem]; done) | (simp only [go_sem]; rfl)) (by first | rfl | exact ZiZ (by rfl) (by rfl) (by rfl)) rfl rfl (by intro x_; rfl) ?_) | (refine ZmQ hc rfl (by first | (simp only [go_sem]; done) | (simp only [go_sem]; rfl)) (by first | (simp only [go_sem]; done) | (simp only [go_sem]; rfl)) (by first | (simp only [go_sem]; done) | (simp only [go_sem]; rfl)) (by first | (simp only [go_sem]; done) | (simp only [go_sem]; rfl)) (by rfl) (by rfl) (by rfl) (by rfl) rfl rfl (by rfl) ?_)); simp only [go_sem,Nat.reduceAdd,Nat.reduceSub,Nat.reduceMul,Nat.reduceLT,Nat.reduceLeDiff,Nat.reduceEqDiff,if_true,eq_self])
  | ((with_reducible refine mkS ?_); replace H:=Hchk H; obtain ⟨hc,H⟩:=H; (refine ZpX hc (by first | (simp only [go_sem]; done) | (simp only [go_sem]; rfl)) (by first | (simp only [go_sem]; done) | (simp only [go_sem]; rfl)) (by first | (simp only [go_sem]; done) | (simp only [go_sem]; rfl)) (by first | (simp only [go_sem]; done) | (simp only [go_sem]; rfl)) rfl rfl ?_); simp only [go_sem,Nat.reduceAdd,Nat.reduceSub,Nat.reduceMul,Nat.reduceLT,Nat.reduceLeDiff,Nat.reduceEqDiff,if_true,eq_self])
  | ((with_reducible refine optS ?_); (first | (with_reducible refine opt_if (by decide) ?_) | (replace H:=Hchk H; obtain ⟨hc,H⟩:=H; (first | (refine opt_if hc ?_) | (refine opt_if (of_decide_eq_true hc) ?_) | (refine opt_if ⟨rfl,of_decide_eq_true hc⟩ ?_)))); simp only [go_sem,Nat.reduceAdd,Nat.reduceSub,Nat.reduceMul,Nat.reduceLT,Nat.reduceLeDiff,Nat.reduceEqDiff,if_true,eq_self])
  | ((with_reducible refine Zro ?_); (refine pwp_loopH (Hlp H) ?_ ?_); (focus (simp only [LoopE.T,LoopE.M,U_s,U_z]; exact yc)); (clear H; intro n_ s_ H K_ hL; replace H:=Hrd H; simp only [LoopE.T,LoopE.M,U_s,U_z]))
  | ((with_reducible refine pwp_draw (by kernel_rfl) ?_); simp only [go_sem,Nat.reduceAdd,Nat.reduceSub,Nat.reduceMul,Nat.reduceLT,Nat.reduceLeDiff,Nat.reduceEqDiff,if_true,eq_self])
  | ((with_reducible refine endD_intro (by kernel_rfl) ?_); (try simp only [thenP_normal,blockP_normal]))
  | ((with_reducible refine hK _ _ ?_); clear hK)
  | (clear hK; (with_reducible refine hK _ _ ?_); clear hK)
  | (clear hK; clear hK; (with_reducible refine hK _ _ ?_); clear hK)
  | (clear hK; clear hK; clear hK; (with_reducible refine hK _ _ ?_); clear hK)
  | (clear hK; clear hK; clear hK; clear hK; (with_reducible refine hK _ _ ?_); clear hK)
  | (clear hK; clear hK; clear hK; clear hK; clear hK; (with_reducible refine hK _ _ ?_); clear hK)
  | ((with_reducible refine And.intro ?_ ?_); omega)
  | (simp only [nxt_app,nxd_app,nxe_app,atM_app]; simp only [go_sem,Nat.reduceAdd,Nat.reduceSub,Nat.reduceMul,Nat.reduceLT,Nat.reduceLeDiff,Nat.reduceEqDiff,if_true,eq_self])
  | ((first | simp only [lit3 hy,Option.map_some,List.drop_zero,go_sem] | simp only [ZoX hy,Option.map_some,List.drop_zero,go_sem] | simp only [ZiJ hy,ZfA hy,ZgM hy,go_sem,Nat.reduceAdd,Nat.reduceSub,Nat.reduceMul,Nat.reduceLT,Nat.reduceLeDiff,Nat.reduceEqDiff,if_true,eq_self] | simp only [ZfA hy,ZgM hy,go_sem,Nat.reduceAdd,Nat.reduceSub,Nat.reduceMul,Nat.reduceLT,Nat.reduceLeDiff,Nat.reduceEqDiff,if_true,eq_self]))
  | ((with_reducible replace H:=HexL H); (with_reducible refine hL _ _ _ H ?_); (try simp only [LoopE.T,LoopE.M,U_s,U_z]); exact yc)
  | ((with_reducible replace H:=HexL H); clear hL; (with_reducible refine hL _ _ _ H ?_); (try simp only [LoopE.T,LoopE.M,U_s,U_z]); exact yc)
  | ((with_reducible refine jnX H hL ?_); exact yc)
  | (with_reducible exact (Zq1 H).elim)
  | ((with_reducible replace H:=rgH H); obtain ⟨y_,hy,H⟩:=H; (first | simp only [lit3 hy,Option.map_some,List.drop_zero,go_sem] | simp only [ZoX hy,Option.map_some,List.drop_zero,go_sem] | simp only [ZiJ hy,ZfA hy,ZgM hy,go_sem,Nat.reduceAdd,Nat.reduceSub,Nat.reduceMul,Nat.reduceLT,Nat.reduceLeDiff,Nat.reduceEqDiff,if_true,eq_self] | simp only [ZfA hy,ZgM hy,go_sem,Nat.reduceAdd,Nat.reduceSub,Nat.reduceMul,Nat.reduceLT,Nat.reduceLeDiff,Nat.reduceEqDiff,if_true,eq_self])))):p:=h
def Zew (w:YWorld) (id:Int) (y2:Int) (s0:Int × (List YBooking)):Option ((Int × (List YBooking)) ⊕ (List YBooking)):=
 cond (decide (s0.1<(w.bookings.length:Int)))
 ((getI w.bookings s0.1).bind fun y3=>
 cond (!decide (y3.thing=id))
 ((chk (appOk ((s0.2:List YBooking).length+([y3]:List YBooking).length) 32)).bind fun _=>
 some (.inl ((w64 (s0.1+1)),((s0.2:List YBooking)++[y3]))))
 ((rgI w.orders (w64 (id-1))).bind fun y4=>
 (chk (slOk y2 (y4.way.length:Int) y4.way.length)).bind fun _=>
 (ZaC (subL y4.way y2 (y4.way.length:Int)) y3.trip).bind fun y5=>
 cond (!y5)
 ((chk (appOk ((s0.2:List YBooking).length+([y3]:List YBooking).length) 32)).bind fun _=>
 some (.inl ((w64 (s0.1+1)),((s0.2:List YBooking)++[y3]))))
 (some (.inl ((w64 (s0.1+1)),s0.2)))))
 (some (.inr s0.2))
instance (w:YWorld) (id:Int) (y2:Int):LoopE (Zew w id y2):=⟨fun s0=>(.be 0 0 0::vi id::.un::.un::.be 3 (Int.toNat (w64 (id-1))) 0::vi y2::.ms 8::(U 22 (.ms 4::vi (w.bookings.length:Int)::vi s0.1::(U 132 [])))),fun s0=>[some ⟨.of 41,10,[[.ms 1,.ms 2,vi w.network.change,.ms 3,.ms 4,.ms 5,vi w.now,.ms 6,.ms 7,vi w.made]]⟩,some ⟨.of 67,6,w.network.legs.map cLeg⟩,some ⟨.of 3,1,w.network.off.map cInt⟩,some ⟨⟨62,some 55⟩,11,w.orders.map cOrder⟩,some ⟨.of 135,4,w.bookings.map cBooking⟩,some ⟨.of 55,2,w.closed.map cTrip⟩,some ⟨.of 130,6,w.scans.map cScan⟩,some ⟨.of 3,1,w.skip.map cInt⟩,some ⟨.of 135,4,s0.2.map cBooking⟩]⟩
def Zeh (w:YWorld) (id:Int):Option YWorld:=
 (getI w.orders (w64 (id-1))).bind fun y1=>
 (Zbq y1).bind fun y2=>
 (iterF (Zew w id y2) NN (0,([]:List YBooking))).bind (fun o0=>
 (rgI w.orders (w64 (id-1))).bind fun y6=>
 (chk (slOk 0 y2 y6.way.length)).bind fun _=>
 (ZA (subL y6.way 0 y2)).bind fun y7=>
 (rgI w.orders (w64 (id-1))).bind fun y8=>
 cond (decide (0<y2))
 ((getI y7 (w64 (y2-1))).bind fun y9=>
 (ZF w.network y9).bind fun y10=>
 (rgI w.orders (w64 (id-1))).bind fun y11=>
 (ZaD w.network (⟨y8.from_,y8.to_,y8.service,y8.weight,y8.at_,y8.due,y7,y8.gone,y8.state,y8.place,y8.ended⟩:YOrder)).bind fun y12=>
 (rgI w.orders (w64 (id-1))).bind fun y13=>
 (ZaF w.network o0 w.closed y12 y8.to_ (if (w64 (y10+w.network.change)) > (w64 (w.now+1)) then (w64 (y10+w.network.change)) else (w64 (w.now+1))) y8.weight).bind fun y14=>
 cond (!y14.2)
 (some (⟨w.network,(w.orders.set (Int.toNat (w64 (id-1))) (⟨y8.from_,y8.to_,y8.service,y8.weight,y8.at_,y8.due,y7,y8.gone,y8.state,y8.place,y8.ended⟩:YOrder)),o0,w.closed,w.now,w.scans,w.skip,w.made⟩:YWorld))
 ((rgI w.orders (w64 (id-1))).bind fun y15=>
 (ZaB w.network o0 id y8.weight y14.1).bind fun y16=>
 cond y16.2
 ((rgI w.orders (w64 (id-1))).bind fun y17=>
 (chk (appOk ((y7:List YTrip).length+(y14.1:List YTrip).length) 16)).bind fun _=>
 some (⟨w.network,(w.orders.set (Int.toNat (w64 (id-1))) (⟨y8.from_,y8.to_,y8.service,y8.weight,y8.at_,y8.due,((y7:List YTrip)++y14.1),y8.gone,y8.state,y8.place,y8.ended⟩:YOrder)),y16.1,w.closed,w.now,w.scans,w.skip,w.made⟩:YWorld))
 (some (⟨w.network,(w.orders.set (Int.toNat (w64 (id-1))) (⟨y8.from_,y8.to_,y8.service,y8.weight,y8.at_,y8.due,y7,y8.gone,y8.state,y8.place,y8.ended⟩:YOrder)),o0,w.closed,w.now,w.scans,w.skip,w.made⟩:YWorld))))
 ((ZaD w.network (⟨y8.from_,y8.to_,y8.service,y8.weight,y8.at_,y8.due,y7,y8.gone,y8.state,y8.place,y8.ended⟩:YOrder)).bind fun y18=>
 (rgI w.orders (w64 (id-1))).bind fun y19=>
 (ZaF w.network o0 w.closed y18 y8.to_ (w64 (w.now+1)) y8.weight).bind fun y20=>
 cond (!y20.2)
 (some (⟨w.network,(w.orders.set (Int.toNat (w64 (id-1))) (⟨y8.from_,y8.to_,y8.service,y8.weight,y8.at_,y8.due,y7,y8.gone,y8.state,y8.place,y8.ended⟩:YOrder)),o0,w.closed,w.now,w.scans,w.skip,w.made⟩:YWorld))
 ((rgI w.orders (w64 (id-1))).bind fun y21=>
 (ZaB w.network o0 id y8.weight y20.1).bind fun y22=>
 cond y22.2
 ((rgI w.orders (w64 (id-1))).bind fun y23=>
 (chk (appOk ((y7:List YTrip).length+(y20.1:List YTrip).length) 16)).bind fun _=>
 some (⟨w.network,(w.orders.set (Int.toNat (w64 (id-1))) (⟨y8.from_,y8.to_,y8.service,y8.weight,y8.at_,y8.due,((y7:List YTrip)++y20.1),y8.gone,y8.state,y8.place,y8.ended⟩:YOrder)),y22.1,w.closed,w.now,w.scans,w.skip,w.made⟩:YWorld))
 (some (⟨w.network,(w.orders.set (Int.toNat (w64 (id-1))) (⟨y8.from_,y8.to_,y8.service,y8.weight,y8.at_,y8.due,y7,y8.gone,y8.state,y8.place,y8.ended⟩:YOrder)),o0,w.closed,w.now,w.scans,w.skip,w.made⟩:YWorld)))))
instance (w:YWorld) (id:Int):CT Tryz.prog (Zeh w id):=⟨128,[.be 0 0 0,vi id],[some ⟨.of 41,10,[[.ms 1,.ms 2,vi w.network.change,.ms 3,.ms 4,.ms 5,vi w.now,.ms 6,.ms 7,vi w.made]]⟩,some ⟨.of 67,6,w.network.legs.map cLeg⟩,some ⟨.of 3,1,w.network.off.map cInt⟩,some ⟨⟨62,some 55⟩,11,w.orders.map cOrder⟩,some ⟨.of 135,4,w.bookings.map cBooking⟩,some ⟨.of 55,2,w.closed.map cTrip⟩,some ⟨.of 130,6,w.scans.map cScan⟩,some ⟨.of 3,1,w.skip.map cInt⟩],fun r=>.tu [],fun r=>[some ⟨.of 41,10,[[.ms 1,.ms 2,vi r.network.change,.ms 3,.ms 8,.ms 5,vi r.now,.ms 6,.ms 7,vi r.made]]⟩,some ⟨.of 67,6,r.network.legs.map cLeg⟩,some ⟨.of 3,1,r.network.off.map cInt⟩,some ⟨⟨62,some 55⟩,11,r.orders.map cOrder⟩,none,some ⟨.of 55,2,r.closed.map cTrip⟩,some ⟨.of 130,6,r.scans.map cScan⟩,some ⟨.of 3,1,r.skip.map cInt⟩,some ⟨.of 135,4,r.bookings.map cBooking⟩],fun H=>by replace H:=H0 H; unfold Zeh at H; exact callM_of Tryz.func128 rfl Tryz.ntmps128 Tryz.results128 fun Q hQ hQn=>wk4⟩
def Zxw (t:YTrip) (y1:YWorld) (s0:Int × Int × Int × Int × (List YLeg) × (List Int) × (List YOrder) × (List YBooking) × (List YTrip) × (List YScan) × (List Int)):Option ((Int × Int × Int × Int × (List YLeg) × (List Int) × (List YOrder) × (List YBooking) × (List YTrip) × (List YScan) × (List Int)) ⊕ (Int × Int × Int × (List YLeg) × (List Int) × (List YOrder) × (List YBooking) × (List YTrip) × (List YScan) × (List Int))):=
 cond (decide (s0.1<(y1.orders.length:Int)))
 ((getI s0.2.2.2.2.2.2.1 s0.1).bind fun y6=>
 (Zbq y6).bind fun y7=>
 (chk (slOk y7 (y6.way.length:Int) y6.way.length)).bind fun _=>
 (ZaC (subL y6.way y7 (y6.way.length:Int)) t).bind fun y8=>
 cond y8
 ((rhoM [2,3,4,5,6,7,8,9]).bind fun _=>
 (Zeh (⟨(⟨s0.2.2.2.2.1,s0.2.2.2.2.2.1,s0.2.1⟩:YNetwork),s0.2.2.2.2.2.2.1,s0.2.2.2.2.2.2.2.1,s0.2.2.2.2.2.2.2.2.1,s0.2.2.1,s0.2.2.2.2.2.2.2.2.2.1,s0.2.2.2.2.2.2.2.2.2.2,s0.2.2.2.1⟩:YWorld) (w64 (s0.1+1))).bind fun y9=>
 some (.inl ((w64 (s0.1+1)),y9.network.change,y9.now,y9.made,y9.network.legs,y9.network.off,y9.orders,y9.bookings,y9.closed,y9.scans,y9.skip)))
 (some (.inl ((w64 (s0.1+1)),s0.2.1,s0.2.2.1,s0.2.2.2.1,s0.2.2.2.2.1,s0.2.2.2.2.2.1,s0.2.2.2.2.2.2.1,s0.2.2.2.2.2.2.2.1,s0.2.2.2.2.2.2.2.2.1,s0.2.2.2.2.2.2.2.2.2.1,s0.2.2.2.2.2.2.2.2.2.2))))
 (some (.inr (s0.2.1,s0.2.2.1,s0.2.2.2.1,s0.2.2.2.2.1,s0.2.2.2.2.2.1,s0.2.2.2.2.2.2.1,s0.2.2.2.2.2.2.2.1,s0.2.2.2.2.2.2.2.2.1,s0.2.2.2.2.2.2.2.2.2.1,s0.2.2.2.2.2.2.2.2.2.2)))
instance (t:YTrip) (y1:YWorld):LoopE (Zxw t y1):=⟨fun s0=>(U 3 (.be 0 0 0::.be 1 0 0::.un::.be 2 0 0::(U 44 (vi (y1.orders.length:Int)::vi s0.1::(U 19 []))))),fun s0=>[some ⟨.of 55,2,[[vi t.leg,vi t.day]]⟩,some ⟨.of 41,10,[[.v (.slice none 0 0),.v (.slice none 0 0),vi 0,.v (.slice none 0 0),.v (.slice none 0 0),.v (.slice none 0 0),vi 0,.v (.slice none 0 0),.v (.slice none 0 0),vi 0]]⟩,some ⟨.of 41,10,[[.ms 3,.ms 4,vi s0.2.1,.ms 5,.ms 6,.ms 7,vi s0.2.2.1,.ms 8,.ms 9,vi s0.2.2.2.1]]⟩,some ⟨.of 67,6,s0.2.2.2.2.1.map cLeg⟩,some ⟨.of 3,1,s0.2.2.2.2.2.1.map cInt⟩,some ⟨⟨62,some 55⟩,11,s0.2.2.2.2.2.2.1.map cOrder⟩,some ⟨.of 135,4,s0.2.2.2.2.2.2.2.1.map cBooking⟩,some ⟨.of 55,2,s0.2.2.2.2.2.2.2.2.1.map cTrip⟩,some ⟨.of 130,6,s0.2.2.2.2.2.2.2.2.2.1.map cScan⟩,some ⟨.of 3,1,s0.2.2.2.2.2.2.2.2.2.2.map cInt⟩]⟩
def Zxv (w:YWorld) (t:YTrip):Option (YWorld × Bool):=
 (Zdz w).bind fun y1=>
 (Zdi w).bind fun y2=>
 cond (!y2)
 (some (y1,false))
 ((ZW w.network t).bind fun y3=>
 cond (!y3)
 (some (y1,false))
 ((Zah w.network t).bind fun y4=>
 cond (decide (y4≤w.now))
 (some (y1,false))
 ((ZaC w.closed t).bind fun y5=>
 cond y5
 (some (y1,false))
 (cond (decide (20≤(w.closed.length:Int)))
 (some (y1,false))
 ((chk (appOk ((y1.closed:List YTrip).length+([t]:List YTrip).length) 16)).bind fun _=>
 (iterF (Zxw t y1) NN (0,y1.network.change,y1.now,y1.made,y1.network.legs,y1.network.off,y1.orders,y1.bookings,((y1.closed:List YTrip)++[t]),y1.scans,y1.skip)).bind (fun o0=>
 some ((⟨(⟨o0.2.2.2.1,o0.2.2.2.2.1,o0.1⟩:YNetwork),o0.2.2.2.2.2.1,o0.2.2.2.2.2.2.1,o0.2.2.2.2.2.2.2.1,o0.2.1,o0.2.2.2.2.2.2.2.2.1,o0.2.2.2.2.2.2.2.2.2,o0.2.2.1⟩:YWorld),true)))))))
instance (w:YWorld) (t:YTrip):CT Tryz.prog (Zxv w t):=⟨43,[.ag (cWorld w),.ag (cTrip t)],[],fun r=>.tu [.ag [.ms 0,.ms 1,vi r.1.network.change,.ms 2,.ms 3,.ms 4,vi r.1.now,.ms 5,.ms 6,vi r.1.made],vb r.2],fun r=>[some ⟨.of 67,6,r.1.network.legs.map cLeg⟩,some ⟨.of 3,1,r.1.network.off.map cInt⟩,some ⟨⟨62,some 55⟩,11,r.1.orders.map cOrder⟩,some ⟨.of 135,4,r.1.bookings.map cBooking⟩,some ⟨.of 55,2,r.1.closed.map cTrip⟩,some ⟨.of 130,6,r.1.scans.map cScan⟩,some ⟨.of 3,1,r.1.skip.map cInt⟩],fun H=>by replace H:=H0 H; unfold Zxv at H; exact callM_of Tryz.func43 rfl Tryz.ntmps43 Tryz.results43 fun Q hQ hQn=>wk4⟩
set_option maxRecDepth 100000
theorem ZxI (w:YWorld) (t:YTrip):Zxv w t=Zxu w t:=rfl
theorem ZxC {w:YWorld} (hf:WFit w) (hv:Zek w=false) (t:YTrip):Zxu w t=some (w,false)∧Zxt w t=some (w,false):=by
 unfold Zxu Zxt
 rw [Zm3 hf,Zm4 hf,Option.bind_some,Option.bind_some,Ziq hf,Ziw hf,hv,Option.bind_some,Option.bind_some]
 exact ⟨rfl,rfl⟩
theorem ZxJ {x:YWorld} (ht:totWorld x≤1048576) (t:YTrip):∃ (g:YWorld) (b:Bool),Zxv x t=some (g,b)∧Zxt x t=some (g,b)∧ZaZ g g=some true∧Zh4 g 1:=by
 have hf:=Zk5 ht
 rw [ZxI]
 cases hv:Zek x with
 | false=>exact ⟨x,false,(ZxC hf hv t).1,(ZxC hf hv t).2,eqrW hf,ZnI ht⟩
 | true=>
  obtain ⟨r,h1,h2,h3⟩:=ZxG ⟨hf,hv⟩ t
  rcases h3 with rfl | ⟨y,rfl,hs⟩
  ·exact ⟨_,_,h1,h2,eqrW hf,ZnI ht⟩
  ·exact ⟨_,_,h1,h2,eqrW hs.ok.fit,hs.ok.mkFit⟩
end Go.Proofs.YtmcdjilbkmhfoaaGreat
