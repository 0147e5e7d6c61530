/- A part of the proof of the statement in the last file of this claim: texts on the language of the program and on its functions. No condition. -/
import Derived.Test.YtmcdjilbkmhfoaaGreatCRetryOrders11
import Derived.Test.YtmcdjilbkmhfoaaGreatCRetryOrders5
import Derived.Test.YtmcdjilbkmhfoaaGreatCRetryOrders8
import Derived.Test.YtmcdjilbkmhfoaaGreatCRetryOrders7
import Derived.Test.YtmcdjilbkmhfoaaGreatCRetryOrders9
import Derived.Test.YtmcdjilbkmhfoaaGreatCRetryOrders10
set_option linter.unusedVariables false
set_option linter.unusedSimpArgs false
namespace Go.Proofs.YtmcdjilbkmhfoaaGreat
set_option maxRecDepth 10000
open Go.RowKit
set_option linter.unusedVariables false
set_option linter.unusedSimpArgs false
set_option linter.unusedSectionVars false
theorem ZbL {α β:Type} {x:Option α} {f:α→Option β} {r:β}:x.bind f=some r↔∃ a,x=some a∧f a=some r:=by
 cases x <;> simp
theorem ZmZ {α:Type} {b:Bool} {x y:α} {P:α→Prop} (h:b=true→P x) (k:b=false→P y):P (cond b x y):=by
 cases b with
 | true=>exact h rfl
 | false=>exact k rfl
theorem Zoc {n:YNetwork} {l:List YBooking} {closed:List YTrip} {from_ to_:ByteArray} {at_ weight:Int} {x:List YTrip} (h:Zq n l closed from_ to_ at_ weight=some (x,false)):x=[]:=by
 unfold Zq at h
 obtain ⟨y1,_,h⟩:=ZbL.1 h
 obtain ⟨y2,_,h⟩:=ZbL.1 h
 obtain ⟨y3,_,h⟩:=ZbL.1 h
 obtain ⟨y4,_,h⟩:=ZbL.1 h
 revert h
 have nil:(some (([]:List YTrip),false))=some (x,false)→x=[]:=fun e=>by
  have:=congrArg Prod.fst (Option.some.inj e); exact this.symm
 refine ZmZ (P:=fun z=>z=some (x,false)→x=[]) (fun _=>nil) fun _=>ZmZ (P:=fun z=>z=some (x,false)→x=[]) (fun _=>nil) fun _ h=>?_
 obtain ⟨y5,_,h⟩:=ZbL.1 h
 revert h
 refine ZmZ (P:=fun z=>z=some (x,false)→x=[]) (fun _=>nil) fun _ h=>?_
 obtain ⟨y6,_,h⟩:=ZbL.1 h
 obtain ⟨o0,_,h⟩:=ZbL.1 h
 obtain ⟨o1,_,h⟩:=ZbL.1 h
 have:=congrArg Prod.snd (Option.some.inj h)
 cases this
section
variable {w:YWorld} {c:Nat→List YTrip} (h:Zi6 w c) {i:Nat} {o:YOrder} (ho:w.orders[i]?=some o)
include h ho
theorem ZkO {a b:Nat} {s t:YTrip} (hab:a<b) (ha:o.way[a]?=some s) (hb:o.way[b]?=some t):ZbH w.network s≤Zbp w.network t∧Zbp w.network s<ZbH w.network s:=by
 have hn:=(ZV h.books).1
 have hO:=ZcS h ho
 obtain ⟨c0,c1⟩:=Zdb hn
 have hs:=hO.ok.trip s (List.mem_of_getElem? ha)
 obtain ⟨t1,t2,t3,t4,t5⟩:=ZbF h.fit.net hn hs
 refine ⟨?_,by omega⟩
 have hal:=(List.getElem?_eq_some_iff.1 ha).1
 have hbl:=(List.getElem?_eq_some_iff.1 hb).1
 have h1:o.way[a+1]?=some o.way[a+1]:=List.getElem?_eq_getElem (by omega)
 have hn1:=((ZiE hO.chain ha).2 _ h1).1
 by_cases hb1:b=a+1
 ·subst hb1
  rw [hb] at h1
  rw [← Option.some.inj h1] at hn1
  omega
 ·have hlt:=ZiF h.fit.net hn hO.chain
  have:=List.pairwise_iff_getElem.1 hlt (a+1) b (by omega) hbl (by omega)
  rw [(List.getElem?_eq_some_iff.1 hb).2] at this
  omega
theorem ZjB {t:YTrip} (ht:t∈Zu o):Zbp w.network t≤w.now:=by
 have hO:=ZcS h ho
 obtain ⟨k0,k1,k2,k3⟩:=Zd3 h ho
 obtain ⟨g0,g1⟩:=hO.ok.gone
 obtain ⟨a,ha,hae⟩:=List.getElem_of_mem ht
 have hao:o.way[a]?=some t:=by rw [← ZlE h ho ha,← hae]; exact List.getElem?_eq_getElem ha
 have past:0<o.gone→a≤(o.gone-1).toNat→Zbp w.network t≤w.now:=fun hg hle=>by
  have hgl:(o.gone-1).toNat<o.way.length:=by omega
  have hp:=hO.st.past _ hg (List.getElem?_eq_getElem hgl)
  by_cases hag:a=(o.gone-1).toNat
  ·subst hag
   rw [List.getElem?_eq_getElem hgl] at hao
   rw [Option.some.inj hao] at hp
   have hn:=(ZV h.books).1
   obtain ⟨t1,t2,t3,t4,t5⟩:=ZbF h.fit.net hn (hO.ok.trip t (by rw [← Option.some.inj hao]; exact List.getElem_mem hgl))
   omega
  ·have:=ZkO h ho (a:=a) (b:=(o.gone-1).toNat) (by omega) hao (List.getElem?_eq_getElem hgl)
   have hn:=(ZV h.books).1
   obtain ⟨t1,t2,t3,t4,t5⟩:=ZbF h.fit.net hn (hO.ok.trip _ (List.getElem_mem hgl))
   omega
 rcases hO.st.cases with ⟨s1,s2,s3,s4,s5⟩ | ⟨s1,s2,s3,t2,u1,u2,u3⟩ | ⟨s1,s2,s3,s4,s5,s6⟩
 ·have hcv:Zh o=o.gone:=by unfold Zh; rw [if_neg (by omega)]
  exact past (by omega) (by omega)
 ·have hcv:Zh o=o.gone+1:=by unfold Zh; rw [if_pos s1]
  by_cases hag:a=o.gone.toNat
  ·subst hag
   rw [u1] at hao
   rw [Option.some.inj hao] at u2
   exact u2
  ·exact past (by omega) (by omega)
 ·have hcv:Zh o=o.gone:=by unfold Zh; rw [if_neg (by omega)]
  exact past (by omega) (by omega)
theorem ZmA {t:YTrip} (ht:t∈Ze0 o):w.now<Zbp w.network t:=by
 have hO:=ZcS h ho
 obtain ⟨k0,k1,k2,k3⟩:=Zd3 h ho
 obtain ⟨g0,g1⟩:=hO.ok.gone
 obtain ⟨a,ha,hae⟩:=List.getElem_of_mem ht
 have hao:o.way[(Zh o).toNat+a]?=some t:=by
  have:=List.getElem?_eq_getElem ha
  rw [hae] at this
  unfold Ze0 at this
  rw [List.getElem?_drop] at this
  exact this
 have hal:=(List.getElem?_eq_some_iff.1 hao).1
 rcases hO.st.cases with ⟨s1,s2,s3,s4,s5⟩ | ⟨s1,s2,s3,t2,u1,u2,u3⟩ | ⟨s1,s2,s3,s4,s5,s6⟩
 ·have hcv:Zh o=o.gone:=by unfold Zh; rw [if_neg (by omega)]
  have hgl:o.gone.toNat<o.way.length:=by omega
  have h5:=s5 _ (List.getElem?_eq_getElem hgl)
  by_cases h0:a=0
  ·subst h0
   rw [hcv,Nat.add_zero,List.getElem?_eq_getElem hgl] at hao
   rw [← Option.some.inj hao]; exact h5
  ·have:=ZkO h ho (a:=o.gone.toNat) (by omega) (List.getElem?_eq_getElem hgl) hao
   omega
 ·have hcv:Zh o=o.gone+1:=by unfold Zh; rw [if_pos s1]
  have:=ZkO h ho (a:=o.gone.toNat) (by omega) u1 hao
  omega
 ·have hcv:Zh o=o.gone:=by unfold Zh; rw [if_neg (by omega)]
  omega
theorem ZpP:Zcm w.network w.bookings ((i+1:Nat):Int) (w.now+1)=some (Zb3 w i o):=by
 have hn:=(ZV h.books).1
 have hbl:=(ZV h.books).2
 have hO:=ZcS h ho
 unfold Zcm
 rw [Zb2 h.fit.net h.fit.bookings,h.books,Option.bind_some]
 have e:iterF (Za8 w.network w.bookings ((i+1:Nat):Int) (w.now+1) true) NN (0,[])=some (Zb3 w i o):=by
  refine Zd6 (body:=Za8 w.network w.bookings ((i+1:Nat):Int) (w.now+1) true) (fun j:Nat=>((j:Int),Zeq ((i+1:Nat):Int) (Ze0 o) (w.bookings.take j))) (n:=w.bookings.length) (fun j hj=>?_) ?_ NN (by unfold NN; omega)
  ·have hg:getI w.bookings (j:Int)=some w.bookings[j]:=by rw [Zd]; exact List.getElem?_eq_getElem hj
   have hw:w64 ((j:Int)+1)=((j+1:Nat):Int):=Zt hj (by omega)
   have hfl:(Zeq ((i+1:Nat):Int) (Ze0 o) (w.bookings.take j)).length≤1000:=Nat.le_trans (List.length_filter_le _ _) (by rw [List.length_take]; omega)
   have ha:chk (appOk ((Zeq ((i+1:Nat):Int) (Ze0 o) (w.bookings.take j)).length+([w.bookings[j]]:List YBooking).length) 32)=some ():=Zdh (by simp only [List.length_cons,List.length_nil]; omega) (by omega)
   have hs:Zeq ((i+1:Nat):Int) (Ze0 o) (w.bookings.take (j+1))=Zeq ((i+1:Nat):Int) (Ze0 o) (w.bookings.take j)++(if (decide (w.bookings[j].thing=((i+1:Nat):Int)) && ZK (Ze0 o) w.bookings[j].trip)=true then [] else [w.bookings[j]]):=by
    unfold Zeq
    rw [List.take_succ_eq_append_getElem hj,List.filter_append]
    simp only [List.filter_cons,List.filter_nil]
    cases decide (w.bookings[j].thing=((i+1:Nat):Int)) && ZK (Ze0 o) w.bookings[j].trip <;> rfl
   obtain ⟨t1,t2,t3,t4,t5⟩:=ZbF h.fit.net hn (Zme h.fit.net h.books (List.getElem_mem hj))
   unfold Za8
   simp only [decide_eq_true (show (j:Int)<w.bookings.length by omega),cond_true,cond_false,Bool.not_true,hg,Option.bind_some,hw,ha,t1]
   rw [hs]
   by_cases hth:w.bookings[j].thing=((i+1:Nat):Int)
   ·rw [decide_eq_true hth]
    simp only [Bool.not_true,cond_false,Bool.true_and]
    obtain ⟨j',o',t',q1,q2,q3⟩:=Zmf h (List.getElem_mem hj)
    have hjj:j'=i:=by
     have:=congrArg YBooking.thing q3
     rw [hth] at this
     simp only at this
     omega
    subst hjj
    rw [ho] at q1
    obtain rfl:=Option.some.inj q1
    have htr:w.bookings[j].trip=t':=congrArg YBooking.trip q3
    rw [htr]
    rw [ZeY h ho] at q2
    cases hc:ZK (Ze0 o) t' with
    | true=>
     have:=ZmA h ho (ZdZ.1 hc)
     rw [decide_eq_false (by omega),if_pos rfl,List.append_nil]; rfl
    | false=>
     rcases List.mem_append.1 q2 with q2 | q2
     ·have:=ZjB h ho q2
      rw [decide_eq_true (by omega),if_neg (by simp)]; rfl
     ·rw [ZdZ.2 q2] at hc; cases hc
   ·rw [decide_eq_false hth]; rfl
  ·unfold Za8 Zb3
   simp [List.take_length]
 rw [e]; rfl
theorem Zqb (hs:¬ o.state=3):∃ w',ZaJ w (i:Int)=some w'∧ZfT w i o w':=by
 have hn:=(ZV h.books).1
 have hbl:=(ZV h.books).2
 have hO:=ZcS h ho
 have hlen:=Zgg h ho
 obtain ⟨k0,k1,k2,k3⟩:=Zd3 h ho
 obtain ⟨g0,g1⟩:=hO.ok.gone
 obtain ⟨c0,c1⟩:=Zdb hn
 have hil:=(List.getElem?_eq_some_iff.1 ho).1
 have hol:=h.olen
 have hnow:=h.now
 have hoi:getI w.orders (i:Int)=some o:=by rw [Zd]; exact ho
 have hcome:ZaO o=some (Zh o):=(Zgw hO.ok.gone (by omega)).1
 have hsub:subL o.way 0 (Zh o)=Zu o:=by unfold subL Zu; simp
 have hsl:chk (slOk 0 (Zh o) o.way.length)=some ():=Zfw (by unfold slOk; exact decide_eq_true ⟨Int.le_refl _,k0,k1⟩)
 have hw1:w64 (w.now+1)=w.now+1:=Zc (by omega)
 have hwi:w64 ((i:Int)+1)=((i+1:Nat):Int):=by rw [Zc (by omega)]; omega
 have hll:(Zb3 w i o).length≤120:=Nat.le_trans (Ze8 _ _ _).length_le hbl
 have hlv:=Zhk h.fit.net h.books (Ze8 ((i+1:Nat):Int) (Ze0 o) w.bookings)
 have hkl:(Zu o).length≤120:=by rw [k2]; omega
 have hhere:Zae w.network o=some (Zbx w.network o):=by
  unfold Zae Zbx
  rcases hO.st.cases with ⟨s1,_⟩ | ⟨s1,s2,s3,t2,u1,u2,u3⟩ | ⟨s1,_⟩
  ·rw [decide_eq_false (by omega),if_neg (by omega)]; rfl
  ·have hg:getI o.way o.gone=some t2:=by unfold getI; rw [if_pos g0]; exact u1
   obtain ⟨y,hy,_⟩:=ZbE h.fit.net (hO.ok.trip t2 (List.mem_of_getElem? u1))
   rw [decide_eq_true s1,if_pos s1,cond_true,hg,u1,Option.bind_some,hy,Option.bind_some,Option.map_some,Option.getD_some]
   unfold ZaS
   rw [hy]; rfl
  ·exact absurd s1 hs
 have ha0:chk (appOk ((([]:List YTrip)).length+(Zu o).length) 16)=some ():=Zdh (by simp only [List.length_nil]; omega) (by omega)
 obtain ⟨⟨way,b⟩,_,e2⟩:=Zf1 h.fit.net (l:=Zb3 w i o) (by omega) h.fit.closed (Zbx w.network o) o.to_ (atR w.network w.now o) o.weight
 have tail:∀ a,a=atR w.network w.now o→∃ w',((Zq w.network (Zb3 w i o) w.closed (Zbx w.network o) o.to_ a o.weight).bind fun y8=>
  (Zx w.network (Zb3 w i o) ((i+1:Nat):Int) o.weight y8.1).bind fun y9=>
  cond y9.2
  ((chk (appOk ((([]++Zu o):List YTrip).length+(y8.1:List YTrip).length) 16)).bind fun _=>
  some (newW w i o (Zu o++y8.1) y9.1))
  (some (newW w i o (Zu o) (Zb3 w i o))))=some w'∧ZfT w i o w':=by
  rintro a rfl
  rw [e2,Option.bind_some]
  cases b with
  | false=>
   obtain rfl:=Zoc e2
   have hsp:=ZfV h.fit.net (show (Zb3 w i o).length≤1048000 by omega) ((i+1:Nat):Int) o.weight (way:=[]) (d:=Zb3 w i o) (by simp [Zdc]) (Zlf hlv)
   rw [if_pos ⟨hlv,by simp,hlv⟩] at hsp
   have ha:chk (appOk ((([]++Zu o):List YTrip).length+([]:List YTrip).length) 16)=some ():=Zdh (by simp only [List.nil_append,List.length_nil]; omega) (by omega)
   exact ⟨_,by rw [hsp]; simp only [Option.bind_some,cond_true,ha,List.append_nil],.inl ⟨.inl ⟨[],e2⟩,rfl⟩⟩
  | true=>
  have hR:=Zj3 h.fit.net (show (Zb3 w i o).length≤1048576 by omega) h.fit.closed e2
  have hwl:=hR.len
  have hnl:(Zdc ((i+1:Nat):Int) o.weight way).length=way.length:=by unfold Zdc; rw [List.length_map]
  obtain ⟨d,d1,d2⟩:=Zoj (Zb3 w i o++Zdc ((i+1:Nat):Int) o.weight way) (by rw [List.length_append,hnl]; omega)
  have hsp:=ZfV h.fit.net (show (Zb3 w i o).length≤1048000 by omega) ((i+1:Nat):Int) o.weight d1 d2
  by_cases hbd:Zr w.network d=true
  ·rw [if_pos ⟨hlv,hwl,hbd⟩] at hsp
   have ha:chk (appOk ((([]++Zu o):List YTrip).length+way.length) 16)=some ():=Zdh (by simp only [List.nil_append]; omega) (by omega)
   exact ⟨_,by rw [hsp]; simp only [Option.bind_some,cond_true,ha],.inr ⟨way,d,⟨e2,hsp,hR,d1,hbd⟩,rfl⟩⟩
  ·rw [if_neg (fun hx=>hbd hx.2.2)] at hsp
   exact ⟨_,by rw [hsp]; rfl,.inl ⟨.inr ⟨way,e2,hsp⟩,rfl⟩⟩
 unfold ZaJ
 rw [hoi,Option.bind_some,hcome,Option.bind_some]
 by_cases h0:0<Zh o
 ·have hkt:(Zh o).toNat-1<o.way.length:=by omega
  have hlast:(Zu o).getLast?=some o.way[(Zh o).toNat-1]:=by
   unfold Zu
   rw [Zd9 (by omega) (by omega)]
   exact List.getElem?_eq_getElem hkt
  have hgk:getI o.way (w64 (Zh o-1))=some o.way[(Zh o).toNat-1]:=by
   rw [Zc (by omega)]
   unfold getI
   rw [if_pos (by omega),show (Zh o-1).toNat=(Zh o).toNat-1 by omega]
   exact List.getElem?_eq_getElem hkt
  obtain ⟨t1,t2,t3,t4,t5⟩:=ZbF h.fit.net hn (hO.ok.trip _ (List.getElem_mem hkt))
  have hwe:w64 (ZbH w.network o.way[(Zh o).toNat-1]+w.network.change)=ZbH w.network o.way[(Zh o).toNat-1]+w.network.change:=Zc (by omega)
  have hmax:ZcO (w.now+1) (ZbH w.network o.way[(Zh o).toNat-1]+w.network.change)=some (atR w.network w.now o):=by
   unfold ZcO atR
   rw [hlast]
   simp only
   by_cases hm:w.now+1<ZbH w.network o.way[(Zh o).toNat-1]+w.network.change
   ·rw [decide_eq_true hm,if_pos hm]; rfl
   ·rw [decide_eq_false hm,if_neg hm]; rfl
  rw [decide_eq_true h0,cond_true,hgk]
  simp only [Option.bind_some,t2,hw1,hwe,hmax,hwi,ZpP h ho,hhere,hsl,hsub,ha0,hoi]
  obtain ⟨w',q1,q2⟩:=tail _ rfl
  refine ⟨w',?_,q2⟩
  rw [← q1]
  simp only [newW,Zay,Int.toNat_natCast,List.nil_append]
 ·have hlast:(Zu o).getLast?=none:=by
   unfold Zu
   rw [show (Zh o).toNat=0 by omega]; rfl
  have hate:w.now+1=atR w.network w.now o:=by unfold atR; rw [hlast]
  rw [decide_eq_false h0,cond_false]
  simp only [Option.bind_some,hw1,hwi,ZpP h ho,hhere,hsl,hsub,ha0,hoi]
  obtain ⟨w',q1,q2⟩:=tail _ hate
  refine ⟨w',?_,q2⟩
  rw [← q1]
  simp only [newW,Zay,Int.toNat_natCast,List.nil_append]
omit h ho in
theorem Zn8 {a b:YWorld} (h1:ZfT w i o a) (h2:ZfT w i o b):a=b:=by
 have no:∀ {way bs},Zp9 w i o→Zpx w i o way bs→False:=fun {way bs} hx hy=>by
  rcases hx with ⟨x,hx⟩ | ⟨x,hx,hb⟩
  ·rw [hy.room] at hx
   have:=congrArg Prod.snd (Option.some.inj hx); cases this
  ·rw [hy.room] at hx
   have hxx:way=x:=congrArg Prod.fst (Option.some.inj hx)
   rw [← hxx,hy.book] at hb
   have:=congrArg Prod.snd (Option.some.inj hb); cases this
 rcases h1 with ⟨n1,rfl⟩ | ⟨w1,b1,n1,rfl⟩ <;> rcases h2 with ⟨n2,rfl⟩ | ⟨w2,b2,n2,rfl⟩
 ·rfl
 ·exact (no n1 n2).elim
 ·exact (no n2 n1).elim
 ·have e:=n2.room
  rw [n1.room] at e
  have hw:w1=w2:=congrArg Prod.fst (Option.some.inj e)
  subst hw
  have e2:=n2.book
  rw [n1.book] at e2
  have hb:b1=b2:=congrArg Prod.fst (Option.some.inj e2)
  subst hb
  rfl
theorem Zmc (hs:¬ o.state=3) (hne:¬ Zbx w.network o=o.to_):∃ w',ZaJ w (i:Int)=some w'∧Za0 w ((i+1:Nat):Int)=some w'∧ZfT w i o w'∧Zi6 w' (fun j=>if j=i then w.closed else c j):=by
 obtain ⟨a,a1,a2,a3⟩:=Zmx h ho hs hne
 obtain ⟨b,b1,b2⟩:=Zqb h ho hs
 obtain rfl:=Zn8 b2 a2
 exact ⟨b,b1,a1,a2,a3⟩
end
theorem Zrn {σ σ' ο ο':Type} {b:σ→Option (σ ⊕ ο)} {b':σ'→Option (σ' ⊕ ο')} (I:Nat→σ→σ'→Prop) {P:ο→ο'→Prop}
 (h:∀ k s s',I k s s'→(∃ t t' k',b s=some (.inl t)∧b' s'=some (.inl t')∧k'<k∧I k' t t')∨∃ o o',b s=some (.inr o)∧b' s'=some (.inr o')∧P o o'):
 ∀ (N k:Nat) (s:σ) (s':σ'),I k s s'→k<N→∃ o o',iterF b N s=some o∧iterF b' N s'=some o'∧P o o'
 | 0,k,s,s',_,hN=>by omega
 | N+1,k,s,s',hI,hN=>by
  simp only [iterF]
  rcases h k s s' hI with ⟨t,t',k',e,e',hk,hI'⟩ | ⟨o,o',e,e',hP⟩
  ·rw [e,e']
   exact Zrn I h N k' t t' hI' (by omega)
  ·rw [e,e']
   exact ⟨o,o',rfl,rfl,hP⟩
structure Shut (w:YWorld) (t:YTrip) (x:YWorld):Prop where
 trip:Zc3 w.network t=true
 later:w.now<Zbp w.network t
 new:¬ t∈w.closed
 few:w.closed.length<20
 ok:WOk x
 same:Zfv ⟨w.network,w.orders,w.bookings,w.closed++[t],w.now,w.scans,w.skip,w.made⟩ x
 ord:∀ (i:Nat) (o:YOrder),w.orders[i]?=some o→∃ o',x.orders[i]?=some o'∧(¬ t∈Ze0 o→o'=o)∧Ziz w.network o o'
structure ZrI (w:YWorld) (t:YTrip) (r:List Int):Prop where
 len:r.length≤w.orders.length
 pw:r.Pairwise (· < ·)
 at_:∀ y∈r,∃ (i:Nat) (o:YOrder),y=(i:Int)+1∧w.orders[i]?=some o∧o.state=2∧getI o.way o.gone=some t
set_option maxHeartbeats 16000000
def Zb5 (w:YWorld) (s0:Int × (List Int)):Option ((Int × (List Int)) ⊕ (List Int)):=
 cond (decide (s0.1<(w.orders.length:Int)))
 ((getI w.orders s0.1).bind fun y2=>
 (Zag w y2).bind fun y3=>
 cond y3
 ((chk (appOk ((s0.2:List Int).length+([(w64 (s0.1+1))]:List Int).length) 8)).bind fun _=>
 some (.inl ((w64 (s0.1+1)),((s0.2:List Int)++[(w64 (s0.1+1))]))))
 (some (.inl ((w64 (s0.1+1)),s0.2))))
 (some (.inr s0.2))
instance (w:YWorld):LoopE (Zb5 w):=⟨fun s0=>(.un::.be 0 0 0::.un::.ms 1::(U 8 (.sl (w.orders.map cOrder)::vi (w.orders.length:Int)::vi s0.1::(U 14 [])))),fun s0=>[some ⟨.of 41,10,[[.sl (w.network.legs.map cLeg),.sl (w.network.off.map cInt),vi w.network.change,.sl (w.orders.map cOrder),.sl (w.bookings.map cBooking),.sl (w.closed.map cTrip),vi w.now,.sl (w.scans.map cScan),.sl (w.skip.map cInt),vi w.made]]⟩,some ⟨.of 3,1,s0.2.map cInt⟩]⟩
def Zav (w:YWorld):Option (List Int):=
 (Zdi w).bind fun y1=>
 cond (!y1)
 (some ([]:List Int))
 ((iterF (Zb5 w) NN (0,([]:List Int))).bind (fun o0=>
 some o0))
instance (w:YWorld):CT Tryz.prog (Zav w):=⟨38,[.ag (cWorld w)],[],fun r=>.ms 0,fun r=>[some ⟨.of 3,1,r.map cInt⟩],fun H=>by replace H:=H0 H; unfold Zav at H; exact callM_of Tryz.func38 rfl Tryz.ntmps38 Tryz.results38 fun Q hQ hQn=>wk3⟩
def ZeC (p:YOrder→Bool):Nat→List YOrder→List Int
 | _,[]=>[]
 | i,o::os=>(if p o=true then [((i+1:Nat):Int)] else [])++ZeC p (i+1) os
theorem Zfh (p:YOrder→Bool):∀ (os:List YOrder) (i:Nat),(ZeC p i os).length=os.countP p
 | [],_=>rfl
 | o::os,i=>by
  unfold ZeC
  rw [List.length_append,Zfh p os,List.countP_cons]
  cases p o <;> simp <;> omega
theorem Zgh {p:YOrder→Bool} {x:Int}:∀ {os:List YOrder} {i:Nat},x∈ZeC p i os↔∃ (j:Nat) (o:YOrder),os[j]?=some o∧p o=true∧x=((i+j+1:Nat):Int)
 | [],i=>by simp [ZeC]
 | o::os,i=>by
  unfold ZeC
  rw [List.mem_append,Zgh (os:=os) (i:=i+1)]
  constructor
  ·rintro (h | ⟨j,o',h1,h2,h3⟩)
   ·cases hp:p o with
    | false=>rw [hp] at h; simp at h
    | true=>rw [hp,if_pos rfl] at h; exact ⟨0,o,rfl,hp,by rw [List.mem_singleton.1 h]⟩
   ·exact ⟨j+1,o',by simpa using h1,h2,by rw [h3,show i+1+j+1=i+(j+1)+1 by omega]⟩
  ·rintro ⟨j,o',h1,h2,h3⟩
   cases j with
   | zero=>
    obtain rfl:o=o':=by simpa using h1
    exact .inl (by rw [h2,if_pos rfl,h3]; simp)
   | succ j=>exact .inr ⟨j,o',by simpa using h1,h2,by rw [h3,show i+1+j+1=i+(j+1)+1 by omega]⟩
theorem Zit (p:YOrder→Bool):∀ (os:List YOrder) (o:YOrder) (i:Nat),ZeC p i (os++[o])=ZeC p i os++(if p o=true then [((i+os.length+1:Nat):Int)] else [])
 | [],o,i=>by simp [ZeC]
 | x::os,o,i=>by
  simp only [List.cons_append,ZeC,Zit p os o (i+1),List.append_assoc,List.length_cons]
  rw [show i+1+os.length+1=i+(os.length+1)+1 by omega]
theorem Zli {w:YWorld} (hl:w.orders.length≤1048576) {body:Int × List Int→Option ((Int × List Int) ⊕ List Int)} {p:YOrder→Bool}
 (h1:∀ (i:Nat) (out:List Int) (o:YOrder),w.orders[i]?=some o→out.length≤i→body ((i:Int),out)=some (.inl (((i+1:Nat):Int),out++(if p o=true then [((i+1:Nat):Int)] else []))))
 (h2:∀ out,body ((w.orders.length:Int),out)=some (.inr out)):iterF body NN (0,([]:List Int))=some (ZeC p 0 w.orders):=by
 refine Zd6 (body:=body) (fun i:Nat=>((i:Int),ZeC p 0 (w.orders.take i))) (n:=w.orders.length) (fun i hi=>?_) (by simp only [List.take_length]; exact h2 _) NN (by unfold NN; omega)
 have ho:=List.getElem?_eq_getElem hi
 have hpl:(ZeC p 0 (w.orders.take i)).length≤i:=by
  rw [Zfh]
  exact Nat.le_trans List.countP_le_length (by rw [List.length_take]; omega)
 rw [h1 i _ _ ho hpl,List.take_succ_eq_append_getElem hi,Zit,List.length_take,Nat.min_eq_left (by omega),Nat.zero_add]
theorem ZmT {n:Nat} (h:n≤1048576):chk (appOk (n+1) 8)=some ():=Zfw (by unfold appOk; rw [decide_eq_true_iff]; omega)
def Zaj (n:YNetwork) (o:YOrder):Bool:=!decide (o.state=3) && decide (Zh o=o.way.length) && !decide (Zbx n o=o.to_)
section
variable {w:YWorld} (h:WOk w)
include h
theorem Zi3 {i:Nat} {o:YOrder} (ho:w.orders[i]?=some o):Zag w o=some (Zaj w.network o):=by
 have hok:=Zfu h.fit h.ok ho
 have hl:=h.fit.way o (List.mem_of_getElem? ho)
 obtain ⟨_,_,c3⟩:=Zgw hok.gone hl
 have hge:=hok.gone
 unfold Zag Zaj
 rcases hok.cases with ⟨k1,k2⟩ | ⟨k1,k2⟩ | ⟨k1,k2,k3⟩
 ·have hcv:Zh o=o.gone:=by unfold Zh; rw [if_neg (by omega)]
  have hp:ZcV w o=some (Zbx w.network o):=by
   unfold ZcV Zbx
   rw [decide_eq_false (show ¬ o.state=2 by omega),if_neg (show ¬ o.state=2 by omega)]; rfl
  rw [c3,hcv,if_neg (show ¬ (o.way.length:Int)<o.gone by omega),hp,decide_eq_false (show ¬ o.state=3 by omega)]
  simp only [Option.bind_some]
  cases decide (o.gone=(o.way.length:Int)) <;> rfl
 ·have hcv:Zh o=o.gone+1:=by unfold Zh; rw [if_pos k1]
  obtain ⟨t,htg,htb⟩:=Zp4 h.fit h.ok ho hok.gone.1 k2
  obtain ⟨y,hy,_⟩:=ZbE h.fit.net htb
  have hp:ZcV w o=some (Zbx w.network o):=by
   unfold ZcV Zbx
   rw [decide_eq_true k1,if_pos k1,htg,(getI_some htg).2]
   simp only [cond_true,Option.bind_some,hy,Option.map_some,Option.getD_some]
   unfold ZaS
   rw [hy]; rfl
  rw [c3,hcv,if_neg (show ¬ (o.way.length:Int)<o.gone+1 by omega),hp,decide_eq_false (show ¬ o.state=3 by omega)]
  simp only [Option.bind_some]
  cases decide (o.gone+1=(o.way.length:Int)) <;> rfl
 ·rw [decide_eq_true k1]; rfl
theorem Zkb:Zav w=some (ZeC (Zaj w.network) 0 w.orders):=by
 have hor:=h.fit.orders
 unfold Zav
 rw [Ziq h.fit,h.ok,Option.bind_some]
 simp only [Bool.not_true,cond_false]
 rw [Zli hor (p:=Zaj w.network) (fun i out o ho hlen=>?_) (fun out=>by unfold Zb5; simp)]
 ·rfl
 ·have hlt:=(List.getElem?_eq_some_iff.1 ho).1
  have hg:getI w.orders (i:Int)=some o:=by rw [Zd]; exact ho
  have hi:w64 ((i:Int)+1)=((i+1:Nat):Int):=Zt hlt (by omega)
  unfold Zb5
  simp only [decide_eq_true (show (i:Int)<w.orders.length by omega),cond_true,hg,Option.bind_some,hi,Zi3 h ho,List.length_cons,List.length_nil,ZmT (show out.length≤1048576 by omega)]
  cases Zaj w.network o <;> simp
end
def Zaa (y2:(List Int)) (s0:Int × Int × Int × Int × Int × (List YLeg) × (List Int) × (List YOrder) × (List YBooking) × (List YTrip) × (List YScan) × (List Int)):Option ((Int × Int × Int × Int × Int × (List YLeg) × (List Int) × (List YOrder) × (List YBooking) × (List YTrip) × (List YScan) × (List Int)) ⊕ (Int × Int × Int × Int × (List YLeg) × (List Int) × (List YOrder) × (List YBooking) × (List YTrip) × (List YScan) × (List Int))):=
 cond (decide (s0.2.1<(y2.length:Int)))
 ((getI y2 s0.2.1).bind fun y3=>
 (rhoM [1,2,3,4,5,6,7,8]).bind fun _=>
 (Za0 (⟨(⟨s0.2.2.2.2.2.1,s0.2.2.2.2.2.2.1,s0.2.2.1⟩:YNetwork),s0.2.2.2.2.2.2.2.1,s0.2.2.2.2.2.2.2.2.1,s0.2.2.2.2.2.2.2.2.2.1,s0.2.2.2.1,s0.2.2.2.2.2.2.2.2.2.2.1,s0.2.2.2.2.2.2.2.2.2.2.2,s0.2.2.2.2.1⟩:YWorld) y3).bind fun y4=>
 (getI y4.orders (w64 (y3-1))).bind fun y5=>
 (Zag y4 y5).bind fun y6=>
 cond (!y6)
 (some (.inl ((w64 (s0.1+1)),(w64 (s0.2.1+1)),y4.network.change,y4.now,y4.made,y4.network.legs,y4.network.off,y4.orders,y4.bookings,y4.closed,y4.scans,y4.skip)))
 (some (.inl (s0.1,(w64 (s0.2.1+1)),y4.network.change,y4.now,y4.made,y4.network.legs,y4.network.off,y4.orders,y4.bookings,y4.closed,y4.scans,y4.skip))))
 (some (.inr (s0.1,s0.2.2.1,s0.2.2.2.1,s0.2.2.2.2.1,s0.2.2.2.2.2.1,s0.2.2.2.2.2.2.1,s0.2.2.2.2.2.2.2.1,s0.2.2.2.2.2.2.2.2.1,s0.2.2.2.2.2.2.2.2.2.1,s0.2.2.2.2.2.2.2.2.2.2.1,s0.2.2.2.2.2.2.2.2.2.2.2)))
instance (y2:(List Int)):LoopE (Zaa y2):=⟨fun s0=>(.un::.un::.be 0 0 0::.un::.be 1 0 0::vi s0.1::(U 5 (.ms 9::vi (y2.length:Int)::vi s0.2.1::(U 19 [])))),fun s0=>[some ⟨.of 41,10,[[.v (.slice none 0 0),.v (.slice none 0 0),vi 0,.v (.slice none 0 0),.v (.slice none 0 0),.v (.slice none 0 0),vi 0,.v (.slice none 0 0),.v (.slice none 0 0),vi 0]]⟩,some ⟨.of 41,10,[[.ms 2,.ms 3,vi s0.2.2.1,.ms 4,.ms 5,.ms 6,vi s0.2.2.2.1,.ms 7,.ms 8,vi s0.2.2.2.2.1]]⟩,some ⟨.of 67,6,s0.2.2.2.2.2.1.map cLeg⟩,some ⟨.of 3,1,s0.2.2.2.2.2.2.1.map cInt⟩,some ⟨.of 62,11,s0.2.2.2.2.2.2.2.1.map cOrder⟩,some ⟨.of 135,4,s0.2.2.2.2.2.2.2.2.1.map cBooking⟩,some ⟨.of 55,2,s0.2.2.2.2.2.2.2.2.2.1.map cTrip⟩,some ⟨.of 130,6,s0.2.2.2.2.2.2.2.2.2.2.1.map cScan⟩,some ⟨.of 3,1,s0.2.2.2.2.2.2.2.2.2.2.2.map cInt⟩,some ⟨.of 3,1,y2.map cInt⟩]⟩
def ZaG (w:YWorld):Option (YWorld × Int):=
 (ZbT w).bind fun y1=>
 (Zav w).bind fun y2=>
 (iterF (Zaa y2) NN (0,0,y1.network.change,y1.now,y1.made,y1.network.legs,y1.network.off,y1.orders,y1.bookings,y1.closed,y1.scans,y1.skip)).bind (fun o0=>
 some ((⟨(⟨o0.2.2.2.2.1,o0.2.2.2.2.2.1,o0.2.1⟩:YNetwork),o0.2.2.2.2.2.2.1,o0.2.2.2.2.2.2.2.1,o0.2.2.2.2.2.2.2.2.1,o0.2.2.1,o0.2.2.2.2.2.2.2.2.2.1,o0.2.2.2.2.2.2.2.2.2.2,o0.2.2.2.1⟩:YWorld),o0.1))
instance (w:YWorld):CT Tryz.prog (ZaG w):=⟨45,[.ag (cWorld w)],[],fun r=>.tu [.ag [.sl (r.1.network.legs.map cLeg),.sl (r.1.network.off.map cInt),vi r.1.network.change,.sl (r.1.orders.map cOrder),.sl (r.1.bookings.map cBooking),.sl (r.1.closed.map cTrip),vi r.1.now,.sl (r.1.scans.map cScan),.sl (r.1.skip.map cInt),vi r.1.made],vi r.2],fun r=>[],fun H=>by replace H:=H0 H; unfold ZaG at H; exact callM_of Tryz.func45 rfl Tryz.ntmps45 Tryz.results45 fun Q hQ hQn=>wk3⟩
def Zb6 (w:YWorld) (s0:Int × (List Int)):Option ((Int × (List Int)) ⊕ (List Int)):=
 cond (decide (s0.1<(w.orders.length:Int)))
 ((Zbb w s0.1).bind fun y2=>
 cond y2
 ((chk (appOk ((s0.2:List Int).length+([(w64 (s0.1+1))]:List Int).length) 8)).bind fun _=>
 some (.inl ((w64 (s0.1+1)),((s0.2:List Int)++[(w64 (s0.1+1))]))))
 (some (.inl ((w64 (s0.1+1)),s0.2))))
 (some (.inr s0.2))
instance (w:YWorld):LoopE (Zb6 w):=⟨fun s0=>(.un::.be 0 0 0::.un::.ms 1::vi s0.1::(U 21 [])),fun s0=>[some ⟨.of 41,10,[[.sl (w.network.legs.map cLeg),.sl (w.network.off.map cInt),vi w.network.change,.sl (w.orders.map cOrder),.sl (w.bookings.map cBooking),.sl (w.closed.map cTrip),vi w.now,.sl (w.scans.map cScan),.sl (w.skip.map cInt),vi w.made]]⟩,some ⟨.of 3,1,s0.2.map cInt⟩]⟩
def ZQ (w:YWorld):Option (List Int):=
 (Zdq w).bind fun y1=>
 cond (!y1)
 (some ([]:List Int))
 ((iterF (Zb6 w) NN (0,([]:List Int))).bind (fun o0=>
 some o0))
instance (w:YWorld):CT Tryz.prog (ZQ w):=⟨129,[.ag (cWorld w)],[],fun r=>.ms 0,fun r=>[some ⟨.of 3,1,r.map cInt⟩],fun H=>by replace H:=H0 H; unfold ZQ at H; exact callM_of Tryz.func129 rfl Tryz.ntmps129 Tryz.results129 fun Q hQ hQn=>wk3⟩
def ZL (y2:(List Int)) (s0:Int × Int × Int × Int × (List YLeg) × (List Int) × (List YOrder) × (List YBooking) × (List YTrip) × (List YScan) × (List Int)):Option ((Int × Int × Int × Int × (List YLeg) × (List Int) × (List YOrder) × (List YBooking) × (List YTrip) × (List YScan) × (List Int)) ⊕ (Int × Int × Int × (List YLeg) × (List Int) × (List YOrder) × (List YBooking) × (List YTrip) × (List YScan) × (List Int))):=
 cond (decide (s0.1<(y2.length:Int)))
 ((getI y2 s0.1).bind fun y3=>
 (rhoM [1,2,3,4,5,6,7,8]).bind fun _=>
 (ZaJ (⟨(⟨s0.2.2.2.2.1,s0.2.2.2.2.2.1,s0.2.1⟩:YNetwork),s0.2.2.2.2.2.2.1,s0.2.2.2.2.2.2.2.1,s0.2.2.2.2.2.2.2.2.1,s0.2.2.1,s0.2.2.2.2.2.2.2.2.2.1,s0.2.2.2.2.2.2.2.2.2.2,s0.2.2.2.1⟩:YWorld) (w64 (y3-1))).bind fun y4=>
 some (.inl ((w64 (s0.1+1)),y4.network.change,y4.now,y4.made,y4.network.legs,y4.network.off,y4.orders,y4.bookings,y4.closed,y4.scans,y4.skip)))
 (some (.inr (s0.2.1,s0.2.2.1,s0.2.2.2.1,s0.2.2.2.2.1,s0.2.2.2.2.2.1,s0.2.2.2.2.2.2.1,s0.2.2.2.2.2.2.2.1,s0.2.2.2.2.2.2.2.2.1,s0.2.2.2.2.2.2.2.2.2.1,s0.2.2.2.2.2.2.2.2.2.2)))
instance (y2:(List Int)):LoopE (ZL y2):=⟨fun s0=>(.un::.un::.be 0 0 0::.un::.be 1 0 0::.ms 9::vi s0.1::(U 23 [])),fun s0=>[some ⟨.of 41,10,[[.v (.slice none 0 0),.v (.slice none 0 0),vi 0,.v (.slice none 0 0),.v (.slice none 0 0),.v (.slice none 0 0),vi 0,.v (.slice none 0 0),.v (.slice none 0 0),vi 0]]⟩,some ⟨.of 41,10,[[.ms 2,.ms 3,vi s0.2.1,.ms 4,.ms 5,.ms 6,vi s0.2.2.1,.ms 7,.ms 8,vi s0.2.2.2.1]]⟩,some ⟨.of 67,6,s0.2.2.2.2.1.map cLeg⟩,some ⟨.of 3,1,s0.2.2.2.2.2.1.map cInt⟩,some ⟨.of 62,11,s0.2.2.2.2.2.2.1.map cOrder⟩,some ⟨.of 135,4,s0.2.2.2.2.2.2.2.1.map cBooking⟩,some ⟨.of 55,2,s0.2.2.2.2.2.2.2.2.1.map cTrip⟩,some ⟨.of 130,6,s0.2.2.2.2.2.2.2.2.2.1.map cScan⟩,some ⟨.of 3,1,s0.2.2.2.2.2.2.2.2.2.2.map cInt⟩,some ⟨.of 3,1,y2.map cInt⟩]⟩
def Zal (w:YWorld):Option (YWorld × Int):=
 (ZcJ w).bind fun y1=>
 (ZQ w).bind fun y2=>
 (iterF (ZL y2) NN (0,y1.network.change,y1.now,y1.made,y1.network.legs,y1.network.off,y1.orders,y1.bookings,y1.closed,y1.scans,y1.skip)).bind (fun o0=>
 (ZQ (⟨(⟨o0.2.2.2.1,o0.2.2.2.2.1,o0.1⟩:YNetwork),o0.2.2.2.2.2.1,o0.2.2.2.2.2.2.1,o0.2.2.2.2.2.2.2.1,o0.2.1,o0.2.2.2.2.2.2.2.2.1,o0.2.2.2.2.2.2.2.2.2,o0.2.2.1⟩:YWorld)).bind fun y5=>
 some ((⟨(⟨o0.2.2.2.1,o0.2.2.2.2.1,o0.1⟩:YNetwork),o0.2.2.2.2.2.1,o0.2.2.2.2.2.2.1,o0.2.2.2.2.2.2.2.1,o0.2.1,o0.2.2.2.2.2.2.2.2.1,o0.2.2.2.2.2.2.2.2.2,o0.2.2.1⟩:YWorld),(w64 ((y2.length:Int)-(y5.length:Int)))))
instance (w:YWorld):CT Tryz.prog (Zal w):=⟨44,[.ag (cWorld w)],[],fun r=>.tu [.ag [.ms 0,.ms 1,vi r.1.network.change,.ms 2,.ms 3,.ms 4,vi r.1.now,.ms 5,.ms 6,vi r.1.made],vi r.2],fun r=>[some ⟨.of 67,6,r.1.network.legs.map cLeg⟩,some ⟨.of 3,1,r.1.network.off.map cInt⟩,some ⟨.of 62,11,r.1.orders.map cOrder⟩,some ⟨.of 135,4,r.1.bookings.map cBooking⟩,some ⟨.of 55,2,r.1.closed.map cTrip⟩,some ⟨.of 130,6,r.1.scans.map cScan⟩,some ⟨.of 3,1,r.1.skip.map cInt⟩],fun H=>by replace H:=H0 H; unfold Zal at H; exact callM_of Tryz.func44 rfl Tryz.ntmps44 Tryz.results44 fun Q hQ hQn=>wk3⟩
theorem Zij {α:Type} (p:α→Bool):∀ {l:List α} {i:Nat} {o:α} (x:α),l[i]?=some o→(l.set i x).countP p+(if p o=true then 1 else 0)=l.countP p+(if p x=true then 1 else 0)
 | [],_,_,_,h=>by simp at h
 | a::l,0,o,x,h=>by
  obtain rfl:a=o:=by simpa using h
  simp only [List.set_cons_zero,List.countP_cons]; omega
 | a::l,i+1,o,x,h=>by
  have:=Zij p x (l:=l) (i:=i) (o:=o) (by simpa using h)
  simp only [List.set_cons_succ,List.countP_cons]; omega
theorem ZlT (p:YOrder→Bool):∀ (os:List YOrder) (i:Nat),(ZeC p i os).Pairwise (· < ·)
 | [],_=>List.Pairwise.nil
 | o::os,i=>by
  unfold ZeC
  refine List.pairwise_append.2 ⟨by cases p o <;> simp,ZlT p os (i+1),fun a ha b hb=>?_⟩
  obtain ⟨j,o',_,_,rfl⟩:=Zgh.1 hb
  cases hp:p o with
  | false=>rw [hp] at ha; simp at ha
  | true=>
   rw [hp,if_pos rfl] at ha
   obtain rfl:=List.mem_singleton.1 ha
   omega
theorem Zi8.same {w w':YWorld} (h:Zi8 w) (k:Zfv w w'):Zi8 w':=by
 refine ⟨by rw [k.closed]; exact h.closed,by rw [k.scans]; exact h.scans,by rw [k.skip]; exact h.skip,by rw [k.scans,k.made]; exact h.made,?_,?_⟩
 ·have:=h.cl
  unfold ZfK at this ⊢
  rw [k.closed,k.network]; exact this
 ·have:=h.sc
  unfold ZkR at this ⊢
  rw [k.scans,k.network,k.now]; exact this
def Zpy (n:YNetwork) (closed:List YTrip) (now:Int) (bs:List YBooking) (i:Nat) (o:YOrder):Prop:=(∃ x,Zq n bs closed (Zbx n o) o.to_ (atR n now o) o.weight=some (x,false))∨
 ∃ way,Zq n bs closed (Zbx n o) o.to_ (atR n now o) o.weight=some (way,true)∧Zx n bs ((i+1:Nat):Int) o.weight way=some (bs,false)
structure ZmL (w x:YWorld) (n:Nat):Prop where
 ok:WOk x
 same:Zfv w x
 num:n+x.orders.countP (Zaj w.network)=w.orders.countP (Zaj w.network)
 ord:∀ (i:Nat) (o:YOrder),w.orders[i]?=some o→∃ o',x.orders[i]?=some o'∧Ziz w.network o o'∧(o'=o∨Zaj w.network o=true∧Zaj w.network o'=false)
 none:∀ (i:Nat) (o:YOrder),w.orders[i]?=some o→x.orders[i]?=some o→Zaj w.network o=true→∃ bs,(∀ b∈bs,b∈x.bookings)∧Zr w.network bs=true∧Zpy w.network w.closed w.now bs i o
theorem Zka {n:YNetwork} {o:YOrder} (h:Zaj n o=true):¬ o.state=3∧Zh o=o.way.length∧¬ Zbx n o=o.to_∧Ze0 o=[]∧Zu o=o.way:=by
 unfold Zaj at h
 simp only [Bool.and_eq_true,Bool.not_eq_true',decide_eq_true_iff,decide_eq_false_iff_not] at h
 refine ⟨h.1.1,h.1.2,h.2,?_,?_⟩
 ·unfold Ze0
  exact List.drop_eq_nil_of_le (by omega)
 ·unfold Zu
  exact List.take_of_length_le (by omega)
theorem ZfG {w:YWorld} (h:WOk w):ZQ w=some (ZeC (Zaj w.network) 0 w.orders):=by
 have hor:=h.fit.orders
 unfold ZQ
 rw [Ziw h.fit,h.ok,Option.bind_some]
 simp only [Bool.not_true,cond_false]
 rw [Zli hor (p:=Zaj w.network) (fun i out o ho hlen=>?_) (fun out=>by unfold Zb6; simp)]
 ·rfl
 ·have hlt:=(List.getElem?_eq_some_iff.1 ho).1
  have hi:w64 ((i:Int)+1)=((i+1:Nat):Int):=Zt hlt (by omega)
  obtain ⟨b,b1,b2,_⟩:=ZkX h.fit h.ok ho
  rw [Zi3 h ho] at b1
  have hb:Zbb w (i:Int)=some (Zaj w.network o):=by rw [b2,Option.some.inj b1]
  unfold Zb6
  simp only [decide_eq_true (show (i:Int)<w.orders.length by omega),cond_true,hi,hb,Option.bind_some,List.length_cons,List.length_nil,ZmT (show out.length≤1048576 by omega)]
  cases Zaj w.network o <;> simp
theorem ZmB {w:YWorld} (h:WOk w):∃ (x:YWorld) (n:Nat),ZaG w=some (x,(n:Int))∧Zal w=some (x,(n:Int))∧ZmL w x n:=by
 have hf:=h.fit
 obtain ⟨p1,p2,p3,p4,p5,p6,p7⟩:=h.parts
 let ids:=ZeC (Zaj w.network) 0 w.orders
 have hidl:ids.length≤30:=by
  show (ZeC _ 0 w.orders).length≤30
  rw [Zfh]; exact Nat.le_trans List.countP_le_length p2
 have hpw:ids.Pairwise (· < ·):=ZlT _ _ _
 unfold ZaG Zal
 rw [Zm3 hf,Zm4 hf,Option.bind_some,Option.bind_some,Zkb h,ZfG h,Option.bind_some,Option.bind_some]
 have key:∃ r r',iterF (Zaa ids) NN (0,0,tupS w)=some r∧iterF (ZL ids) NN (0,tupS w)=some r'∧∃ (u:YWorld) (m:Nat),r=((m:Int),tupS u)∧r'=tupS u∧ZmL w u m:=by
  refine Zrn (fun (k:Nat) (s:Int × Int × Int × Int × Int × (List YLeg) × (List Int) × (List YOrder) × (List YBooking) × (List YTrip) × (List YScan) × (List Int)) (s':Int × Int × Int × Int × (List YLeg) × (List Int) × (List YOrder) × (List YBooking) × (List YTrip) × (List YScan) × (List Int))=>
   ∃ (a:Nat) (u:YWorld) (m:Nat),s=((m:Int),(a:Int),tupS u)∧s'=((a:Int),tupS u)∧a+k=ids.length∧WOk u∧Zfv w u∧m≤a∧m+u.orders.countP (Zaj w.network)=w.orders.countP (Zaj w.network)∧
   (∀ (i:Nat) (o:YOrder),w.orders[i]?=some o→∃ o',u.orders[i]?=some o'∧Ziz w.network o o'∧(o'=o∨Zaj w.network o=true∧Zaj w.network o'=false))∧
   (∀ (i:Nat) (o:YOrder),w.orders[i]?=some o→(∀ b,b<a→¬ ids[b]?=some ((i+1:Nat):Int))→u.orders[i]?=some o)∧
   (∀ (i:Nat) (o:YOrder),w.orders[i]?=some o→u.orders[i]?=some o→Zaj w.network o=true→(∃ b,b<a∧ids[b]?=some ((i+1:Nat):Int))→∃ bs,(∀ b∈bs,b∈u.bookings)∧Zr w.network bs=true∧Zpy w.network w.closed w.now bs i o)) (fun k s s' hs=>?_) NN ids.length _ _
   ⟨0,w,0,rfl,rfl,by omega,h,Zfv.refl w,Nat.le_refl _,Nat.zero_add _,fun i o ho=>⟨o,ho,Or.inl rfl,.inl rfl⟩,fun i o ho _=>ho,fun i o _ _ _ hb=>by obtain ⟨b,hb,_⟩:=hb; omega⟩ (by unfold NN; omega)
  obtain ⟨a,u,m,rfl,rfl,hk,hu,hS,hma,hnum,hold,hrest,hnone⟩:=hs
  have hd0:∀ b,decide ((a:Int)<(ids.length:Int))=b→decide ((a:Int)<(ids.length:Int))=b:=fun _ e=>e
  by_cases hlt:a<ids.length
  ·have hd:decide ((a:Int)<(ids.length:Int))=true:=decide_eq_true (by omega)
   have hwa:w64 ((a:Int)+1)=((a+1:Nat):Int):=by rw [Zc (by omega)]; omega
   have hwm:w64 ((m:Int)+1)=((m+1:Nat):Int):=by rw [Zc (by omega)]; omega
   have hia:ids[a]?=some ids[a]:=List.getElem?_eq_getElem hlt
   have hga:getI ids (a:Int)=some ids[a]:=by rw [Zd]; exact hia
   obtain ⟨i,o,hio,hst,hx⟩:=Zgh.1 (List.getElem_mem hlt)
   rw [Nat.zero_add] at hx
   have hx':ids[a]=((i+1:Nat):Int):=hx
   have hi30:i<30:=by have:=(List.getElem?_eq_some_iff.1 hio).1; omega
   have huo:u.orders[i]?=some o:=hrest i o hio fun b hb e=>by
    have hbl:b<ids.length:=by omega
    rw [List.getElem?_eq_getElem hbl] at e
    have:=List.pairwise_iff_getElem.1 hpw b a hbl hlt hb
    rw [Option.some.inj e,hx'] at this
    omega
   obtain ⟨hU,hRs⟩:=Zk6 hu
   obtain ⟨r1,r2,r3,r4,r5⟩:=Zka hst
   have hnet:u.network=w.network:=hS.network
   obtain ⟨u',e2,e,hR,hU'⟩:=Zmc hU huo r1 (by rw [hnet]; exact r3)
   obtain ⟨s1,⟨o',o1,o2⟩,s3⟩:=Zpb hU.fit.net hR huo
   rw [hnet] at o2
   have hok':WOk u':=by
    refine Zpw ?_ (hRs.same s1)
    have ef:(fun j=>if j=i then u.closed else u.closed)=fun _:Nat=>u'.closed:=by
     funext j; rw [s1.closed]; split <;> rfl
    rw [← ef]; exact hU'
   have hleft:Zb3 u i o=u.bookings:=by unfold Zb3; rw [r4]; exact Znd _ _
   have hsv:=Zi3 hok' o1
   have hnet':u'.network=w.network:=s1.network.trans hnet
   rw [hnet'] at hsv
   have hwi:w64 (((i+1:Nat):Int)-1)=(i:Int):=by rw [Zc (by omega)]; omega
   have hgo:getI u'.orders (i:Int)=some o':=by rw [Zd]; exact o1
   have e':Za0 ⟨⟨u.network.legs,u.network.off,u.network.change⟩,u.orders,u.bookings,u.closed,u.now,u.scans,u.skip,u.made⟩ ((i+1:Nat):Int)=some u':=e
   have e2':ZaJ ⟨⟨u.network.legs,u.network.off,u.network.change⟩,u.orders,u.bookings,u.closed,u.now,u.scans,u.skip,u.made⟩ (i:Int)=some u':=e2
   have hsp:ZL ids ((a:Int),tupS u)=some (.inl (((a+1:Nat):Int),tupS u')):=by
    unfold ZL
    simp only [tupS,hd,cond_true,hga,Option.bind_some,rhoM,hx',hwi,e2',hwa]
   have him:∀ v,Zaj w.network o'=v→Zaa ids ((m:Int),(a:Int),tupS u)=some (.inl ((((if v=true then m else m+1):Nat):Int),((a+1:Nat):Int),tupS u')):=fun v hv=>by
    unfold Zaa
    simp only [tupS,hd,cond_true,hga,Option.bind_some,rhoM,hx',hwi,e',hgo,hwa]
    rw [hsv,hv,Option.bind_some]
    cases v with
    | true=>rfl
    | false=>rw [hwm]; rfl
   rcases hR with ⟨hno,hu'⟩ | ⟨way,bs,hN,hu'⟩
   ·
    have huu:u'=u:=by
     have hset:u.orders.set i o=u.orders:=by
      refine List.ext_getElem? fun j=>?_
      by_cases hj:i=j
      ·subst hj
       rw [List.getElem?_set_self (List.getElem?_eq_some_iff.1 huo).1,huo]
      ·rw [List.getElem?_set_ne hj]
     rw [hu',hleft,r5]
     show (⟨u.network,u.orders.set i o,u.bookings,u.closed,u.now,u.scans,u.skip,u.made⟩:YWorld)=u
     rw [hset]
    rw [huu] at o1 hsp him
    rw [huo] at o1
    obtain rfl:=Option.some.inj o1
    refine .inl ⟨_,_,k-1,him _ hst,hsp,by omega,a+1,u,m,by rw [if_pos rfl],rfl,by omega,hu,hS,by omega,hnum,hold,fun j x hj hb=>hrest j x hj fun b hba=>hb b (by omega),fun j x hj hux hsx hb=>?_⟩
    obtain ⟨b,hb1,hb2⟩:=hb
    by_cases hba:b<a
    ·exact hnone j x hj hux hsx ⟨b,hba,hb2⟩
    ·have hbe:b=a:=by omega
     subst hbe
     rw [hia,hx'] at hb2
     have hji:j=i:=by have:=Option.some.inj hb2; omega
     subst hji
     rw [hio] at hj
     obtain rfl:=Option.some.inj hj
     refine ⟨u.bookings,fun b hb=>hb,by rw [← hnet]; exact hU.books,?_⟩
     have hno':=hno
     unfold Zp9 at hno'
     rw [hleft,hnet,hS.closed,hS.now] at hno'
     exact hno'
   ·
    have hwne:¬ way=[]:=fun hw=>by
     have hl:=hN.wayR.last
     rw [hw] at hl
     have hl':(some (Zbx u.network o):Option ByteArray)=some o.to_:=hl
     rw [hnet] at hl'
     exact r3 (Option.some.inj hl')
    have ho':o'=Zay o (Zu o++way):=by
     rw [hu'] at o1
     have:(u.orders.set i (Zay o (Zu o++way)))[i]?=some o':=o1
     rw [List.getElem?_set_self (List.getElem?_eq_some_iff.1 huo).1] at this
     exact (Option.some.inj this).symm
    have hfalse:Zaj w.network o'=false:=by
     have hcv:Zh o'=Zh o:=by rw [ho']; rfl
     have hwl:0<way.length:=by cases way with
      | nil=>exact absurd rfl hwne
      | cons a b=>simp
     have hol:o'.way.length=o.way.length+way.length:=by
      rw [ho']
      show (Zu o++way).length=_
      rw [List.length_append,r5]
     unfold Zaj
     rw [decide_eq_false (show ¬ Zh o'=(o'.way.length:Int) by omega)]; simp
    have hbk:u'.bookings=bs:=by rw [hu']; rfl
    have hin:∀ b∈u.bookings,b∈u'.bookings:=fun b hb=>by
     rw [hbk]
     exact hN.perm.mem_iff.2 (List.mem_append_left _ (by rw [hleft]; exact hb))
    have hcnt:=Zij (Zaj w.network) (Zay o (Zu o++way)) huo
    rw [← ho',hst,hfalse] at hcnt
    have hou:u'.orders=u.orders.set i o':=by rw [hu',ho']; rfl
    simp only [if_true,Bool.false_eq_true,if_false] at hcnt
    refine .inl ⟨_,_,k-1,him _ hfalse,hsp,by omega,a+1,u',m+1,by simp,rfl,by omega,hok',hS.trans s1,by omega,by rw [hou]; omega,fun j x hj=>?_,fun j x hj hb=>?_,fun j x hj hux hsx hb=>?_⟩
    ·by_cases hji:j=i
     ·subst hji
      rw [hio] at hj
      obtain rfl:=Option.some.inj hj
      exact ⟨o',o1,o2,.inr ⟨hst,hfalse⟩⟩
     ·rw [s3 j hji]; exact hold j x hj
    ·have hji:¬ j=i:=fun e=>hb a (by omega) (by rw [hia,hx',e])
     rw [s3 j hji]
     exact hrest j x hj fun b hba=>hb b (by omega)
    ·have hji:¬ j=i:=fun e=>by
      subst e
      rw [o1] at hux
      rw [← Option.some.inj hux,hfalse] at hsx
      cases hsx
     rw [s3 j hji] at hux
     obtain ⟨b,hb1,hb2⟩:=hb
     have hba:b<a:=by
      rcases Nat.lt_or_ge b a with hx1 | hx1
      ·exact hx1
      ·have hbe:b=a:=by omega
       subst hbe
       rw [hia,hx'] at hb2
       exact absurd (by have:=Option.some.inj hb2; omega) hji
     obtain ⟨bs',q1,q2,q3⟩:=hnone j x hj hux hsx ⟨b,hba,hb2⟩
     exact ⟨bs',fun b hb=>hin b (q1 b hb),q2,q3⟩
  ·have hd:decide ((a:Int)<(ids.length:Int))=false:=decide_eq_false (by omega)
   refine .inr ⟨((m:Int),tupS u),tupS u,?_,?_,u,m,rfl,rfl,hu,hS,hnum,hold,fun i o ho huo hst=>hnone i o ho huo hst ?_⟩
   ·unfold Zaa
    simp only [tupS,hd,cond_false]
   ·unfold ZL
    simp only [tupS,hd,cond_false]
   ·have hm:((0+i+1:Nat):Int)∈ids:=Zgh.2 ⟨i,o,ho,hst,rfl⟩
    rw [Nat.zero_add] at hm
    obtain ⟨b,hb,hbe⟩:=List.getElem_of_mem hm
    exact ⟨b,by omega,by rw [List.getElem?_eq_getElem hb,hbe]⟩
 obtain ⟨r,r',e,e2,u,m,rfl,rfl,hR⟩:=key
 have e':iterF (Zaa (ZeC (Zaj w.network) 0 w.orders)) NN (0,0,w.network.change,w.now,w.made,w.network.legs,w.network.off,w.orders,w.bookings,w.closed,w.scans,w.skip)=some ((m:Int),tupS u):=e
 have e2':iterF (ZL (ZeC (Zaj w.network) 0 w.orders)) NN (0,w.network.change,w.now,w.made,w.network.legs,w.network.off,w.orders,w.bookings,w.closed,w.scans,w.skip)=some (tupS u):=e2
 rw [e',e2']
 refine ⟨u,m,rfl,?_,hR⟩
 have hsu:=ZfG hR.ok
 have hsu':ZQ ⟨⟨u.network.legs,u.network.off,u.network.change⟩,u.orders,u.bookings,u.closed,u.now,u.scans,u.skip,u.made⟩=some (ZeC (Zaj u.network) 0 u.orders):=hsu
 simp only [tupS,Option.bind_some,hsu']
 have hn:=hR.num
 have hnn:Zaj u.network=Zaj w.network:=by rw [hR.same.network]
 rw [Zfh,Zfh,hnn]
 have hc:w.orders.countP (Zaj w.network)≤30:=Nat.le_trans List.countP_le_length p2
 rw [Zc (by omega),show ((w.orders.countP (Zaj w.network):Nat):Int)-((u.orders.countP (Zaj w.network):Nat):Int)=(m:Int) by omega]
theorem Zj2 {w:YWorld} (hf:WFit w) (hv:Zek w=false):ZaG w=some (w,0)∧Zal w=some (w,0):=by
 have h1:Zav w=some []:=by
  unfold Zav
  rw [Ziq hf,hv]; rfl
 have h2:ZQ w=some []:=by
  unfold ZQ
  rw [Ziw hf,hv]; rfl
 constructor
 ·unfold ZaG
  rw [Zm3 hf,Option.bind_some,h1,Option.bind_some]
  rfl
 ·unfold Zal
  rw [Zm4 hf,Option.bind_some,h2,Option.bind_some]
  show (ZQ w).bind _=_
  rw [h2]; rfl
set_option maxRecDepth 4000
theorem Zsd {t t':TypeId} {l:Nat}:(TK.mk t (some t')).st [.ms l]=TK.mk t (some t'):=nrfl rfl
attribute [go_sem] Zsd
theorem Zm7 {m m':Mem} {α:Type} {f:α→List PV} [hf:PlainC f] {ρ:Nat→Option Nat} {t t':TypeId} {k l j k2 n:Nat} {T2:TK} {es2:List (List PV)} {cs:List PV} {x:α} {xs:List α} (hm:msAt 0 cs=some (l,j)) (h1:Zo5 m=true) (hl:look m l=some ⟨T2,k2,es2⟩) (ht:T2.t=t') (h:cutL ρ m m' cs (f x)):
 cutF ρ m m' ⟨⟨t,some t'⟩,k,(xs.map f).set n cs⟩ ⟨⟨t,some t'⟩,k,(xs.set n x).map f⟩:=by
 by_cases hn:n<xs.length
 ·exact Zjj hn hm h1 hl ht h
 ·rw [List.set_eq_of_length_le (by simpa using hn),List.set_eq_of_length_le (by omega)]
  exact cutB_same
theorem yc {p:Prop} (h:p:=by (try simp only [U_s,U_z]); (with_reducible refine cutS ?_); (first | (with_reducible apply ZpD) | (with_reducible apply ZpE) | (with_reducible apply ZpF) | (with_reducible apply ZpG) | (with_reducible apply ZpH) | (with_reducible apply ZpI) | (with_reducible apply ZpJ) | (with_reducible apply ZpK) | (with_reducible apply ZpL) | (with_reducible apply ZpM) | (with_reducible apply Zm9) | (with_reducible apply Zna) | (with_reducible apply Znb)); (repeat' (first       | (with_reducible exact ZpU) | (with_reducible refine ZpV ?_) | (with_reducible refine ZpW ?_) | (with_reducible refine cutT_un ?_)       | (with_reducible refine cutT_c ?_ ?_)       | (with_reducible exact cutT_nil)       | (with_reducible exact cutV_c rfl)       | exact cutV_c rfl       | (with_reducible exact cutL_nil)       | (with_reducible refine cutL_c ?_ ?_)       | exact .c _ rfl       | exact .un _       | exact cutC_ms rfl rfl       | exact cutC_be rfl rfl       | exact Zhn | exact cutC_nilsl       | exact cutC_nilms rfl rfl       | (refine cutC_fms rfl ?_) | (refine Zjm rfl rfl ?_) | (refine Zln rfl rfl rfl ?_)       | (refine cutC_fbe rfl rfl ?_)       | (with_reducible refine Zlm ?_) | (with_reducible refine cutV_ag ?_)       | (with_reducible refine cutV_tu ?_)       | (with_reducible exact cutAs_nil)       | (with_reducible refine cutAs_c ?_ ?_)       | (with_reducible refine cutA_ag ?_)       | (with_reducible refine cutA_k ?_)       | (with_reducible refine cutV_k ?_)       | (with_reducible exact rowsOk_nil)       | (refine rowsOk_live rfl ?_ ?_)       | (refine ZhS rfl ?_) | (refine rowsOk_new rfl ?_)       | (with_reducible refine rowsOk_dead ?_)       | (with_reducible refine cutB_one ?_)       | (with_reducible exact Zlj)       | (with_reducible refine Zll ?_)       | (with_reducible exact ZpC)       | (with_reducible refine ZpB ?_ ?_)       | (with_reducible exact cutB_same)       | (with_reducible refine Zg3 ?_)       | exact cutB_same       | (refine Zg3 ?_)       | (refine Zlk ?_)       | (refine Zjl ?_)       | (refine Zjk rfl ?_)       | (refine Zik rfl rfl rfl rfl ?_)       | (refine Zm7 rfl rfl rfl rfl ?_)       | (simp only [cInt,cStr,cBool,cB8,Zii,cLabel,cParcel,cZone,cRate,cLeg,cNetwork,cTrip,cBooking,cScan,cOrder,cWorld,cLine,cAct,cOffice,cItem,cChute,cInlet,cCentre,cThing,cBelief])       | (with_unfolding_all rfl))); (all_goals first | (exact dropped_of rfl) | exact none); (first | done | fail)):p:=h
theorem wk4 {p:Prop} (h:p:=by
 (simp only [List.length_cons,List.length_nil,Nat.reduceAdd,Nat.reduceSub,List.replicate_succ,List.replicate_zero,List.cons_append,List.nil_append,go_sem]);
 repeat' (first
  | ((with_reducible refine ZnV ?_ ?_ ?_); (focus (simp [isR])); (focus (simp only [go_sem])); (simp only [List.cons_append,List.nil_append]))
  | ((with_reducible refine ZlU H rfl (by kernel_rfl) ?_); (clear H; intro H; simp only [go_sem,Nat.reduceAdd,Nat.reduceSub,Nat.reduceMul,Nat.reduceLT,Nat.reduceLeDiff,Nat.reduceEqDiff,if_true,eq_self]))
  | ((with_reducible refine Zrv (rhoH H) ?_); (refine Zlh H rfl rfl ?_ ?_ ?_ ?_ ?_ ?_ ?_ ?_); (focus (first | rfl | (simp only [CT.args,List.map_cons,List.map_nil,renA,renC,ren1,sig_z,sig_s,sig_n]; done))); (focus (simp [CT.args,CT.m0,goodA,goodC,lowA,lowC,low1,isR])); (focus (first | exact List.nodup_nil | decide)); (focus ((simp only [CT.m0]); (repeat' (first | exact Zfo | (refine Zfn (by rfl) ?_) | (refine Zfp (by rfl) (by rfl) (by simp [goodC,lowC,low1,isR]) ?_))))); (focus (intro y_; simp [CT.mem,CT.m0])); (focus (intro y_; (simp only [CT.mem]); (repeat (first | exact Zjw | exact Zfz | exact Zgy | (refine hm_c Zfz ?_) | (refine hm_c (Zbz (by simp [goodC,isR])) ?_) | exact Zbz (by simp [goodC,isR]) | (refine Zhz ?_))))); (focus (intro y_; (simp [CT.res,goodV,goodA,goodC,isR]))); (clear H; intro y_ hy H; simp only [CT.res,CT.mem,putIn,List.drop_succ_cons,List.drop_zero,Option.map_none,go_sem,Nat.reduceAdd,Nat.reduceSub,Nat.reduceMul,Nat.reduceLT,Nat.reduceLeDiff,Nat.reduceEqDiff,if_true,eq_self]))
  | ((with_reducible refine jnS (jnH H) ?_); (first | ((refine Zn4 H ?_ ?_ (fun K_ hL H=>?_) (fun o_ H=>?_)); (focus (decide +kernel)); (focus (decide +kernel))) | ((refine Zn3 H ?_ ?_ (fun K_ hL H=>?_) (fun o_ H=>?_)); (focus (decide +kernel)); (focus (decide +kernel)))))
  | ((with_reducible refine rhoS (rhoH H) ?_); (refine ZmW H rfl rfl rfl ?_ ?_ ?_ ?_ ?_ ?_ ?_ ?_); (focus (first | rfl | (simp only [CT.args,List.map_cons,List.map_nil,renA,renC,ren1,sig_z,sig_s,sig_n]; done))); (focus (simp [CT.args,CT.m0,goodA,goodC,lowA,lowC,low1,isR])); (focus (first | exact List.nodup_nil | decide)); (focus ((simp only [CT.m0]); (repeat' (first | exact Zfo | (refine Zfn (by rfl) ?_) | (refine Zfp (by rfl) (by rfl) (by simp [goodC,lowC,low1,isR]) ?_))))); (focus (intro y_; simp [CT.mem,CT.m0])); (focus (intro y_; (simp only [CT.mem]); (repeat (first | exact Zjw | exact Zfz | exact Zgy | (refine hm_c Zfz ?_) | (refine hm_c (Zbz (by simp [goodC,isR])) ?_) | exact Zbz (by simp [goodC,isR]) | (refine Zhz ?_))))); (focus (intro y_; (simp [CT.res,goodV,goodA,goodC,isR]))); (clear H; intro y_ hy H; simp only [CT.res,CT.mem,putIn,List.drop_succ_cons,List.drop_zero,Option.map_none,go_sem,Nat.reduceAdd,Nat.reduceSub,Nat.reduceMul,Nat.reduceLT,Nat.reduceLeDiff,Nat.reduceEqDiff,if_true,eq_self]))
  | ((with_reducible refine ZlV H ?_ ?_); (focus (exact yc)); (clear H; intro z_ H))
  | ((with_reducible refine Zn2 H ?_ ?_); (focus (exact yc)); (clear H; intro H))
  | ((with_reducible refine pwp_seq ?_); intro K_ hK)
  | ((with_reducible refine pwp_block ?_))
  | ((with_reducible refine pwp_region ?_); simp only [go_sem,Nat.reduceAdd,Nat.reduceSub,Nat.reduceMul,Nat.reduceLT,Nat.reduceLeDiff,Nat.reduceEqDiff,if_true,eq_self])
  | ((with_reducible refine pwp_skip ?_); (try simp only [thenP_normal,blockP_normal]))
  | ((with_reducible refine pwp_exit ?_); (simp only [thenP_exit,blockP_exit,thenP_normal,blockP_normal,if_true,if_false,eq_self,Nat.reduceEqDiff,Nat.one_ne_zero,Nat.zero_ne_one]); (try simp only [bexR,bsr,bsl] at H))
  | ((with_reducible refine pwp_ret ?_); (try simp only [thenP_ret,blockP_ret]))
  | ((with_reducible refine hQ _ _ ?_); (try simp only [bexR,bsr,bsl] at H); replace H:=Hret H; subst H; simp only [Fin,resP,oneP,go_sem,Nat.reduceAdd,Nat.reduceSub,Nat.reduceMul,Nat.reduceLT,Nat.reduceLeDiff,Nat.reduceEqDiff,if_true,eq_self]; exact yc)
  | ((with_reducible refine hQn _ _ ?_); (try simp only [bexR,bsr,bsl] at H); replace H:=Hret H; subst H; simp only [Fin,resP,oneP,go_sem,Nat.reduceAdd,Nat.reduceSub,Nat.reduceMul,Nat.reduceLT,Nat.reduceLeDiff,Nat.reduceEqDiff,if_true,eq_self]; exact yc)
  | ((with_reducible refine Zri ?_); (refine gate2_intro (fun hg=>Hc1k H hg ?_) (fun hg=>Hc2k H hg ?_)) <;> (clear H; intro H; simp only [go_sem,Nat.reduceAdd,Nat.reduceSub,Nat.reduceMul,Nat.reduceLT,Nat.reduceLeDiff,Nat.reduceEqDiff,if_true,eq_self]))
  | ((with_reducible refine pwp_condE ?_); simp only [evP_tmp,getD_z,getD_s,evP_bool]; (first | (with_reducible refine condP_tt ?_) | (with_reducible refine condP_ff ?_) | ((refine condP_intro (fun hg=>Hc1k H hg ?_) (fun hg=>Hc2k H hg ?_)) <;> (clear H; intro H))))
  | ((with_reducible refine idxS ?_); replace H:=Hcall H; obtain ⟨y_,hy,H⟩:=H; (with_reducible apply idx_sl hy); (focus (first | (simp only [go_sem]; done) | (simp only [go_sem]; decide))); (focus (first | rfl | (simp only [go_sem]; rfl))); simp only [go_sem,Nat.reduceAdd,Nat.reduceSub,Nat.reduceMul,Nat.reduceLT,Nat.reduceLeDiff,Nat.reduceEqDiff,if_true,eq_self])
  | ((with_reducible refine idxM ?_); replace H:=Hcall H; obtain ⟨y_,hy,H⟩:=H; (first | (refine Zns hy (by rfl) (by first | (simp only [go_sem]; done) | (simp only [go_sem]; decide)) (by first | rfl | (simp only [go_sem]; rfl)) ?_) | (refine Zlz hy (by rfl) (by first | (simp only [go_sem]; done) | (simp only [go_sem]; decide)) (by first | rfl | (simp only [go_sem]; rfl)) ?_)); simp only [go_sem,Nat.reduceAdd,Nat.reduceSub,Nat.reduceMul,Nat.reduceLT,Nat.reduceLeDiff,Nat.reduceEqDiff,if_true,eq_self])
  | ((with_reducible refine idxB ?_); replace H:=Hcall H; obtain ⟨y_,hy,H⟩:=H; (with_reducible apply idx_str hy); (focus (simp only [go_sem])); simp only [go_sem,Nat.reduceAdd,Nat.reduceSub,Nat.reduceMul,Nat.reduceLT,Nat.reduceLeDiff,Nat.reduceEqDiff,if_true,eq_self])
  | ((with_reducible refine Zq6 ?_); replace H:=Hcall H; obtain ⟨y_,hy,H⟩:=H; (first | ((with_reducible apply call_deep); (focus (exact CT.ok hy)); (focus (simp [isCA,isC,isC1])); (focus (exact Nat.le_of_ble_eq_true rfl)); (focus (exact xf)); (focus (first | exact ZoM rfl | exact ZoN rfl | exact Zlv rfl | exact Zlw rfl | exact (fun h=>(by cases h)) | (simp [CT.res,goodV,goodA,goodC,isR]))); (simp only [CT.res,CT.mem,go_sem,Nat.reduceAdd,Nat.reduceSub,Nat.reduceMul,Nat.reduceLT,Nat.reduceLeDiff,Nat.reduceEqDiff,if_true,eq_self])) | ((with_reducible apply call_deep); (focus (exact xs)); (focus (simp [isCA,isC,isC1])); (focus (exact Nat.le_of_ble_eq_true rfl)); (focus (exact xf)); (focus (first | exact ZoM rfl | exact ZoN rfl | exact Zlv rfl | exact Zlw rfl | exact (fun h=>(by cases h)) | (simp [CT.res,goodV,goodA,goodC,isR]))); (simp only [CT.res,CT.mem,go_sem,Nat.reduceAdd,Nat.reduceSub,Nat.reduceMul,Nat.reduceLT,Nat.reduceLeDiff,Nat.reduceEqDiff,if_true,eq_self])) | ((with_reducible apply call_flat); (focus (first | (simp only [snapA,ZgX,Zgl,ZgW,live_look,look_z,look_s,rowQ_map,drop_mp,take_mp,List.forall_mem_nil,true_and,and_true,if_true]; (first | exact CT.ok hy | (simp only [all_nil,all_cons,isC,isC1,true_and,and_true,if_true]; exact CT.ok hy))) | (simp only [snapA,ZgX,Zgl,ZgW,live_look,look_z,look_s,rowQ_map,drop_mp,take_mp,List.forall_mem_nil,true_and,and_true,if_true]; (first | (exact xs) | (simp only [all_nil,all_cons,isC,isC1,true_and,and_true,if_true]; (exact xs)))) | (simp only [snapA,ZgX,Zgl,ZgW,live_look,look_z,look_s,rowQ_map,drop_mp,take_mp,List.forall_mem_nil,true_and,and_true,if_true]; (exact xs)))); (focus (exact Nat.le_of_ble_eq_true rfl)); (focus (exact xf)); (focus (first | exact ZpR rfl | exact (fun _=>rfl) | (simp [CT.res,goodV,goodA,goodC,isF]))); (simp only [CT.res,CT.mem,go_sem,Nat.reduceAdd,Nat.reduceSub,Nat.reduceMul,Nat.reduceLT,Nat.reduceLeDiff,Nat.reduceEqDiff,if_true,eq_self]))))
  | ((with_reducible refine slcS ?_); replace H:=Hchk H; obtain ⟨hc,H⟩:=H; (first | ((with_reducible apply slice_sl hc); (focus rfl); (focus rfl); (focus (first | (simp only [go_sem]; done) | (simp only [go_sem]; decide))); (focus (first | rfl | (intro x_; rfl))); simp only [go_sem,Nat.reduceAdd,Nat.reduceSub,Nat.reduceMul,Nat.reduceLT,Nat.reduceLeDiff,Nat.reduceEqDiff,if_true,eq_self]) | ((refine Zj5 hc (by rfl) (by rfl) (by rfl) (by first | (simp only [go_sem]; done) | (simp only [go_sem]; decide)) (by first | rfl | (simp only [go_sem]; rfl)) ?_); simp only [go_sem,Nat.reduceAdd,Nat.reduceSub,Nat.reduceMul,Nat.reduceLT,Nat.reduceLeDiff,Nat.reduceEqDiff,if_true,eq_self]) | ((with_reducible apply slice_str hc); (focus rfl); (focus rfl); (focus (simp only [go_sem])); simp only [go_sem,Nat.reduceAdd,Nat.reduceSub,Nat.reduceMul,Nat.reduceLT,Nat.reduceLeDiff,Nat.reduceEqDiff,if_true,eq_self])))
  | ((with_reducible refine appS ?_); replace H:=Hchk H; obtain ⟨hc,H⟩:=H; (first | (refine ZmR hc (by first | (simp only [go_sem]; done) | (simp only [go_sem]; rfl)) (by first | (simp only [go_sem]; done) | (simp only [go_sem]; rfl)) (by first | (simp only [go_sem]; done) | (simp only [go_sem]; rfl)) (by first | (simp only [go_sem]; done) | (simp only [go_sem]; rfl)) (by rfl) (by first | rfl | exact ZiZ (by rfl) (by rfl) (by rfl)) rfl rfl (by intro x_; rfl) rfl ?_) | (refine ZmS hc (by first | (simp only [go_sem]; done) | (simp only [go_sem]; rfl)) (by first | (simp only [go_sem]; done) | (simp only [go_sem]; rfl)) (by first | (simp only [go_sem]; done) | (simp only [go_sem]; rfl)) (by first | (simp only [go_sem]; done) | (simp only [go_sem]; rfl)) (by first | rfl | exact ZiZ (by rfl) (by rfl) (by rfl)) rfl rfl (by intro x_; rfl) ?_) | (refine ZmQ hc rfl (by first | (simp only [go_sem]; done) | (simp only [go_sem]; rfl)) (by first | (simp only [go_sem]; done) | (simp only [go_sem]; rfl)) (by first | (simp only [go_sem]; done) | (simp only [go_sem]; rfl)) (by first | (simp only [go_sem]; done) | (simp only [go_sem]; rfl)) (by rfl) (by rfl) (by rfl) (by rfl) rfl rfl (by rfl) ?_)); simp only [go_sem,Nat.reduceAdd,Nat.reduceSub,Nat.reduceMul,Nat.reduceLT,Nat.reduceLeDiff,Nat.reduceEqDiff,if_true,eq_self])
  | ((with_reducible refine mkS ?_); replace H:=Hchk H; obtain ⟨hc,H⟩:=H; (refine ZpX hc (by first | (simp only [go_sem]; done) | (simp only [go_sem]; rfl)) (by first | (simp only [go_sem]; done) | (simp only [go_sem]; rfl)) (by first | (simp only [go_sem]; done) | (simp only [go_sem]; rfl)) (by first | (simp only [go_sem]; done) | (simp only [go_sem]; rfl)) rfl rfl ?_); simp only [go_sem,Nat.reduceAdd,Nat.reduceSub,Nat.reduceMul,Nat.reduceLT,Nat.reduceLeDiff,Nat.reduceEqDiff,if_true,eq_self])
  | ((with_reducible refine optS ?_); (first | (with_reducible refine opt_if (by decide) ?_) | (replace H:=Hchk H; obtain ⟨hc,H⟩:=H; (first | (refine opt_if hc ?_) | (refine opt_if (of_decide_eq_true hc) ?_) | (refine opt_if ⟨rfl,of_decide_eq_true hc⟩ ?_)))); simp only [go_sem,Nat.reduceAdd,Nat.reduceSub,Nat.reduceMul,Nat.reduceLT,Nat.reduceLeDiff,Nat.reduceEqDiff,if_true,eq_self])
  | ((with_reducible refine Zro ?_); (refine pwp_loopH (Hlp H) ?_ ?_); (focus (simp only [LoopE.T,LoopE.M,U_s,U_z]; exact yc)); (clear H; intro n_ s_ H K_ hL; replace H:=Hrd H; simp only [LoopE.T,LoopE.M,U_s,U_z]))
  | ((with_reducible refine pwp_draw (by kernel_rfl) ?_); simp only [go_sem,Nat.reduceAdd,Nat.reduceSub,Nat.reduceMul,Nat.reduceLT,Nat.reduceLeDiff,Nat.reduceEqDiff,if_true,eq_self])
  | ((with_reducible refine endD_intro (by kernel_rfl) ?_); (try simp only [thenP_normal,blockP_normal]))
  | ((with_reducible refine hK _ _ ?_); clear hK)
  | (clear hK; (with_reducible refine hK _ _ ?_); clear hK)
  | (clear hK; clear hK; (with_reducible refine hK _ _ ?_); clear hK)
  | (clear hK; clear hK; clear hK; (with_reducible refine hK _ _ ?_); clear hK)
  | (clear hK; clear hK; clear hK; clear hK; (with_reducible refine hK _ _ ?_); clear hK)
  | (clear hK; clear hK; clear hK; clear hK; clear hK; (with_reducible refine hK _ _ ?_); clear hK)
  | ((with_reducible refine And.intro ?_ ?_); omega)
  | (simp only [nxt_app,nxd_app,nxe_app,atM_app]; simp only [go_sem,Nat.reduceAdd,Nat.reduceSub,Nat.reduceMul,Nat.reduceLT,Nat.reduceLeDiff,Nat.reduceEqDiff,if_true,eq_self])
  | ((first | simp only [lit3 hy,Option.map_some,List.drop_zero,go_sem] | simp only [ZoX hy,Option.map_some,List.drop_zero,go_sem] | simp only [ZiJ hy,ZfA hy,ZgM hy,go_sem,Nat.reduceAdd,Nat.reduceSub,Nat.reduceMul,Nat.reduceLT,Nat.reduceLeDiff,Nat.reduceEqDiff,if_true,eq_self] | simp only [ZfA hy,ZgM hy,go_sem,Nat.reduceAdd,Nat.reduceSub,Nat.reduceMul,Nat.reduceLT,Nat.reduceLeDiff,Nat.reduceEqDiff,if_true,eq_self]))
  | ((with_reducible replace H:=HexL H); (with_reducible refine hL _ _ _ H ?_); (try simp only [LoopE.T,LoopE.M,U_s,U_z]); exact yc)
  | ((with_reducible replace H:=HexL H); clear hL; (with_reducible refine hL _ _ _ H ?_); (try simp only [LoopE.T,LoopE.M,U_s,U_z]); exact yc)
  | ((with_reducible refine jnX H hL ?_); exact yc)
  | (with_reducible exact (Zq1 H).elim)
  | ((with_reducible replace H:=rgH H); obtain ⟨y_,hy,H⟩:=H; (first | simp only [lit3 hy,Option.map_some,List.drop_zero,go_sem] | simp only [ZoX hy,Option.map_some,List.drop_zero,go_sem] | simp only [ZiJ hy,ZfA hy,ZgM hy,go_sem,Nat.reduceAdd,Nat.reduceSub,Nat.reduceMul,Nat.reduceLT,Nat.reduceLeDiff,Nat.reduceEqDiff,if_true,eq_self] | simp only [ZfA hy,ZgM hy,go_sem,Nat.reduceAdd,Nat.reduceSub,Nat.reduceMul,Nat.reduceLT,Nat.reduceLeDiff,Nat.reduceEqDiff,if_true,eq_self])))):p:=h
def Zew (w:YWorld) (id:Int) (y2:Int) (s0:Int × (List YBooking)):Option ((Int × (List YBooking)) ⊕ (List YBooking)):=
 cond (decide (s0.1<(w.bookings.length:Int)))
 ((getI w.bookings s0.1).bind fun y3=>
 cond (!decide (y3.thing=id))
 ((chk (appOk ((s0.2:List YBooking).length+([y3]:List YBooking).length) 32)).bind fun _=>
 some (.inl ((w64 (s0.1+1)),((s0.2:List YBooking)++[y3]))))
 ((rgI w.orders (w64 (id-1))).bind fun y4=>
 (chk (slOk y2 (y4.way.length:Int) y4.way.length)).bind fun _=>
 (ZaC (subL y4.way y2 (y4.way.length:Int)) y3.trip).bind fun y5=>
 cond (!y5)
 ((chk (appOk ((s0.2:List YBooking).length+([y3]:List YBooking).length) 32)).bind fun _=>
 some (.inl ((w64 (s0.1+1)),((s0.2:List YBooking)++[y3]))))
 (some (.inl ((w64 (s0.1+1)),s0.2)))))
 (some (.inr s0.2))
instance (w:YWorld) (id:Int) (y2:Int):LoopE (Zew w id y2):=⟨fun s0=>(.be 0 0 0::vi id::.un::.un::.be 3 (Int.toNat (w64 (id-1))) 0::vi y2::.ms 8::(U 22 (.ms 4::vi (w.bookings.length:Int)::vi s0.1::(U 132 [])))),fun s0=>[some ⟨.of 41,10,[[.ms 1,.ms 2,vi w.network.change,.ms 3,.ms 4,.ms 5,vi w.now,.ms 6,.ms 7,vi w.made]]⟩,some ⟨.of 67,6,w.network.legs.map cLeg⟩,some ⟨.of 3,1,w.network.off.map cInt⟩,some ⟨⟨62,some 55⟩,11,w.orders.map cOrder⟩,some ⟨.of 135,4,w.bookings.map cBooking⟩,some ⟨.of 55,2,w.closed.map cTrip⟩,some ⟨.of 130,6,w.scans.map cScan⟩,some ⟨.of 3,1,w.skip.map cInt⟩,some ⟨.of 135,4,s0.2.map cBooking⟩]⟩
def Zeh (w:YWorld) (id:Int):Option YWorld:=
 (getI w.orders (w64 (id-1))).bind fun y1=>
 (Zbq y1).bind fun y2=>
 (iterF (Zew w id y2) NN (0,([]:List YBooking))).bind (fun o0=>
 (rgI w.orders (w64 (id-1))).bind fun y6=>
 (chk (slOk 0 y2 y6.way.length)).bind fun _=>
 (ZA (subL y6.way 0 y2)).bind fun y7=>
 (rgI w.orders (w64 (id-1))).bind fun y8=>
 cond (decide (0<y2))
 ((getI y7 (w64 (y2-1))).bind fun y9=>
 (ZF w.network y9).bind fun y10=>
 (rgI w.orders (w64 (id-1))).bind fun y11=>
 (ZaD w.network (⟨y8.from_,y8.to_,y8.service,y8.weight,y8.at_,y8.due,y7,y8.gone,y8.state,y8.place,y8.ended⟩:YOrder)).bind fun y12=>
 (rgI w.orders (w64 (id-1))).bind fun y13=>
 (ZaF w.network o0 w.closed y12 y8.to_ (if (w64 (y10+w.network.change)) > (w64 (w.now+1)) then (w64 (y10+w.network.change)) else (w64 (w.now+1))) y8.weight).bind fun y14=>
 cond (!y14.2)
 (some (⟨w.network,(w.orders.set (Int.toNat (w64 (id-1))) (⟨y8.from_,y8.to_,y8.service,y8.weight,y8.at_,y8.due,y7,y8.gone,y8.state,y8.place,y8.ended⟩:YOrder)),o0,w.closed,w.now,w.scans,w.skip,w.made⟩:YWorld))
 ((rgI w.orders (w64 (id-1))).bind fun y15=>
 (ZaB w.network o0 id y8.weight y14.1).bind fun y16=>
 cond y16.2
 ((rgI w.orders (w64 (id-1))).bind fun y17=>
 (chk (appOk ((y7:List YTrip).length+(y14.1:List YTrip).length) 16)).bind fun _=>
 some (⟨w.network,(w.orders.set (Int.toNat (w64 (id-1))) (⟨y8.from_,y8.to_,y8.service,y8.weight,y8.at_,y8.due,((y7:List YTrip)++y14.1),y8.gone,y8.state,y8.place,y8.ended⟩:YOrder)),y16.1,w.closed,w.now,w.scans,w.skip,w.made⟩:YWorld))
 (some (⟨w.network,(w.orders.set (Int.toNat (w64 (id-1))) (⟨y8.from_,y8.to_,y8.service,y8.weight,y8.at_,y8.due,y7,y8.gone,y8.state,y8.place,y8.ended⟩:YOrder)),o0,w.closed,w.now,w.scans,w.skip,w.made⟩:YWorld))))
 ((ZaD w.network (⟨y8.from_,y8.to_,y8.service,y8.weight,y8.at_,y8.due,y7,y8.gone,y8.state,y8.place,y8.ended⟩:YOrder)).bind fun y18=>
 (rgI w.orders (w64 (id-1))).bind fun y19=>
 (ZaF w.network o0 w.closed y18 y8.to_ (w64 (w.now+1)) y8.weight).bind fun y20=>
 cond (!y20.2)
 (some (⟨w.network,(w.orders.set (Int.toNat (w64 (id-1))) (⟨y8.from_,y8.to_,y8.service,y8.weight,y8.at_,y8.due,y7,y8.gone,y8.state,y8.place,y8.ended⟩:YOrder)),o0,w.closed,w.now,w.scans,w.skip,w.made⟩:YWorld))
 ((rgI w.orders (w64 (id-1))).bind fun y21=>
 (ZaB w.network o0 id y8.weight y20.1).bind fun y22=>
 cond y22.2
 ((rgI w.orders (w64 (id-1))).bind fun y23=>
 (chk (appOk ((y7:List YTrip).length+(y20.1:List YTrip).length) 16)).bind fun _=>
 some (⟨w.network,(w.orders.set (Int.toNat (w64 (id-1))) (⟨y8.from_,y8.to_,y8.service,y8.weight,y8.at_,y8.due,((y7:List YTrip)++y20.1),y8.gone,y8.state,y8.place,y8.ended⟩:YOrder)),y22.1,w.closed,w.now,w.scans,w.skip,w.made⟩:YWorld))
 (some (⟨w.network,(w.orders.set (Int.toNat (w64 (id-1))) (⟨y8.from_,y8.to_,y8.service,y8.weight,y8.at_,y8.due,y7,y8.gone,y8.state,y8.place,y8.ended⟩:YOrder)),o0,w.closed,w.now,w.scans,w.skip,w.made⟩:YWorld)))))
instance (w:YWorld) (id:Int):CT Tryz.prog (Zeh w id):=⟨128,[.be 0 0 0,vi id],[some ⟨.of 41,10,[[.ms 1,.ms 2,vi w.network.change,.ms 3,.ms 4,.ms 5,vi w.now,.ms 6,.ms 7,vi w.made]]⟩,some ⟨.of 67,6,w.network.legs.map cLeg⟩,some ⟨.of 3,1,w.network.off.map cInt⟩,some ⟨⟨62,some 55⟩,11,w.orders.map cOrder⟩,some ⟨.of 135,4,w.bookings.map cBooking⟩,some ⟨.of 55,2,w.closed.map cTrip⟩,some ⟨.of 130,6,w.scans.map cScan⟩,some ⟨.of 3,1,w.skip.map cInt⟩],fun r=>.tu [],fun r=>[some ⟨.of 41,10,[[.ms 1,.ms 2,vi r.network.change,.ms 3,.ms 8,.ms 5,vi r.now,.ms 6,.ms 7,vi r.made]]⟩,some ⟨.of 67,6,r.network.legs.map cLeg⟩,some ⟨.of 3,1,r.network.off.map cInt⟩,some ⟨⟨62,some 55⟩,11,r.orders.map cOrder⟩,none,some ⟨.of 55,2,r.closed.map cTrip⟩,some ⟨.of 130,6,r.scans.map cScan⟩,some ⟨.of 3,1,r.skip.map cInt⟩,some ⟨.of 135,4,r.bookings.map cBooking⟩],fun H=>by replace H:=H0 H; unfold Zeh at H; exact callM_of Tryz.func128 rfl Tryz.ntmps128 Tryz.results128 fun Q hQ hQn=>wk4⟩
def ZdB (y2:(List Int)) (s0:Int × Int × Int × Int × Int × (List YLeg) × (List Int) × (List YOrder) × (List YBooking) × (List YTrip) × (List YScan) × (List Int)):Option ((Int × Int × Int × Int × Int × (List YLeg) × (List Int) × (List YOrder) × (List YBooking) × (List YTrip) × (List YScan) × (List Int)) ⊕ (Int × Int × Int × Int × (List YLeg) × (List Int) × (List YOrder) × (List YBooking) × (List YTrip) × (List YScan) × (List Int))):=
 cond (decide (s0.2.1<(y2.length:Int)))
 ((getI y2 s0.2.1).bind fun y3=>
 (rhoM [1,2,3,4,5,6,7,8]).bind fun _=>
 (Zeh (⟨(⟨s0.2.2.2.2.2.1,s0.2.2.2.2.2.2.1,s0.2.2.1⟩:YNetwork),s0.2.2.2.2.2.2.2.1,s0.2.2.2.2.2.2.2.2.1,s0.2.2.2.2.2.2.2.2.2.1,s0.2.2.2.1,s0.2.2.2.2.2.2.2.2.2.2.1,s0.2.2.2.2.2.2.2.2.2.2.2,s0.2.2.2.2.1⟩:YWorld) y3).bind fun y4=>
 (getI y4.orders (w64 (y3-1))).bind fun y5=>
 (Zag y4 y5).bind fun y6=>
 cond (!y6)
 (some (.inl ((w64 (s0.1+1)),(w64 (s0.2.1+1)),y4.network.change,y4.now,y4.made,y4.network.legs,y4.network.off,y4.orders,y4.bookings,y4.closed,y4.scans,y4.skip)))
 (some (.inl (s0.1,(w64 (s0.2.1+1)),y4.network.change,y4.now,y4.made,y4.network.legs,y4.network.off,y4.orders,y4.bookings,y4.closed,y4.scans,y4.skip))))
 (some (.inr (s0.1,s0.2.2.1,s0.2.2.2.1,s0.2.2.2.2.1,s0.2.2.2.2.2.1,s0.2.2.2.2.2.2.1,s0.2.2.2.2.2.2.2.1,s0.2.2.2.2.2.2.2.2.1,s0.2.2.2.2.2.2.2.2.2.1,s0.2.2.2.2.2.2.2.2.2.2.1,s0.2.2.2.2.2.2.2.2.2.2.2)))
instance (y2:(List Int)):LoopE (ZdB y2):=⟨fun s0=>(.un::.un::.be 0 0 0::.un::.be 1 0 0::vi s0.1::(U 5 (.ms 9::vi (y2.length:Int)::vi s0.2.1::(U 19 [])))),fun s0=>[some ⟨.of 41,10,[[.v (.slice none 0 0),.v (.slice none 0 0),vi 0,.v (.slice none 0 0),.v (.slice none 0 0),.v (.slice none 0 0),vi 0,.v (.slice none 0 0),.v (.slice none 0 0),vi 0]]⟩,some ⟨.of 41,10,[[.ms 2,.ms 3,vi s0.2.2.1,.ms 4,.ms 5,.ms 6,vi s0.2.2.2.1,.ms 7,.ms 8,vi s0.2.2.2.2.1]]⟩,some ⟨.of 67,6,s0.2.2.2.2.2.1.map cLeg⟩,some ⟨.of 3,1,s0.2.2.2.2.2.2.1.map cInt⟩,some ⟨⟨62,some 55⟩,11,s0.2.2.2.2.2.2.2.1.map cOrder⟩,some ⟨.of 135,4,s0.2.2.2.2.2.2.2.2.1.map cBooking⟩,some ⟨.of 55,2,s0.2.2.2.2.2.2.2.2.2.1.map cTrip⟩,some ⟨.of 130,6,s0.2.2.2.2.2.2.2.2.2.2.1.map cScan⟩,some ⟨.of 3,1,s0.2.2.2.2.2.2.2.2.2.2.2.map cInt⟩,some ⟨.of 3,1,y2.map cInt⟩]⟩
def ZbN (w:YWorld):Option (YWorld × Int):=
 (Zdz w).bind fun y1=>
 (Zav w).bind fun y2=>
 (iterF (ZdB y2) NN (0,0,y1.network.change,y1.now,y1.made,y1.network.legs,y1.network.off,y1.orders,y1.bookings,y1.closed,y1.scans,y1.skip)).bind (fun o0=>
 some ((⟨(⟨o0.2.2.2.2.1,o0.2.2.2.2.2.1,o0.2.1⟩:YNetwork),o0.2.2.2.2.2.2.1,o0.2.2.2.2.2.2.2.1,o0.2.2.2.2.2.2.2.2.1,o0.2.2.1,o0.2.2.2.2.2.2.2.2.2.1,o0.2.2.2.2.2.2.2.2.2.2,o0.2.2.2.1⟩:YWorld),o0.1))
instance (w:YWorld):CT Tryz.prog (ZbN w):=⟨45,[.ag (cWorld w)],[],fun r=>.tu [.ag [.ms 0,.ms 1,vi r.1.network.change,.ms 2,.ms 3,.ms 4,vi r.1.now,.ms 5,.ms 6,vi r.1.made],vi r.2],fun r=>[some ⟨.of 67,6,r.1.network.legs.map cLeg⟩,some ⟨.of 3,1,r.1.network.off.map cInt⟩,some ⟨⟨62,some 55⟩,11,r.1.orders.map cOrder⟩,some ⟨.of 135,4,r.1.bookings.map cBooking⟩,some ⟨.of 55,2,r.1.closed.map cTrip⟩,some ⟨.of 130,6,r.1.scans.map cScan⟩,some ⟨.of 3,1,r.1.skip.map cInt⟩],fun H=>by replace H:=H0 H; unfold ZbN at H; exact callM_of Tryz.func45 rfl Tryz.ntmps45 Tryz.results45 fun Q hQ hQn=>wk4⟩
set_option maxRecDepth 100000
theorem ZoU (w:YWorld):ZbN w=ZaG w:=rfl
theorem Zpc {x:YWorld} (ht:totWorld x≤1048576):∃ (g:YWorld) (n:Int),ZbN x=some (g,n)∧Zal x=some (g,n)∧ZaZ g g=some true∧Zh4 g 1:=by
 have hf:=Zk5 ht
 rw [ZoU]
 cases hv:Zek x with
 | false=>exact ⟨x,0,(Zj2 hf hv).1,(Zj2 hf hv).2,eqrW hf,ZnI ht⟩
 | true=>
  obtain ⟨y,n,h1,h2,h3⟩:=ZmB ⟨hf,hv⟩
  exact ⟨_,_,h1,h2,eqrW h3.ok.fit,h3.ok.mkFit⟩
end Go.Proofs.YtmcdjilbkmhfoaaGreat
