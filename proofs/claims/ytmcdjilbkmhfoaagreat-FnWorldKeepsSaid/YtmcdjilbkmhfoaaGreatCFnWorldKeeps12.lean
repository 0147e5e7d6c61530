/- A part of the proof of the statement in the last file of this claim: texts on the language of the program and on its functions. No condition. -/
import Derived.Test.YtmcdjilbkmhfoaaGreatCFnWorldKeeps4
import Derived.Test.YtmcdjilbkmhfoaaGreatCFnWorldKeeps5
import Derived.Test.YtmcdjilbkmhfoaaGreatCFnWorldKeeps8
import Derived.Test.YtmcdjilbkmhfoaaGreatCFnWorldKeeps6
import Derived.Test.YtmcdjilbkmhfoaaGreatCFnWorldKeeps11
import Derived.Test.YtmcdjilbkmhfoaaGreatCFnWorldKeeps7
import Derived.Test.YtmcdjilbkmhfoaaGreatCFnWorldKeeps10
import Derived.Test.YtmcdjilbkmhfoaaGreatCFnWorldKeeps9
namespace Go.Proofs.YtmcdjilbkmhfoaaGreat
set_option maxRecDepth 10000
open Go.RowKit
set_option linter.unusedVariables false
set_option maxHeartbeats 16000000
def ZaF (w:Zd) (i:Int):Option Zd:=
 (getI w.orders i).bind fun y1=>
 (ZaS y1).bind fun y2=>
 cond (decide (0<y2))
 ((getI y1.way (w64 (y2-1))).bind fun y3=>
 (Zq w.network y3).bind fun y4=>
 (Zeo (w64 (w.now+1)) (w64 (y4+w.network.change))).bind fun y5=>
 (ZdK w.network w.bookings (w64 (i+1)) (w64 (w.now+1))).bind fun y6=>
 (ZaT w.network y1).bind fun y7=>
 (Zy w.network y6 w.closed y7 y1.to_ y5 y1.weight).bind fun y8=>
 (ZN w.network y6 (w64 (i+1)) y1.weight y8.1).bind fun y9=>
 (chk (slOk 0 y2 y1.way.length)).bind fun _=>
 (chk (ZQ ((([]:List Ze):List Ze).length+((subL y1.way 0 y2):List Ze).length) 16)).bind fun _=>
 (getI w.orders i).bind fun y10=>
 cond y9.2
 ((getI w.orders i).bind fun y11=>
 (chk (ZQ ((((([]:List Ze):List Ze)++(subL y1.way 0 y2)):List Ze).length+(y8.1:List Ze).length) 16)).bind fun _=>
 (getI w.orders i).bind fun y12=>
 some (⟨w.network,(w.orders.set (Int.toNat i) (⟨y10.from_,y10.to_,y10.service,y10.weight,y10.at_,y10.due,((((([]:List Ze):List Ze)++(subL y1.way 0 y2)):List Ze)++y8.1),y10.gone,y10.state,y10.place,y10.ended⟩:Zf)),y9.1,w.closed,w.now,w.scans,w.skip,w.made⟩:Zd))
 (some (⟨w.network,(w.orders.set (Int.toNat i) (⟨y10.from_,y10.to_,y10.service,y10.weight,y10.at_,y10.due,((([]:List Ze):List Ze)++(subL y1.way 0 y2)),y10.gone,y10.state,y10.place,y10.ended⟩:Zf)),y6,w.closed,w.now,w.scans,w.skip,w.made⟩:Zd)))
 ((ZdK w.network w.bookings (w64 (i+1)) (w64 (w.now+1))).bind fun y13=>
 (ZaT w.network y1).bind fun y14=>
 (Zy w.network y13 w.closed y14 y1.to_ (w64 (w.now+1)) y1.weight).bind fun y15=>
 (ZN w.network y13 (w64 (i+1)) y1.weight y15.1).bind fun y16=>
 (chk (slOk 0 y2 y1.way.length)).bind fun _=>
 (chk (ZQ ((([]:List Ze):List Ze).length+((subL y1.way 0 y2):List Ze).length) 16)).bind fun _=>
 (getI w.orders i).bind fun y17=>
 cond y16.2
 ((getI w.orders i).bind fun y18=>
 (chk (ZQ ((((([]:List Ze):List Ze)++(subL y1.way 0 y2)):List Ze).length+(y15.1:List Ze).length) 16)).bind fun _=>
 (getI w.orders i).bind fun y19=>
 some (⟨w.network,(w.orders.set (Int.toNat i) (⟨y17.from_,y17.to_,y17.service,y17.weight,y17.at_,y17.due,((((([]:List Ze):List Ze)++(subL y1.way 0 y2)):List Ze)++y15.1),y17.gone,y17.state,y17.place,y17.ended⟩:Zf)),y16.1,w.closed,w.now,w.scans,w.skip,w.made⟩:Zd))
 (some (⟨w.network,(w.orders.set (Int.toNat i) (⟨y17.from_,y17.to_,y17.service,y17.weight,y17.at_,y17.due,((([]:List Ze):List Ze)++(subL y1.way 0 y2)),y17.gone,y17.state,y17.place,y17.ended⟩:Zf)),y13,w.closed,w.now,w.scans,w.skip,w.made⟩:Zd)))
instance (w:Zd) (i:Int):CT Tryz.prog (ZaF w i):=⟨123,[.be 0 0 0,vi i],[some ⟨41,10,[[.ms 1,.ms 2,vi w.network.change,.ms 3,.ms 4,.ms 5,vi w.now,.ms 6,.ms 7,vi w.made]]⟩,some ⟨67,6,w.network.legs.map cLeg⟩,some ⟨3,1,w.network.off.map cInt⟩,some ⟨62,11,w.orders.map Zw⟩,some ⟨135,4,w.bookings.map Zg⟩,some ⟨55,2,w.closed.map Zs⟩,some ⟨130,6,w.scans.map ZF⟩,some ⟨3,1,w.skip.map cInt⟩],fun r=>.tu [],fun r=>[some ⟨41,10,[[.ms 1,.ms 2,vi r.network.change,.ms 3,.ms 8,.ms 5,vi r.now,.ms 6,.ms 7,vi r.made]]⟩,some ⟨67,6,r.network.legs.map cLeg⟩,some ⟨3,1,r.network.off.map cInt⟩,some ⟨62,11,r.orders.map Zw⟩,none,some ⟨55,2,r.closed.map Zs⟩,some ⟨130,6,r.scans.map ZF⟩,some ⟨3,1,r.skip.map cInt⟩,some ⟨135,4,r.bookings.map Zg⟩],fun H=>by replace H:=H0 H; unfold ZaF at H; exact Zh Tryz.func123 rfl Tryz.ntmps123 Tryz.results123 fun Q hQ hQn=>wk3⟩
set_option linter.unusedSimpArgs false
set_option linter.unusedSectionVars false
theorem Zda {α β:Type} {x:Option α} {f:α→Option β} {r:β}:x.bind f=some r↔∃ a,x=some a∧f a=some r:=by
 cases x <;> simp
theorem ZrA {α:Type} {b:Bool} {x y:α} {P:α→Prop} (h:b=true→P x) (k:b=false→P y):P (cond b x y):=by
 cases b with
 | true=>exact h rfl
 | false=>exact k rfl
theorem Zs0 {n:Za} {l:List Zc} {closed:List Ze} {from_ to_:ByteArray} {at_ weight:Int} {x:List Ze} (h:Zy n l closed from_ to_ at_ weight=some (x,false)):x=[]:=by
 unfold Zy at h
 obtain ⟨y1,_,h⟩:=Zda.1 h
 obtain ⟨y2,_,h⟩:=Zda.1 h
 obtain ⟨y3,_,h⟩:=Zda.1 h
 obtain ⟨y4,_,h⟩:=Zda.1 h
 revert h
 have nil:(some (([]:List Ze),false))=some (x,false)→x=[]:=fun e=>by
  have:=congrArg Prod.fst (Option.some.inj e); exact this.symm
 refine ZrA (P:=fun z=>z=some (x,false)→x=[]) (fun _=>nil) fun _=>ZrA (P:=fun z=>z=some (x,false)→x=[]) (fun _=>nil) fun _ h=>?_
 obtain ⟨y5,_,h⟩:=Zda.1 h
 revert h
 refine ZrA (P:=fun z=>z=some (x,false)→x=[]) (fun _=>nil) fun _ h=>?_
 obtain ⟨y6,_,h⟩:=Zda.1 h
 obtain ⟨o0,_,h⟩:=Zda.1 h
 obtain ⟨o1,_,h⟩:=Zda.1 h
 have:=congrArg Prod.snd (Option.some.inj h)
 cases this
section
variable {w:Zd} {c:Nat→List Ze} (h:ZjJ w c) {i:Nat} {o:Zf} (ho:w.orders[i]?=some o)
include h ho
theorem ZoD {a b:Nat} {s t:Ze} (hab:a<b) (ha:o.way[a]?=some s) (hb:o.way[b]?=some t):Z7 w.network s≤ZM w.network t∧ZM w.network s<Z7 w.network s:=by
 have hn:=(Zav h.books).1
 have hO:=ZaV h ho
 obtain ⟨c0,c1⟩:=ZbB hn
 have hs:=hO.ok.trip s (List.mem_of_getElem? ha)
 obtain ⟨t1,t2,t3,t4,t5⟩:=ZI h.fit.net hn hs
 refine ⟨?_,by omega⟩
 have hal:=(List.getElem?_eq_some_iff.1 ha).1
 have hbl:=(List.getElem?_eq_some_iff.1 hb).1
 have h1:o.way[a+1]?=some o.way[a+1]:=List.getElem?_eq_getElem (by omega)
 have hn1:=((ZlW hO.chain ha).2 _ h1).1
 by_cases hb1:b=a+1
 ·subst hb1
  rw [hb] at h1
  rw [← Option.some.inj h1] at hn1
  omega
 ·have hlt:=Zig h.fit.net hn hO.chain
  have:=List.pairwise_iff_getElem.1 hlt (a+1) b (by omega) hbl (by omega)
  rw [(List.getElem?_eq_some_iff.1 hb).2] at this
  omega
theorem Zm6 {t:Ze} (ht:t∈ZT o):ZM w.network t≤w.now:=by
 have hO:=ZaV h ho
 obtain ⟨k0,k1,k2,k3⟩:=ZcO h ho
 obtain ⟨g0,g1⟩:=hO.ok.gone
 obtain ⟨a,ha,hae⟩:=List.getElem_of_mem ht
 have hao:o.way[a]?=some t:=by rw [← Zl6 h ho ha,← hae]; exact List.getElem?_eq_getElem ha
 have past:0<o.gone→a≤(o.gone-1).toNat→ZM w.network t≤w.now:=fun hg hle=>by
  have hgl:(o.gone-1).toNat<o.way.length:=by omega
  have hp:=hO.st.past _ hg (List.getElem?_eq_getElem hgl)
  by_cases hag:a=(o.gone-1).toNat
  ·subst hag
   rw [List.getElem?_eq_getElem hgl] at hao
   rw [Option.some.inj hao] at hp
   have hn:=(Zav h.books).1
   obtain ⟨t1,t2,t3,t4,t5⟩:=ZI h.fit.net hn (hO.ok.trip t (by rw [← Option.some.inj hao]; exact List.getElem_mem hgl))
   omega
  ·have:=ZoD h ho (a:=a) (b:=(o.gone-1).toNat) (by omega) hao (List.getElem?_eq_getElem hgl)
   have hn:=(Zav h.books).1
   obtain ⟨t1,t2,t3,t4,t5⟩:=ZI h.fit.net hn (hO.ok.trip _ (List.getElem_mem hgl))
   omega
 rcases hO.st.cases with ⟨s1,s2,s3,s4,s5⟩ | ⟨s1,s2,s3,t2,u1,u2,u3⟩ | ⟨s1,s2,s3,s4,s5,s6⟩
 ·have hcv:Zm o=o.gone:=by unfold Zm; rw [if_neg (by omega)]
  exact past (by omega) (by omega)
 ·have hcv:Zm o=o.gone+1:=by unfold Zm; rw [if_pos s1]
  by_cases hag:a=o.gone.toNat
  ·subst hag
   rw [u1] at hao
   rw [Option.some.inj hao] at u2
   exact u2
  ·exact past (by omega) (by omega)
 ·have hcv:Zm o=o.gone:=by unfold Zm; rw [if_neg (by omega)]
  exact past (by omega) (by omega)
theorem ZqO {t:Ze} (ht:t∈Zfl o):w.now<ZM w.network t:=by
 have hO:=ZaV h ho
 obtain ⟨k0,k1,k2,k3⟩:=ZcO h ho
 obtain ⟨g0,g1⟩:=hO.ok.gone
 obtain ⟨a,ha,hae⟩:=List.getElem_of_mem ht
 have hao:o.way[(Zm o).toNat+a]?=some t:=by
  have:=List.getElem?_eq_getElem ha
  rw [hae] at this
  unfold Zfl at this
  rw [List.getElem?_drop] at this
  exact this
 have hal:=(List.getElem?_eq_some_iff.1 hao).1
 rcases hO.st.cases with ⟨s1,s2,s3,s4,s5⟩ | ⟨s1,s2,s3,t2,u1,u2,u3⟩ | ⟨s1,s2,s3,s4,s5,s6⟩
 ·have hcv:Zm o=o.gone:=by unfold Zm; rw [if_neg (by omega)]
  have hgl:o.gone.toNat<o.way.length:=by omega
  have h5:=s5 _ (List.getElem?_eq_getElem hgl)
  by_cases h0:a=0
  ·subst h0
   rw [hcv,Nat.add_zero,List.getElem?_eq_getElem hgl] at hao
   rw [← Option.some.inj hao]; exact h5
  ·have:=ZoD h ho (a:=o.gone.toNat) (by omega) (List.getElem?_eq_getElem hgl) hao
   omega
 ·have hcv:Zm o=o.gone+1:=by unfold Zm; rw [if_pos s1]
  have:=ZoD h ho (a:=o.gone.toNat) (by omega) u1 hao
  omega
 ·have hcv:Zm o=o.gone:=by unfold Zm; rw [if_neg (by omega)]
  omega
theorem Zvj:ZdK w.network w.bookings ((i+1:Nat):Int) (w.now+1)=some (Zds w i o):=by
 have hn:=(Zav h.books).1
 have hbl:=(Zav h.books).2
 have hO:=ZaV h ho
 unfold ZdK
 rw [Zcu h.fit.net h.fit.bookings,h.books,Option.bind_some]
 have e:Zj (Zcn w.network w.bookings ((i+1:Nat):Int) (w.now+1) true) NN (0,[])=some (Zds w i o):=by
  refine ZbW (body:=Zcn w.network w.bookings ((i+1:Nat):Int) (w.now+1) true) (fun j:Nat=>((j:Int),Zgh ((i+1:Nat):Int) (Zfl o) (w.bookings.take j))) (n:=w.bookings.length) (fun j hj=>?_) ?_ NN (by unfold NN; omega)
  ·have hg:getI w.bookings (j:Int)=some w.bookings[j]:=by rw [Zn]; exact List.getElem?_eq_getElem hj
   have hw:w64 ((j:Int)+1)=((j+1:Nat):Int):=ZR hj (by omega)
   have hfl:(Zgh ((i+1:Nat):Int) (Zfl o) (w.bookings.take j)).length≤1000:=Nat.le_trans (List.length_filter_le _ _) (by rw [List.length_take]; omega)
   have ha:chk (ZQ ((Zgh ((i+1:Nat):Int) (Zfl o) (w.bookings.take j)).length+([w.bookings[j]]:List Zc).length) 32)=some ():=ZcC (by simp only [List.length_cons,List.length_nil]; omega) (by omega)
   have hs:Zgh ((i+1:Nat):Int) (Zfl o) (w.bookings.take (j+1))=Zgh ((i+1:Nat):Int) (Zfl o) (w.bookings.take j)++(if (decide (w.bookings[j].thing=((i+1:Nat):Int)) && Z2 (Zfl o) w.bookings[j].trip)=true then [] else [w.bookings[j]]):=by
    unfold Zgh
    rw [List.take_succ_eq_append_getElem hj,List.filter_append]
    simp only [List.filter_cons,List.filter_nil]
    cases decide (w.bookings[j].thing=((i+1:Nat):Int)) && Z2 (Zfl o) w.bookings[j].trip <;> rfl
   obtain ⟨t1,t2,t3,t4,t5⟩:=ZI h.fit.net hn (Zqd h.fit.net h.books (List.getElem_mem hj))
   unfold Zcn
   simp only [decide_eq_true (show (j:Int)<w.bookings.length by omega),cond_true,cond_false,Bool.not_true,hg,Option.bind_some,hw,ha,t1]
   rw [hs]
   by_cases hth:w.bookings[j].thing=((i+1:Nat):Int)
   ·rw [decide_eq_true hth]
    simp only [Bool.not_true,cond_false,Bool.true_and]
    obtain ⟨j',o',t',q1,q2,q3⟩:=Zle h (List.getElem_mem hj)
    have hjj:j'=i:=by
     have:=congrArg Zc.thing q3
     rw [hth] at this
     simp only at this
     omega
    subst hjj
    rw [ho] at q1
    obtain rfl:=Option.some.inj q1
    have htr:w.bookings[j].trip=t':=congrArg Zc.trip q3
    rw [htr]
    rw [Zgu h ho] at q2
    cases hc:Z2 (Zfl o) t' with
    | true=>
     have:=ZqO h ho (ZaX.1 hc)
     rw [decide_eq_false (by omega),if_pos rfl,List.append_nil]; rfl
    | false=>
     rcases List.mem_append.1 q2 with q2 | q2
     ·have:=Zm6 h ho q2
      rw [decide_eq_true (by omega),if_neg (by simp)]; rfl
     ·rw [ZaX.2 q2] at hc; cases hc
   ·rw [decide_eq_false hth]; rfl
  ·unfold Zcn Zds
   simp [List.take_length]
 rw [e]; rfl
theorem ZvN (hs:¬ o.state=3):∃ w',ZaF w (i:Int)=some w'∧Zie w i o w':=by
 have hn:=(Zav h.books).1
 have hbl:=(Zav h.books).2
 have hO:=ZaV h ho
 have hlen:=ZhI h ho
 obtain ⟨k0,k1,k2,k3⟩:=ZcO h ho
 obtain ⟨g0,g1⟩:=hO.ok.gone
 obtain ⟨c0,c1⟩:=ZbB hn
 have hil:=(List.getElem?_eq_some_iff.1 ho).1
 have hol:=h.olen
 have hnow:=h.now
 have hoi:getI w.orders (i:Int)=some o:=by rw [Zn]; exact ho
 have hcome:ZaS o=some (Zm o):=(Zhh hO.ok.gone (by omega)).1
 have hsub:subL o.way 0 (Zm o)=ZT o:=by unfold subL ZT; simp
 have hsl:chk (slOk 0 (Zm o) o.way.length)=some ():=Zjh (by unfold slOk; exact decide_eq_true ⟨Int.le_refl _,k0,k1⟩)
 have hw1:w64 (w.now+1)=w.now+1:=Zo (by omega)
 have hwi:w64 ((i:Int)+1)=((i+1:Nat):Int):=by rw [Zo (by omega)]; omega
 have hll:(Zds w i o).length≤120:=Nat.le_trans (Zhj _ _ _).length_le hbl
 have hlv:=ZjT h.fit.net h.books (Zhj ((i+1:Nat):Int) (Zfl o) w.bookings)
 have hkl:(ZT o).length≤120:=by rw [k2]; omega
 have hhere:ZaT w.network o=some (Zb8 w.network o):=by
  unfold ZaT Zb8
  rcases hO.st.cases with ⟨s1,_⟩ | ⟨s1,s2,s3,t2,u1,u2,u3⟩ | ⟨s1,_⟩
  ·rw [decide_eq_false (by omega),if_neg (by omega)]; rfl
  ·have hg:getI o.way o.gone=some t2:=by unfold getI; rw [if_pos g0]; exact u1
   obtain ⟨y,hy,_⟩:=Zah h.fit.net (hO.ok.trip t2 (List.mem_of_getElem? u1))
   rw [decide_eq_true s1,if_pos s1,cond_true,hg,u1,Option.bind_some,hy,Option.bind_some,Option.map_some,Option.getD_some]
   unfold ZL
   rw [hy]; rfl
  ·exact absurd s1 hs
 have ha0:chk (ZQ ((([]:List Ze)).length+(ZT o).length) 16)=some ():=ZcC (by simp only [List.length_nil]; omega) (by omega)
 obtain ⟨⟨way,b⟩,_,e2⟩:=Zf5 h.fit.net (l:=Zds w i o) (by omega) h.fit.closed (Zb8 w.network o) o.to_ (atR w.network w.now o) o.weight
 have tail:∀ a,a=atR w.network w.now o→∃ w',((Zy w.network (Zds w i o) w.closed (Zb8 w.network o) o.to_ a o.weight).bind fun y8=>
  (ZN w.network (Zds w i o) ((i+1:Nat):Int) o.weight y8.1).bind fun y9=>
  cond y9.2
  ((chk (ZQ ((([]++ZT o):List Ze).length+(y8.1:List Ze).length) 16)).bind fun _=>
  some (newW w i o (ZT o++y8.1) y9.1))
  (some (newW w i o (ZT o) (Zds w i o))))=some w'∧Zie w i o w':=by
  rintro a rfl
  rw [e2,Option.bind_some]
  cases b with
  | false=>
   obtain rfl:=Zs0 e2
   have hsp:=Zhe h.fit.net (show (Zds w i o).length≤1048000 by omega) ((i+1:Nat):Int) o.weight (way:=[]) (d:=Zds w i o) (by simp [ZdR]) (Zpa hlv)
   rw [if_pos ⟨hlv,by simp,hlv⟩] at hsp
   have ha:chk (ZQ ((([]++ZT o):List Ze).length+([]:List Ze).length) 16)=some ():=ZcC (by simp only [List.nil_append,List.length_nil]; omega) (by omega)
   exact ⟨_,by rw [hsp]; simp only [Option.bind_some,cond_true,ha,List.append_nil],.inl ⟨.inl ⟨[],e2⟩,rfl⟩⟩
  | true=>
  have hR:=ZfW h.fit.net (show (Zds w i o).length≤1048576 by omega) h.fit.closed e2
  have hwl:=hR.len
  have hnl:(ZdR ((i+1:Nat):Int) o.weight way).length=way.length:=by unfold ZdR; rw [List.length_map]
  obtain ⟨d,d1,d2⟩:=Zp1 (Zds w i o++ZdR ((i+1:Nat):Int) o.weight way) (by rw [List.length_append,hnl]; omega)
  have hsp:=Zhe h.fit.net (show (Zds w i o).length≤1048000 by omega) ((i+1:Nat):Int) o.weight d1 d2
  by_cases hbd:ZZ w.network d=true
  ·rw [if_pos ⟨hlv,hwl,hbd⟩] at hsp
   have ha:chk (ZQ ((([]++ZT o):List Ze).length+way.length) 16)=some ():=ZcC (by simp only [List.nil_append]; omega) (by omega)
   exact ⟨_,by rw [hsp]; simp only [Option.bind_some,cond_true,ha],.inr ⟨way,d,⟨e2,hsp,hR,d1,hbd⟩,rfl⟩⟩
  ·rw [if_neg (fun hx=>hbd hx.2.2)] at hsp
   exact ⟨_,by rw [hsp]; rfl,.inl ⟨.inr ⟨way,e2,hsp⟩,rfl⟩⟩
 unfold ZaF
 rw [hoi,Option.bind_some,hcome,Option.bind_some]
 by_cases h0:0<Zm o
 ·have hkt:(Zm o).toNat-1<o.way.length:=by omega
  have hlast:(ZT o).getLast?=some o.way[(Zm o).toNat-1]:=by
   unfold ZT
   rw [ZdV (by omega) (by omega)]
   exact List.getElem?_eq_getElem hkt
  have hgk:getI o.way (w64 (Zm o-1))=some o.way[(Zm o).toNat-1]:=by
   rw [Zo (by omega)]
   unfold getI
   rw [if_pos (by omega),show (Zm o-1).toNat=(Zm o).toNat-1 by omega]
   exact List.getElem?_eq_getElem hkt
  obtain ⟨t1,t2,t3,t4,t5⟩:=ZI h.fit.net hn (hO.ok.trip _ (List.getElem_mem hkt))
  have hwe:w64 (Z7 w.network o.way[(Zm o).toNat-1]+w.network.change)=Z7 w.network o.way[(Zm o).toNat-1]+w.network.change:=Zo (by omega)
  have hmax:Zeo (w.now+1) (Z7 w.network o.way[(Zm o).toNat-1]+w.network.change)=some (atR w.network w.now o):=by
   unfold Zeo atR
   rw [hlast]
   simp only
   by_cases hm:w.now+1<Z7 w.network o.way[(Zm o).toNat-1]+w.network.change
   ·rw [decide_eq_true hm,if_pos hm]; rfl
   ·rw [decide_eq_false hm,if_neg hm]; rfl
  rw [decide_eq_true h0,cond_true,hgk]
  simp only [Option.bind_some,t2,hw1,hwe,hmax,hwi,Zvj h ho,hhere,hsl,hsub,ha0,hoi]
  obtain ⟨w',q1,q2⟩:=tail _ rfl
  refine ⟨w',?_,q2⟩
  rw [← q1]
  simp only [newW,Zbq,Int.toNat_natCast,List.nil_append]
 ·have hlast:(ZT o).getLast?=none:=by
   unfold ZT
   rw [show (Zm o).toNat=0 by omega]; rfl
  have hate:w.now+1=atR w.network w.now o:=by unfold atR; rw [hlast]
  rw [decide_eq_false h0,cond_false]
  simp only [Option.bind_some,hw1,hwi,Zvj h ho,hhere,hsl,hsub,ha0,hoi]
  obtain ⟨w',q1,q2⟩:=tail _ hate
  refine ⟨w',?_,q2⟩
  rw [← q1]
  simp only [newW,Zbq,Int.toNat_natCast,List.nil_append]
omit h ho in
theorem ZsY {a b:Zd} (h1:Zie w i o a) (h2:Zie w i o b):a=b:=by
 have no:∀ {way bs},ZvH w i o→Zu8 w i o way bs→False:=fun {way bs} hx hy=>by
  rcases hx with ⟨x,hx⟩ | ⟨x,hx,hb⟩
  ·rw [hy.room] at hx
   have:=congrArg Prod.snd (Option.some.inj hx); cases this
  ·rw [hy.room] at hx
   have hxx:way=x:=congrArg Prod.fst (Option.some.inj hx)
   rw [← hxx,hy.book] at hb
   have:=congrArg Prod.snd (Option.some.inj hb); cases this
 rcases h1 with ⟨n1,rfl⟩ | ⟨w1,b1,n1,rfl⟩ <;> rcases h2 with ⟨n2,rfl⟩ | ⟨w2,b2,n2,rfl⟩
 ·rfl
 ·exact (no n1 n2).elim
 ·exact (no n2 n1).elim
 ·have e:=n2.room
  rw [n1.room] at e
  have hw:w1=w2:=congrArg Prod.fst (Option.some.inj e)
  subst hw
  have e2:=n2.book
  rw [n1.book] at e2
  have hb:b1=b2:=congrArg Prod.fst (Option.some.inj e2)
  subst hb
  rfl
theorem Zk6 (hs:¬ o.state=3) (hne:¬ Zb8 w.network o=o.to_):∃ w',ZaF w (i:Int)=some w'∧Zbb w ((i+1:Nat):Int)=some w'∧Zie w i o w'∧ZjJ w' (fun j=>if j=i then w.closed else c j):=by
 obtain ⟨a,a1,a2,a3⟩:=ZqN h ho hs hne
 obtain ⟨b,b1,b2⟩:=ZvN h ho hs
 obtain rfl:=ZsY b2 a2
 exact ⟨b,b1,a1,a2,a3⟩
end
def ZaC (w:Zd) (from1_:ByteArray) (to_:ByteArray) (service:Int) (weight:Int):Option (Zd × Int × Bool):=
 (Zbf w).bind fun y1=>
 (Zbs w).bind fun y2=>
 cond (!y2)
 (some (y1,0,false))
 (cond (decide (30≤(w.orders.length:Int)))
 (some (y1,0,false))
 (cond (decide (from1_=to_))
 (some (y1,0,false))
 ((ZJ service 1 3).bind fun y3=>
 cond (!y3)
 (some (y1,0,false))
 ((ZJ weight 1 30000).bind fun y4=>
 cond (!y4)
 (some (y1,0,false))
 ((Zy w.network w.bookings w.closed from1_ to_ (w64 (w.now+1)) weight).bind fun y5=>
 (ZN w.network w.bookings (w64 ((w.orders.length:Int)+1)) weight y5.1).bind fun y6=>
 cond (!y5.2)
 (some (y1,0,false))
 (cond (!y6.2)
 (some (y1,0,false))
 ((Zc8 w.network service from1_ to_ (w64 (w.now+1))).bind fun y7=>
 (frz (.un::vs from1_::(U 3 (.be 0 0 0::(U 4 (.be 1 0 0::.un::.un::.be 2 0 0::.un::.un::vi (w64 ((w.orders.length:Int)+1))::.un::.un::.be 10 0 0::(U 99 [])))))) [some ⟨41,10,[[.sl (w.network.legs.map cLeg),.sl (w.network.off.map cInt),vi w.network.change,.sl (w.orders.map Zw),.sl (w.bookings.map Zg),.sl (w.closed.map Zs),vi w.now,.sl (w.scans.map ZF),.sl (w.skip.map cInt),vi w.made]]⟩,some ⟨41,10,[[.v (.slice none 0 0),.v (.slice none 0 0),vi 0,.v (.slice none 0 0),.v (.slice none 0 0),.v (.slice none 0 0),vi 0,.v (.slice none 0 0),.v (.slice none 0 0),vi 0]]⟩,some ⟨41,10,[[.ms 3,.ms 4,vi y1.network.change,.ms 5,.ms 6,.ms 7,vi y1.now,.ms 8,.ms 9,vi y1.made]]⟩,some ⟨67,6,y1.network.legs.map cLeg⟩,some ⟨3,1,y1.network.off.map cInt⟩,some ⟨62,11,y1.orders.map Zw⟩,some ⟨135,4,y6.1.map Zg⟩,some ⟨55,2,y1.closed.map Zs⟩,some ⟨130,6,y1.scans.map ZF⟩,some ⟨3,1,y1.skip.map cInt⟩,some ⟨62,11,[[vs from1_,vs to_,vi service,vi weight,vi w.now,vi y7,.sl (y5.1.map Zs),vi 0,vi 1,vs from1_,vi 0]]⟩]).bind fun _=>
 (chk (ZQ ((y1.orders:List Zf).length+([(⟨from1_,to_,service,weight,w.now,y7,y5.1,0,1,from1_,0⟩:Zf)]:List Zf).length) 128)).bind fun _=>
 (rhoM [2,3,4,12,6,7,8,9]).bind fun _=>
 (Zbo (⟨y1.network,((y1.orders:List Zf)++[(⟨from1_,to_,service,weight,w.now,y7,y5.1,0,1,from1_,0⟩:Zf)]),y6.1,y1.closed,y1.now,y1.scans,y1.skip,y1.made⟩:Zd) (⟨(w64 ((w.orders.length:Int)+1)),w.now,1,from1_,(⟨0,0⟩:Ze)⟩:Zk)).bind fun y8=>
 some (y8,(w64 ((w.orders.length:Int)+1)),true))))))))
instance (w:Zd) (from1_:ByteArray) (to_:ByteArray) (service:Int) (weight:Int):CT Tryz.prog (ZaC w from1_ to_ service weight):=⟨46,[.ag (Zbt w),vs from1_,vs to_,vi service,vi weight],[],fun r=>.tu [.ag [.ms 0,.ms 1,vi r.1.network.change,.ms 2,.ms 3,.ms 4,vi r.1.now,.ms 5,.ms 6,vi r.1.made],vi r.2.1,vb r.2.2],fun r=>[some ⟨67,6,r.1.network.legs.map cLeg⟩,some ⟨3,1,r.1.network.off.map cInt⟩,some ⟨62,11,r.1.orders.map Zw⟩,some ⟨135,4,r.1.bookings.map Zg⟩,some ⟨55,2,r.1.closed.map Zs⟩,some ⟨130,6,r.1.scans.map ZF⟩,some ⟨3,1,r.1.skip.map cInt⟩],fun H=>by replace H:=H0 H; unfold ZaC at H; exact Zh Tryz.func46 rfl Tryz.ntmps46 Tryz.results46 fun Q hQ hQn=>wk3⟩
section
variable {n:Za} (hf:Z0 n) (hn:Zi n=some true)
include hf hn
theorem Zyu {leg z:Int} {y:YLeg} (hy:getI n.legs leg=some y):ZcF n leg z=Z1 n [] [] leg z 0:=by
 have hlo:=(Zkv hf hn y (ZgX hy)).room
 have hw:w64 (y.room-0)=y.room:=by rw [Zo (by omega)]; omega
 have hb:Zc9 n leg z=ZV n [] [] leg z 0:=by
  funext s
  unfold Zc9 ZV
  cases decide (s≤60) with
  | false=>rfl
  | true=>
  cases ZX n leg s with
  | none=>rfl
  | some b=>
  cases b with
  | false=>rfl
  | true=>
  simp only [cond_true,Option.bind_some]
  cases Zp n ⟨leg,s⟩ with
  | none=>rfl
  | some v=>
  simp only [Option.bind_some]
  cases decide (z≤v) with
  | false=>rfl
  | true=>
  have hc:Zaq [] (⟨leg,s⟩:Ze)=some false:=by rw [Zcs,Zb1 (by simp)]; rfl
  simp only [cond_true,hc,Option.bind_some,Bool.not_false,hy,Zl8,hw,decide_eq_true hlo.1]
 unfold ZcF Z1
 rw [hb]
theorem Zw5 (best:List Int) (f:Int):Ze9 n (Zb n) best f=Zau n [] [] 0 (Zb n) best f:=by
 have hb:ZeR n (Zb n) best f=ZaB n [] [] 0 (Zb n) best f:=by
  funext s
  unfold ZeR ZaB
  cases decide (s.1<(n.legs.length:Int)) with
  | false=>simp only [cond_false]
  | true=>
  simp only [cond_true]
  cases hy:getI n.legs s.1 with
  | none=>simp only [Option.bind_none]
  | some y=>simp only [Option.bind_some,Zyu hf hn hy]
 unfold Ze9 Zau
 rw [hb]
theorem Zqc {from_:ByteArray} {at_:Int} (hfr:0≤idxV (Zb n) from_) (hat:at_≤100000) {k:Nat} (hk:k≤(Zb n).length):ZcT n from_ at_ (k:Int)=some (Z6 n [] [] 0 (idxV (Zb n) from_) at_ k):=by
 have hp:=plen hf
 obtain ⟨r0,e0,_⟩:=Zka hf (idxV (Zb n) from_) at_
 have h0:Z6 n [] [] 0 (idxV (Zb n) from_) at_ 0=r0:=by unfold Z6; rw [e0]; rfl
 unfold ZcT
 rw [(Zac hf).2]
 simp only [Option.bind_some,Zgk hf,hn,Bool.not_true,cond_false,decide_eq_false (show ¬ idxV (Zb n) from_<0 by omega),decide_eq_false (show ¬ 100000<at_ by omega),decide_eq_false (show ¬ (k:Int)<0 by omega),e0]
 have e:Zj (Za6 n (k:Int) (Zb n) (idxV (Zb n) from_)) NN (0,Z6 n [] [] 0 (idxV (Zb n) from_) at_ 0)=some (Z6 n [] [] 0 (idxV (Zb n) from_) at_ k):=by
  refine ZbW (body:=Za6 n (k:Int) (Zb n) (idxV (Zb n) from_)) (fun i:Nat=>((i:Int),Z6 n [] [] 0 (idxV (Zb n) from_) at_ i)) (n:=k) (o:=Z6 n [] [] 0 (idxV (Zb n) from_) at_ k) (fun i hi=>?_) ?_ NN (by unfold NN; omega)
  ·unfold Za6
   rw [decide_eq_true (show (i:Int)<(k:Int) by omega),decide_eq_true (show (i:Int)<((Zb n).length:Int) by omega),cond_true,cond_true,Zw5 hf hn,(ZgF hf (l:=[]) (by simp) (closed:=[]) (by simp) 0 _ at_ i).1,Option.bind_some,Zo (by omega)]
   rfl
  ·unfold Za6
   simp
 rw [← h0,e]; rfl
theorem Zqi {from_ to_:ByteArray} {at_:Int} (hfr:0≤idxV (Zb n) from_) (hat:at_≤100000) (hto:0≤idxV (Zb n) to_) {e:Int} (he:getI (Z6 n [] [] 0 (idxV (Zb n) from_) at_ (Zb n).length) (idxV (Zb n) to_)=some e):ZcN n from_ to_ at_=some e:=by
 have hlt:=(Ze2 (Zb n) to_).2
 have hbl:=Zfb hf (l:=[]) (by simp) (closed:=[]) (by simp) 0 (idxV (Zb n) from_) at_ (Zb n).length
 unfold ZcN
 rw [(Zac hf).2]
 simp only [Option.bind_some,Zgk hf,Zqc hf hn hfr hat (Nat.le_refl _),decide_eq_false (show ¬ idxV (Zb n) to_<0 by omega),decide_eq_false (show ¬ (((Z6 n [] [] 0 (idxV (Zb n) from_) at_ (Zb n).length).length:Int)=0) by rw [hbl]; omega),cond_false,he]
omit hf hn in
theorem Znt {service e at_:Int} {from_ to_:ByteArray} (he:ZcN n from_ to_ at_=some e) (h0:0≤e) (h1:e≤100000) (hs:1≤service∧service≤3):Zc8 n service from_ to_ at_=some (dueV e service):=by
 unfold Zc8
 rw [he]
 simp only [Option.bind_some,ZbH]
 have d1:e.tdiv 1440=e / 1440:=Int.tdiv_eq_ediv_of_nonneg h0
 have d2:e.tmod 1440=e % 1440:=Int.tmod_eq_emod_of_nonneg h0
 have hb:0≤e / 1440∧e / 1440≤69:=by omega
 have hwr:IntKind.i64.wrap (e / 1440)=e / 1440:=Zo (by omega)
 have hk:∃ k:Int,0≤k∧k≤4∧w64 (w64 (service-1)*w64 (service-1))=k∧k=(if service=1 then 0 else if service=2 then 1 else 4):=by
  rcases (show service=1∨service=2∨service=3 by omega) with rfl | rfl | rfl
  ·exact ⟨0,by omega,by omega,by decide,by simp⟩
  ·exact ⟨1,by omega,by omega,by decide,by simp⟩
  ·exact ⟨4,by omega,by omega,by decide,by simp⟩
 obtain ⟨k,k0,k1,k2,k3⟩:=hk
 rw [d1,d2,hwr,decide_eq_true hs.1,decide_eq_true hs.2,decide_eq_false (show ¬ e<0 by omega),k2]
 simp only [cond_false,Bool.and_self,Bool.not_true]
 unfold dueV
 rw [← k3]
 by_cases hd:1080<e % 1440
 ·rw [decide_eq_true hd,if_pos hd,cond_true]
  rw [Zo (n:=e / 1440+1) (by omega),Zo (n:=e / 1440+1+k) (by omega),Zo (n:=(e / 1440+1+k)*1440) (by omega),Zo (by omega)]
 ·rw [decide_eq_false hd,if_neg hd,cond_false]
  rw [Zo (n:=e / 1440+k) (by omega),Zo (n:=(e / 1440+k)*1440) (by omega),Zo (by omega),Int.add_zero]
theorem Zjf {l:List Zc} (hl:l.length≤1048576) {closed:List Ze} (hc:closed.length≤1048576) {from_ to_:ByteArray} {at_ weight service:Int} (hs:1≤service∧service≤3) {way:List Ze} (h:Zy n l closed from_ to_ at_ weight=some (way,true)):
 ∃ d,ZaO n service from_ to_ at_=some d∧Zc8 n service from_ to_ at_=some d∧0≤d∧d≤200000:=by
 obtain ⟨d,d1,d2,d3⟩:=ZoL hf hn hl hc hs h
 have hR:=ZfW hf hl hc h
 obtain ⟨q1,q2,q3,q4⟩:=hR.hC
 have hlt:=(Ze2 (Zb n) to_).2
 have hbl:=Zfb hf (l:=[]) (by simp) (closed:=[]) (by simp) 0 (idxV (Zb n) from_) at_ (Zb n).length
 obtain ⟨e,he,_⟩:=Zew (xs:=Z6 n [] [] 0 (idxV (Zb n) from_) at_ (Zb n).length) (i:=idxV (Zb n) to_) ⟨hR.hto,by rw [hbl]; exact hlt⟩
 have e1:=ZiP hf hn q2 q3 hR.hto he
 have e2:=Zqi hf hn q2 q3 hR.hto he
 have hpos:0≤e∧e≤100000:=by
  unfold ZaO at d1
  rw [e1,Option.bind_some] at d1
  obtain ⟨v,hv,h0⟩:∃ v,LeAt (Z6 n [] [] 0 (idxV (Zb n) from_) at_ (Zb n).length) (idxV (Zb n) to_) v∧v≤100000:=Zlb hf hn hl hc h
  obtain ⟨v',v1,v2,v3⟩:=hv
  rw [he] at v1
  obtain rfl:=Option.some.inj v1
  exact ⟨v2,by omega⟩
 refine ⟨dueV e service,ZlD e1 hpos.1 hpos.2 hs,Znt e2 hpos.1 hpos.2 hs,?_⟩
 have:=Zvk (service:=service) hpos.1 hpos.2
 omega
end
theorem Zn7 {w:Zd} (h:WOk w) (from_ to_:ByteArray) (service weight:Int):
 ∃ r,Zcz w from_ to_ service weight=some r∧ZaC w from_ to_ service weight=some r∧(r=(w,0,false)∧Zrc w from_ to_ service weight∨∃ way ys due,ZxC w from_ to_ service weight r way ys due):=by
 have hf:=h.fit
 obtain ⟨p1,p2,p3,p4,p5,p6,p7⟩:=h.parts
 obtain ⟨r,e,hr⟩:=ZtK h from_ to_ service weight fun way hw hs=>by
  obtain ⟨d,d1,_,d2,d3⟩:=Zjf hf.net h.net hf.bookings hf.closed hs hw
  exact ⟨d,d1,d2,d3⟩
 refine ⟨r,e,?_,hr⟩
 have hw1:w64 (w.now+1)=w.now+1:=Zo (by omega)
 have hw2:w64 ((w.orders.length:Int)+1)=(w.orders.length:Int)+1:=Zo (by omega)
 have start:∀ X,(∀ (q:Option (Zd × Int × Bool)),q=some r→True)→X=some r→X=some r:=fun _ _ e=>e
 unfold ZaC
 rw [Zj4 hf,Option.bind_some,Zge hf,h.ok,Option.bind_some,hw1,hw2]
 simp only [Bool.not_true,cond_false,ZbH,Option.bind_some]
 -- what follows where all is well but the way
 obtain ⟨⟨way,b⟩,e1,e2⟩:=Zf5 hf.net hf.bookings hf.closed from_ to_ (w.now+1) weight
 have hbt:=ZtS hf.net (show w.bookings.length≤1048000 by omega) ((w.orders.length:Int)+1) weight way
 obtain ⟨y6,e6,_⟩:=hbt
 rw [e2]
 simp only [Option.bind_some]
 rw [e6]
 simp only [Option.bind_some]
 rcases hr with ⟨rfl,hR⟩ | ⟨way',ys,due,hT⟩
 ·by_cases c1:30≤w.orders.length
  ·rw [decide_eq_true (show (30:Int)≤(w.orders.length:Int) by omega)]; rfl
  rw [decide_eq_false (show ¬ (30:Int)≤(w.orders.length:Int) by omega),cond_false]
  by_cases c2:from_=to_
  ·rw [decide_eq_true c2]; rfl
  rw [decide_eq_false c2,cond_false]
  by_cases c3:1≤service∧service≤3
  case neg=>
   have:(decide (1≤service) && decide (service≤3))=false:=by rw [← Bool.decide_and]; exact decide_eq_false c3
   rw [this]; rfl
  rw [decide_eq_true c3.1,decide_eq_true c3.2]
  by_cases c4:1≤weight∧weight≤30000
  case neg=>
   have:(decide (1≤weight) && decide (weight≤30000))=false:=by rw [← Bool.decide_and]; exact decide_eq_false c4
   rw [this]; rfl
  rw [decide_eq_true c4.1,decide_eq_true c4.2]
  simp only [Bool.and_self,Bool.not_true,cond_false]
  rcases hR with hx | hx | hx | hx | ⟨x,hx⟩ | ⟨wy,l,hx,hy⟩
  ·exact absurd hx c1
  ·exact absurd hx c2
  ·exact absurd c3 hx
  ·exact absurd c4 hx
  ·rw [e2] at hx
   have hb:b=false:=congrArg Prod.snd (Option.some.inj hx)
   rw [hb]; rfl
  ·rw [e2] at hx
   have hb:way=wy:=congrArg Prod.fst (Option.some.inj hx)
   rw [← hb,e6] at hy
   have hb2:y6.2=false:=congrArg Prod.snd (Option.some.inj hy)
   rw [hb2]
   cases b <;> rfl
 ·have hrm:=hT.room
  rw [e2] at hrm
  have hb:b=true:=congrArg Prod.snd (Option.some.inj hrm)
  have hway:way=way':=congrArg Prod.fst (Option.some.inj hrm)
  subst hway
  subst hb
  have hbk:=hT.book
  rw [e6] at hbk
  obtain rfl:=Option.some.inj hbk
  have hok:=hT.ok
  obtain ⟨k1,k2,_⟩:=hok.parts
  have k2':(w.orders++[newO w from_ to_ service weight due way]).length≤30:=k2
  rw [List.length_append] at k2'
  simp only [List.length_cons,List.length_nil] at k2'
  have hv:=Zd8 hok.ok (i:=w.orders.length) (o:=newO w from_ to_ service weight due way) (by
   show (w.orders++[newO w from_ to_ service weight due way])[w.orders.length]?=_
   rw [List.getElem?_append_right (Nat.le_refl _),Nat.sub_self]; rfl)
  unfold ZcY at hv
  simp only [Bool.and_eq_true,Bool.not_eq_true',decide_eq_true_iff,decide_eq_false_iff_not] at hv
  have c3:1≤service∧service≤3:=hv.1.1.1.1.1.1.1.1.2
  have c4:1≤weight∧weight≤30000:=hv.1.1.1.1.1.1.1.2
  obtain ⟨d,d1,d2,_⟩:=Zjf hf.net h.net hf.bookings hf.closed c3 hT.room
  have hpr:=hT.prom
  rw [d1] at hpr
  obtain rfl:=Option.some.inj hpr
  have hR:=ZfW hf.net hf.bookings hf.closed hT.room
  have hlen:=hR.len
  have ha:chk (ZQ (w.orders.length+([newO w from_ to_ service weight d way]:List Zf).length) 128)=some ():=ZcC (by simp only [List.length_cons,List.length_nil]; omega) (by omega)
  have hsi:=ZpU (w:=⟨w.network,w.orders++[newO w from_ to_ service weight d way],ys,w.closed,w.now,w.scans,w.skip,w.made⟩) ⟨by simp only; omega,p4,by simp only; omega⟩ ⟨(w.orders.length:Int)+1,w.now,1,from_,⟨0,0⟩⟩
  rw [decide_eq_false (show ¬ (30:Int)≤(w.orders.length:Int) by omega),cond_false,decide_eq_false hT.ne,cond_false,decide_eq_true c3.1,decide_eq_true c3.2,decide_eq_true c4.1,decide_eq_true c4.2]
  simp only [Bool.and_self,Bool.not_true,cond_false,d2,Option.bind_some,frz,rhoM]
  unfold newO at ha hsi
  rw [ha]
  simp only [Option.bind_some]
  rw [hsi,hT.res]
  rfl
def Zbx (t:Ze) (y1:Zd) (s0:Int × Int × Int × Int × (List YLeg) × (List Int) × (List Zf) × (List Zc) × (List Ze) × (List Zk) × (List Int)):Option ((Int × Int × Int × Int × (List YLeg) × (List Int) × (List Zf) × (List Zc) × (List Ze) × (List Zk) × (List Int)) ⊕ (Int × Int × Int × (List YLeg) × (List Int) × (List Zf) × (List Zc) × (List Ze) × (List Zk) × (List Int))):=
 cond (decide (s0.1<(y1.orders.length:Int)))
 ((getI s0.2.2.2.2.2.2.1 s0.1).bind fun y6=>
 (ZbY y6).bind fun y7=>
 (chk (slOk y7 (y6.way.length:Int) y6.way.length)).bind fun _=>
 (ZaQ (subL y6.way y7 (y6.way.length:Int)) t).bind fun y8=>
 cond y8
 ((rhoM [2,3,4,5,6,7,8,9]).bind fun _=>
 (Zbb (⟨(⟨s0.2.2.2.2.1,s0.2.2.2.2.2.1,s0.2.1⟩:Za),s0.2.2.2.2.2.2.1,s0.2.2.2.2.2.2.2.1,s0.2.2.2.2.2.2.2.2.1,s0.2.2.1,s0.2.2.2.2.2.2.2.2.2.1,s0.2.2.2.2.2.2.2.2.2.2,s0.2.2.2.1⟩:Zd) (w64 (s0.1+1))).bind fun y9=>
 some (.inl ((w64 (s0.1+1)),y9.network.change,y9.now,y9.made,y9.network.legs,y9.network.off,y9.orders,y9.bookings,y9.closed,y9.scans,y9.skip)))
 (some (.inl ((w64 (s0.1+1)),s0.2.1,s0.2.2.1,s0.2.2.2.1,s0.2.2.2.2.1,s0.2.2.2.2.2.1,s0.2.2.2.2.2.2.1,s0.2.2.2.2.2.2.2.1,s0.2.2.2.2.2.2.2.2.1,s0.2.2.2.2.2.2.2.2.2.1,s0.2.2.2.2.2.2.2.2.2.2))))
 (some (.inr (s0.2.1,s0.2.2.1,s0.2.2.2.1,s0.2.2.2.2.1,s0.2.2.2.2.2.1,s0.2.2.2.2.2.2.1,s0.2.2.2.2.2.2.2.1,s0.2.2.2.2.2.2.2.2.1,s0.2.2.2.2.2.2.2.2.2.1,s0.2.2.2.2.2.2.2.2.2.2)))
instance (t:Ze) (y1:Zd):ZP (Zbx t y1):=⟨fun s0=>(U 3 (.be 0 0 0::.be 1 0 0::.un::.be 2 0 0::(U 44 (vi (y1.orders.length:Int)::vi s0.1::(U 19 []))))),fun s0=>[some ⟨55,2,[[vi t.leg,vi t.day]]⟩,some ⟨41,10,[[.v (.slice none 0 0),.v (.slice none 0 0),vi 0,.v (.slice none 0 0),.v (.slice none 0 0),.v (.slice none 0 0),vi 0,.v (.slice none 0 0),.v (.slice none 0 0),vi 0]]⟩,some ⟨41,10,[[.ms 3,.ms 4,vi s0.2.1,.ms 5,.ms 6,.ms 7,vi s0.2.2.1,.ms 8,.ms 9,vi s0.2.2.2.1]]⟩,some ⟨67,6,s0.2.2.2.2.1.map cLeg⟩,some ⟨3,1,s0.2.2.2.2.2.1.map cInt⟩,some ⟨62,11,s0.2.2.2.2.2.2.1.map Zw⟩,some ⟨135,4,s0.2.2.2.2.2.2.2.1.map Zg⟩,some ⟨55,2,s0.2.2.2.2.2.2.2.2.1.map Zs⟩,some ⟨130,6,s0.2.2.2.2.2.2.2.2.2.1.map ZF⟩,some ⟨3,1,s0.2.2.2.2.2.2.2.2.2.2.map cInt⟩]⟩
def Zbw (w:Zd) (t:Ze):Option (Zd × Bool):=
 (ZaZ w).bind fun y1=>
 (Za8 w).bind fun y2=>
 cond (!y2)
 (some (y1,false))
 ((Zad w.network t).bind fun y3=>
 cond (!y3)
 (some (y1,false))
 ((ZH w.network t).bind fun y4=>
 cond (decide (y4≤w.now))
 (some (y1,false))
 ((ZaQ w.closed t).bind fun y5=>
 cond y5
 (some (y1,false))
 (cond (decide (20≤(w.closed.length:Int)))
 (some (y1,false))
 ((chk (ZQ ((y1.closed:List Ze).length+([t]:List Ze).length) 16)).bind fun _=>
 (Zj (Zbx t y1) NN (0,y1.network.change,y1.now,y1.made,y1.network.legs,y1.network.off,y1.orders,y1.bookings,((y1.closed:List Ze)++[t]),y1.scans,y1.skip)).bind (fun o0=>
 some ((⟨(⟨o0.2.2.2.1,o0.2.2.2.2.1,o0.1⟩:Za),o0.2.2.2.2.2.1,o0.2.2.2.2.2.2.1,o0.2.2.2.2.2.2.2.1,o0.2.1,o0.2.2.2.2.2.2.2.2.1,o0.2.2.2.2.2.2.2.2.2,o0.2.2.1⟩:Zd),true)))))))
instance (w:Zd) (t:Ze):CT Tryz.prog (Zbw w t):=⟨43,[.ag (Zbt w),.ag (Zs t)],[],fun r=>.tu [.ag [.sl (r.1.network.legs.map cLeg),.sl (r.1.network.off.map cInt),vi r.1.network.change,.sl (r.1.orders.map Zw),.sl (r.1.bookings.map Zg),.sl (r.1.closed.map Zs),vi r.1.now,.sl (r.1.scans.map ZF),.sl (r.1.skip.map cInt),vi r.1.made],vb r.2],fun r=>[],fun H=>by replace H:=H0 H; unfold Zbw at H; exact Zh Tryz.func43 rfl Tryz.ntmps43 Tryz.results43 fun Q hQ hQn=>wk3⟩
def ZaY (t:Ze) (s0:Int × Int × Int × Int × (List YLeg) × (List Int) × (List Zf) × (List Zc) × (List Ze) × (List Zk) × (List Int)):Option ((Int × Int × Int × Int × (List YLeg) × (List Int) × (List Zf) × (List Zc) × (List Ze) × (List Zk) × (List Int)) ⊕ (Int × Int × Int × (List YLeg) × (List Int) × (List Zf) × (List Zc) × (List Ze) × (List Zk) × (List Int))):=
 cond (decide (s0.1<(s0.2.2.2.2.2.2.1.length:Int)))
 ((getI s0.2.2.2.2.2.2.1 s0.1).bind fun y6=>
 (ZaS y6).bind fun y7=>
 (chk (slOk y7 (y6.way.length:Int) y6.way.length)).bind fun _=>
 (Zaq (subL y6.way y7 (y6.way.length:Int)) t).bind fun y8=>
 cond y8
 ((rhoM [2,3,4,5,6,7,8,9]).bind fun _=>
 (ZaF (⟨(⟨s0.2.2.2.2.1,s0.2.2.2.2.2.1,s0.2.1⟩:Za),s0.2.2.2.2.2.2.1,s0.2.2.2.2.2.2.2.1,s0.2.2.2.2.2.2.2.2.1,s0.2.2.1,s0.2.2.2.2.2.2.2.2.2.1,s0.2.2.2.2.2.2.2.2.2.2,s0.2.2.2.1⟩:Zd) s0.1).bind fun y9=>
 some (.inl ((w64 (s0.1+1)),y9.network.change,y9.now,y9.made,y9.network.legs,y9.network.off,y9.orders,y9.bookings,y9.closed,y9.scans,y9.skip)))
 (some (.inl ((w64 (s0.1+1)),s0.2.1,s0.2.2.1,s0.2.2.2.1,s0.2.2.2.2.1,s0.2.2.2.2.2.1,s0.2.2.2.2.2.2.1,s0.2.2.2.2.2.2.2.1,s0.2.2.2.2.2.2.2.2.1,s0.2.2.2.2.2.2.2.2.2.1,s0.2.2.2.2.2.2.2.2.2.2))))
 (some (.inr (s0.2.1,s0.2.2.1,s0.2.2.2.1,s0.2.2.2.2.1,s0.2.2.2.2.2.1,s0.2.2.2.2.2.2.1,s0.2.2.2.2.2.2.2.1,s0.2.2.2.2.2.2.2.2.1,s0.2.2.2.2.2.2.2.2.2.1,s0.2.2.2.2.2.2.2.2.2.2)))
instance (t:Ze):ZP (ZaY t):=⟨fun s0=>(U 3 (.be 0 0 0::.be 1 0 0::.un::.be 2 0 0::vi s0.1::(U 63 []))),fun s0=>[some ⟨55,2,[[vi t.leg,vi t.day]]⟩,some ⟨41,10,[[.v (.slice none 0 0),.v (.slice none 0 0),vi 0,.v (.slice none 0 0),.v (.slice none 0 0),.v (.slice none 0 0),vi 0,.v (.slice none 0 0),.v (.slice none 0 0),vi 0]]⟩,some ⟨41,10,[[.ms 3,.ms 4,vi s0.2.1,.ms 5,.ms 6,.ms 7,vi s0.2.2.1,.ms 8,.ms 9,vi s0.2.2.2.1]]⟩,some ⟨67,6,s0.2.2.2.2.1.map cLeg⟩,some ⟨3,1,s0.2.2.2.2.2.1.map cInt⟩,some ⟨62,11,s0.2.2.2.2.2.2.1.map Zw⟩,some ⟨135,4,s0.2.2.2.2.2.2.2.1.map Zg⟩,some ⟨55,2,s0.2.2.2.2.2.2.2.2.1.map Zs⟩,some ⟨130,6,s0.2.2.2.2.2.2.2.2.2.1.map ZF⟩,some ⟨3,1,s0.2.2.2.2.2.2.2.2.2.2.map cInt⟩]⟩
def Zbn (w:Zd) (t:Ze):Option (Zd × Bool):=
 (Zbf w).bind fun y1=>
 (Zbs w).bind fun y2=>
 cond (!y2)
 (some (y1,false))
 ((Zan w.network t).bind fun y3=>
 cond (!y3)
 (some (y1,false))
 ((Zp w.network t).bind fun y4=>
 cond (decide (y4≤w.now))
 (some (y1,false))
 ((Zaq w.closed t).bind fun y5=>
 cond y5
 (some (y1,false))
 (cond (decide (20≤(w.closed.length:Int)))
 (some (y1,false))
 ((chk (ZQ ((y1.closed:List Ze).length+([t]:List Ze).length) 16)).bind fun _=>
 (Zj (ZaY t) NN (0,y1.network.change,y1.now,y1.made,y1.network.legs,y1.network.off,y1.orders,y1.bookings,((y1.closed:List Ze)++[t]),y1.scans,y1.skip)).bind (fun o0=>
 some ((⟨(⟨o0.2.2.2.1,o0.2.2.2.2.1,o0.1⟩:Za),o0.2.2.2.2.2.1,o0.2.2.2.2.2.2.1,o0.2.2.2.2.2.2.2.1,o0.2.1,o0.2.2.2.2.2.2.2.2.1,o0.2.2.2.2.2.2.2.2.2,o0.2.2.1⟩:Zd),true)))))))
instance (w:Zd) (t:Ze):CT Tryz.prog (Zbn w t):=⟨41,[.ag (Zbt w),.ag (Zs t)],[],fun r=>.tu [.ag [.ms 0,.ms 1,vi r.1.network.change,.ms 2,.ms 3,.ms 4,vi r.1.now,.ms 5,.ms 6,vi r.1.made],vb r.2],fun r=>[some ⟨67,6,r.1.network.legs.map cLeg⟩,some ⟨3,1,r.1.network.off.map cInt⟩,some ⟨62,11,r.1.orders.map Zw⟩,some ⟨135,4,r.1.bookings.map Zg⟩,some ⟨55,2,r.1.closed.map Zs⟩,some ⟨130,6,r.1.scans.map ZF⟩,some ⟨3,1,r.1.skip.map cInt⟩],fun H=>by replace H:=H0 H; unfold Zbn at H; exact Zh Tryz.func41 rfl Tryz.ntmps41 Tryz.results41 fun Q hQ hQn=>wk3⟩
theorem Zws {σ σ' ο ο':Type} {b:σ→Option (σ ⊕ ο)} {b':σ'→Option (σ' ⊕ ο')} (I:Nat→σ→σ'→Prop) {P:ο→ο'→Prop}
 (h:∀ k s s',I k s s'→(∃ t t' k',b s=some (.inl t)∧b' s'=some (.inl t')∧k'<k∧I k' t t')∨∃ o o',b s=some (.inr o)∧b' s'=some (.inr o')∧P o o'):
 ∀ (N k:Nat) (s:σ) (s':σ'),I k s s'→k<N→∃ o o',Zj b N s=some o∧Zj b' N s'=some o'∧P o o'
 | 0,k,s,s',_,hN=>by omega
 | N+1,k,s,s',hI,hN=>by
  simp only [Zj]
  rcases h k s s' hI with ⟨t,t',k',e,e',hk,hI'⟩ | ⟨o,o',e,e',hP⟩
  ·rw [e,e']
   exact Zws I h N k' t t' hI' (by omega)
  ·rw [e,e']
   exact ⟨o,o',rfl,rfl,hP⟩
structure Shut (w:Zd) (t:Ze) (x:Zd):Prop where
 trip:ZbJ w.network t=true
 later:w.now<ZM w.network t
 new:¬ t∈w.closed
 few:w.closed.length<20
 ok:WOk x
 same:ZgT ⟨w.network,w.orders,w.bookings,w.closed++[t],w.now,w.scans,w.skip,w.made⟩ x
 ord:∀ (i:Nat) (o:Zf),w.orders[i]?=some o→∃ o',x.orders[i]?=some o'∧(¬ t∈Zfl o→o'=o)∧Zgf w.network o o'
theorem ZkI {w:Zd} (h:WOk w) (t:Ze):∃ r,Zbw w t=some r∧Zbn w t=some r∧(r=(w,false)∨∃ x,r=(x,true)∧Shut w t x):=by
 have hf:=h.fit
 obtain ⟨p1,p2,p3,p4,p5,p6,p7⟩:=h.parts
 obtain ⟨hP,hRs⟩:=Zcv h
 unfold Zbw Zbn
 rw [Zj3 hf,Zj4 hf,Option.bind_some,Option.bind_some,ZeM hf,Zge hf,h.ok,Option.bind_some,Option.bind_some,(Zgl hf.net t).1,Zio hf.net h.net,Option.bind_some,Option.bind_some]
 simp only [Bool.not_true,cond_false]
 cases htb:ZbJ w.network t with
 | false=>exact ⟨_,rfl,rfl,.inl rfl⟩
 | true=>
 obtain ⟨t1,t2,t3,t4,t5⟩:=ZI hf.net h.net htb
 have hst:ZH w.network t=some (ZM w.network t):=by rw [Zei]; exact t1
 rw [hst,t1,Option.bind_some,Option.bind_some]
 simp only [Bool.not_true,cond_false]
 by_cases c1:ZM w.network t≤w.now
 ·exact ⟨_,by rw [decide_eq_true c1]; rfl,by rw [decide_eq_true c1]; rfl,.inl rfl⟩
 rw [decide_eq_false c1,cond_false,cond_false,Zcs,Zb1 hf.closed,Option.bind_some,Option.bind_some]
 have hcb:(w.closed.any fun y=>decide (y=t))=Z2 w.closed t:=rfl
 rw [hcb]
 cases hcl:Z2 w.closed t with
 | true=>exact ⟨_,rfl,rfl,.inl rfl⟩
 | false=>
 simp only [cond_false]
 by_cases c2:(20:Int)≤(w.closed.length:Int)
 ·exact ⟨_,by rw [decide_eq_true c2]; rfl,by rw [decide_eq_true c2]; rfl,.inl rfl⟩
 have ha:chk (ZQ (w.closed.length+([t]:List Ze).length) 16)=some ():=ZcC (by simp only [List.length_cons,List.length_nil]; omega) (by omega)
 rw [decide_eq_false c2,cond_false,cond_false,ha,Option.bind_some,Option.bind_some]
 let w1:Zd:=⟨w.network,w.orders,w.bookings,w.closed++[t],w.now,w.scans,w.skip,w.made⟩
 have hf1:WFit w1:=⟨hf.net,hf.orders,hf.bookings,by simp only [w1,List.length_append,List.length_cons,List.length_nil]; omega,hf.scans,hf.skip,hf.way⟩
 have hnc:¬ t∈w.closed:=fun hm=>by rw [ZaX.2 hm] at hcl; cases hcl
 have key:∃ r r',Zj (Zbx t w) NN (0,tupS w1)=some r∧Zj (ZaY t) NN (0,tupS w1)=some r'∧r'=r∧∃ u,r=tupS u∧ZgT w1 u∧ZjJ u (fun j=>if j<w.orders.length then u.closed else w.closed)∧∀ (i:Nat) (o:Zf),w.orders[i]?=some o→∃ o',u.orders[i]?=some o'∧(¬ t∈Zfl o→o'=o)∧Zgf w.network o o':=by
  refine Zws (fun (k:Nat) (s s':Int × Int × Int × Int × (List YLeg) × (List Int) × (List Zf) × (List Zc) × (List Ze) × (List Zk) × (List Int))=>s'=s∧∃ (i:Nat) (u:Zd),s=((i:Int),tupS u)∧i+k=w.orders.length∧ZgT w1 u∧ZjJ u (fun j=>if j<i then u.closed else w.closed)∧
   (∀ (j:Nat) (o:Zf),w.orders[j]?=some o→∃ o',u.orders[j]?=some o'∧(¬ t∈Zfl o→o'=o)∧Zgf w.network o o')∧∀ j,i≤j→u.orders[j]?=w.orders[j]?) (fun k s s' hs=>?_) NN w.orders.length _ _ ⟨rfl,0,w1,rfl,by omega,ZgT.refl _,⟨hf1,hP.books,hP.now,hP.olen,fun i o ho=>hP.ord i o ho,hP.sum,fun i=>by simp; omega⟩,fun j o ho=>⟨o,ho,fun _=>rfl,Or.inl rfl⟩,fun j _=>rfl⟩ (by unfold NN; omega)
  obtain ⟨rfl,i,u,rfl,hk,hS,hU,hold,hrest⟩:=hs
  have hul:u.orders.length=w.orders.length:=hS.len
  by_cases hlt:i<w.orders.length
  ·have hd1:decide ((i:Int)<(w.orders.length:Int))=true:=decide_eq_true (by omega)
   have hd2:decide ((i:Int)<(u.orders.length:Int))=true:=decide_eq_true (by omega)
   have hwi:w64 ((i:Int)+1)=((i+1:Nat):Int):=by rw [Zo (by omega)]; omega
   have hio:=List.getElem?_eq_getElem hlt
   have huo:u.orders[i]?=some w.orders[i]:=by rw [hrest i (Nat.le_refl _)]; exact hio
   have hg:getI u.orders (i:Int)=some w.orders[i]:=by rw [Zn]; exact huo
   have hO:=ZaV hU huo
   have hlen:=ZhI hU huo
   obtain ⟨k0,k1,k2,k3⟩:=ZcO hU huo
   have hcome2:ZaS w.orders[i]=some (Zm w.orders[i]):=(Zhh hO.ok.gone (by omega)).1
   have hcome:ZbY w.orders[i]=some (Zm w.orders[i]):=by
    rw [(Zhh hO.ok.gone (by omega)).2.2,if_neg (by omega)]
   have hsl:chk (slOk (Zm w.orders[i]) (w.orders[i].way.length:Int) w.orders[i].way.length)=some ():=Zjh (by unfold slOk; exact decide_eq_true ⟨k0,k1,Int.le_refl _⟩)
   have hsub:subL w.orders[i].way (Zm w.orders[i]) (w.orders[i].way.length:Int)=Zfl w.orders[i]:=by
    unfold subL Zfl
    rw [List.take_of_length_le (by rw [List.length_drop]; omega)]
   have hrl:(Zfl w.orders[i]).length≤1048576:=by unfold Zfl; rw [List.length_drop]; omega
   have hcr:((Zfl w.orders[i]).any fun y=>decide (y=t))=Z2 (Zfl w.orders[i]) t:=rfl
   cases hc:Z2 (Zfl w.orders[i]) t
   rotate_left
   ·have hm:=ZaX.1 hc
    obtain ⟨r1,r2⟩:=ZqP hU huo (fun e=>by rw [e] at hm; cases hm)
    obtain ⟨u',e2,e,hR,hU'⟩:=Zk6 hU huo r1 r2
    obtain ⟨s1,⟨o',o1,o2⟩,s3⟩:=ZpR hU.fit.net hR huo
    rw [hS.network] at o2
    have e':Zbb ⟨⟨u.network.legs,u.network.off,u.network.change⟩,u.orders,u.bookings,u.closed,u.now,u.scans,u.skip,u.made⟩ ((i+1:Nat):Int)=some u':=e
    have e2':ZaF ⟨⟨u.network.legs,u.network.off,u.network.change⟩,u.orders,u.bookings,u.closed,u.now,u.scans,u.skip,u.made⟩ (i:Int)=some u':=e2
    refine .inl ⟨(((i+1:Nat):Int),tupS u'),_,k-1,?_,?_,by omega,rfl,i+1,u',rfl,by omega,hS.trans s1,?_,fun j o ho=>?_,fun j hj=>?_⟩
    ·unfold Zbx
     simp only [tupS,hd1,cond_true,hg,Option.bind_some,hcome,hsl,hsub,Zb1 hrl,hwi,hcr,hc,rhoM,e']
    ·unfold ZaY
     show cond (decide ((i:Int)<(u.orders.length:Int))) _ _=_
     rw [hd2]
     simp only [tupS,cond_true,hg,Option.bind_some,hcome2,hsl,hsub,Zcs,Zb1 hrl,hwi,hcr,hc,rhoM,e2']
    ·have ef:(fun j=>if j=i then u.closed else if j<i then u.closed else w.closed)=fun j=>if j<i+1 then u'.closed else w.closed:=by
      funext j
      rw [s1.closed]
      by_cases hj:j=i
      ·rw [if_pos hj,if_pos (by omega)]
      ·rw [if_neg hj]
       by_cases hj2:j<i
       ·rw [if_pos hj2,if_pos (by omega)]
       ·rw [if_neg hj2,if_neg (by omega)]
     rw [← ef]; exact hU'
    ·by_cases hj:j=i
     ·subst hj
      rw [hio] at ho
      obtain rfl:=Option.some.inj ho
      exact ⟨o',o1,fun hx=>absurd hm hx,o2⟩
     ·rw [s3 j hj]; exact hold j o ho
    ·rw [s3 j (by omega)]; exact hrest j (by omega)
   ·refine .inl ⟨(((i+1:Nat):Int),tupS u),_,k-1,?_,?_,by omega,rfl,i+1,u,rfl,by omega,hS,⟨hU.fit,hU.books,hU.now,hU.olen,fun j o ho=>?_,hU.sum,fun j=>?_⟩,hold,fun j hj=>hrest j (by omega)⟩
    ·unfold Zbx
     simp only [tupS,hd1,cond_true,cond_false,hg,Option.bind_some,hcome,hsl,hsub,Zb1 hrl,hwi,hcr,hc]
    ·unfold ZaY
     show cond (decide ((i:Int)<(u.orders.length:Int))) _ _=_
     rw [hd2]
     simp only [tupS,cond_true,cond_false,hg,Option.bind_some,hcome2,hsl,hsub,Zcs,Zb1 hrl,hwi,hcr,hc]
    ·by_cases hj:j=i
     ·subst hj
      rw [huo] at ho
      obtain rfl:=Option.some.inj ho
      have hv:=hU.ord j _ huo
      rw [if_neg (Nat.lt_irrefl j)] at hv
      rw [if_pos (Nat.lt_succ_self j)]
      unfold Zja ZcY at hv ⊢
      simp only [Bool.and_eq_true,Bool.not_eq_true'] at hv ⊢
      refine ⟨hv.1,?_⟩
      have h12:=hv.2
      rw [hS.closed]
      refine List.any_eq_false.2 fun y hy hyc=>?_
      have:=List.any_eq_false.1 h12 y hy
      have hyc':=ZaX.1 hyc
      rcases List.mem_append.1 hyc' with hx | hx
      ·exact this (ZaX.2 hx)
      ·obtain rfl:=List.mem_singleton.1 hx
       have:Z2 (Zfl w.orders[j]) y=true:=ZaX.2 hy
       rw [this] at hc; cases hc
     ·have hv:=hU.ord j o ho
      by_cases hj2:j<i
      ·rw [if_pos hj2] at hv
       rw [if_pos (by omega)]; exact hv
      ·rw [if_neg hj2] at hv
       rw [if_neg (by omega)]; exact hv
    ·show (if j<i+1 then u.closed else w.closed).length≤1048576
     split
     ·exact hU.fit.closed
     ·exact hf.closed
  ·have hd1:decide ((i:Int)<(w.orders.length:Int))=false:=decide_eq_false (by omega)
   have hd2:decide ((i:Int)<(u.orders.length:Int))=false:=decide_eq_false (by omega)
   refine .inr ⟨tupS u,_,?_,?_,rfl,u,rfl,hS,?_,hold⟩
   ·unfold Zbx
    simp only [tupS,hd1,cond_false]
   ·unfold ZaY
    show cond (decide ((i:Int)<(u.orders.length:Int))) _ _=_
    rw [hd2]
    simp only [tupS,cond_false]
   refine ⟨hU.fit,hU.books,hU.now,hU.olen,fun j o ho=>?_,hU.sum,fun j=>?_⟩
   ·have hj:=(List.getElem?_eq_some_iff.1 ho).1
    have hv:=hU.ord j o ho
    rw [if_pos (by omega)] at hv
    rw [if_pos (by omega)]; exact hv
   ·show (if j<w.orders.length then u.closed else w.closed).length≤1048576
    split
    ·exact hU.fit.closed
    ·exact hf.closed
 obtain ⟨r,_,e,e2,rfl,u,rfl,hS,hU,hold⟩:=key
 have e':Zj (Zbx t w) NN (0,w.network.change,w.now,w.made,w.network.legs,w.network.off,w.orders,w.bookings,w.closed++[t],w.scans,w.skip)=some (tupS u):=e
 have e2':Zj (ZaY t) NN (0,w.network.change,w.now,w.made,w.network.legs,w.network.off,w.orders,w.bookings,w.closed++[t],w.scans,w.skip)=some (tupS u):=e2
 rw [e',e2',Option.bind_some]
 refine ⟨(u,true),rfl,rfl,.inr ⟨u,rfl,htb,by omega,hnc,by omega,?_,hS,hold⟩⟩
 refine Zp9 ⟨hU.fit,hU.books,hU.now,hU.olen,fun j o ho=>?_,hU.sum,fun _=>hU.fit.closed⟩ ⟨?_,by rw [hS.scans]; exact hRs.scans,by rw [hS.skip]; exact hRs.skip,by rw [hS.scans,hS.made]; exact hRs.made,?_,?_⟩
 ·have hj:=(List.getElem?_eq_some_iff.1 ho).1
  have hv:=hU.ord j o ho
  rw [if_pos (by rw [← hS.len]; exact hj)] at hv
  exact hv
 ·rw [hS.closed]; simp only [w1,List.length_append,List.length_cons,List.length_nil]; omega
 ·refine Zas.2 fun j x hx=>?_
  unfold ZgV
  rw [hS.closed,hS.network] at *
  have hx':(w.closed++[t])[j]?=some x:=hx
  rw [Nat.zero_add]
  show (ZbJ w.network x && !Z2 ((w.closed++[t]).take j) x)=true
  by_cases hj:j<w.closed.length
  ·rw [List.getElem?_append_left hj] at hx'
   have:=Zas.1 hRs.cl j x hx'
   unfold ZgV at this
   rw [Nat.zero_add] at this
   rw [List.take_append_of_le_length (by omega)]
   exact this
  ·rw [List.getElem?_append_right (by omega)] at hx'
   have hj0:j-w.closed.length=0:=by
    have:=(List.getElem?_eq_some_iff.1 hx').1
    simp only [List.length_cons,List.length_nil] at this; omega
   rw [hj0] at hx'
   obtain rfl:t=x:=by simpa using hx'
   rw [show j=w.closed.length by omega,List.take_left,hcl,htb]; rfl
 ·refine Zas.2 fun j x hx=>?_
  rw [hS.scans] at hx
  have:=Zas.1 hRs.sc j x hx
  unfold Zk0 at this ⊢
  rw [hS.network,hS.now]
  exact this
def Zdd (w:Zd) (t:Ze) (s0:Int × (List Int)):Option ((Int × (List Int)) ⊕ (List Int)):=
 cond (decide (s0.1<(w.orders.length:Int)))
 ((getI w.orders s0.1).bind fun y2=>
 cond (decide (y2.state=2))
 ((getI y2.way y2.gone).bind fun y3=>
 cond (decide (y3=t))
 ((chk (ZQ ((s0.2:List Int).length+([(w64 (s0.1+1))]:List Int).length) 8)).bind fun _=>
 some (.inl ((w64 (s0.1+1)),((s0.2:List Int)++[(w64 (s0.1+1))]))))
 (some (.inl ((w64 (s0.1+1)),s0.2))))
 (some (.inl ((w64 (s0.1+1)),s0.2))))
 (some (.inr s0.2))
instance (w:Zd) (t:Ze):ZP (Zdd w t):=⟨fun s0=>(U 3 (.be 0 0 0::.un::.ms 1::(U 8 (.sl (w.orders.map Zw)::vi (w.orders.length:Int)::vi s0.1::(U 24 []))))),fun s0=>[some ⟨55,2,[[vi t.leg,vi t.day]]⟩,some ⟨3,1,s0.2.map cInt⟩]⟩
def Zbv (w:Zd) (t:Ze):Option (List Int):=
 (Za8 w).bind fun y1=>
 cond (!y1)
 (some ([]:List Int))
 ((Zj (Zdd w t) NN (0,([]:List Int))).bind (fun o0=>
 some o0))
theorem Zjj (w:Zd) (t:Ze) {r:(List Int)} (H:Zbv w t=some r):Zev Tryz.prog 29 [.ag (Zbt w),.ag (Zs t)] [] (.ms 0) [some ⟨3,1,r.map cInt⟩]:=by
 replace H:=H0 H
 unfold Zbv at H
 refine Zh Tryz.func29 rfl Tryz.ntmps29 Tryz.results29 fun Q hQ hQn=>?_
 exact wk3
instance (w:Zd) (t:Ze):CT Tryz.prog (Zbv w t):=⟨29,[.ag (Zbt w),.ag (Zs t)],[],fun r=>.ms 0,fun r=>[some ⟨3,1,r.map cInt⟩],Zjj w t⟩
structure Zjo (w:Zd) (t:Ze) (r:List Int):Prop where
 len:r.length≤w.orders.length
 pw:r.Pairwise (· < ·)
 at_:∀ y∈r,∃ (i:Nat) (o:Zf),y=(i:Int)+1∧w.orders[i]?=some o∧o.state=2∧getI o.way o.gone=some t
def Zd3 (w:Zd) (place_:ByteArray) (s0:Int × (List Int)):Option ((Int × (List Int)) ⊕ (List Int)):=
 cond (decide (s0.1<(w.orders.length:Int)))
 ((getI w.orders s0.1).bind fun y2=>
 cond (decide (y2.state=1))
 (cond (decide (y2.place=place_))
 ((chk (ZQ ((s0.2:List Int).length+([(w64 (s0.1+1))]:List Int).length) 8)).bind fun _=>
 some (.inl ((w64 (s0.1+1)),((s0.2:List Int)++[(w64 (s0.1+1))]))))
 (some (.inl ((w64 (s0.1+1)),s0.2))))
 (some (.inl ((w64 (s0.1+1)),s0.2))))
 (some (.inr s0.2))
instance (w:Zd) (place_:ByteArray):ZP (Zd3 w place_):=⟨fun s0=>(.un::vs place_::(U 3 (.ms 0::(U 8 (.sl (w.orders.map Zw)::vi (w.orders.length:Int)::vi s0.1::(U 20 [])))))),fun s0=>[some ⟨3,1,s0.2.map cInt⟩]⟩
def Zc4 (w:Zd) (place_:ByteArray):Option (List Int):=
 (Za8 w).bind fun y1=>
 cond (!y1)
 (some ([]:List Int))
 ((Zj (Zd3 w place_) NN (0,([]:List Int))).bind (fun o0=>
 some o0))
theorem ZiW (w:Zd) (place_:ByteArray) {r:(List Int)} (H:Zc4 w place_=some r):Zev Tryz.prog 143 [.ag (Zbt w),vs place_] [] (.ms 0) [some ⟨3,1,r.map cInt⟩]:=by
 replace H:=H0 H
 unfold Zc4 at H
 refine Zh Tryz.func143 rfl Tryz.ntmps143 Tryz.results143 fun Q hQ hQn=>?_
 exact wk3
instance (w:Zd) (place_:ByteArray):CT Tryz.prog (Zc4 w place_):=⟨143,[.ag (Zbt w),vs place_],[],fun r=>.ms 0,fun r=>[some ⟨3,1,r.map cInt⟩],ZiW w place_⟩
def ZbA (w:Zd) (state_:Int) (s0:Int × Int):Option ((Int × Int) ⊕ Int):=
 cond (decide (s0.2<(w.orders.length:Int)))
 ((getI w.orders s0.2).bind fun y1=>
 cond (decide (y1.state=state_))
 (some (.inl ((w64 (s0.1+1)),(w64 (s0.2+1)))))
 (some (.inl (s0.1,(w64 (s0.2+1))))))
 (some (.inr s0.1))
instance (w:Zd) (state_:Int):ZP (ZbA w state_):=⟨fun s0=>(.un::vi state_::(U 3 (vi s0.1::(U 3 (.sl (w.orders.map Zw)::vi (w.orders.length:Int)::vi s0.2::(U 11 [])))))),fun s0=>[]⟩
def Zdx (w:Zd) (state_:Int):Option Int:=
 (Zj (ZbA w state_) NN (0,0)).bind (fun o0=>
 some o0)
instance (w:Zd) (state_:Int):CT Tryz.prog (Zdx w state_):=⟨40,[.ag (Zbt w),vi state_],[],fun r=>vi r,fun r=>[],fun H=>by replace H:=H0 H; unfold Zdx at H; exact Zh Tryz.func40 rfl Tryz.ntmps40 Tryz.results40 fun Q hQ hQn=>wk3⟩
def Zfy (l:List Ze) (t:Ze) (s0:Int):Option (Int ⊕ (Unit ⊕ Bool)):=
 cond (decide (s0<(l.length:Int)))
 ((getI l s0).bind fun y1=>
 cond (decide (y1=t))
 (some (.inr (.inr true)))
 (some (.inl (w64 (s0+1)))))
 (some (.inr (.inl ())))
instance (l:List Ze) (t:Ze):ZP (Zfy l t):=⟨fun s0=>(.sl (l.map Zs)::.un::.un::.be 0 0 0::.un::vi s0::(U 12 [])),fun s0=>[some ⟨55,2,[[vi t.leg,vi t.day]]⟩]⟩
def ZeC (l:List Ze) (t:Ze):Option Bool:=
 (Zj (Zfy l t) NN 0).bind (ZY (fun o0=>
 some false) (fun r=>some r))
instance (l:List Ze) (t:Ze):CT Tryz.prog (ZeC l t):=⟨35,[.sl (l.map Zs),.ag (Zs t)],[],fun r=>vb r,fun r=>[],fun H=>by replace H:=H0 H; unfold ZeC at H; exact Zh Tryz.func35 rfl Tryz.ntmps35 Tryz.results35 fun Q hQ hQn=>wk3⟩
def Zbh (w:Zd) (y2:(List ByteArray)) (s0:Int × Int):Option ((Int × Int) ⊕ Int):=
 cond (decide (s0.2<(y2.length:Int)))
 ((getI y2 s0.2).bind fun y3=>
 (Zc4 w y3).bind fun y4=>
 some (.inl ((w64 (s0.1+(y4.length:Int))),(w64 (s0.2+1)))))
 (some (.inr s0.1))
instance (w:Zd) (y2:(List ByteArray)):ZP (Zbh w y2):=⟨fun s0=>(.un::.be 0 0 0::.un::vi s0.1::.ms 1::vi s0.2::(U 56 [])),fun s0=>[some ⟨41,10,[[.sl (w.network.legs.map cLeg),.sl (w.network.off.map cInt),vi w.network.change,.sl (w.orders.map Zw),.sl (w.bookings.map Zg),.sl (w.closed.map Zs),vi w.now,.sl (w.scans.map ZF),.sl (w.skip.map cInt),vi w.made]]⟩,some ⟨9,1,y2.map cStr⟩]⟩
def Zd5 (w:Zd) (s1:Int × Int × (List Ze)):Option ((Int × Int × (List Ze)) ⊕ Int):=
 cond (decide (s1.2.1<(w.bookings.length:Int)))
 ((getI w.bookings s1.2.1).bind fun y5=>
 (ZeC s1.2.2 y5.trip).bind fun y6=>
 cond (!y6)
 ((chk (ZQ ((s1.2.2:List Ze).length+([y5.trip]:List Ze).length) 16)).bind fun _=>
 (Zbv w y5.trip).bind fun y7=>
 some (.inl ((w64 (s1.1+(y7.length:Int))),(w64 (s1.2.1+1)),((s1.2.2:List Ze)++[y5.trip]))))
 (some (.inl (s1.1,(w64 (s1.2.1+1)),s1.2.2))))
 (some (.inr s1.1))
instance (w:Zd):ZP (Zd5 w):=⟨fun s1=>(.un::.be 0 0 0::.un::vi s1.1::.un::.un::.ms 1::vi s1.2.1::(U 54 [])),fun s1=>[some ⟨41,10,[[.sl (w.network.legs.map cLeg),.sl (w.network.off.map cInt),vi w.network.change,.sl (w.orders.map Zw),.sl (w.bookings.map Zg),.sl (w.closed.map Zs),vi w.now,.sl (w.scans.map ZF),.sl (w.skip.map cInt),vi w.made]]⟩,some ⟨55,2,s1.2.2.map Zs⟩]⟩
def Zeb (w:Zd):Option Bool:=
 (Zdx w 3).bind fun y1=>
 (Z5 w.network).bind fun y2=>
 (Zj (Zbh w y2) NN (y1,0)).bind (fun o0=>
 (Zj (Zd5 w) NN (o0,0,([]:List Ze))).bind (fun o1=>
 some (decide (o1=(w.orders.length:Int)))))
instance (w:Zd):CT Tryz.prog (Zeb w):=⟨50,[.ag (Zbt w)],[],fun r=>vb r,fun r=>[],fun H=>by replace H:=H0 H; unfold Zeb at H; exact Zh Tryz.func50 rfl Tryz.ntmps50 Tryz.results50 fun Q hQ hQn=>wk3⟩
def Zdu (w:Zd) (s0:Int × (List Int)):Option ((Int × (List Int)) ⊕ (List Int)):=
 cond (decide (s0.1<(w.orders.length:Int)))
 ((getI w.orders s0.1).bind fun y2=>
 (Zbl w y2).bind fun y3=>
 cond y3
 ((chk (ZQ ((s0.2:List Int).length+([(w64 (s0.1+1))]:List Int).length) 8)).bind fun _=>
 some (.inl ((w64 (s0.1+1)),((s0.2:List Int)++[(w64 (s0.1+1))]))))
 (some (.inl ((w64 (s0.1+1)),s0.2))))
 (some (.inr s0.2))
instance (w:Zd):ZP (Zdu w):=⟨fun s0=>(.un::.be 0 0 0::.un::.ms 1::(U 8 (.sl (w.orders.map Zw)::vi (w.orders.length:Int)::vi s0.1::(U 14 [])))),fun s0=>[some ⟨41,10,[[.sl (w.network.legs.map cLeg),.sl (w.network.off.map cInt),vi w.network.change,.sl (w.orders.map Zw),.sl (w.bookings.map Zg),.sl (w.closed.map Zs),vi w.now,.sl (w.scans.map ZF),.sl (w.skip.map cInt),vi w.made]]⟩,some ⟨3,1,s0.2.map cInt⟩]⟩
def ZdC (w:Zd):Option (List Int):=
 (Za8 w).bind fun y1=>
 cond (!y1)
 (some ([]:List Int))
 ((Zj (Zdu w) NN (0,([]:List Int))).bind (fun o0=>
 some o0))
instance (w:Zd):CT Tryz.prog (ZdC w):=⟨38,[.ag (Zbt w)],[],fun r=>.ms 0,fun r=>[some ⟨3,1,r.map cInt⟩],fun H=>by replace H:=H0 H; unfold ZdC at H; exact Zh Tryz.func38 rfl Tryz.ntmps38 Tryz.results38 fun Q hQ hQn=>wk3⟩
def Zga (p:Zf→Bool):Nat→List Zf→List Int
 | _,[]=>[]
 | i,o::os=>(if p o=true then [((i+1:Nat):Int)] else [])++Zga p (i+1) os
theorem Zgp (p:Zf→Bool):∀ (os:List Zf) (i:Nat),(Zga p i os).length=os.countP p
 | [],_=>rfl
 | o::os,i=>by
  unfold Zga
  rw [List.length_append,Zgp p os,List.countP_cons]
  cases p o <;> simp <;> omega
theorem Ziy {p:Zf→Bool} {x:Int}:∀ {os:List Zf} {i:Nat},x∈Zga p i os↔∃ (j:Nat) (o:Zf),os[j]?=some o∧p o=true∧x=((i+j+1:Nat):Int)
 | [],i=>by simp [Zga]
 | o::os,i=>by
  unfold Zga
  rw [List.mem_append,Ziy (os:=os) (i:=i+1)]
  constructor
  ·rintro (h | ⟨j,o',h1,h2,h3⟩)
   ·cases hp:p o with
    | false=>rw [hp] at h; simp at h
    | true=>rw [hp,if_pos rfl] at h; exact ⟨0,o,rfl,hp,by rw [List.mem_singleton.1 h]⟩
   ·exact ⟨j+1,o',by simpa using h1,h2,by rw [h3,show i+1+j+1=i+(j+1)+1 by omega]⟩
  ·rintro ⟨j,o',h1,h2,h3⟩
   cases j with
   | zero=>
    obtain rfl:o=o':=by simpa using h1
    exact .inl (by rw [h2,if_pos rfl,h3]; simp)
   | succ j=>exact .inr ⟨j,o',by simpa using h1,h2,by rw [h3,show i+1+j+1=i+(j+1)+1 by omega]⟩
theorem ZlB (p:Zf→Bool):∀ (os:List Zf) (o:Zf) (i:Nat),Zga p i (os++[o])=Zga p i os++(if p o=true then [((i+os.length+1:Nat):Int)] else [])
 | [],o,i=>by simp [Zga]
 | x::os,o,i=>by
  simp only [List.cons_append,Zga,ZlB p os o (i+1),List.append_assoc,List.length_cons]
  rw [show i+1+os.length+1=i+(os.length+1)+1 by omega]
theorem Zjt {w:Zd} (hl:w.orders.length≤1048576) {body:Int × List Int→Option ((Int × List Int) ⊕ List Int)} {p:Zf→Bool}
 (h1:∀ (i:Nat) (out:List Int) (o:Zf),w.orders[i]?=some o→out.length≤i→body ((i:Int),out)=some (.inl (((i+1:Nat):Int),out++(if p o=true then [((i+1:Nat):Int)] else []))))
 (h2:∀ out,body ((w.orders.length:Int),out)=some (.inr out)):Zj body NN (0,([]:List Int))=some (Zga p 0 w.orders):=by
 refine ZbW (body:=body) (fun i:Nat=>((i:Int),Zga p 0 (w.orders.take i))) (n:=w.orders.length) (fun i hi=>?_) (by simp only [List.take_length]; exact h2 _) NN (by unfold NN; omega)
 have ho:=List.getElem?_eq_getElem hi
 have hpl:(Zga p 0 (w.orders.take i)).length≤i:=by
  rw [Zgp]
  exact Nat.le_trans List.countP_le_length (by rw [List.length_take]; omega)
 rw [h1 i _ _ ho hpl,List.take_succ_eq_append_getElem hi,ZlB,List.length_take,Nat.min_eq_left (by omega),Nat.zero_add]
theorem ZlP {n:Nat} (h:n≤1048576):chk (ZQ (n+1) 8)=some ():=Zjh (by unfold ZQ; rw [decide_eq_true_iff]; omega)
def ZaW (n:Za) (o:Zf):Bool:=!decide (o.state=3) && decide (Zm o=o.way.length) && !decide (Zb8 n o=o.to_)
def Zq5 (p:ByteArray) (o:Zf):Bool:=decide (o.state=1) && decide (o.place=p)
def Znz (t:Ze) (o:Zf):Bool:=decide (o.state=2) && decide (o.way[o.gone.toNat]?=some t)
section
variable {w:Zd} (h:WOk w)
include h
theorem ZtF (p:ByteArray):Zc4 w p=some (Zga (Zq5 p) 0 w.orders):=by
 have hor:=h.fit.orders
 unfold Zc4
 rw [ZeM h.fit,h.ok,Option.bind_some]
 simp only [Bool.not_true,cond_false]
 rw [Zjt hor (p:=Zq5 p) (fun i out o ho hlen=>?_) (fun out=>by unfold Zd3; simp)]
 ·rfl
 ·have hlt:=(List.getElem?_eq_some_iff.1 ho).1
  have hg:getI w.orders (i:Int)=some o:=by rw [Zn]; exact ho
  have hi:w64 ((i:Int)+1)=((i+1:Nat):Int):=ZR hlt (by omega)
  unfold Zd3 Zq5
  simp only [decide_eq_true (show (i:Int)<w.orders.length by omega),cond_true,hg,Option.bind_some,hi,List.length_cons,List.length_nil,ZlP (show out.length≤1048576 by omega)]
  cases decide (o.state=1) <;> cases decide (o.place=p) <;> simp
theorem ZuQ (t:Ze):Zbv w t=some (Zga (Znz t) 0 w.orders):=by
 have hor:=h.fit.orders
 unfold Zbv
 rw [ZeM h.fit,h.ok,Option.bind_some]
 simp only [Bool.not_true,cond_false]
 rw [Zjt hor (p:=Znz t) (fun i out o ho hlen=>?_) (fun out=>by unfold Zdd; simp)]
 ·rfl
 ·have hlt:=(List.getElem?_eq_some_iff.1 ho).1
  have hg:getI w.orders (i:Int)=some o:=by rw [Zn]; exact ho
  have hi:w64 ((i:Int)+1)=((i+1:Nat):Int):=ZR hlt (by omega)
  have hok:=Zdk h.fit h.ok ho
  unfold Zdd Znz
  simp only [decide_eq_true (show (i:Int)<w.orders.length by omega),cond_true,hg,Option.bind_some,hi,List.length_cons,List.length_nil,ZlP (show out.length≤1048576 by omega)]
  by_cases h2:o.state=2
  ·have hgl:o.gone<o.way.length:=by
    rcases hok.cases with ⟨c,_⟩ | ⟨_,c⟩ | ⟨c,_⟩ <;> omega
   obtain ⟨t2,htg,_⟩:=ZkS h.fit h.ok ho hok.gone.1 hgl
   rw [(Zdb htg).2]
   simp only [decide_eq_true h2,cond_true,htg,Option.bind_some,Option.some.injEq,Bool.true_and]
   cases decide (t2=t) <;> simp
  ·rw [decide_eq_false h2]; simp
theorem Zmw {i:Nat} {o:Zf} (ho:w.orders[i]?=some o):Zbl w o=some (ZaW w.network o):=by
 have hok:=Zdk h.fit h.ok ho
 have hl:=h.fit.way o (List.mem_of_getElem? ho)
 obtain ⟨_,_,c3⟩:=Zhh hok.gone hl
 have hge:=hok.gone
 unfold Zbl ZaW
 rcases hok.cases with ⟨k1,k2⟩ | ⟨k1,k2⟩ | ⟨k1,k2,k3⟩
 ·have hcv:Zm o=o.gone:=by unfold Zm; rw [if_neg (by omega)]
  have hp:Zez w o=some (Zb8 w.network o):=by
   unfold Zez Zb8
   rw [decide_eq_false (show ¬ o.state=2 by omega),if_neg (show ¬ o.state=2 by omega)]; rfl
  rw [c3,hcv,if_neg (show ¬ (o.way.length:Int)<o.gone by omega),hp,decide_eq_false (show ¬ o.state=3 by omega)]
  simp only [Option.bind_some]
  cases decide (o.gone=(o.way.length:Int)) <;> rfl
 ·have hcv:Zm o=o.gone+1:=by unfold Zm; rw [if_pos k1]
  obtain ⟨t,htg,htb⟩:=ZkS h.fit h.ok ho hok.gone.1 k2
  obtain ⟨y,hy,_⟩:=Zah h.fit.net htb
  have hp:Zez w o=some (Zb8 w.network o):=by
   unfold Zez Zb8
   rw [decide_eq_true k1,if_pos k1,htg,(Zdb htg).2]
   simp only [cond_true,Option.bind_some,hy,Option.map_some,Option.getD_some]
   unfold ZL
   rw [hy]; rfl
  rw [c3,hcv,if_neg (show ¬ (o.way.length:Int)<o.gone+1 by omega),hp,decide_eq_false (show ¬ o.state=3 by omega)]
  simp only [Option.bind_some]
  cases decide (o.gone+1=(o.way.length:Int)) <;> rfl
 ·rw [decide_eq_true k1]; rfl
theorem ZnN:ZdC w=some (Zga (ZaW w.network) 0 w.orders):=by
 have hor:=h.fit.orders
 unfold ZdC
 rw [ZeM h.fit,h.ok,Option.bind_some]
 simp only [Bool.not_true,cond_false]
 rw [Zjt hor (p:=ZaW w.network) (fun i out o ho hlen=>?_) (fun out=>by unfold Zdu; simp)]
 ·rfl
 ·have hlt:=(List.getElem?_eq_some_iff.1 ho).1
  have hg:getI w.orders (i:Int)=some o:=by rw [Zn]; exact ho
  have hi:w64 ((i:Int)+1)=((i+1:Nat):Int):=ZR hlt (by omega)
  unfold Zdu
  simp only [decide_eq_true (show (i:Int)<w.orders.length by omega),cond_true,hg,Option.bind_some,hi,Zmw h ho,List.length_cons,List.length_nil,ZlP (show out.length≤1048576 by omega)]
  cases ZaW w.network o <;> simp
end
theorem ZvW {w:Zd} (hl:w.orders.length≤1048576) (s:Int):Zdx w s=some ((w.orders.countP fun o=>decide (o.state=s):Nat):Int):=by
 unfold Zdx
 have:=ZbW (body:=ZbA w s) (fun i:Nat=>((((w.orders.take i).countP fun o=>decide (o.state=s):Nat):Int),(i:Int))) (n:=w.orders.length) (o:=((w.orders.countP fun o=>decide (o.state=s):Nat):Int)) (fun i hi=>?_) (by unfold ZbA; simp [List.take_length]) NN (by unfold NN; omega)
 ·have e:Zj (ZbA w s) NN (0,0)=some ((w.orders.countP fun o=>decide (o.state=s):Nat):Int):=this
  rw [e]; rfl
 ·have ho:=List.getElem?_eq_getElem hi
  have hg:getI w.orders (i:Int)=some w.orders[i]:=by rw [Zn]; exact ho
  have hw:w64 ((i:Int)+1)=((i+1:Nat):Int):=ZR hi (by omega)
  have hc:((w.orders.take i).countP fun o=>decide (o.state=s))≤1048576:=Nat.le_trans List.countP_le_length (by rw [List.length_take]; omega)
  unfold ZbA
  simp only [decide_eq_true (show (i:Int)<w.orders.length by omega),cond_true,hg,Option.bind_some,hw]
  rw [List.take_succ_eq_append_getElem hi,List.countP_append,List.countP_singleton]
  cases decide (w.orders[i].state=s) with
  | true=>
   rw [cond_true,Zo (by omega)]
   rfl
  | false=>rfl
theorem Ztv {β:Type} (g e:β→Nat):∀ P:List β,(P.map fun p=>g p+e p).sum=(P.map g).sum+(P.map e).sum
 | []=>rfl
 | p::P=>by simp only [List.map_cons,List.sum_cons,Ztv g e P]; omega
theorem Ztw {β:Type} [DecidableEq β] (c:Bool) (x:β):∀ P:List β,P.Nodup→(P.map fun p=>if (c && decide (x=p))=true then 1 else 0).sum=if c=true∧x∈P then 1 else 0
 | [],_=>by simp
 | p::P,hn=>by
  obtain ⟨n1,n2⟩:=List.nodup_cons.1 hn
  rw [List.map_cons,List.sum_cons,Ztw c x P n2]
  cases c with
  | false=>simp
  | true=>
   by_cases hf:x=p
   ·subst hf
    simp [n1]
   ·simp [hf]
theorem Zh2 {α β:Type} [DecidableEq β] (q:α→Bool) (f:α→β):∀ (os:List α) (P:List β),P.Nodup→(∀ o∈os,q o=true→f o∈P)→(P.map fun p=>os.countP fun o=>q o && decide (f o=p)).sum=os.countP q
 | [],P,_,_=>by
  have:∀ P:List β,(P.map fun _=>0).sum=0:=fun P=>by induction P with
   | nil=>rfl
   | cons a P ih=>rw [List.map_cons,List.sum_cons,ih]
  exact this P
 | o::os,P,hn,hm=>by
  have ih:=Zh2 q f os P hn fun x hx=>hm x (by simp [hx])
  have e:(fun p=>(o::os).countP fun o=>q o && decide (f o=p))=fun p=>(os.countP fun o=>q o && decide (f o=p))+(if (q o && decide (f o=p))=true then 1 else 0):=funext fun p=>List.countP_cons
  rw [e,Ztv,ih,Ztw (q o) (f o) P hn,List.countP_cons]
  cases hq:q o with
  | false=>simp
  | true=>rw [if_pos ⟨rfl,hm o (by simp) hq⟩]; simp
theorem Zje (n:Za):(Zb n).Nodup:=by
 unfold Zb List.Nodup
 have hs:((ZdQ n).foldl insS []).Pairwise fun a b=>sLt a b=true:=Zhl List.Pairwise.nil
 exact hs.imp fun {a b} (hlt:sLt a b=true) (e:a=b)=>Zs4 b (by rw [e] at hlt; exact hlt)
theorem ZoN {l:List Ze} (hl:l.length≤1048576) (t:Ze):ZeC l t=some (Z2 l t):=by
 unfold ZeC
 rw [Zhn (xs:=l) (p:=fun y=>decide (y=t)) (r:=.inr true) (e:=.inl ()) (fun i hi=>?_) (by simp [Zfy]) (by unfold NN; omega)]
 ·unfold Z2
  cases l.any fun y=>decide (y=t) <;> rfl
 ·have hg:getI l (i:Int)=some l[i]:=by rw [Zn]; exact List.getElem?_eq_getElem hi
  have hw:w64 ((i:Int)+1)=((i+1:Nat):Int):=ZR hi (by omega)
  unfold Zfy
  simp only [decide_eq_true (show (i:Int)<l.length by omega),cond_true,hg,Option.bind_some,hw]
  cases decide (l[i]=t) <;> rfl
theorem ZoE {w:Zd} (h:WOk w):Zeb w=some true:=by
 obtain ⟨p1,p2,p3,p4,p5,p6,p7⟩:=h.parts
 have hpl:=Zaz w.network
 have hlg:=Zff h.net
 obtain ⟨hP,_⟩:=Zcv h
 unfold Zeb
 rw [ZvW h.fit.orders,Option.bind_some,(Zac h.fit.net).2,Option.bind_some]
 let c3:=w.orders.countP fun o=>decide (o.state=3)
 let W:=fun p:ByteArray=>w.orders.countP (Zq5 p)
 let R:=fun t:Ze=>w.orders.countP (Znz t)
 have bnd:∀ q:Zf→Bool,w.orders.countP q≤30:=fun q=>Nat.le_trans List.countP_le_length p2
 have sumb:∀ (l:List ByteArray),(l.map W).sum≤30*l.length:=fun l=>by
  induction l with
  | nil=>simp
  | cons a l ih=>simp only [List.map_cons,List.sum_cons,List.length_cons]; have:W a≤30:=bnd (Zq5 a); omega
 have sumr:∀ (l:List Ze),(l.map R).sum≤30*l.length:=fun l=>by
  induction l with
  | nil=>simp
  | cons a l ih=>simp only [List.map_cons,List.sum_cons,List.length_cons]; have:R a≤30:=bnd (Znz a); omega
 have e1:Zj (Zbh w (Zb w.network)) NN ((c3:Int),0)=some (((c3+((Zb w.network).map W).sum:Nat)):Int):=by
  refine ZbW (body:=Zbh w (Zb w.network)) (fun i:Nat=>(((c3+(((Zb w.network).take i).map W).sum:Nat):Int),(i:Int))) (n:=(Zb w.network).length) (fun i hi=>?_) (by unfold Zbh; simp [List.take_length]) NN (by unfold NN; omega)
  have hg:getI (Zb w.network) (i:Int)=some (Zb w.network)[i]:=by rw [Zn]; exact List.getElem?_eq_getElem hi
  have hw:w64 ((i:Int)+1)=((i+1:Nat):Int):=ZR hi (by omega)
  have hs:=sumb ((Zb w.network).take i)
  rw [List.length_take] at hs
  have hc:=bnd fun o=>decide (o.state=3)
  have hb:=bnd (Zq5 (Zb w.network)[i])
  unfold Zbh
  simp only [decide_eq_true (show (i:Int)<(Zb w.network).length by omega),cond_true,hg,Option.bind_some,hw,ZtF h,Zgp]
  rw [Zo (by show _∧((c3+_:Nat):Int)+_≤_; omega),List.take_succ_eq_append_getElem hi,List.map_append,List.sum_append]
  simp only [List.map_cons,List.map_nil,List.sum_cons,List.sum_nil,Nat.add_zero]
  rw [← Nat.add_assoc]; rfl
 have e1':Zj (Zbh w (Zb w.network)) NN (((w.orders.countP fun o=>decide (o.state=3):Nat):Int),0)=_:=e1
 rw [e1',Option.bind_some]
 have e2:Tot (Zj (Zd5 w) NN ((((c3+((Zb w.network).map W).sum:Nat)):Int),0,([]:List Ze))) fun r=>∃ seen:List Ze,seen.Nodup∧(∀ b∈w.bookings,b.trip∈seen)∧r=((c3+((Zb w.network).map W).sum+(seen.map R).sum:Nat):Int):=by
  refine Tot.loop (fun (k:Nat) (s:Int × Int × List Ze)=>∃ i:Nat,s.2.1=(i:Int)∧i+k=w.bookings.length∧s.2.2.length≤i∧s.2.2.Nodup∧(∀ j,j<i→∀ b,w.bookings[j]?=some b→b.trip∈s.2.2)∧s.1=((c3+((Zb w.network).map W).sum+(s.2.2.map R).sum:Nat):Int)) (fun k s hs=>?_) NN w.bookings.length _ ⟨0,rfl,by omega,by simp,List.nodup_nil,fun j hj=>by omega,by simp⟩ (by unfold NN; omega)
  obtain ⟨i,hi,hk,hsl,hnd,hin,hn⟩:=hs
  unfold Zd5
  rw [hi]
  refine Tot.cond (fun hd=>?_) fun hd=>Tot.ret ⟨s.2.2,hnd,fun b hb=>?_,hn⟩
  ·have hlt:i<w.bookings.length:=by have:=of_decide_eq_true hd; omega
   have hw:w64 ((i:Int)+1)=((i+1:Nat):Int):=ZR hlt (by omega)
   have hb:=List.getElem?_eq_getElem hlt
   have hg:getI w.bookings (i:Int)=some w.bookings[i]:=by rw [Zn]; exact hb
   rw [hg,Option.bind_some,ZoN (by omega),Option.bind_some,hw]
   refine Tot.cond (fun hc=>?_) fun hc=>Tot.ret ⟨k-1,by omega,i+1,rfl,by omega,by simp only; omega,hnd,fun j hj b hjb=>?_,hn⟩
   ·have hc':¬ w.bookings[i].trip∈s.2.2:=fun hm=>by rw [ZaX.2 hm] at hc; cases hc
    refine Tot.chk (Zfo (by simp only [List.length_cons,List.length_nil]; omega) (by omega)) ?_
    rw [ZuQ h,Option.bind_some]
    have hs1:=sumb (Zb w.network)
    have hs2:=sumr s.2.2
    have hc3:=bnd fun o=>decide (o.state=3)
    have hbr:=bnd (Znz w.bookings[i].trip)
    refine Tot.ret ⟨k-1,by omega,i+1,rfl,by omega,by simp only [List.length_append,List.length_cons,List.length_nil]; omega,?_,fun j hj b hjb=>?_,?_⟩
    ·refine List.nodup_append.2 ⟨hnd,by simp,fun a ha b hb e=>?_⟩
     obtain rfl:=List.mem_singleton.1 hb
     exact hc' (e ▸ ha)
    ·refine List.mem_append.2 ?_
     by_cases hji:j=i
     ·subst hji
      rw [hb] at hjb
      obtain rfl:=Option.some.inj hjb
      exact .inr (by simp)
     ·exact .inl (hin j (by omega) b hjb)
    ·simp only
     rw [hn,Zgp,Zo (by show _∧((c3+_+_:Nat):Int)+_≤_; omega),List.map_append,List.sum_append]
     simp only [List.map_cons,List.map_nil,List.sum_cons,List.sum_nil,Nat.add_zero]
     rw [← Nat.add_assoc]; rfl
   ·by_cases hji:j=i
    ·subst hji
     rw [hb] at hjb
     obtain rfl:=Option.some.inj hjb
     exact ZaX.1 (by simpa using hc)
    ·exact hin j (by omega) b hjb
  ·have:=of_decide_eq_false hd
   obtain ⟨j,hj,rfl⟩:=List.getElem_of_mem hb
   exact hin j (by omega) _ (List.getElem?_eq_getElem hj)
 obtain ⟨r,e2,seen,hnd,hin,rfl⟩:=e2
 rw [e2,Option.bind_some]
 have s1:((Zb w.network).map W).sum=w.orders.countP fun o=>decide (o.state=1):=by
  refine Zh2 (fun o:Zf=>decide (o.state=1)) (fun o=>o.place) w.orders (Zb w.network) (Zje _) fun o ho hs=>?_
  obtain ⟨i,hi,rfl⟩:=List.getElem_of_mem ho
  have hio:=List.getElem?_eq_getElem hi
  have hst:=of_decide_eq_true hs
  have hO:=ZaV hP hio
  have hpl:=Zj7 hP hio (by omega)
  have hp2:Zb8 w.network w.orders[i]=w.orders[i].place:=by unfold Zb8; rw [if_neg (by omega)]
  rw [← hp2,← hpl]
  have hv:=Zd8 h.ok hio
  unfold ZcY at hv
  simp only [Bool.and_eq_true,Bool.not_eq_true',decide_eq_true_iff,decide_eq_false_iff_not] at hv
  exact Zvp (Zme h.fit.net h.net (by have:=hv.1.1.1.1.1.1.1.1.1.1.1; omega) fun t ht=>hO.ok.trip t (List.mem_of_mem_take ht))
 have s2:(seen.map R).sum=w.orders.countP fun o=>decide (o.state=2):=by
  have hR:∀ t,R t=w.orders.countP fun o=>decide (o.state=2) && decide ((o.way[o.gone.toNat]?).getD ⟨0,0⟩=t):=fun t=>by
   show w.orders.countP (Znz t)=_
   refine List.countP_congr fun o ho=>?_
   obtain ⟨i,hi,rfl⟩:=List.getElem_of_mem ho
   have hio:=List.getElem?_eq_getElem hi
   unfold Znz
   by_cases h2:w.orders[i].state=2
   ·rcases (ZaV hP hio).st.cases with ⟨c,_⟩ | ⟨_,_,_,t',c1,_⟩ | ⟨c,_⟩
    ·omega
    ·rw [c1]; simp
    ·omega
   ·simp [h2]
  have hm:seen.map R=seen.map fun t=>w.orders.countP fun o=>decide (o.state=2) && decide ((o.way[o.gone.toNat]?).getD ⟨0,0⟩=t):=List.map_congr_left fun t _=>hR t
  rw [hm]
  refine Zh2 (fun o:Zf=>decide (o.state=2)) (fun o=>(o.way[o.gone.toNat]?).getD ⟨0,0⟩) w.orders seen hnd fun o ho hs=>?_
  obtain ⟨i,hi,rfl⟩:=List.getElem_of_mem ho
  have hio:=List.getElem?_eq_getElem hi
  have hst:=of_decide_eq_true hs
  rcases (ZaV hP hio).st.cases with ⟨c,_⟩ | ⟨_,_,_,t',c1,_⟩ | ⟨c,_⟩
  ·omega
  ·rw [c1]
   exact hin _ (Zg0 hP hio (List.mem_of_getElem? c1))
  ·omega
 have s3:∀ (os:List Zf),(∀ o∈os,o.state=1∨o.state=2∨o.state=3)→(os.countP fun o=>decide (o.state=3))+(os.countP fun o=>decide (o.state=1))+(os.countP fun o=>decide (o.state=2))=os.length:=by
  intro os
  induction os with
  | nil=>intro _; rfl
  | cons o os ih=>
   intro hs
   have:=ih fun x hx=>hs x (by simp [hx])
   simp only [List.countP_cons,List.length_cons]
   rcases hs o (by simp) with e | e | e <;> rw [e] <;> simp <;> omega
 have s4:=s3 w.orders fun o ho=>by
  obtain ⟨i,hi,rfl⟩:=List.getElem_of_mem ho
  rcases (ZaV hP (List.getElem?_eq_getElem hi)).st.cases with ⟨c,_⟩ | ⟨c,_⟩ | ⟨c,_⟩
  ·exact .inl c
  ·exact .inr (.inl c)
  ·exact .inr (.inr c)
 rw [s1,s2]
 have:((c3+(w.orders.countP fun o=>decide (o.state=1))+(w.orders.countP fun o=>decide (o.state=2)):Nat):Int)=(w.orders.length:Int):=by
  have hc:c3=w.orders.countP fun o=>decide (o.state=3):=rfl
  omega
 rw [this,decide_eq_true rfl]
def ZaJ (y2:(List Int)) (s0:Int × Int × Int × Int × Int × (List YLeg) × (List Int) × (List Zf) × (List Zc) × (List Ze) × (List Zk) × (List Int)):Option ((Int × Int × Int × Int × Int × (List YLeg) × (List Int) × (List Zf) × (List Zc) × (List Ze) × (List Zk) × (List Int)) ⊕ (Int × Int × Int × Int × (List YLeg) × (List Int) × (List Zf) × (List Zc) × (List Ze) × (List Zk) × (List Int))):=
 cond (decide (s0.2.1<(y2.length:Int)))
 ((getI y2 s0.2.1).bind fun y3=>
 (rhoM [1,2,3,4,5,6,7,8]).bind fun _=>
 (Zbb (⟨(⟨s0.2.2.2.2.2.1,s0.2.2.2.2.2.2.1,s0.2.2.1⟩:Za),s0.2.2.2.2.2.2.2.1,s0.2.2.2.2.2.2.2.2.1,s0.2.2.2.2.2.2.2.2.2.1,s0.2.2.2.1,s0.2.2.2.2.2.2.2.2.2.2.1,s0.2.2.2.2.2.2.2.2.2.2.2,s0.2.2.2.2.1⟩:Zd) y3).bind fun y4=>
 (getI y4.orders (w64 (y3-1))).bind fun y5=>
 (Zbl y4 y5).bind fun y6=>
 cond (!y6)
 (some (.inl ((w64 (s0.1+1)),(w64 (s0.2.1+1)),y4.network.change,y4.now,y4.made,y4.network.legs,y4.network.off,y4.orders,y4.bookings,y4.closed,y4.scans,y4.skip)))
 (some (.inl (s0.1,(w64 (s0.2.1+1)),y4.network.change,y4.now,y4.made,y4.network.legs,y4.network.off,y4.orders,y4.bookings,y4.closed,y4.scans,y4.skip))))
 (some (.inr (s0.1,s0.2.2.1,s0.2.2.2.1,s0.2.2.2.2.1,s0.2.2.2.2.2.1,s0.2.2.2.2.2.2.1,s0.2.2.2.2.2.2.2.1,s0.2.2.2.2.2.2.2.2.1,s0.2.2.2.2.2.2.2.2.2.1,s0.2.2.2.2.2.2.2.2.2.2.1,s0.2.2.2.2.2.2.2.2.2.2.2)))
instance (y2:(List Int)):ZP (ZaJ y2):=⟨fun s0=>(.un::.un::.be 0 0 0::.un::.be 1 0 0::vi s0.1::(U 5 (.ms 9::vi (y2.length:Int)::vi s0.2.1::(U 19 [])))),fun s0=>[some ⟨41,10,[[.v (.slice none 0 0),.v (.slice none 0 0),vi 0,.v (.slice none 0 0),.v (.slice none 0 0),.v (.slice none 0 0),vi 0,.v (.slice none 0 0),.v (.slice none 0 0),vi 0]]⟩,some ⟨41,10,[[.ms 2,.ms 3,vi s0.2.2.1,.ms 4,.ms 5,.ms 6,vi s0.2.2.2.1,.ms 7,.ms 8,vi s0.2.2.2.2.1]]⟩,some ⟨67,6,s0.2.2.2.2.2.1.map cLeg⟩,some ⟨3,1,s0.2.2.2.2.2.2.1.map cInt⟩,some ⟨62,11,s0.2.2.2.2.2.2.2.1.map Zw⟩,some ⟨135,4,s0.2.2.2.2.2.2.2.2.1.map Zg⟩,some ⟨55,2,s0.2.2.2.2.2.2.2.2.2.1.map Zs⟩,some ⟨130,6,s0.2.2.2.2.2.2.2.2.2.2.1.map ZF⟩,some ⟨3,1,s0.2.2.2.2.2.2.2.2.2.2.2.map cInt⟩,some ⟨3,1,y2.map cInt⟩]⟩
def Zer (w:Zd):Option (Zd × Int):=
 (ZaZ w).bind fun y1=>
 (ZdC w).bind fun y2=>
 (Zj (ZaJ y2) NN (0,0,y1.network.change,y1.now,y1.made,y1.network.legs,y1.network.off,y1.orders,y1.bookings,y1.closed,y1.scans,y1.skip)).bind (fun o0=>
 some ((⟨(⟨o0.2.2.2.2.1,o0.2.2.2.2.2.1,o0.2.1⟩:Za),o0.2.2.2.2.2.2.1,o0.2.2.2.2.2.2.2.1,o0.2.2.2.2.2.2.2.2.1,o0.2.2.1,o0.2.2.2.2.2.2.2.2.2.1,o0.2.2.2.2.2.2.2.2.2.2,o0.2.2.2.1⟩:Zd),o0.1))
instance (w:Zd):CT Tryz.prog (Zer w):=⟨45,[.ag (Zbt w)],[],fun r=>.tu [.ag [.sl (r.1.network.legs.map cLeg),.sl (r.1.network.off.map cInt),vi r.1.network.change,.sl (r.1.orders.map Zw),.sl (r.1.bookings.map Zg),.sl (r.1.closed.map Zs),vi r.1.now,.sl (r.1.scans.map ZF),.sl (r.1.skip.map cInt),vi r.1.made],vi r.2],fun r=>[],fun H=>by replace H:=H0 H; unfold Zer at H; exact Zh Tryz.func45 rfl Tryz.ntmps45 Tryz.results45 fun Q hQ hQn=>wk3⟩
def Zdv (w:Zd) (s0:Int × (List Int)):Option ((Int × (List Int)) ⊕ (List Int)):=
 cond (decide (s0.1<(w.orders.length:Int)))
 ((Zcq w s0.1).bind fun y2=>
 cond y2
 ((chk (ZQ ((s0.2:List Int).length+([(w64 (s0.1+1))]:List Int).length) 8)).bind fun _=>
 some (.inl ((w64 (s0.1+1)),((s0.2:List Int)++[(w64 (s0.1+1))]))))
 (some (.inl ((w64 (s0.1+1)),s0.2))))
 (some (.inr s0.2))
instance (w:Zd):ZP (Zdv w):=⟨fun s0=>(.un::.be 0 0 0::.un::.ms 1::vi s0.1::(U 21 [])),fun s0=>[some ⟨41,10,[[.sl (w.network.legs.map cLeg),.sl (w.network.off.map cInt),vi w.network.change,.sl (w.orders.map Zw),.sl (w.bookings.map Zg),.sl (w.closed.map Zs),vi w.now,.sl (w.scans.map ZF),.sl (w.skip.map cInt),vi w.made]]⟩,some ⟨3,1,s0.2.map cInt⟩]⟩
def ZbU (w:Zd):Option (List Int):=
 (Zbs w).bind fun y1=>
 cond (!y1)
 (some ([]:List Int))
 ((Zj (Zdv w) NN (0,([]:List Int))).bind (fun o0=>
 some o0))
instance (w:Zd):CT Tryz.prog (ZbU w):=⟨129,[.ag (Zbt w)],[],fun r=>.ms 0,fun r=>[some ⟨3,1,r.map cInt⟩],fun H=>by replace H:=H0 H; unfold ZbU at H; exact Zh Tryz.func129 rfl Tryz.ntmps129 Tryz.results129 fun Q hQ hQn=>wk3⟩
def Zax (y2:(List Int)) (s0:Int × Int × Int × Int × (List YLeg) × (List Int) × (List Zf) × (List Zc) × (List Ze) × (List Zk) × (List Int)):Option ((Int × Int × Int × Int × (List YLeg) × (List Int) × (List Zf) × (List Zc) × (List Ze) × (List Zk) × (List Int)) ⊕ (Int × Int × Int × (List YLeg) × (List Int) × (List Zf) × (List Zc) × (List Ze) × (List Zk) × (List Int))):=
 cond (decide (s0.1<(y2.length:Int)))
 ((getI y2 s0.1).bind fun y3=>
 (rhoM [1,2,3,4,5,6,7,8]).bind fun _=>
 (ZaF (⟨(⟨s0.2.2.2.2.1,s0.2.2.2.2.2.1,s0.2.1⟩:Za),s0.2.2.2.2.2.2.1,s0.2.2.2.2.2.2.2.1,s0.2.2.2.2.2.2.2.2.1,s0.2.2.1,s0.2.2.2.2.2.2.2.2.2.1,s0.2.2.2.2.2.2.2.2.2.2,s0.2.2.2.1⟩:Zd) (w64 (y3-1))).bind fun y4=>
 some (.inl ((w64 (s0.1+1)),y4.network.change,y4.now,y4.made,y4.network.legs,y4.network.off,y4.orders,y4.bookings,y4.closed,y4.scans,y4.skip)))
 (some (.inr (s0.2.1,s0.2.2.1,s0.2.2.2.1,s0.2.2.2.2.1,s0.2.2.2.2.2.1,s0.2.2.2.2.2.2.1,s0.2.2.2.2.2.2.2.1,s0.2.2.2.2.2.2.2.2.1,s0.2.2.2.2.2.2.2.2.2.1,s0.2.2.2.2.2.2.2.2.2.2)))
instance (y2:(List Int)):ZP (Zax y2):=⟨fun s0=>(.un::.un::.be 0 0 0::.un::.be 1 0 0::.ms 9::vi s0.1::(U 23 [])),fun s0=>[some ⟨41,10,[[.v (.slice none 0 0),.v (.slice none 0 0),vi 0,.v (.slice none 0 0),.v (.slice none 0 0),.v (.slice none 0 0),vi 0,.v (.slice none 0 0),.v (.slice none 0 0),vi 0]]⟩,some ⟨41,10,[[.ms 2,.ms 3,vi s0.2.1,.ms 4,.ms 5,.ms 6,vi s0.2.2.1,.ms 7,.ms 8,vi s0.2.2.2.1]]⟩,some ⟨67,6,s0.2.2.2.2.1.map cLeg⟩,some ⟨3,1,s0.2.2.2.2.2.1.map cInt⟩,some ⟨62,11,s0.2.2.2.2.2.2.1.map Zw⟩,some ⟨135,4,s0.2.2.2.2.2.2.2.1.map Zg⟩,some ⟨55,2,s0.2.2.2.2.2.2.2.2.1.map Zs⟩,some ⟨130,6,s0.2.2.2.2.2.2.2.2.2.1.map ZF⟩,some ⟨3,1,s0.2.2.2.2.2.2.2.2.2.2.map cInt⟩,some ⟨3,1,y2.map cInt⟩]⟩
def ZaD (w:Zd):Option (Zd × Int):=
 (Zbf w).bind fun y1=>
 (ZbU w).bind fun y2=>
 (Zj (Zax y2) NN (0,y1.network.change,y1.now,y1.made,y1.network.legs,y1.network.off,y1.orders,y1.bookings,y1.closed,y1.scans,y1.skip)).bind (fun o0=>
 (ZbU (⟨(⟨o0.2.2.2.1,o0.2.2.2.2.1,o0.1⟩:Za),o0.2.2.2.2.2.1,o0.2.2.2.2.2.2.1,o0.2.2.2.2.2.2.2.1,o0.2.1,o0.2.2.2.2.2.2.2.2.1,o0.2.2.2.2.2.2.2.2.2,o0.2.2.1⟩:Zd)).bind fun y5=>
 some ((⟨(⟨o0.2.2.2.1,o0.2.2.2.2.1,o0.1⟩:Za),o0.2.2.2.2.2.1,o0.2.2.2.2.2.2.1,o0.2.2.2.2.2.2.2.1,o0.2.1,o0.2.2.2.2.2.2.2.2.1,o0.2.2.2.2.2.2.2.2.2,o0.2.2.1⟩:Zd),(w64 ((y2.length:Int)-(y5.length:Int)))))
instance (w:Zd):CT Tryz.prog (ZaD w):=⟨44,[.ag (Zbt w)],[],fun r=>.tu [.ag [.ms 0,.ms 1,vi r.1.network.change,.ms 2,.ms 3,.ms 4,vi r.1.now,.ms 5,.ms 6,vi r.1.made],vi r.2],fun r=>[some ⟨67,6,r.1.network.legs.map cLeg⟩,some ⟨3,1,r.1.network.off.map cInt⟩,some ⟨62,11,r.1.orders.map Zw⟩,some ⟨135,4,r.1.bookings.map Zg⟩,some ⟨55,2,r.1.closed.map Zs⟩,some ⟨130,6,r.1.scans.map ZF⟩,some ⟨3,1,r.1.skip.map cInt⟩],fun H=>by replace H:=H0 H; unfold ZaD at H; exact Zh Tryz.func44 rfl Tryz.ntmps44 Tryz.results44 fun Q hQ hQn=>wk3⟩
theorem Zll {α:Type} (p:α→Bool):∀ {l:List α} {i:Nat} {o:α} (x:α),l[i]?=some o→(l.set i x).countP p+(if p o=true then 1 else 0)=l.countP p+(if p x=true then 1 else 0)
 | [],_,_,_,h=>by simp at h
 | a::l,0,o,x,h=>by
  obtain rfl:a=o:=by simpa using h
  simp only [List.set_cons_zero,List.countP_cons]; omega
 | a::l,i+1,o,x,h=>by
  have:=Zll p x (l:=l) (i:=i) (o:=o) (by simpa using h)
  simp only [List.set_cons_succ,List.countP_cons]; omega
theorem ZpN (p:Zf→Bool):∀ (os:List Zf) (i:Nat),(Zga p i os).Pairwise (· < ·)
 | [],_=>List.Pairwise.nil
 | o::os,i=>by
  unfold Zga
  refine List.pairwise_append.2 ⟨by cases p o <;> simp,ZpN p os (i+1),fun a ha b hb=>?_⟩
  obtain ⟨j,o',_,_,rfl⟩:=Ziy.1 hb
  cases hp:p o with
  | false=>rw [hp] at ha; simp at ha
  | true=>
   rw [hp,if_pos rfl] at ha
   obtain rfl:=List.mem_singleton.1 ha
   omega
theorem Zmz.same {w w':Zd} (h:Zmz w) (k:ZgT w w'):Zmz w':=by
 refine ⟨by rw [k.closed]; exact h.closed,by rw [k.scans]; exact h.scans,by rw [k.skip]; exact h.skip,by rw [k.scans,k.made]; exact h.made,?_,?_⟩
 ·have:=h.cl
  unfold ZgV at this ⊢
  rw [k.closed,k.network]; exact this
 ·have:=h.sc
  unfold Zk0 at this ⊢
  rw [k.scans,k.network,k.now]; exact this
def Zu9 (n:Za) (closed:List Ze) (now:Int) (bs:List Zc) (i:Nat) (o:Zf):Prop:=(∃ x,Zy n bs closed (Zb8 n o) o.to_ (atR n now o) o.weight=some (x,false))∨
 ∃ way,Zy n bs closed (Zb8 n o) o.to_ (atR n now o) o.weight=some (way,true)∧ZN n bs ((i+1:Nat):Int) o.weight way=some (bs,false)
structure Zrd (w x:Zd) (n:Nat):Prop where
 ok:WOk x
 same:ZgT w x
 num:n+x.orders.countP (ZaW w.network)=w.orders.countP (ZaW w.network)
 ord:∀ (i:Nat) (o:Zf),w.orders[i]?=some o→∃ o',x.orders[i]?=some o'∧Zgf w.network o o'∧(o'=o∨ZaW w.network o=true∧ZaW w.network o'=false)
 none:∀ (i:Nat) (o:Zf),w.orders[i]?=some o→x.orders[i]?=some o→ZaW w.network o=true→∃ bs,(∀ b∈bs,b∈x.bookings)∧ZZ w.network bs=true∧Zu9 w.network w.closed w.now bs i o
theorem ZnM {n:Za} {o:Zf} (h:ZaW n o=true):¬ o.state=3∧Zm o=o.way.length∧¬ Zb8 n o=o.to_∧Zfl o=[]∧ZT o=o.way:=by
 unfold ZaW at h
 simp only [Bool.and_eq_true,Bool.not_eq_true',decide_eq_true_iff,decide_eq_false_iff_not] at h
 refine ⟨h.1.1,h.1.2,h.2,?_,?_⟩
 ·unfold Zfl
  exact List.drop_eq_nil_of_le (by omega)
 ·unfold ZT
  exact List.take_of_length_le (by omega)
theorem ZhU {w:Zd} (h:WOk w):ZbU w=some (Zga (ZaW w.network) 0 w.orders):=by
 have hor:=h.fit.orders
 unfold ZbU
 rw [Zge h.fit,h.ok,Option.bind_some]
 simp only [Bool.not_true,cond_false]
 rw [Zjt hor (p:=ZaW w.network) (fun i out o ho hlen=>?_) (fun out=>by unfold Zdv; simp)]
 ·rfl
 ·have hlt:=(List.getElem?_eq_some_iff.1 ho).1
  have hi:w64 ((i:Int)+1)=((i+1:Nat):Int):=ZR hlt (by omega)
  obtain ⟨b,b1,b2,_⟩:=ZoZ h.fit h.ok ho
  rw [Zmw h ho] at b1
  have hb:Zcq w (i:Int)=some (ZaW w.network o):=by rw [b2,Option.some.inj b1]
  unfold Zdv
  simp only [decide_eq_true (show (i:Int)<w.orders.length by omega),cond_true,hi,hb,Option.bind_some,List.length_cons,List.length_nil,ZlP (show out.length≤1048576 by omega)]
  cases ZaW w.network o <;> simp
theorem ZqR {w:Zd} (h:WOk w):∃ (x:Zd) (n:Nat),Zer w=some (x,(n:Int))∧ZaD w=some (x,(n:Int))∧Zrd w x n:=by
 have hf:=h.fit
 obtain ⟨p1,p2,p3,p4,p5,p6,p7⟩:=h.parts
 let ids:=Zga (ZaW w.network) 0 w.orders
 have hidl:ids.length≤30:=by
  show (Zga _ 0 w.orders).length≤30
  rw [Zgp]; exact Nat.le_trans List.countP_le_length p2
 have hpw:ids.Pairwise (· < ·):=ZpN _ _ _
 unfold Zer ZaD
 rw [Zj3 hf,Zj4 hf,Option.bind_some,Option.bind_some,ZnN h,ZhU h,Option.bind_some,Option.bind_some]
 have key:∃ r r',Zj (ZaJ ids) NN (0,0,tupS w)=some r∧Zj (Zax ids) NN (0,tupS w)=some r'∧∃ (u:Zd) (m:Nat),r=((m:Int),tupS u)∧r'=tupS u∧Zrd w u m:=by
  refine Zws (fun (k:Nat) (s:Int × Int × Int × Int × Int × (List YLeg) × (List Int) × (List Zf) × (List Zc) × (List Ze) × (List Zk) × (List Int)) (s':Int × Int × Int × Int × (List YLeg) × (List Int) × (List Zf) × (List Zc) × (List Ze) × (List Zk) × (List Int))=>
   ∃ (a:Nat) (u:Zd) (m:Nat),s=((m:Int),(a:Int),tupS u)∧s'=((a:Int),tupS u)∧a+k=ids.length∧WOk u∧ZgT w u∧m≤a∧m+u.orders.countP (ZaW w.network)=w.orders.countP (ZaW w.network)∧
   (∀ (i:Nat) (o:Zf),w.orders[i]?=some o→∃ o',u.orders[i]?=some o'∧Zgf w.network o o'∧(o'=o∨ZaW w.network o=true∧ZaW w.network o'=false))∧
   (∀ (i:Nat) (o:Zf),w.orders[i]?=some o→(∀ b,b<a→¬ ids[b]?=some ((i+1:Nat):Int))→u.orders[i]?=some o)∧
   (∀ (i:Nat) (o:Zf),w.orders[i]?=some o→u.orders[i]?=some o→ZaW w.network o=true→(∃ b,b<a∧ids[b]?=some ((i+1:Nat):Int))→∃ bs,(∀ b∈bs,b∈u.bookings)∧ZZ w.network bs=true∧Zu9 w.network w.closed w.now bs i o)) (fun k s s' hs=>?_) NN ids.length _ _
   ⟨0,w,0,rfl,rfl,by omega,h,ZgT.refl w,Nat.le_refl _,Nat.zero_add _,fun i o ho=>⟨o,ho,Or.inl rfl,.inl rfl⟩,fun i o ho _=>ho,fun i o _ _ _ hb=>by obtain ⟨b,hb,_⟩:=hb; omega⟩ (by unfold NN; omega)
  obtain ⟨a,u,m,rfl,rfl,hk,hu,hS,hma,hnum,hold,hrest,hnone⟩:=hs
  have hd0:∀ b,decide ((a:Int)<(ids.length:Int))=b→decide ((a:Int)<(ids.length:Int))=b:=fun _ e=>e
  by_cases hlt:a<ids.length
  ·have hd:decide ((a:Int)<(ids.length:Int))=true:=decide_eq_true (by omega)
   have hwa:w64 ((a:Int)+1)=((a+1:Nat):Int):=by rw [Zo (by omega)]; omega
   have hwm:w64 ((m:Int)+1)=((m+1:Nat):Int):=by rw [Zo (by omega)]; omega
   have hia:ids[a]?=some ids[a]:=List.getElem?_eq_getElem hlt
   have hga:getI ids (a:Int)=some ids[a]:=by rw [Zn]; exact hia
   obtain ⟨i,o,hio,hst,hx⟩:=Ziy.1 (List.getElem_mem hlt)
   rw [Nat.zero_add] at hx
   have hx':ids[a]=((i+1:Nat):Int):=hx
   have hi30:i<30:=by have:=(List.getElem?_eq_some_iff.1 hio).1; omega
   have huo:u.orders[i]?=some o:=hrest i o hio fun b hb e=>by
    have hbl:b<ids.length:=by omega
    rw [List.getElem?_eq_getElem hbl] at e
    have:=List.pairwise_iff_getElem.1 hpw b a hbl hlt hb
    rw [Option.some.inj e,hx'] at this
    omega
   obtain ⟨hU,hRs⟩:=Zcv hu
   obtain ⟨r1,r2,r3,r4,r5⟩:=ZnM hst
   have hnet:u.network=w.network:=hS.network
   obtain ⟨u',e2,e,hR,hU'⟩:=Zk6 hU huo r1 (by rw [hnet]; exact r3)
   obtain ⟨s1,⟨o',o1,o2⟩,s3⟩:=ZpR hU.fit.net hR huo
   rw [hnet] at o2
   have hok':WOk u':=by
    refine Zp9 ?_ (hRs.same s1)
    have ef:(fun j=>if j=i then u.closed else u.closed)=fun _:Nat=>u'.closed:=by
     funext j; rw [s1.closed]; split <;> rfl
    rw [← ef]; exact hU'
   have hleft:Zds u i o=u.bookings:=by unfold Zds; rw [r4]; exact ZrM _ _
   have hsv:=Zmw hok' o1
   have hnet':u'.network=w.network:=s1.network.trans hnet
   rw [hnet'] at hsv
   have hwi:w64 (((i+1:Nat):Int)-1)=(i:Int):=by rw [Zo (by omega)]; omega
   have hgo:getI u'.orders (i:Int)=some o':=by rw [Zn]; exact o1
   have e':Zbb ⟨⟨u.network.legs,u.network.off,u.network.change⟩,u.orders,u.bookings,u.closed,u.now,u.scans,u.skip,u.made⟩ ((i+1:Nat):Int)=some u':=e
   have e2':ZaF ⟨⟨u.network.legs,u.network.off,u.network.change⟩,u.orders,u.bookings,u.closed,u.now,u.scans,u.skip,u.made⟩ (i:Int)=some u':=e2
   have hsp:Zax ids ((a:Int),tupS u)=some (.inl (((a+1:Nat):Int),tupS u')):=by
    unfold Zax
    simp only [tupS,hd,cond_true,hga,Option.bind_some,rhoM,hx',hwi,e2',hwa]
   have him:∀ v,ZaW w.network o'=v→ZaJ ids ((m:Int),(a:Int),tupS u)=some (.inl ((((if v=true then m else m+1):Nat):Int),((a+1:Nat):Int),tupS u')):=fun v hv=>by
    unfold ZaJ
    simp only [tupS,hd,cond_true,hga,Option.bind_some,rhoM,hx',hwi,e',hgo,hwa]
    rw [hsv,hv,Option.bind_some]
    cases v with
    | true=>rfl
    | false=>rw [hwm]; rfl
   rcases hR with ⟨hno,hu'⟩ | ⟨way,bs,hN,hu'⟩
   ·
    have huu:u'=u:=by
     have hset:u.orders.set i o=u.orders:=by
      refine List.ext_getElem? fun j=>?_
      by_cases hj:i=j
      ·subst hj
       rw [List.getElem?_set_self (List.getElem?_eq_some_iff.1 huo).1,huo]
      ·rw [List.getElem?_set_ne hj]
     rw [hu',hleft,r5]
     show (⟨u.network,u.orders.set i o,u.bookings,u.closed,u.now,u.scans,u.skip,u.made⟩:Zd)=u
     rw [hset]
    rw [huu] at o1 hsp him
    rw [huo] at o1
    obtain rfl:=Option.some.inj o1
    refine .inl ⟨_,_,k-1,him _ hst,hsp,by omega,a+1,u,m,by rw [if_pos rfl],rfl,by omega,hu,hS,by omega,hnum,hold,fun j x hj hb=>hrest j x hj fun b hba=>hb b (by omega),fun j x hj hux hsx hb=>?_⟩
    obtain ⟨b,hb1,hb2⟩:=hb
    by_cases hba:b<a
    ·exact hnone j x hj hux hsx ⟨b,hba,hb2⟩
    ·have hbe:b=a:=by omega
     subst hbe
     rw [hia,hx'] at hb2
     have hji:j=i:=by have:=Option.some.inj hb2; omega
     subst hji
     rw [hio] at hj
     obtain rfl:=Option.some.inj hj
     refine ⟨u.bookings,fun b hb=>hb,by rw [← hnet]; exact hU.books,?_⟩
     have hno':=hno
     unfold ZvH at hno'
     rw [hleft,hnet,hS.closed,hS.now] at hno'
     exact hno'
   ·
    have hwne:¬ way=[]:=fun hw=>by
     have hl:=hN.wayR.last
     rw [hw] at hl
     have hl':(some (Zb8 u.network o):Option ByteArray)=some o.to_:=hl
     rw [hnet] at hl'
     exact r3 (Option.some.inj hl')
    have ho':o'=Zbq o (ZT o++way):=by
     rw [hu'] at o1
     have:(u.orders.set i (Zbq o (ZT o++way)))[i]?=some o':=o1
     rw [List.getElem?_set_self (List.getElem?_eq_some_iff.1 huo).1] at this
     exact (Option.some.inj this).symm
    have hfalse:ZaW w.network o'=false:=by
     have hcv:Zm o'=Zm o:=by rw [ho']; rfl
     have hwl:0<way.length:=by cases way with
      | nil=>exact absurd rfl hwne
      | cons a b=>simp
     have hol:o'.way.length=o.way.length+way.length:=by
      rw [ho']
      show (ZT o++way).length=_
      rw [List.length_append,r5]
     unfold ZaW
     rw [decide_eq_false (show ¬ Zm o'=(o'.way.length:Int) by omega)]; simp
    have hbk:u'.bookings=bs:=by rw [hu']; rfl
    have hin:∀ b∈u.bookings,b∈u'.bookings:=fun b hb=>by
     rw [hbk]
     exact hN.perm.mem_iff.2 (List.mem_append_left _ (by rw [hleft]; exact hb))
    have hcnt:=Zll (ZaW w.network) (Zbq o (ZT o++way)) huo
    rw [← ho',hst,hfalse] at hcnt
    have hou:u'.orders=u.orders.set i o':=by rw [hu',ho']; rfl
    simp only [if_true,Bool.false_eq_true,if_false] at hcnt
    refine .inl ⟨_,_,k-1,him _ hfalse,hsp,by omega,a+1,u',m+1,by simp,rfl,by omega,hok',hS.trans s1,by omega,by rw [hou]; omega,fun j x hj=>?_,fun j x hj hb=>?_,fun j x hj hux hsx hb=>?_⟩
    ·by_cases hji:j=i
     ·subst hji
      rw [hio] at hj
      obtain rfl:=Option.some.inj hj
      exact ⟨o',o1,o2,.inr ⟨hst,hfalse⟩⟩
     ·rw [s3 j hji]; exact hold j x hj
    ·have hji:¬ j=i:=fun e=>hb a (by omega) (by rw [hia,hx',e])
     rw [s3 j hji]
     exact hrest j x hj fun b hba=>hb b (by omega)
    ·have hji:¬ j=i:=fun e=>by
      subst e
      rw [o1] at hux
      rw [← Option.some.inj hux,hfalse] at hsx
      cases hsx
     rw [s3 j hji] at hux
     obtain ⟨b,hb1,hb2⟩:=hb
     have hba:b<a:=by
      rcases Nat.lt_or_ge b a with hx1 | hx1
      ·exact hx1
      ·have hbe:b=a:=by omega
       subst hbe
       rw [hia,hx'] at hb2
       exact absurd (by have:=Option.some.inj hb2; omega) hji
     obtain ⟨bs',q1,q2,q3⟩:=hnone j x hj hux hsx ⟨b,hba,hb2⟩
     exact ⟨bs',fun b hb=>hin b (q1 b hb),q2,q3⟩
  ·have hd:decide ((a:Int)<(ids.length:Int))=false:=decide_eq_false (by omega)
   refine .inr ⟨((m:Int),tupS u),tupS u,?_,?_,u,m,rfl,rfl,hu,hS,hnum,hold,fun i o ho huo hst=>hnone i o ho huo hst ?_⟩
   ·unfold ZaJ
    simp only [tupS,hd,cond_false]
   ·unfold Zax
    simp only [tupS,hd,cond_false]
   ·have hm:((0+i+1:Nat):Int)∈ids:=Ziy.2 ⟨i,o,ho,hst,rfl⟩
    rw [Nat.zero_add] at hm
    obtain ⟨b,hb,hbe⟩:=List.getElem_of_mem hm
    exact ⟨b,by omega,by rw [List.getElem?_eq_getElem hb,hbe]⟩
 obtain ⟨r,r',e,e2,u,m,rfl,rfl,hR⟩:=key
 have e':Zj (ZaJ (Zga (ZaW w.network) 0 w.orders)) NN (0,0,w.network.change,w.now,w.made,w.network.legs,w.network.off,w.orders,w.bookings,w.closed,w.scans,w.skip)=some ((m:Int),tupS u):=e
 have e2':Zj (Zax (Zga (ZaW w.network) 0 w.orders)) NN (0,w.network.change,w.now,w.made,w.network.legs,w.network.off,w.orders,w.bookings,w.closed,w.scans,w.skip)=some (tupS u):=e2
 rw [e',e2']
 refine ⟨u,m,rfl,?_,hR⟩
 have hsu:=ZhU hR.ok
 have hsu':ZbU ⟨⟨u.network.legs,u.network.off,u.network.change⟩,u.orders,u.bookings,u.closed,u.now,u.scans,u.skip,u.made⟩=some (Zga (ZaW u.network) 0 u.orders):=hsu
 simp only [tupS,Option.bind_some,hsu']
 have hn:=hR.num
 have hnn:ZaW u.network=ZaW w.network:=by rw [hR.same.network]
 rw [Zgp,Zgp,hnn]
 have hc:w.orders.countP (ZaW w.network)≤30:=Nat.le_trans List.countP_le_length p2
 rw [Zo (by omega),show ((w.orders.countP (ZaW w.network):Nat):Int)-((u.orders.countP (ZaW w.network):Nat):Int)=(m:Int) by omega]
structure OrdD (n:Za) (o:Zf):Prop where
 gone:0≤o.gone∧o.gone≤100001
 comes:Zm o≤o.way.length
 way:o.way.length≤110000
 leg:∀ (k:Nat) t,(k:Int)<Zm o→o.way[k]?=some t→∃ y,getI n.legs t.leg=some y
def FinE (n:Za) (o:Zf):Prop:=Zm o=o.way.length∨∀ t,o.way.getLast?=some t→ZL n t=o.to_
structure FinO (n:Za) (now:Int) (o:Zf):Prop where
 ends:FinE n o
 started:o.state=2→∃ t,o.way[o.gone.toNat]?=some t∧ZM n t≤now
 gone:0≤o.gone∧o.gone≤100001
structure WD (n:Za) (w:Zd):Prop where
 fit:WFit w
 net:w.network=n
 closed:w.closed.length≤1000
 fin:∀ o∈w.orders,FinO n w.now o
structure AgD (n:Za) (w:Zd):Prop where
 net:w.network=n
 orders:w.orders.length≤30
 bookings:w.bookings.length≤120
 closed:w.closed.length≤21
 scans:w.scans.length≤201
 skip:w.skip.length≤50
 ord:∀ o∈w.orders,OrdD n o
 fin:∀ o∈w.orders,FinO n w.now o
theorem ZnY {n:Za} {o:Zf} (h:ZiK n o):o.way.length≤100001:=by
 have key:∀ (i:Nat) t,o.way[i]?=some t→(i:Int)≤ZM n t:=by
  intro i
  induction i with
  | zero=>intro t ht; exact (h.trip t (List.mem_of_getElem? ht)).1
  | succ i ih=>
   intro t ht
   have hlt:=(List.getElem?_eq_some_iff.1 ht).1
   have h1:o.way[i]?=some o.way[i]:=List.getElem?_eq_getElem (by omega)
   have:=ih _ h1
   have:=h.trip _ (List.getElem_mem (show i<o.way.length by omega))
   have:=h.next i _ _ h1 ht
   omega
 rcases Nat.eq_zero_or_pos o.way.length with h0 | h0
 ·omega
 ·have hlt:o.way.length-1<o.way.length:=by omega
  have h1:=key _ _ (List.getElem?_eq_getElem hlt)
  have h2:=h.trip _ (List.getElem_mem hlt)
  omega
theorem WOk.ag {w:Zd} (h:WOk w) (hfin:∀ o∈w.orders,FinO w.network w.now o):AgD w.network w:=by
 obtain ⟨p1,p2,p3,p4,p5,p6,p7⟩:=h.parts
 refine ⟨rfl,p2,p7,by omega,by omega,p5,fun o ho=>?_,hfin⟩
 obtain ⟨i,hi,rfl⟩:=List.getElem_of_mem ho
 have hi':=List.getElem?_eq_getElem hi
 have hw:=h.way hi'
 have hok:=Zdk h.fit h.ok hi'
 have hs:=ZnY hw
 have hg:=hw.gone
 refine ⟨⟨hg.1,by omega⟩,?_,by omega,fun k t _ ht=>?_⟩
 ·unfold Zm
  split
  ·rename_i h2
   rcases hok.cases with ⟨c,_⟩ | ⟨_,c⟩ | ⟨c,_⟩ <;> omega
  ·exact hg.2
 ·obtain ⟨y,hy,_⟩:=Zah h.fit.net (hok.trip t (List.mem_of_getElem? ht))
  exact ⟨y,hy⟩
theorem AgD.fit {n:Za} (hf:Z0 n) {w:Zd} (h:AgD n w):WFit w:=by
 have h1:=h.orders
 have h2:=h.bookings
 have h3:=h.closed
 have h4:=h.scans
 have h5:=h.skip
 exact ⟨by rw [h.net]; exact hf,by omega,by omega,by omega,by omega,by omega,fun o ho=>by have:=(h.ord o ho).way; omega⟩
theorem OrdD.on {n:Za} {o o':Zf} (h:OrdD n o) (hg:o'.gone=o.gone) (hs:o'.state=o.state) {r:List Ze} (hw:o'.way=subL o.way 0 (Zm o)++r) (hr:r.length≤2000):OrdD n o':=by
 have hcl:=h.comes
 have g:=h.gone
 have hc:Zm o'=Zm o:=by unfold Zm; rw [hg,hs]
 have c0:0≤Zm o∧Zm o≤100002:=by unfold Zm; split <;> omega
 have hsub:subL o.way 0 (Zm o)=o.way.take (Zm o).toNat:=by unfold subL; simp
 have hlen:(subL o.way 0 (Zm o)).length=(Zm o).toNat:=by rw [hsub,List.length_take]; omega
 refine ⟨by rw [hg]; exact g,?_,?_,fun k t hk ht=>?_⟩
 ·rw [hc,hw,List.length_append,hlen]; omega
 ·rw [hw,List.length_append,hlen]; omega
 ·rw [hc] at hk
  rw [hw,List.getElem?_append_left (by rw [hlen]; omega),hsub,List.getElem?_take_of_lt (by omega)] at ht
  exact h.leg k t hk ht
theorem FinO.on {n:Za} {now:Int} {o o':Zf} (h:OrdD n o) (hF:FinO n now o) (hg:o'.gone=o.gone) (hs:o'.state=o.state) (ht:o'.to_=o.to_) {r:List Ze} (hw:o'.way=subL o.way 0 (Zm o)++r) (hr:∀ t,r.getLast?=some t→ZL n t=o.to_):FinO n now o':=by
 have hcl:=h.comes
 have g:=h.gone
 have hc:Zm o'=Zm o:=by unfold Zm; rw [hg,hs]
 have c0:0≤Zm o∧Zm o≤100002:=by unfold Zm; split <;> omega
 have hsub:subL o.way 0 (Zm o)=o.way.take (Zm o).toNat:=by unfold subL; simp
 have hlen:(subL o.way 0 (Zm o)).length=(Zm o).toNat:=by rw [hsub,List.length_take]; omega
 refine ⟨?_,fun h2=>?_,by rw [hg]; exact g⟩
 ·cases r with
  | nil=>exact .inl (by rw [hc,hw,List.append_nil,hlen]; omega)
  | cons a as'=>
   refine .inr fun t hl=>?_
   rw [hw,List.getLast?_append,ht] at *
   refine hr t ?_
   cases hx:(a::as').getLast? with
   | none=>simp at hx
   | some z=>rw [hx] at hl; exact hl
 ·rw [hs] at h2
  obtain ⟨t,k1,k2⟩:=hF.started h2
  refine ⟨t,?_,k2⟩
  have hcv:Zm o=o.gone+1:=by unfold Zm; rw [if_pos h2]
  rw [hg,hw,List.getElem?_append_left (by rw [hlen]; omega),hsub,List.getElem?_take_of_lt (by omega)]
  exact k1
section
variable {n:Za} (hf:Z0 n) (hn:n.legs.length≤20)
include hf hn
end
theorem Zjv:∀ p∈Zik,Zbc p=some true∧p.size=3:=fun p hp=>by
 unfold Zik at hp
 simp only [List.mem_cons,List.not_mem_nil,or_false] at hp
 rcases hp with rfl | rfl | rfl | rfl | rfl | rfl | rfl <;> exact ⟨by decide +kernel,by decide +kernel⟩
def Zbr (c:ZA) (n:Za):Option (ByteArray × ZA):=
 (Z5 n).bind fun y1=>
 (rhoM [0]).bind fun _=>
 (ZU c 9).bind fun y2=>
 cond y2.1
 ((rhoM [0]).bind fun _=>
 (ZbQ y2.2).bind fun y3=>
 some (y3.1,y3.2))
 ((rhoM [0]).bind fun _=>
 (Zl y2.2 (y1.length:Int)).bind fun y4=>
 (getI y1 y4.1).bind fun y5=>
 some (y5,y4.2))
instance (c:ZA) (n:Za):CT Tryz.prog (Zbr c n):=⟨213,[.be 0 0 0,.ag (Zr n)],[some ⟨187,3,[[.sl (c.b.map cB8),vi c.i,vi c.h]]⟩],fun r=>vs r.1,fun r=>[some ⟨187,3,[[.sl (r.2.b.map cB8),vi r.2.i,vi r.2.h]]⟩],fun H=>by replace H:=H0 H; unfold Zbr at H; exact Zh Tryz.func213 rfl Tryz.ntmps213 Tryz.results213 fun Q hQ hQn=>wk3⟩
def Zc6 (c:ZA) (n:Za):Option (Ze × ZA):=
 (rhoM [0]).bind fun _=>
 (Zl c (n.legs.length:Int)).bind fun y1=>
 (rhoM [0]).bind fun _=>
 (Zl y1.2 10).bind fun y2=>
 (ZcF n y1.1 (w64 (y2.1*1440))).bind fun y3=>
 cond (decide (0≤y3))
 ((rhoM [0]).bind fun _=>
 (ZU y2.2 4).bind fun y4=>
 cond (!y4.1)
 (some ((⟨y1.1,y3⟩:Ze),y4.2))
 (some ((⟨y1.1,y2.1⟩:Ze),y4.2)))
 (some ((⟨y1.1,y2.1⟩:Ze),y2.2))
instance (c:ZA) (n:Za):CT Tryz.prog (Zc6 c n):=⟨211,[.be 0 0 0,.ag (Zr n)],[some ⟨187,3,[[.sl (c.b.map cB8),vi c.i,vi c.h]]⟩],fun r=>.ag [vi r.1.leg,vi r.1.day],fun r=>[some ⟨187,3,[[.sl (r.2.b.map cB8),vi r.2.i,vi r.2.h]]⟩],fun H=>by replace H:=H0 H; unfold Zc6 at H; exact Zh Tryz.func211 rfl Tryz.ntmps211 Tryz.results211 fun Q hQ hQn=>wk3⟩
def Zbp (c:ZA) (w:Zd):Option (Ze × ZA):=
 cond (decide (0<(w.bookings.length:Int)))
 ((rhoM [0]).bind fun _=>
 (ZU c 4).bind fun y1=>
 cond (!y1.1)
 ((drwL 8 [6]).bind fun _=>
 (rhoM [0]).bind fun _=>
 (Zl y1.2 (w.bookings.length:Int)).bind fun y2=>
 (getI w.bookings y2.1).bind fun y3=>
 some (y3.trip,y2.2))
 ((rhoM [0]).bind fun _=>
 (Zc6 y1.2 w.network).bind fun y4=>
 some (y4.1,y4.2)))
 ((rhoM [0]).bind fun _=>
 (Zc6 c w.network).bind fun y5=>
 some (y5.1,y5.2))
instance (c:ZA) (w:Zd):CT Tryz.prog (Zbp c w):=⟨147,[.be 0 0 0,.ag (Zbt w)],[some ⟨187,3,[[.sl (c.b.map cB8),vi c.i,vi c.h]]⟩],fun r=>.ag [vi r.1.leg,vi r.1.day],fun r=>[some ⟨187,3,[[.sl (r.2.b.map cB8),vi r.2.i,vi r.2.h]]⟩],fun H=>by replace H:=H0 H; unfold Zbp at H; exact Zh Tryz.func147 rfl Tryz.ntmps147 Tryz.results147 fun Q hQ hQn=>wk3⟩
def Zed (c:ZA) (w:Zd):Option (Zd × ZA):=
 (rhoM [0]).bind fun _=>
 (Zl c 6).bind fun y1=>
 cond (decide (y1.1=0))
 (cond (decide (y1.1=0))
 ((drwL 8 [4,8,10,13]).bind fun _=>
 (rhoM [0]).bind fun _=>
 (Zbr y1.2 w.network).bind fun y2=>
 (rhoM [0]).bind fun _=>
 (Zbr y2.2 w.network).bind fun y3=>
 (rhoM [0]).bind fun _=>
 (Zl y3.2 3).bind fun y4=>
 (rhoM [0]).bind fun _=>
 (Zl y4.2 4000).bind fun y5=>
 (ZaC w y2.1 y3.1 (w64 (1+y4.1)) (w64 (500+y5.1))).bind fun y6=>
 some (y6.1,y5.2))
 (cond (decide (y1.1=3))
 ((drwL 8 [3]).bind fun _=>
 (rhoM [0]).bind fun _=>
 (Zbp y1.2 w).bind fun y7=>
 (Zbn w y7.1).bind fun y8=>
 some (y8.1,y7.2))
 (cond (decide (y1.1=4))
 ((ZaD w).bind fun y9=>
 some (y9.1,y1.2))
 ((drwL 8 [4]).bind fun _=>
 (rhoM [0]).bind fun _=>
 (Zl y1.2 40).bind fun y10=>
 (Za0 w (w64 (w.now+(w64 (30*y10.1))))).bind fun y11=>
 some (y11,y10.2)))))
 (cond (decide (y1.1=1))
 (cond (decide (y1.1=1))
 ((drwL 8 [4,8,10,13]).bind fun _=>
 (rhoM [0]).bind fun _=>
 (Zbr y1.2 w.network).bind fun y12=>
 (rhoM [0]).bind fun _=>
 (Zbr y12.2 w.network).bind fun y13=>
 (rhoM [0]).bind fun _=>
 (Zl y13.2 3).bind fun y14=>
 (rhoM [0]).bind fun _=>
 (Zl y14.2 4000).bind fun y15=>
 (ZaC w y12.1 y13.1 (w64 (1+y14.1)) (w64 (500+y15.1))).bind fun y16=>
 some (y16.1,y15.2))
 (cond (decide (y1.1=3))
 ((drwL 8 [3]).bind fun _=>
 (rhoM [0]).bind fun _=>
 (Zbp y1.2 w).bind fun y17=>
 (Zbn w y17.1).bind fun y18=>
 some (y18.1,y17.2))
 (cond (decide (y1.1=4))
 ((ZaD w).bind fun y19=>
 some (y19.1,y1.2))
 ((drwL 8 [4]).bind fun _=>
 (rhoM [0]).bind fun _=>
 (Zl y1.2 40).bind fun y20=>
 (Za0 w (w64 (w.now+(w64 (30*y20.1))))).bind fun y21=>
 some (y21,y20.2)))))
 (cond (decide (y1.1=2))
 ((drwL 8 [4,8,10,13]).bind fun _=>
 (rhoM [0]).bind fun _=>
 (Zbr y1.2 w.network).bind fun y22=>
 (rhoM [0]).bind fun _=>
 (Zbr y22.2 w.network).bind fun y23=>
 (rhoM [0]).bind fun _=>
 (Zl y23.2 3).bind fun y24=>
 (rhoM [0]).bind fun _=>
 (Zl y24.2 4000).bind fun y25=>
 (ZaC w y22.1 y23.1 (w64 (1+y24.1)) (w64 (500+y25.1))).bind fun y26=>
 some (y26.1,y25.2))
 (cond (decide (y1.1=3))
 ((drwL 8 [3]).bind fun _=>
 (rhoM [0]).bind fun _=>
 (Zbp y1.2 w).bind fun y27=>
 (Zbn w y27.1).bind fun y28=>
 some (y28.1,y27.2))
 (cond (decide (y1.1=4))
 ((ZaD w).bind fun y29=>
 some (y29.1,y1.2))
 ((drwL 8 [4]).bind fun _=>
 (rhoM [0]).bind fun _=>
 (Zl y1.2 40).bind fun y30=>
 (Za0 w (w64 (w.now+(w64 (30*y30.1))))).bind fun y31=>
 some (y31,y30.2))))))
instance (c:ZA) (w:Zd):CT Tryz.prog (Zed c w):=⟨231,[.be 0 0 0,.ag (Zbt w)],[some ⟨187,3,[[.sl (c.b.map cB8),vi c.i,vi c.h]]⟩],fun r=>.ag [.ms 1,.ms 2,vi r.1.network.change,.ms 3,.ms 4,.ms 5,vi r.1.now,.ms 6,.ms 7,vi r.1.made],fun r=>[some ⟨187,3,[[.sl (r.2.b.map cB8),vi r.2.i,vi r.2.h]]⟩,some ⟨67,6,r.1.network.legs.map cLeg⟩,some ⟨3,1,r.1.network.off.map cInt⟩,some ⟨62,11,r.1.orders.map Zw⟩,some ⟨135,4,r.1.bookings.map Zg⟩,some ⟨55,2,r.1.closed.map Zs⟩,some ⟨130,6,r.1.scans.map ZF⟩,some ⟨3,1,r.1.skip.map cInt⟩],fun H=>by replace H:=H0 H; unfold Zed at H; exact Zh Tryz.func231 rfl Tryz.ntmps231 Tryz.results231 fun Q hQ hQn=>wk3⟩
def ZcM (n:Za) (skip:List Int):Option (Zd × Bool):=
 (Zbf (⟨n,[],[],[],0,[],skip,0⟩:Zd)).bind fun y1=>
 (Zbs y1).bind fun y2=>
 cond (!y2)
 (some ((⟨(⟨[],[],0⟩:Za),[],[],[],0,[],[],0⟩:Zd),false))
 (some (y1,true))
theorem Ziw (n:Za) (skip:List Int) {r:Zd × Bool} (H:ZcM n skip=some r):Zev Tryz.prog 57 [.ag (Zr n),.sl (skip.map cInt)] [] (.tu [.ag [.ms 0,.ms 1,vi r.1.network.change,.ms 2,.ms 3,.ms 4,vi r.1.now,.ms 5,.ms 6,vi r.1.made],vb r.2]) [some ⟨67,6,r.1.network.legs.map cLeg⟩,some ⟨3,1,r.1.network.off.map cInt⟩,some ⟨62,11,r.1.orders.map Zw⟩,some ⟨135,4,r.1.bookings.map Zg⟩,some ⟨55,2,r.1.closed.map Zs⟩,some ⟨130,6,r.1.scans.map ZF⟩,some ⟨3,1,r.1.skip.map cInt⟩]:=by
 replace H:=H0 H
 unfold ZcM at H
 refine Zh Tryz.func57 rfl Tryz.ntmps57 Tryz.results57 fun Q hQ hQn=>?_
 exact wk3
instance (n:Za) (skip:List Int):CT Tryz.prog (ZcM n skip):=⟨57,[.ag (Zr n),.sl (skip.map cInt)],[],fun r=>.tu [.ag [.ms 0,.ms 1,vi r.1.network.change,.ms 2,.ms 3,.ms 4,vi r.1.now,.ms 5,.ms 6,vi r.1.made],vb r.2],fun r=>[some ⟨67,6,r.1.network.legs.map cLeg⟩,some ⟨3,1,r.1.network.off.map cInt⟩,some ⟨62,11,r.1.orders.map Zw⟩,some ⟨135,4,r.1.bookings.map Zg⟩,some ⟨55,2,r.1.closed.map Zs⟩,some ⟨130,6,r.1.scans.map ZF⟩,some ⟨3,1,r.1.skip.map cInt⟩],Ziw n skip⟩
def ZeX (most:Int) (y1:Za × ZA) (s0:Int × (List YB8) × Int × Int × (List YLeg)):Option ((Int × (List YB8) × Int × Int × (List YLeg)) ⊕ ((List YB8) × Int × Int × (List YLeg))):=
 cond (decide (s0.1<(s0.2.2.2.2.length:Int)))
 ((rhoM [0]).bind fun _=>
 (ZU (⟨s0.2.1,s0.2.2.1,s0.2.2.2.1⟩:ZA) 2).bind fun y2=>
 cond y2.1
 ((drwL 8 [4]).bind fun _=>
 (rhoM [0]).bind fun _=>
 (Zl y2.2 9).bind fun y3=>
 (getI s0.2.2.2.2 s0.1).bind fun y4=>
 some (.inl ((w64 (s0.1+1)),y3.2.b,y3.2.i,y3.2.h,(s0.2.2.2.2.set (Int.toNat s0.1) (⟨y4.from_,y4.to_,y4.start,y4.takes,y4.days,(w64 (2000+(w64 (1000*y3.1))))⟩:YLeg)))))
 (some (.inl ((w64 (s0.1+1)),y2.2.b,y2.2.i,y2.2.h,s0.2.2.2.2))))
 (some (.inr (s0.2.1,s0.2.2.1,s0.2.2.2.1,s0.2.2.2.2)))
instance (most:Int) (y1:Za × ZA):ZP (ZeX most y1):=⟨fun s0=>(.be 0 0 0::vi most::.un::.un::.be 1 0 0::.be 2 0 0::vi s0.1::(U 55 [])),fun s0=>[some ⟨187,3,[[.sl (s0.2.1.map cB8),vi s0.2.2.1,vi s0.2.2.2.1]]⟩,some ⟨41,10,[[.v (.slice none 0 0),.v (.slice none 0 0),vi 0,.v (.slice none 0 0),.v (.slice none 0 0),.v (.slice none 0 0),vi 0,.v (.slice none 0 0),.v (.slice none 0 0),vi 0]]⟩,some ⟨35,3,[[.ms 3,.ms 4,vi y1.1.change]]⟩,some ⟨67,6,s0.2.2.2.2.map cLeg⟩,some ⟨3,1,y1.1.off.map cInt⟩]⟩
def ZeY (most:Int) (y1:Za × ZA) (o0:(List YB8) × Int × Int × (List YLeg)) (s1:Int × (List YB8) × Int × Int × (List Int)):Option ((Int × (List YB8) × Int × Int × (List Int)) ⊕ ((List YB8) × Int × Int × (List Int))):=
 cond (decide (0<s1.1))
 ((rhoM [0]).bind fun _=>
 (Zl (⟨s1.2.1,s1.2.2.1,s1.2.2.2.1⟩:ZA) 25).bind fun y6=>
 (chk (ZQ ((s1.2.2.2.2:List Int).length+([(w64 (1+y6.1))]:List Int).length) 8)).bind fun _=>
 some (.inl ((w64 (s1.1-1)),y6.2.b,y6.2.i,y6.2.h,((s1.2.2.2.2:List Int)++[(w64 (1+y6.1))]))))
 (some (.inr (s1.2.1,s1.2.2.1,s1.2.2.2.1,s1.2.2.2.2)))
instance (most:Int) (y1:Za × ZA) (o0:(List YB8) × Int × Int × (List YLeg)):ZP (ZeY most y1 o0):=⟨fun s1=>(.be 0 0 0::vi most::.un::.un::.be 1 0 0::.be 2 0 0::.un::.ms 5::vi s1.1::(U 53 [])),fun s1=>[some ⟨187,3,[[.sl (s1.2.1.map cB8),vi s1.2.2.1,vi s1.2.2.2.1]]⟩,some ⟨41,10,[[.v (.slice none 0 0),.v (.slice none 0 0),vi 0,.v (.slice none 0 0),.v (.slice none 0 0),.v (.slice none 0 0),vi 0,.v (.slice none 0 0),.v (.slice none 0 0),vi 0]]⟩,some ⟨35,3,[[.ms 3,.ms 4,vi y1.1.change]]⟩,some ⟨67,6,o0.2.2.2.map cLeg⟩,some ⟨3,1,y1.1.off.map cInt⟩,some ⟨3,1,s1.2.2.2.2.map cInt⟩]⟩
def ZeZ (s2:Int × (List YB8) × Int × Int × Int × Int × Int × (List YLeg) × (List Int) × (List Zf) × (List Zc) × (List Ze) × (List Zk) × (List Int)):Option ((Int × (List YB8) × Int × Int × Int × Int × Int × (List YLeg) × (List Int) × (List Zf) × (List Zc) × (List Ze) × (List Zk) × (List Int)) ⊕ ((List YB8) × Int × Int × Int × Int × Int × (List YLeg) × (List Int) × (List Zf) × (List Zc) × (List Ze) × (List Zk) × (List Int))):=
 cond (decide (0<s2.1))
 ((frz (.be 0 0 0::(U 3 (.be 1 0 0::(U 4 (.be 2 0 0::.un::vi s2.1::(U 50 [])))))) [some ⟨187,3,[[.sl (s2.2.1.map cB8),vi s2.2.2.1,vi s2.2.2.2.1]]⟩,some ⟨41,10,[[.v (.slice none 0 0),.v (.slice none 0 0),vi 0,.v (.slice none 0 0),.v (.slice none 0 0),.v (.slice none 0 0),vi 0,.v (.slice none 0 0),.v (.slice none 0 0),vi 0]]⟩,some ⟨41,10,[[.sl (s2.2.2.2.2.2.2.2.1.map cLeg),.sl (s2.2.2.2.2.2.2.2.2.1.map cInt),vi s2.2.2.2.2.1,.sl (s2.2.2.2.2.2.2.2.2.2.1.map Zw),.sl (s2.2.2.2.2.2.2.2.2.2.2.1.map Zg),.sl (s2.2.2.2.2.2.2.2.2.2.2.2.1.map Zs),vi s2.2.2.2.2.2.1,.sl (s2.2.2.2.2.2.2.2.2.2.2.2.2.1.map ZF),.sl (s2.2.2.2.2.2.2.2.2.2.2.2.2.2.map cInt),vi s2.2.2.2.2.2.2.1]]⟩]).bind fun _=>
 (rhoM [0]).bind fun _=>
 (Zed (⟨s2.2.1,s2.2.2.1,s2.2.2.2.1⟩:ZA) (⟨(⟨s2.2.2.2.2.2.2.2.1,s2.2.2.2.2.2.2.2.2.1,s2.2.2.2.2.1⟩:Za),s2.2.2.2.2.2.2.2.2.2.1,s2.2.2.2.2.2.2.2.2.2.2.1,s2.2.2.2.2.2.2.2.2.2.2.2.1,s2.2.2.2.2.2.1,s2.2.2.2.2.2.2.2.2.2.2.2.2.1,s2.2.2.2.2.2.2.2.2.2.2.2.2.2,s2.2.2.2.2.2.2.1⟩:Zd)).bind fun y9=>
 some (.inl ((w64 (s2.1-1)),y9.2.b,y9.2.i,y9.2.h,y9.1.network.change,y9.1.now,y9.1.made,y9.1.network.legs,y9.1.network.off,y9.1.orders,y9.1.bookings,y9.1.closed,y9.1.scans,y9.1.skip)))
 (some (.inr (s2.2.1,s2.2.2.1,s2.2.2.2.1,s2.2.2.2.2.1,s2.2.2.2.2.2.1,s2.2.2.2.2.2.2.1,s2.2.2.2.2.2.2.2.1,s2.2.2.2.2.2.2.2.2.1,s2.2.2.2.2.2.2.2.2.2.1,s2.2.2.2.2.2.2.2.2.2.2.1,s2.2.2.2.2.2.2.2.2.2.2.2.1,s2.2.2.2.2.2.2.2.2.2.2.2.2.1,s2.2.2.2.2.2.2.2.2.2.2.2.2.2)))
instance:ZP (ZeZ):=⟨fun s2=>(.be 0 0 0::(U 3 (.be 1 0 0::(U 4 (.be 2 0 0::.un::vi s2.1::(U 50 [])))))),fun s2=>[some ⟨187,3,[[.sl (s2.2.1.map cB8),vi s2.2.2.1,vi s2.2.2.2.1]]⟩,some ⟨41,10,[[.v (.slice none 0 0),.v (.slice none 0 0),vi 0,.v (.slice none 0 0),.v (.slice none 0 0),.v (.slice none 0 0),vi 0,.v (.slice none 0 0),.v (.slice none 0 0),vi 0]]⟩,some ⟨41,10,[[.ms 3,.ms 4,vi s2.2.2.2.2.1,.ms 5,.ms 6,.ms 7,vi s2.2.2.2.2.2.1,.ms 8,.ms 9,vi s2.2.2.2.2.2.2.1]]⟩,some ⟨67,6,s2.2.2.2.2.2.2.2.1.map cLeg⟩,some ⟨3,1,s2.2.2.2.2.2.2.2.2.1.map cInt⟩,some ⟨62,11,s2.2.2.2.2.2.2.2.2.2.1.map Zw⟩,some ⟨135,4,s2.2.2.2.2.2.2.2.2.2.2.1.map Zg⟩,some ⟨55,2,s2.2.2.2.2.2.2.2.2.2.2.2.1.map Zs⟩,some ⟨130,6,s2.2.2.2.2.2.2.2.2.2.2.2.2.1.map ZF⟩,some ⟨3,1,s2.2.2.2.2.2.2.2.2.2.2.2.2.2.map cInt⟩]⟩
def ZdH (c:ZA) (most:Int):Option (Zd × ZA):=
 (rhoM [0]).bind fun _=>
 (Zef c 7).bind fun y1=>
 (Zj (ZeX most y1) NN (0,y1.2.b,y1.2.i,y1.2.h,y1.1.legs)).bind (fun o0=>
 (rhoM [0]).bind fun _=>
 (Zl (⟨o0.1,o0.2.1,o0.2.2.1⟩:ZA) 6).bind fun y5=>
 (Zj (ZeY most y1 o0) NN (y5.1,y5.2.b,y5.2.i,y5.2.h,([]:List Int))).bind (fun o1=>
 (frz (.be 0 0 0::vi most::.un::.un::.be 1 0 0::.be 2 0 0::.un::.sl (o1.2.2.2.map cInt)::(U 54 [])) [some ⟨187,3,[[.sl (o1.1.map cB8),vi o1.2.1,vi o1.2.2.1]]⟩,some ⟨41,10,[[.v (.slice none 0 0),.v (.slice none 0 0),vi 0,.v (.slice none 0 0),.v (.slice none 0 0),.v (.slice none 0 0),vi 0,.v (.slice none 0 0),.v (.slice none 0 0),vi 0]]⟩,some ⟨35,3,[[.sl (o0.2.2.2.map cLeg),.sl (y1.1.off.map cInt),vi y1.1.change]]⟩]).bind fun _=>
 (ZcM (⟨o0.2.2.2,y1.1.off,y1.1.change⟩:Za) o1.2.2.2).bind fun y7=>
 (rhoM [0]).bind fun _=>
 (Zl (⟨o1.1,o1.2.1,o1.2.2.1⟩:ZA) most).bind fun y8=>
 (Zj (ZeZ) NN (y8.1,y8.2.b,y8.2.i,y8.2.h,y7.1.network.change,y7.1.now,y7.1.made,y7.1.network.legs,y7.1.network.off,y7.1.orders,y7.1.bookings,y7.1.closed,y7.1.scans,y7.1.skip)).bind (fun o2=>
 some ((⟨(⟨o2.2.2.2.2.2.2.1,o2.2.2.2.2.2.2.2.1,o2.2.2.2.1⟩:Za),o2.2.2.2.2.2.2.2.2.1,o2.2.2.2.2.2.2.2.2.2.1,o2.2.2.2.2.2.2.2.2.2.2.1,o2.2.2.2.2.1,o2.2.2.2.2.2.2.2.2.2.2.2.1,o2.2.2.2.2.2.2.2.2.2.2.2.2,o2.2.2.2.2.2.1⟩:Zd),(⟨o2.1,o2.2.1,o2.2.2.1⟩:ZA)))))
instance (c:ZA) (most:Int):CT Tryz.prog (ZdH c most):=⟨178,[.be 0 0 0,vi most],[some ⟨187,3,[[.sl (c.b.map cB8),vi c.i,vi c.h]]⟩],fun r=>.ag [.ms 1,.ms 2,vi r.1.network.change,.ms 3,.ms 4,.ms 5,vi r.1.now,.ms 6,.ms 7,vi r.1.made],fun r=>[some ⟨187,3,[[.sl (r.2.b.map cB8),vi r.2.i,vi r.2.h]]⟩,some ⟨67,6,r.1.network.legs.map cLeg⟩,some ⟨3,1,r.1.network.off.map cInt⟩,some ⟨62,11,r.1.orders.map Zw⟩,some ⟨135,4,r.1.bookings.map Zg⟩,some ⟨55,2,r.1.closed.map Zs⟩,some ⟨130,6,r.1.scans.map ZF⟩,some ⟨3,1,r.1.skip.map cInt⟩],fun H=>by replace H:=H0 H; unfold ZdH at H; exact Zh Tryz.func178 rfl Tryz.ntmps178 Tryz.results178 fun Q hQ hQn=>wk3⟩
def Zc7 (c:ZA) (n:Za):Option (Ze × ZA × Za):=
 (rhoM [0]).bind fun _=>
 (Zl c (n.legs.length:Int)).bind fun y1=>
 (rhoM [0]).bind fun _=>
 (Zl y1.2 10).bind fun y2=>
 (ZcF n y1.1 (w64 (y2.1*1440))).bind fun y3=>
 cond (decide (0≤y3))
 ((rhoM [0]).bind fun _=>
 (ZU y2.2 4).bind fun y4=>
 cond (!y4.1)
 (some ((⟨y1.1,y3⟩:Ze),y4.2,n))
 (some ((⟨y1.1,y2.1⟩:Ze),y4.2,n)))
 (some ((⟨y1.1,y2.1⟩:Ze),y2.2,n))
instance (c:ZA) (n:Za):CT Tryz.prog (Zc7 c n):=⟨211,[.be 0 0 0,.ag [.ms 1,.ms 2,vi n.change]],[some ⟨187,3,[[.sl (c.b.map cB8),vi c.i,vi c.h]]⟩,some ⟨67,6,n.legs.map cLeg⟩,some ⟨3,1,n.off.map cInt⟩],fun r=>.ag [vi r.1.leg,vi r.1.day],fun r=>[some ⟨187,3,[[.sl (r.2.1.b.map cB8),vi r.2.1.i,vi r.2.1.h]]⟩,some ⟨67,6,r.2.2.legs.map cLeg⟩,some ⟨3,1,r.2.2.off.map cInt⟩],fun H=>by replace H:=H0 H; unfold Zc7 at H; exact Zh Tryz.func211 rfl Tryz.ntmps211 Tryz.results211 fun Q hQ hQn=>wk3⟩
def ZdI (c:ZA) (w:Zd):Option (Ze × ZA × Zd):=
 cond (decide (0<(w.bookings.length:Int)))
 ((rhoM [0]).bind fun _=>
 (ZU c 4).bind fun y1=>
 cond (!y1.1)
 ((drwL 8 [6]).bind fun _=>
 (rhoM [0]).bind fun _=>
 (Zl y1.2 (w.bookings.length:Int)).bind fun y2=>
 (getI w.bookings y2.1).bind fun y3=>
 some (y3.trip,y2.2,w))
 ((rhoM [0,1,2]).bind fun _=>
 (Zc7 y1.2 w.network).bind fun y4=>
 some (y4.1,y4.2.1,(⟨(⟨y4.2.2.legs,y4.2.2.off,w.network.change⟩:Za),w.orders,w.bookings,w.closed,w.now,w.scans,w.skip,w.made⟩:Zd))))
 ((rhoM [0,1,2]).bind fun _=>
 (Zc7 c w.network).bind fun y5=>
 some (y5.1,y5.2.1,(⟨(⟨y5.2.2.legs,y5.2.2.off,w.network.change⟩:Za),w.orders,w.bookings,w.closed,w.now,w.scans,w.skip,w.made⟩:Zd)))
instance (c:ZA) (w:Zd):CT Tryz.prog (ZdI c w):=⟨147,[.be 0 0 0,.ag [.ms 1,.ms 2,vi w.network.change,.ms 3,.ms 4,.ms 5,vi w.now,.ms 6,.ms 7,vi w.made]],[some ⟨187,3,[[.sl (c.b.map cB8),vi c.i,vi c.h]]⟩,some ⟨67,6,w.network.legs.map cLeg⟩,some ⟨3,1,w.network.off.map cInt⟩,some ⟨62,11,w.orders.map Zw⟩,some ⟨135,4,w.bookings.map Zg⟩,some ⟨55,2,w.closed.map Zs⟩,some ⟨130,6,w.scans.map ZF⟩,some ⟨3,1,w.skip.map cInt⟩],fun r=>.ag [vi r.1.leg,vi r.1.day],fun r=>[some ⟨187,3,[[.sl (r.2.1.b.map cB8),vi r.2.1.i,vi r.2.1.h]]⟩,some ⟨67,6,r.2.2.network.legs.map cLeg⟩,some ⟨3,1,r.2.2.network.off.map cInt⟩,some ⟨62,11,r.2.2.orders.map Zw⟩,some ⟨135,4,r.2.2.bookings.map Zg⟩,some ⟨55,2,r.2.2.closed.map Zs⟩,some ⟨130,6,r.2.2.scans.map ZF⟩,some ⟨3,1,r.2.2.skip.map cInt⟩],fun H=>by replace H:=H0 H; unfold ZdI at H; exact Zh Tryz.func147 rfl Tryz.ntmps147 Tryz.results147 fun Q hQ hQn=>wk3⟩
end Go.Proofs.YtmcdjilbkmhfoaaGreat
