/- A part of the proof of the statement in the last file of this claim: texts on the language of the program and on its functions. No condition. -/
import Derived.Test.YtmcdjilbkmhfoaaGreatCFnSeenAll5
import Derived.Test.YtmcdjilbkmhfoaaGreatCFnSeenAll6
import Derived.Test.YtmcdjilbkmhfoaaGreatCFnSeenAll8
import Derived.Test.YtmcdjilbkmhfoaaGreatCFnSeenAll7
import Derived.Test.YtmcdjilbkmhfoaaGreatCFnSeenAll1
import Derived.Deep.DeepCutAuto
import Derived.StillTailTactics
import Derived.Deep.RegionHeld3
namespace Go.Proofs.YtmcdjilbkmhfoaaGreat
set_option maxRecDepth 10000
open Go.RowKit
set_option linter.unusedVariables false
set_option maxHeartbeats 16000000
def Zbp (w:Zd) (y1:(List Int)) (s0:Int × (List Zf)):Option ((Int × (List Zf)) ⊕ (List Zf)):=
 cond (decide (s0.1<(w.orders.length:Int)))
 ((getI w.orders s0.1).bind fun y2=>
 (chk (Z1 ((([]:List Ze):List Ze).length+(y2.way:List Ze).length) 16)).bind fun _=>
 (frz (.un::.be 0 0 0::.be 1 0 0::.be 2 0 0::vi s0.1::.be 6 0 0::(U 59 [])) [some ⟨41,10,[[.sl (w.network.legs.map cLeg),.sl (w.network.off.map cInt),vi w.network.change,.sl (w.orders.map Zv),.sl (w.bookings.map Zg),.sl (w.closed.map Zr),vi w.now,.sl (w.scans.map ZF),.sl (w.skip.map cInt),vi w.made]]⟩,some ⟨41,10,[[.v (.slice none 0 0),.v (.slice none 0 0),vi 0,.v (.slice none 0 0),.v (.slice none 0 0),.v (.slice none 0 0),vi 0,.v (.slice none 0 0),.v (.slice none 0 0),vi 0]]⟩,some ⟨41,10,[[.ms 3,.ms 4,vi w.network.change,.ms 5,.sl (w.bookings.map Zg),.sl (w.closed.map Zr),vi w.now,.sl (w.scans.map ZF),.sl (w.skip.map cInt),vi w.made]]⟩,some ⟨67,6,((([]:List YLeg):List YLeg)++w.network.legs).map cLeg⟩,some ⟨3,1,y1.map cInt⟩,some ⟨62,11,s0.2.map Zv⟩,some ⟨62,11,[[vs y2.from_,vs y2.to_,vi y2.service,vi y2.weight,vi y2.at_,vi y2.due,.sl (((([]:List Ze):List Ze)++y2.way).map Zr),vi y2.gone,vi y2.state,vs y2.place,vi y2.ended]]⟩]).bind fun _=>
 (chk (Z1 ((s0.2:List Zf).length+([(⟨y2.from_,y2.to_,y2.service,y2.weight,y2.at_,y2.due,((([]:List Ze):List Ze)++y2.way),y2.gone,y2.state,y2.place,y2.ended⟩:Zf)]:List Zf).length) 128)).bind fun _=>
 some (.inl ((w64 (s0.1+1)),((s0.2:List Zf)++[(⟨y2.from_,y2.to_,y2.service,y2.weight,y2.at_,y2.due,((([]:List Ze):List Ze)++y2.way),y2.gone,y2.state,y2.place,y2.ended⟩:Zf)]))))
 (some (.inr s0.2))
instance (w:Zd) (y1:(List Int)):ZU (Zbp w y1):=⟨fun s0=>(.un::.be 0 0 0::.be 1 0 0::.be 2 0 0::vi s0.1::(U 60 [])),fun s0=>[some ⟨41,10,[[.sl (w.network.legs.map cLeg),.sl (w.network.off.map cInt),vi w.network.change,.sl (w.orders.map Zv),.sl (w.bookings.map Zg),.sl (w.closed.map Zr),vi w.now,.sl (w.scans.map ZF),.sl (w.skip.map cInt),vi w.made]]⟩,some ⟨41,10,[[.v (.slice none 0 0),.v (.slice none 0 0),vi 0,.v (.slice none 0 0),.v (.slice none 0 0),.v (.slice none 0 0),vi 0,.v (.slice none 0 0),.v (.slice none 0 0),vi 0]]⟩,some ⟨41,10,[[.ms 3,.ms 4,vi w.network.change,.ms 5,.sl (w.bookings.map Zg),.sl (w.closed.map Zr),vi w.now,.sl (w.scans.map ZF),.sl (w.skip.map cInt),vi w.made]]⟩,some ⟨67,6,((([]:List YLeg):List YLeg)++w.network.legs).map cLeg⟩,some ⟨3,1,y1.map cInt⟩,some ⟨62,11,s0.2.map Zv⟩]⟩
def ZaI (w:Zd):Option Zd:=
 (chk (Z1 ((([]:List YLeg):List YLeg).length+(w.network.legs:List YLeg).length) 64)).bind fun _=>
 (ZaW w.network.off).bind fun y1=>
 (Zl (Zbp w y1) NN (0,([]:List Zf))).bind (fun o0=>
 (ZcG w.bookings).bind fun y3=>
 (chk (Z1 ((([]:List Ze):List Ze).length+(w.closed:List Ze).length) 16)).bind fun _=>
 (chk (Z1 ((([]:List Zj):List Zj).length+(w.scans:List Zj).length) 56)).bind fun _=>
 (ZaW w.skip).bind fun y4=>
 some (⟨(⟨((([]:List YLeg):List YLeg)++w.network.legs),y1,w.network.change⟩:Za),o0,y3,((([]:List Ze):List Ze)++w.closed),w.now,((([]:List Zj):List Zj)++w.scans),y4,w.made⟩:Zd))
instance (w:Zd):CT Tryz.prog (ZaI w):=⟨70,[.ag (ZbD w)],[],fun r=>.ag [.ms 0,.ms 1,vi r.network.change,.ms 2,.ms 3,.ms 4,vi r.now,.ms 5,.ms 6,vi r.made],fun r=>[some ⟨67,6,r.network.legs.map cLeg⟩,some ⟨3,1,r.network.off.map cInt⟩,some ⟨62,11,r.orders.map Zv⟩,some ⟨135,4,r.bookings.map Zg⟩,some ⟨55,2,r.closed.map Zr⟩,some ⟨130,6,r.scans.map ZF⟩,some ⟨3,1,r.skip.map cInt⟩],fun H=>by replace H:=H0 H; unfold ZaI at H; exact Zh Tryz.func70 rfl Tryz.ntmps70 Tryz.results70 fun Q hQ hQn=>wk3⟩
def ZcA (until_:Int) (s0:Int × Int × Int × Int × (List YLeg) × (List Int) × (List Zf) × (List Zc) × (List Ze) × (List Zj) × (List Int)):Option ((Int × Int × Int × Int × (List YLeg) × (List Int) × (List Zf) × (List Zc) × (List Ze) × (List Zj) × (List Int)) ⊕ (Int × Int × Int × (List YLeg) × (List Int) × (List Zf) × (List Zc) × (List Ze) × (List Zj) × (List Int))):=
 cond (decide (s0.1<240))
 ((Zdv (⟨(⟨s0.2.2.2.2.1,s0.2.2.2.2.2.1,s0.2.1⟩:Za),s0.2.2.2.2.2.2.1,s0.2.2.2.2.2.2.2.1,s0.2.2.2.2.2.2.2.2.1,s0.2.2.1,s0.2.2.2.2.2.2.2.2.2.1,s0.2.2.2.2.2.2.2.2.2.2,s0.2.2.2.1⟩:Zd)).bind fun y4=>
 cond (decide (y4<0))
 (some (.inr (s0.2.1,s0.2.2.1,s0.2.2.2.1,s0.2.2.2.2.1,s0.2.2.2.2.2.1,s0.2.2.2.2.2.2.1,s0.2.2.2.2.2.2.2.1,s0.2.2.2.2.2.2.2.2.1,s0.2.2.2.2.2.2.2.2.2.1,s0.2.2.2.2.2.2.2.2.2.2)))
 (cond (decide (until_<y4))
 (some (.inr (s0.2.1,s0.2.2.1,s0.2.2.2.1,s0.2.2.2.2.1,s0.2.2.2.2.2.1,s0.2.2.2.2.2.2.1,s0.2.2.2.2.2.2.2.1,s0.2.2.2.2.2.2.2.2.1,s0.2.2.2.2.2.2.2.2.2.1,s0.2.2.2.2.2.2.2.2.2.2)))
 ((rhoM [1,2,3,4,5,6,7,8]).bind fun _=>
 (ZdU (⟨(⟨s0.2.2.2.2.1,s0.2.2.2.2.2.1,s0.2.1⟩:Za),s0.2.2.2.2.2.2.1,s0.2.2.2.2.2.2.2.1,s0.2.2.2.2.2.2.2.2.1,s0.2.2.1,s0.2.2.2.2.2.2.2.2.2.1,s0.2.2.2.2.2.2.2.2.2.2,s0.2.2.2.1⟩:Zd) y4).bind fun y5=>
 some (.inl ((w64 (s0.1+1)),y5.network.change,y5.now,y5.made,y5.network.legs,y5.network.off,y5.orders,y5.bookings,y5.closed,y5.scans,y5.skip)))))
 (some (.inr (s0.2.1,s0.2.2.1,s0.2.2.2.1,s0.2.2.2.2.1,s0.2.2.2.2.2.1,s0.2.2.2.2.2.2.1,s0.2.2.2.2.2.2.2.1,s0.2.2.2.2.2.2.2.2.1,s0.2.2.2.2.2.2.2.2.2.1,s0.2.2.2.2.2.2.2.2.2.2)))
instance (until_:Int):ZU (ZcA until_):=⟨fun s0=>(.un::vi until_::.un::.un::.be 0 0 0::.be 1 0 0::vi s0.1::(U 32 [])),fun s0=>[some ⟨41,10,[[.v (.slice none 0 0),.v (.slice none 0 0),vi 0,.v (.slice none 0 0),.v (.slice none 0 0),.v (.slice none 0 0),vi 0,.v (.slice none 0 0),.v (.slice none 0 0),vi 0]]⟩,some ⟨41,10,[[.ms 2,.ms 3,vi s0.2.1,.ms 4,.ms 5,.ms 6,vi s0.2.2.1,.ms 7,.ms 8,vi s0.2.2.2.1]]⟩,some ⟨67,6,s0.2.2.2.2.1.map cLeg⟩,some ⟨3,1,s0.2.2.2.2.2.1.map cInt⟩,some ⟨62,11,s0.2.2.2.2.2.2.1.map Zv⟩,some ⟨135,4,s0.2.2.2.2.2.2.2.1.map Zg⟩,some ⟨55,2,s0.2.2.2.2.2.2.2.2.1.map Zr⟩,some ⟨130,6,s0.2.2.2.2.2.2.2.2.2.1.map ZF⟩,some ⟨3,1,s0.2.2.2.2.2.2.2.2.2.2.map cInt⟩]⟩
def ZaN (w:Zd) (until_:Int):Option Zd:=
 (ZaI w).bind fun y1=>
 (Za5 w).bind fun y2=>
 cond (!y2)
 (some y1)
 ((ZG until_ w.now 100000).bind fun y3=>
 cond (!y3)
 (some y1)
 ((Zl (ZcA until_) NN (0,y1.network.change,y1.now,y1.made,y1.network.legs,y1.network.off,y1.orders,y1.bookings,y1.closed,y1.scans,y1.skip)).bind (fun o0=>
 some (⟨(⟨o0.2.2.2.1,o0.2.2.2.2.1,o0.1⟩:Za),o0.2.2.2.2.2.1,o0.2.2.2.2.2.2.1,o0.2.2.2.2.2.2.2.1,until_,o0.2.2.2.2.2.2.2.2.1,o0.2.2.2.2.2.2.2.2.2,o0.2.2.1⟩:Zd))))
instance (w:Zd) (until_:Int):CT Tryz.prog (ZaN w until_):=⟨16,[.ag (ZbD w),vi until_],[],fun r=>.ag [.ms 0,.ms 1,vi r.network.change,.ms 2,.ms 3,.ms 4,vi r.now,.ms 5,.ms 6,vi r.made],fun r=>[some ⟨67,6,r.network.legs.map cLeg⟩,some ⟨3,1,r.network.off.map cInt⟩,some ⟨62,11,r.orders.map Zv⟩,some ⟨135,4,r.bookings.map Zg⟩,some ⟨55,2,r.closed.map Zr⟩,some ⟨130,6,r.scans.map ZF⟩,some ⟨3,1,r.skip.map cInt⟩],fun H=>by replace H:=H0 H; unfold ZaN at H; exact Zh Tryz.func16 rfl Tryz.ntmps16 Tryz.results16 fun Q hQ hQn=>wk3⟩
end Go.Proofs.YtmcdjilbkmhfoaaGreat
namespace Go.Proofs.YtmcdjilbkmhfoaaGreat
set_option maxRecDepth 10000
open Go.RowKit
set_option linter.unusedVariables false
set_option linter.unusedSimpArgs false
set_option linter.unusedSectionVars false
theorem ZdJ {σ ο:Type} {body:σ→Option (σ ⊕ ο)} (S:Nat→σ) {n:Nat} {o:ο} (h1:∀ i,i<n→body (S i)=some (.inl (S (i+1)))) (h2:body (S n)=some (.inr o)):∀ N,n<N→Zl body N (S 0)=some o:=by
 have key:∀ d j,j+d=n→∀ N,d<N→Zl body N (S j)=some o:=by
  intro d
  induction d with
  | zero=>
   intro j hj N hN
   obtain ⟨N,rfl⟩:∃ M,N=M+1:=⟨N-1,by omega⟩
   have:j=n:=by omega
   subst this
   unfold Zl; rw [h2]; rfl
  | succ d ih=>
   intro j hj N hN
   obtain ⟨N,rfl⟩:∃ M,N=M+1:=⟨N-1,by omega⟩
   unfold Zl
   rw [h1 j (by omega)]
   exact ih (j+1) (by omega) N (by omega)
 intro N hN
 exact key n 0 (by omega) N hN
theorem ZmE {A α:Type} (f:A→α→A):∀ (xs:List α) (i:Nat) (a:A),runL (fun _ a x=>some (.inl (f a x):A ⊕ A)) some i xs a=some (xs.foldl f a)
 | [],i,a=>rfl
 | x::xs,i,a=>by
  simp only [runL,Option.bind_some,ZX,List.foldl_cons]
  exact ZmE f xs (i+1) (f a x)
theorem Zny {w:Zd} (h:WOk w):Zbe w=some (Zcj w):=by
 have hnet:=h.net
 have hor:=h.fit.orders
 have e1:Zl (ZaC w) NN ((-1),0)=some (Zcj w):=by
  rw [Zgk (xs:=w.orders) (A:=Int) (fun a i=>(a,i)) (fun _ a o=>some (.inl (ZgO a (ZaZ w.network o)))) some (fun a i o ho=>?_) (fun a=>?_) (by unfold NN; omega) (-1)]
  ·exact ZmE (fun a o=>ZgO a (ZaZ w.network o)) w.orders 0 (-1)
  ·have hlt:=(List.getElem?_eq_some_iff.1 ho).1
   have hg:getI w.orders (i:Int)=some o:=by rw [Zq]; exact ho
   have hi:w64 ((i:Int)+1)=((i+1:Nat):Int):=Z9 hlt (by omega)
   have hok:=ZcP h.fit h.ok ho
   unfold ZaC
   simp only [decide_eq_true (show (i:Int)<w.orders.length by omega),cond_true,hg,Option.bind_some,hi,Ze2,Zgx]
   by_cases hgl:o.gone<o.way.length
   ·obtain ⟨t,htg,htb⟩:=Zo6 h.fit h.ok ho hok.gone.1 hgl
    obtain ⟨t1,t2,t3,t4,t5⟩:=ZaF h.fit.net hnet htb
    have ht:o.way[o.gone.toNat]?=some t:=by unfold getI at htg; rwa [if_pos hok.gone.1] at htg
    have ev:ZaZ w.network o=some (if o.state=2 then Zbj w.network t else Zaf w.network t):=by unfold ZaZ; rw [ht]; rfl
    rw [ev]
    simp only [htg,Option.bind_some,t1,t2,decide_eq_true hgl,ZgO]
    rcases hok.cases with ⟨c1,_⟩ | ⟨c1,_⟩ | ⟨c1,c2,_⟩
    ·rw [c1]
     simp only [show decide ((1:Int)=2)=false from rfl,show decide ((1:Int)=1)=true from rfl,cond_true,cond_false,decide_eq_true t3,show ¬ ((1:Int)=2) by omega,if_false,ZX]
     by_cases ha:a<0
     ·simp [ha]
     ·by_cases hb:Zaf w.network t<a <;> simp [ha,hb]
    ·rw [c1]
     simp only [show decide ((2:Int)=2)=true from rfl,cond_true,decide_eq_true (show 0≤Zbj w.network t by omega),if_true,ZX]
     by_cases ha:a<0
     ·simp [ha]
     ·by_cases hb:Zbj w.network t<a <;> simp [ha,hb]
    ·omega
   ·have hge:=hok.gone.2
    have ev:ZaZ w.network o=none:=by unfold ZaZ; rw [List.getElem?_eq_none (by omega)]; rfl
    rw [ev,decide_eq_false hgl]
    rcases hok.cases with ⟨c1,_⟩ | ⟨c1,_⟩ | ⟨c1,c2,_⟩
    ·rw [c1]; rfl
    ·omega
    ·rw [c1]; rfl
  ·unfold ZaC
   simp
 unfold Zbe
 rw [e1]; rfl
theorem ZuI {w:Zd} (h:WOk w):Zdv w=some (Zcj w):=by
 have h1:=ZuG h.fit h.ok
 rw [Zny h] at h1
 unfold Zdv
 rw [Zfd h.fit,h.ok]
 simp only [Option.bind_some,Bool.not_true,cond_false]
 exact h1.symm
theorem chk0 {n c:Nat} (h:n≤1048576) (hc:c≤1024):chk (Z1 (0+n) c)=some ():=ZeD (by omega) hc
theorem chkn {n c:Nat} (h:n≤1048576) (hc:c≤1024):chk (Z1 n c)=some ():=by have:=chk0 h hc; rwa [Nat.zero_add] at this
theorem Zl1 {n:Za} (h:ZV n):Za9 n=some n:=by
 unfold Za9
 simp only [List.length_nil,chk0 h.legs (show 64≤1024 by omega),chk0 h.off (show 8≤1024 by omega),Option.bind_some,List.nil_append]
theorem ZhE {l:List Ze} (h:l.length≤1048576):Zbd l=some l:=by
 unfold Zbd
 simp only [List.length_nil,chk0 h (show 16≤1024 by omega),Option.bind_some,List.nil_append]
theorem Zpd {l:List Zc} (h:l.length≤1048576):ZaX l=some l:=by
 unfold ZaX
 simp only [List.length_nil,chk0 h (show 32≤1024 by omega),Option.bind_some,List.nil_append]
theorem ZiF {α:Type} {xs:List α} {i:Nat} {x:α} (h:xs[i]?=some x):xs.take i++[x]=xs.take (i+1):=by
 rw [List.take_add_one,h]; rfl
theorem Zqv {w:Zd} (h:WFit w):ZbP w=some w:=by
 have hor:=h.orders
 unfold ZbP
 rw [Zl1 h.net,Option.bind_some,Zpd h.bookings,Option.bind_some,ZhE h.closed,Option.bind_some]
 have e:Zl (Za3 w w.network w.bookings w.closed) NN (0,[])=some w.orders:=by
  have:=ZdJ (body:=Za3 w w.network w.bookings w.closed) (fun i:Nat=>((i:Int),w.orders.take i)) (n:=w.orders.length) (o:=w.orders) (fun i hi=>?_) ?_ NN (by unfold NN; omega)
  ·simpa using this
  ·have ho:w.orders[i]?=some w.orders[i]:=List.getElem?_eq_getElem hi
   have hg:getI w.orders (i:Int)=some w.orders[i]:=by rw [Zq]; exact ho
   have hw:w64 ((i:Int)+1)=((i+1:Nat):Int):=Z9 hi (by omega)
   have hl:(w.orders.take i).length+1≤1048576:=by rw [List.length_take]; omega
   unfold Za3
   simp only [decide_eq_true (show (i:Int)<w.orders.length by omega),cond_true,hg,Option.bind_some,ZhE (h.way _ (List.getElem_mem hi)),frz,List.length_cons,List.length_nil,Nat.zero_add,ZeD hl (show 128≤1024 by omega),hw]
   rw [← ZiF ho]
  ·unfold Za3
   simp
 simp only [List.length_nil,chk0 h.scans (show 56≤1024 by omega),chk0 h.skip (show 8≤1024 by omega),Option.bind_some,e,List.nil_append]
theorem ZjU {l:List Int} (h:l.length≤1048576):ZaW l=some l:=by
 unfold ZaW
 simp only [List.length_nil,chk0 h (show 8≤1024 by omega),Option.bind_some,List.nil_append]
theorem ZfG {l:List Zc} (h:l.length≤1048576):ZcG l=some l:=by
 unfold ZcG
 simp only [List.length_nil,chk0 h (show 32≤1024 by omega),Option.bind_some,List.nil_append]
theorem Zin {w:Zd} (h:WFit w):ZaI w=some w:=by
 have hor:=h.orders
 unfold ZaI
 have e:Zl (Zbp w w.network.off) NN (0,([]:List Zf))=some w.orders:=by
  have:=ZdJ (body:=Zbp w w.network.off) (fun i:Nat=>((i:Int),w.orders.take i)) (n:=w.orders.length) (o:=w.orders) (fun i hi=>?_) ?_ NN (by unfold NN; omega)
  ·simpa using this
  ·have ho:w.orders[i]?=some w.orders[i]:=List.getElem?_eq_getElem hi
   have hg:getI w.orders (i:Int)=some w.orders[i]:=by rw [Zq]; exact ho
   have hw:w64 ((i:Int)+1)=((i+1:Nat):Int):=Z9 hi (by omega)
   have hl:(w.orders.take i).length+1≤1048576:=by rw [List.length_take]; omega
   unfold Zbp
   simp only [decide_eq_true (show (i:Int)<w.orders.length by omega),cond_true,hg,Option.bind_some,chkn (h.way _ (List.getElem_mem hi)) (show 16≤1024 by omega),frz,List.length_cons,List.length_nil,Nat.zero_add,ZeD hl (show 128≤1024 by omega),hw,List.nil_append]
   rw [← ZiF ho]
  ·unfold Zbp
   simp
 simp only [List.length_nil,chk0 h.net.legs (show 64≤1024 by omega),ZjU h.net.off,ZjU h.skip,chk0 h.closed (show 16≤1024 by omega),chk0 h.scans (show 56≤1024 by omega),Option.bind_some,e,ZfG h.bookings,List.nil_append]
abbrev OwA:=Int × Int × Int × (List YLeg) × (List Int) × (List Zf) × (List Zc) × (List Ze) × (List Zj) × (List Int)
def owA (w:Zd):OwA:=(w.network.change,w.now,w.made,w.network.legs,w.network.off,w.orders,w.bookings,w.closed,w.scans,w.skip)
theorem WOk.pass {w:Zd} (h:WOk w):ZlL w:=by
 have hp:=h.parts
 refine ⟨h.fit.net,h.net,⟨rfl,⟨h.fit.skip,hp.2.2.2.1,by omega⟩,h.fit.orders⟩,fun o ho=>?_⟩
 obtain ⟨i,hi,rfl⟩:=List.getElem_of_mem ho
 have hok:=ZcP h.fit h.ok (List.getElem?_eq_getElem hi)
 refine ⟨hok.gone,h.fit.way _ ho,hok.trip,fun hs=>?_⟩
 rcases hok.cases with ⟨c,_⟩ | ⟨_,c⟩ | ⟨c,_⟩
 ·omega
 ·exact c
 ·omega
theorem Zjr {k:Nat} {w:Zd} {u:Int} (h:Zcj w<0∨u<Zcj w):runV k w u=w:=by
 cases k with
 | zero=>rfl
 | succ k=>unfold runV; rw [if_pos h]
theorem ZtN {k:Nat} {w:Zd} {u:Int} (h:WOk w) (hk:Zfv w≤k) (hu:u≤100000) (hc:¬ (Zcj w<0∨u<Zcj w)):runV k w u=runV (k-1) (Zav w (Zcj w)) u:=by
 have:=ZfJ h (by omega)
 cases k with
 | zero=>omega
 | succ k=>
  rw [Nat.add_sub_cancel]
  conv=>lhs; unfold runV; rw [if_neg hc]
theorem Zkz {u:Int} (hu:u≤100000):∀ (N k:Nat) (w:Zd),WOk w→Zfv w≤k→k<N→Zl (Zdg u) N (Zcj w,owA w)=some (owA (runV k w u))
 | 0,k,w,_,_,hN=>by omega
 | N+1,k,w,h,hk,hN=>by
  simp only [Zl]
  unfold Zdg
  simp only [owA]
  by_cases h0:0≤Zcj w
  ·by_cases h1:Zcj w≤u
   ·obtain ⟨a,b,c⟩:=ZfI h h0
    have ht:=ZfJ h h0
    have hb:=(ZjO h.pass (Zcj w)).1
    have hw:(⟨⟨w.network.legs,w.network.off,w.network.change⟩,w.orders,w.bookings,w.closed,w.now,w.scans,w.skip,w.made⟩:Zd)=w:=rfl
    rw [ZtN h hk hu (by omega)]
    simp only [decide_eq_true h0,decide_eq_true h1,cond_true,rhoM,Option.bind_some,hw,hb,Zny a]
    exact Zkz hu N (k-1) _ a (by omega) (by omega)
   ·rw [Zjr (.inr (by omega))]
    simp only [decide_eq_true h0,decide_eq_false h1,cond_true,cond_false]
    rfl
  ·rw [Zjr (.inl (by omega))]
   simp only [decide_eq_false h0,cond_false]
   rfl
theorem Zqh {w:Zd} (hf:WFit w) (u:Int):Zcr w u=some (if Zbk w=true∧w.now≤u∧u≤100000 then advV w u else w):=by
 unfold Zcr
 rw [Zqv hf,Option.bind_some,Zir hf,Option.bind_some,Zdy,Zbb,Option.bind_some]
 cases hv:Zbk w with
 | false=>simp
 | true=>
  have h:WOk w:=⟨hf,hv⟩
  by_cases h1:w.now≤u
  ·by_cases h2:u≤100000
   ·have e:(Zcj w,w.network.change,w.now,w.made,w.network.legs,w.network.off,w.orders,w.bookings,w.closed,w.scans,w.skip)=(Zcj w,owA w):=rfl
    have hp:=h.parts
    have hN:Zfv w<NN:=by
     have:∀ l:List Zf,(∀ o∈l,o.way.length≤1048576)→(l.map ZdM).sum≤2097152*l.length:=by
      intro l
      induction l with
      | nil=>intro _; simp
      | cons o l ih=>
       intro hl
       have:=ih fun x hx=>hl x (List.mem_cons_of_mem _ hx)
       have h2:=hl o List.mem_cons_self
       have h3:ZdM o≤2*o.way.length:=by unfold ZdM; omega
       simp only [List.map_cons,List.sum_cons,List.length_cons]
       omega
     have:=this w.orders hf.way
     have h3:=hp.2.1
     unfold Zfv NN
     omega
    simp only [Bool.not_true,cond_false,decide_eq_true h1,decide_eq_true h2,Bool.and_self,Zny h,Option.bind_some,h1,h2,and_self,if_true,e,Zkz h2 NN (Zfv w) w h (Nat.le_refl _) hN]
    rfl
   ·simp [h1,h2]
  ·simp [h1]
theorem Zsb {w:Zd} (h:WOk w):Zfv w≤240:=by
 have hp:=h.parts
 have hv:=h.ok
 unfold Zbk at hv
 simp only [Bool.and_eq_true,decide_eq_true_iff] at hv
 have ht:=hv.2
 have key:∀ (l:List Zf) (a:Int),(∀ o∈l,o.way.length≤1048576)→l.length≤30→0≤a→a≤1048576*(30-l.length:Nat)→l.foldl (fun a o=>w64 (a+(o.way.length:Int))) a=a+((l.map fun o=>o.way.length).sum:Nat):=by
  intro l
  induction l with
  | nil=>intro a _ _ _ _; simp
  | cons o l ih=>
   intro a hl hn h0 h1
   have h2:=hl o List.mem_cons_self
   simp only [List.length_cons] at hn h1
   have hw:w64 (a+(o.way.length:Int))=a+(o.way.length:Int):=Zp (by omega)
   simp only [List.foldl_cons,hw]
   rw [ih _ (fun x hx=>hl x (List.mem_cons_of_mem _ hx)) (by omega) (by omega) (by omega)]
   simp only [List.map_cons,List.sum_cons]
   omega
 have hs:=key w.orders 0 h.fit.way hp.2.1 (by omega) (by omega)
 unfold Zk1 at ht
 rw [hs] at ht
 have h2:Zfv w≤2*((w.orders.map fun o=>o.way.length).sum):=by
  unfold Zfv
  have:∀ l:List Zf,(l.map ZdM).sum≤2*(l.map fun o=>o.way.length).sum:=by
   intro l
   induction l with
   | nil=>simp
   | cons o l ih=>
    have:ZdM o≤2*o.way.length:=by unfold ZdM; omega
    simp only [List.map_cons,List.sum_cons]
    omega
  exact this _
 omega
theorem ZkA {u:Int} (hu:u≤100000):∀ (N k j:Nat) (w:Zd),WOk w→Zfv w≤k→j+k=240→k<N→Zl (ZcA u) N ((j:Int),owA w)=some (owA (runV k w u))
 | 0,k,j,w,_,_,_,hN=>by omega
 | N+1,k,j,w,h,hk,hj,hN=>by
  simp only [Zl]
  unfold ZcA
  simp only [owA]
  have hw:(⟨⟨w.network.legs,w.network.off,w.network.change⟩,w.orders,w.bookings,w.closed,w.now,w.scans,w.skip,w.made⟩:Zd)=w:=rfl
  by_cases hj2:j<240
  ·simp only [decide_eq_true (show (j:Int)<240 by omega),cond_true,hw,ZuI h,Option.bind_some]
   by_cases h0:Zcj w<0
   ·rw [Zjr (.inl h0)]
    simp only [decide_eq_true h0,cond_true]
    rfl
   ·by_cases h1:u<Zcj w
    ·rw [Zjr (.inr h1)]
     simp only [decide_eq_false h0,decide_eq_true h1,cond_true,cond_false]
     rfl
    ·obtain ⟨a,b,c⟩:=ZfI h (by omega)
     have ht:=ZfJ h (by omega)
     have hb:=(ZjO h.pass (Zcj w)).2
     have hw1:w64 ((j:Int)+1)=((j+1:Nat):Int):=by rw [Zp (by omega)]; omega
     rw [ZtN h hk hu (by omega)]
     simp only [decide_eq_false h0,decide_eq_false h1,cond_false,rhoM,Option.bind_some,hb,hw1]
     exact ZkA hu N (k-1) (j+1) _ a (by omega) (by omega) (by omega)
  ·have hk0:k=0:=by omega
   subst hk0
   simp only [decide_eq_false (show ¬ (j:Int)<240 by omega),cond_false]
   rfl
theorem Zqi {w:Zd} (hf:WFit w) (u:Int):ZaN w u=some (if Zbk w=true∧w.now≤u∧u≤100000 then advV w u else w):=by
 unfold ZaN
 rw [Zin hf,Option.bind_some,Zfd hf,Option.bind_some,Zbb,Option.bind_some]
 cases hv:Zbk w with
 | false=>simp
 | true=>
  have h:WOk w:=⟨hf,hv⟩
  by_cases h1:w.now≤u
  ·by_cases h2:u≤100000
   ·have e:((0:Int),w.network.change,w.now,w.made,w.network.legs,w.network.off,w.orders,w.bookings,w.closed,w.scans,w.skip)=(((0:Nat):Int),owA w):=rfl
    simp only [Bool.not_true,cond_false,decide_eq_true h1,decide_eq_true h2,Bool.and_self,h1,h2,and_self,if_true,e,ZkA h2 NN 240 0 w h (Zsb h) rfl (by unfold NN; omega),Option.bind_some]
    rw [Zu8 h (Zsb h) (Nat.le_refl _) h2]
    rfl
   ·simp [h1,h2]
  ·simp [h1]
end Go.Proofs.YtmcdjilbkmhfoaaGreat
namespace Go.Proofs.YtmcdjilbkmhfoaaGreat
set_option maxRecDepth 10000
open Go.RowKit
set_option linter.unusedVariables false
set_option maxHeartbeats 16000000
def ZeI (a:Int) (b:Int):Option Int:=
 cond (decide (a<b))
 (some b)
 (some a)
instance (a:Int) (b:Int):CT Tryz.prog (ZeI a b):=⟨190,[vi a,vi b],[],fun r=>vi r,fun r=>[],fun H=>by replace H:=H0 H; unfold ZeI at H; exact Zh Tryz.func190 rfl Tryz.ntmps190 Tryz.results190 fun Q hQ hQn=>wk3⟩
def Zbx (places:List ByteArray) (from1_:Int) (at2_:Int) (s0:Int × (List Int)):Option ((Int × (List Int)) ⊕ (List Int)):=
 cond (decide (s0.1<(places.length:Int)))
 (cond (decide (s0.1=from1_))
 ((ZeI at2_ 0).bind fun y1=>
 (chk (Z1 ((s0.2:List Int).length+([y1]:List Int).length) 8)).bind fun _=>
 some (.inl ((w64 (s0.1+1)),((s0.2:List Int)++[y1]))))
 ((chk (Z1 ((s0.2:List Int).length+([(-1)]:List Int).length) 8)).bind fun _=>
 some (.inl ((w64 (s0.1+1)),((s0.2:List Int)++[(-1)])))))
 (some (.inr s0.2))
instance (places:List ByteArray) (from1_:Int) (at2_:Int):ZU (Zbx places from1_ at2_):=⟨fun s0=>(.sl (places.map cStr)::vi from1_::vi at2_::(U 4 (.ms 0::vi s0.1::(U 19 [])))),fun s0=>[some ⟨3,1,s0.2.map cInt⟩]⟩
def ZbC (places:List ByteArray) (from1_:Int) (at2_:Int):Option (List Int):=
 (Zl (Zbx places from1_ at2_) NN (0,([]:List Int))).bind (fun o0=>
 some o0)
instance (places:List ByteArray) (from1_:Int) (at2_:Int):CT Tryz.prog (ZbC places from1_ at2_):=⟨233,[.sl (places.map cStr),vi from1_,vi at2_],[],fun r=>.ms 0,fun r=>[some ⟨3,1,r.map cInt⟩],fun H=>by replace H:=H0 H; unfold ZbC at H; exact Zh Tryz.func233 rfl Tryz.ntmps233 Tryz.results233 fun Q hQ hQn=>wk3⟩
def Z8 (n:Za) (at1_:Int) (first:Bool):Option Int:=
 cond first
 (some at1_)
 (some (w64 (at1_+n.change)))
instance (n:Za) (at1_:Int) (first:Bool):CT Tryz.prog (Z8 n at1_ first):=⟨236,[.ag (Zm n),vi at1_,vb first],[],fun r=>vi r,fun r=>[],fun H=>by replace H:=H0 H; unfold Z8 at H; exact Zh Tryz.func236 rfl Tryz.ntmps236 Tryz.results236 fun Q hQ hQn=>wk3⟩
def Z0 (n:Za) (l:List Zc) (closed:List Ze) (leg:Int) (at4_:Int) (weight:Int) (s0:Int):Option (Int ⊕ (Unit ⊕ Int)):=
 cond (decide (s0≤60))
 ((ZP n leg s0).bind fun y1=>
 cond y1
 ((Zo n (⟨leg,s0⟩:Ze)).bind fun y2=>
 cond (decide (at4_≤y2))
 ((Zam closed (⟨leg,s0⟩:Ze)).bind fun y3=>
 cond (!y3)
 ((getI n.legs leg).bind fun y4=>
 (Zaq l (⟨leg,s0⟩:Ze)).bind fun y5=>
 cond (decide (weight≤(w64 (y4.room-y5))))
 (some (.inr (.inr s0)))
 (some (.inl (w64 (s0+1)))))
 (some (.inl (w64 (s0+1)))))
 (some (.inl (w64 (s0+1)))))
 (some (.inl (w64 (s0+1)))))
 (some (.inr (.inl ())))
instance (n:Za) (l:List Zc) (closed:List Ze) (leg:Int) (at4_:Int) (weight:Int):ZU (Z0 n l closed leg at4_ weight):=⟨fun s0=>(.un::.sl (l.map Zg)::.sl (closed.map Zr)::vi leg::vi at4_::vi weight::.be 0 0 0::(U 6 (vi s0::(U 40 [])))),fun s0=>[some ⟨35,3,[[.sl (n.legs.map cLeg),.sl (n.off.map cInt),vi n.change]]⟩]⟩
def Z5 (n:Za) (l:List Zc) (closed:List Ze) (leg:Int) (at4_:Int) (weight:Int):Option Int:=
 (Zl (Z0 n l closed leg at4_ weight) NN 0).bind (ZX (fun o0=>
 some (-1)) (fun r=>some r))
instance (n:Za) (l:List Zc) (closed:List Ze) (leg:Int) (at4_:Int) (weight:Int):CT Tryz.prog (Z5 n l closed leg at4_ weight):=⟨235,[.ag (Zm n),.sl (l.map Zg),.sl (closed.map Zr),vi leg,vi at4_,vi weight],[],fun r=>vi r,fun r=>[],fun H=>by replace H:=H0 H; unfold Z5 at H; exact Zh Tryz.func235 rfl Tryz.ntmps235 Tryz.results235 fun Q hQ hQn=>wk3⟩
def ZaJ (n:Za) (l:List Zc) (closed:List Ze) (weight:Int) (places:List ByteArray) (best:List Int) (from6_:Int) (s0:Int × (List Int)):Option ((Int × (List Int)) ⊕ (List Int)):=
 cond (decide (s0.1<(n.legs.length:Int)))
 ((getI n.legs s0.1).bind fun y2=>
 (ZE places y2.from_).bind fun y3=>
 (getI n.legs s0.1).bind fun y4=>
 (ZE places y4.to_).bind fun y5=>
 (getI best y3).bind fun y6=>
 cond (decide (y6<0))
 (some (.inl ((w64 (s0.1+1)),s0.2)))
 ((getI best y3).bind fun y7=>
 (Z8 n y7 (decide (y3=from6_))).bind fun y8=>
 (Z5 n l closed s0.1 y8 weight).bind fun y9=>
 cond (decide (y9<0))
 (some (.inl ((w64 (s0.1+1)),s0.2)))
 ((Zn n (⟨s0.1,y9⟩:Ze)).bind fun y10=>
 (getI s0.2 y5).bind fun y11=>
 cond (decide (y11<0))
 ((getI s0.2 y5).bind fun y12=>
 some (.inl ((w64 (s0.1+1)),(s0.2.set (Int.toNat y5) y10))))
 ((getI s0.2 y5).bind fun y13=>
 cond (decide (y10<y13))
 ((getI s0.2 y5).bind fun y14=>
 some (.inl ((w64 (s0.1+1)),(s0.2.set (Int.toNat y5) y10))))
 (some (.inl ((w64 (s0.1+1)),s0.2)))))))
 (some (.inr s0.2))
instance (n:Za) (l:List Zc) (closed:List Ze) (weight:Int) (places:List ByteArray) (best:List Int) (from6_:Int):ZU (ZaJ n l closed weight places best from6_):=⟨fun s0=>(.un::.sl (l.map Zg)::.sl (closed.map Zr)::vi weight::.sl (places.map cStr)::.sl (best.map cInt)::vi from6_::.be 0 0 0::(U 7 (.ms 1::vi s0.1::(U 74 [])))),fun s0=>[some ⟨35,3,[[.sl (n.legs.map cLeg),.sl (n.off.map cInt),vi n.change]]⟩,some ⟨3,1,s0.2.map cInt⟩]⟩
def Zan (n:Za) (l:List Zc) (closed:List Ze) (weight:Int) (places:List ByteArray) (best:List Int) (from6_:Int):Option (List Int):=
 (ZaW best).bind fun y1=>
 (Zl (ZaJ n l closed weight places best from6_) NN (0,y1)).bind (fun o0=>
 some o0)
instance (n:Za) (l:List Zc) (closed:List Ze) (weight:Int) (places:List ByteArray) (best:List Int) (from6_:Int):CT Tryz.prog (Zan n l closed weight places best from6_):=⟨234,[.ag (Zm n),.sl (l.map Zg),.sl (closed.map Zr),vi weight,.sl (places.map cStr),.sl (best.map cInt),vi from6_],[],fun r=>.ms 0,fun r=>[some ⟨3,1,r.map cInt⟩],fun H=>by replace H:=H0 H; unfold Zan at H; exact Zh Tryz.func234 rfl Tryz.ntmps234 Tryz.results234 fun Q hQ hQn=>wk3⟩
def Za8 (n:Za) (l:List Zc) (closed:List Ze) (weight:Int) (legs:Int) (y1:(List ByteArray)) (y2:Int) (s0:Int × (List Int)):Option ((Int × (List Int)) ⊕ (List Int)):=
 cond (decide (s0.1<legs))
 (cond (decide (s0.1<(y1.length:Int)))
 ((Zan n l closed weight y1 s0.2 y2).bind fun y5=>
 some (.inl ((w64 (s0.1+1)),y5)))
 (some (.inr s0.2)))
 (some (.inr s0.2))
instance (n:Za) (l:List Zc) (closed:List Ze) (weight:Int) (legs:Int) (y1:(List ByteArray)) (y2:Int):ZU (Za8 n l closed weight legs y1 y2):=⟨fun s0=>(.un::.sl (l.map Zg)::.sl (closed.map Zr)::.un::.un::vi weight::vi legs::.be 0 0 0::(U 7 (.ms 1::vi y2::.ms 2::vi s0.1::(U 50 [])))),fun s0=>[some ⟨35,3,[[.sl (n.legs.map cLeg),.sl (n.off.map cInt),vi n.change]]⟩,some ⟨9,1,y1.map cStr⟩,some ⟨3,1,s0.2.map cInt⟩]⟩
def ZK (n:Za) (l:List Zc) (closed:List Ze) (from3_:ByteArray) (at4_:Int) (weight:Int) (legs:Int):Option (List Int):=
 (ZS n).bind fun y1=>
 (ZE y1 from3_).bind fun y2=>
 (Zax n l).bind fun y3=>
 cond (!y3)
 (some ([]:List Int))
 (cond (decide (y2<0))
 (some ([]:List Int))
 (cond (decide (100000<at4_))
 (some ([]:List Int))
 (cond (decide (weight<1))
 (some ([]:List Int))
 (cond (decide (legs<0))
 (some ([]:List Int))
 ((ZbC y1 y2 at4_).bind fun y4=>
 (Zl (Za8 n l closed weight legs y1 y2) NN (0,y4)).bind (fun o0=>
 some o0))))))
instance (n:Za) (l:List Zc) (closed:List Ze) (from3_:ByteArray) (at4_:Int) (weight:Int) (legs:Int):CT Tryz.prog (ZK n l closed from3_ at4_ weight legs):=⟨195,[.ag (Zm n),.sl (l.map Zg),.sl (closed.map Zr),vs from3_,vi at4_,vi weight,vi legs],[],fun r=>.ms 0,fun r=>[some ⟨3,1,r.map cInt⟩],fun H=>by replace H:=H0 H; unfold ZK at H; exact Zh Tryz.func195 rfl Tryz.ntmps195 Tryz.results195 fun Q hQ hQn=>wk3⟩
def Zas (n:Za) (l:List Zc) (closed:List Ze) (weight:Int) (places:List ByteArray) (before:List Int) (from6_:Int) (to_:Int) (ends:Int) (s0:Int):Option (Int ⊕ (Unit ⊕ Ze)):=
 cond (decide (s0<(n.legs.length:Int)))
 ((getI n.legs s0).bind fun y1=>
 (ZE places y1.from_).bind fun y2=>
 (getI n.legs s0).bind fun y3=>
 (getI places to_).bind fun y4=>
 cond (!decide (y3.to_=y4))
 (some (.inl (w64 (s0+1))))
 ((getI before y2).bind fun y5=>
 cond (decide (y5<0))
 (some (.inl (w64 (s0+1))))
 ((getI before y2).bind fun y6=>
 (Z8 n y6 (decide (y2=from6_))).bind fun y7=>
 (Z5 n l closed s0 y7 weight).bind fun y8=>
 cond (decide (0≤y8))
 ((Zn n (⟨s0,y8⟩:Ze)).bind fun y9=>
 cond (decide (y9=ends))
 (some (.inr (.inr (⟨s0,y8⟩:Ze))))
 (some (.inl (w64 (s0+1)))))
 (some (.inl (w64 (s0+1)))))))
 (some (.inr (.inl ())))
instance (n:Za) (l:List Zc) (closed:List Ze) (weight:Int) (places:List ByteArray) (before:List Int) (from6_:Int) (to_:Int) (ends:Int):ZU (Zas n l closed weight places before from6_ to_ ends):=⟨fun s0=>(.un::.sl (l.map Zg)::.sl (closed.map Zr)::vi weight::.sl (places.map cStr)::.sl (before.map cInt)::vi from6_::vi to_::vi ends::.be 0 0 0::(U 8 (.be 1 0 0::vi s0::(U 64 [])))),fun s0=>[some ⟨35,3,[[.sl (n.legs.map cLeg),.sl (n.off.map cInt),vi n.change]]⟩,some ⟨55,2,[[vi 0,vi 0]]⟩]⟩
def Zb2 (n:Za) (l:List Zc) (closed:List Ze) (weight:Int) (places:List ByteArray) (before:List Int) (from6_:Int) (to_:Int) (ends:Int):Option Ze:=
 (Zl (Zas n l closed weight places before from6_ to_ ends) NN 0).bind (ZX (fun o0=>
 some (⟨0,0⟩:Ze)) (fun r=>some r))
instance (n:Za) (l:List Zc) (closed:List Ze) (weight:Int) (places:List ByteArray) (before:List Int) (from6_:Int) (to_:Int) (ends:Int):CT Tryz.prog (Zb2 n l closed weight places before from6_ to_ ends):=⟨196,[.ag (Zm n),.sl (l.map Zg),.sl (closed.map Zr),vi weight,.sl (places.map cStr),.sl (before.map cInt),vi from6_,vi to_,vi ends],[],fun r=>.ag [vi r.leg,vi r.day],fun r=>[],fun H=>by replace H:=H0 H; unfold Zb2 at H; exact Zh Tryz.func196 rfl Tryz.ntmps196 Tryz.results196 fun Q hQ hQn=>wk3⟩
def Zay (n:Za) (l:List Zc) (closed:List Ze) (from3_:ByteArray) (at5_:Int) (weight:Int) (y1:(List ByteArray)) (y2:Int) (y3:Int) (y6:Int) (s0:Int):Option (Int ⊕ Int):=
 (ZK n l closed from3_ at5_ weight s0).bind fun y7=>
 (getI y7 y3).bind fun y8=>
 cond (!decide (y8=y6))
 (some (.inl (w64 (s0+1))))
 (some (.inr s0))
instance (n:Za) (l:List Zc) (closed:List Ze) (from3_:ByteArray) (at5_:Int) (weight:Int) (y1:(List ByteArray)) (y2:Int) (y3:Int) (y6:Int):ZU (Zay n l closed from3_ at5_ weight y1 y2 y3 y6):=⟨fun s0=>(.un::.sl (l.map Zg)::.sl (closed.map Zr)::vs from3_::.un::vi at5_::vi weight::.be 0 0 0::(U 8 (.ms 1::vi y2::vi y3::.un::.ms 2::vi y6::vi s0::(U 97 [])))),fun s0=>[some ⟨35,3,[[.sl (n.legs.map cLeg),.sl (n.off.map cInt),vi n.change]]⟩,some ⟨9,1,y1.map cStr⟩,some ⟨55,2,([]:List Ze).map Zr⟩]⟩
def Zad (n:Za) (l:List Zc) (closed:List Ze) (from3_:ByteArray) (at5_:Int) (weight:Int) (y1:(List ByteArray)) (y2:Int) (s1:Int × Int × Int × (List Ze)):Option ((Int × Int × Int × (List Ze)) ⊕ (List Ze)):=
 cond (decide (0<s1.2.2.1))
 ((ZK n l closed from3_ at5_ weight (w64 (s1.2.2.1-1))).bind fun y9=>
 (Zb2 n l closed weight y1 y9 y2 s1.1 s1.2.1).bind fun y10=>
 (chk (Z1 (([y10]:List Ze).length+(s1.2.2.2:List Ze).length) 16)).bind fun _=>
 (getI n.legs y10.leg).bind fun y11=>
 (ZE y1 y11.from_).bind fun y12=>
 (getI y9 y12).bind fun y13=>
 some (.inl (y12,y13,(w64 (s1.2.2.1-1)),(([y10]:List Ze)++s1.2.2.2))))
 (some (.inr s1.2.2.2))
instance (n:Za) (l:List Zc) (closed:List Ze) (from3_:ByteArray) (at5_:Int) (weight:Int) (y1:(List ByteArray)) (y2:Int):ZU (Zad n l closed from3_ at5_ weight y1 y2):=⟨fun s1=>(.un::.sl (l.map Zg)::.sl (closed.map Zr)::vs from3_::.un::vi at5_::vi weight::.be 0 0 0::(U 8 (.ms 1::vi y2::vi s1.1::.un::.ms 2::vi s1.2.1::.un::vi s1.2.2.1::(U 96 [])))),fun s1=>[some ⟨35,3,[[.sl (n.legs.map cLeg),.sl (n.off.map cInt),vi n.change]]⟩,some ⟨9,1,y1.map cStr⟩,some ⟨55,2,s1.2.2.2.map Zr⟩]⟩
def ZO (n:Za) (l:List Zc) (closed:List Ze) (from3_:ByteArray) (to_:ByteArray) (at5_:Int) (weight:Int):Option ((List Ze) × Bool):=
 (ZS n).bind fun y1=>
 (ZE y1 from3_).bind fun y2=>
 (ZE y1 to_).bind fun y3=>
 (ZK n l closed from3_ at5_ weight (y1.length:Int)).bind fun y4=>
 cond (decide (y3<0))
 (some (([]:List Ze),false))
 (cond (decide ((y4.length:Int)=0))
 (some (([]:List Ze),false))
 ((getI y4 y3).bind fun y5=>
 cond (decide (y5<0))
 (some (([]:List Ze),false))
 ((getI y4 y3).bind fun y6=>
 (Zl (Zay n l closed from3_ at5_ weight y1 y2 y3 y6) NN 0).bind (fun o0=>
 (Zl (Zad n l closed from3_ at5_ weight y1 y2) NN (y3,y6,o0,([]:List Ze))).bind (fun o1=>
 some (o1,true))))))
instance (n:Za) (l:List Zc) (closed:List Ze) (from3_:ByteArray) (to_:ByteArray) (at5_:Int) (weight:Int):CT Tryz.prog (ZO n l closed from3_ to_ at5_ weight):=⟨130,[.ag (Zm n),.sl (l.map Zg),.sl (closed.map Zr),vs from3_,vs to_,vi at5_,vi weight],[],fun r=>.tu [.ms 0,vb r.2],fun r=>[some ⟨55,2,r.1.map Zr⟩],fun H=>by replace H:=H0 H; unfold ZO at H; exact Zh Tryz.func130 rfl Tryz.ntmps130 Tryz.results130 fun Q hQ hQn=>wk3⟩
def Ze1 (l:List Zc) (b:Zc) (s0:Int):Option (Int ⊕ Int):=
 cond (decide (s0<(l.length:Int)))
 ((getI l s0).bind fun y1=>
 (Zc6 y1 b).bind fun y2=>
 cond y2
 (some (.inl (w64 (s0+1))))
 (some (.inr s0)))
 (some (.inr s0))
instance (l:List Zc) (b:Zc):ZU (Ze1 l b):=⟨fun s0=>(.sl (l.map Zg)::.un::.un::.be 0 0 0::.un::vi s0::(U 25 [])),fun s0=>[some ⟨135,4,[[vi b.thing,vi b.trip.leg,vi b.trip.day,vi b.weight]]⟩]⟩
def ZdX (l:List Zc) (b:Zc):Option (List Zc):=
 (Zl (Ze1 l b) NN 0).bind (fun o0=>
 (chk (slOk 0 o0 l.length)).bind fun _=>
 (ZcG (subL l 0 o0)).bind fun y3=>
 (chk (Z1 ((y3:List Zc).length+([b]:List Zc).length) 32)).bind fun _=>
 (chk (slOk o0 (l.length:Int) l.length)).bind fun _=>
 (chk (Z1 ((((y3:List Zc)++[b]):List Zc).length+((subL l o0 (l.length:Int)):List Zc).length) 32)).bind fun _=>
 some ((((y3:List Zc)++[b]):List Zc)++(subL l o0 (l.length:Int))))
instance (l:List Zc) (b:Zc):CT Tryz.prog (ZdX l b):=⟨197,[.sl (l.map Zg),.ag (Zg b)],[],fun r=>.ms 0,fun r=>[some ⟨135,4,r.map Zg⟩],fun H=>by replace H:=H0 H; unfold ZdX at H; exact Zh Tryz.func197 rfl Tryz.ntmps197 Tryz.results197 fun Q hQ hQn=>wk3⟩
def Zc1 (n:Za) (l:List Zc) (thing:Int) (weight:Int) (way:List Ze) (s0:Int × (List Zc)):Option ((Int × (List Zc)) ⊕ (List Zc)):=
 cond (decide (s0.1<(way.length:Int)))
 ((getI way s0.1).bind fun y3=>
 (ZdX s0.2 (⟨thing,y3,weight⟩:Zc)).bind fun y4=>
 some (.inl ((w64 (s0.1+1)),y4)))
 (some (.inr s0.2))
instance (n:Za) (l:List Zc) (thing:Int) (weight:Int) (way:List Ze):ZU (Zc1 n l thing weight way):=⟨fun s0=>(.un::.sl (l.map Zg)::vi thing::vi weight::.sl (way.map Zr)::.be 0 0 0::(U 6 (.ms 1::vi s0.1::(U 34 [])))),fun s0=>[some ⟨35,3,[[.sl (n.legs.map cLeg),.sl (n.off.map cInt),vi n.change]]⟩,some ⟨135,4,s0.2.map Zg⟩]⟩
def ZW (n:Za) (l:List Zc) (thing:Int) (weight:Int) (way:List Ze):Option ((List Zc) × Bool):=
 (ZcG l).bind fun y1=>
 (Zax n l).bind fun y2=>
 cond (!y2)
 (some (y1,false))
 (cond (decide (20<(way.length:Int)))
 (some (y1,false))
 ((Zl (Zc1 n l thing weight way) NN (0,y1)).bind (fun o0=>
 (Zax n o0).bind fun y5=>
 cond (!y5)
 ((ZcG l).bind fun y6=>
 some (y6,false))
 (some (o0,true)))))
instance (n:Za) (l:List Zc) (thing:Int) (weight:Int) (way:List Ze):CT Tryz.prog (ZW n l thing weight way):=⟨131,[.ag (Zm n),.sl (l.map Zg),vi thing,vi weight,.sl (way.map Zr)],[],fun r=>.tu [.ms 0,vb r.2],fun r=>[some ⟨135,4,r.1.map Zg⟩],fun H=>by replace H:=H0 H; unfold ZW at H; exact Zh Tryz.func131 rfl Tryz.ntmps131 Tryz.results131 fun Q hQ hQn=>wk3⟩
def ZeX (n:Za) (l:List Zc) (thing:Int) (at3_:Int) (y1:Bool) (s0:Int × (List Zc)):Option ((Int × (List Zc)) ⊕ (List Zc)):=
 cond (decide (s0.1<(l.length:Int)))
 (cond (!y1)
 ((getI l s0.1).bind fun y2=>
 (chk (Z1 ((s0.2:List Zc).length+([y2]:List Zc).length) 32)).bind fun _=>
 some (.inl ((w64 (s0.1+1)),((s0.2:List Zc)++[y2]))))
 ((getI l s0.1).bind fun y3=>
 cond (!decide (y3.thing=thing))
 ((getI l s0.1).bind fun y4=>
 (chk (Z1 ((s0.2:List Zc).length+([y4]:List Zc).length) 32)).bind fun _=>
 some (.inl ((w64 (s0.1+1)),((s0.2:List Zc)++[y4]))))
 ((getI l s0.1).bind fun y5=>
 (Zo n y5.trip).bind fun y6=>
 cond (decide (y6<at3_))
 ((getI l s0.1).bind fun y7=>
 (chk (Z1 ((s0.2:List Zc).length+([y7]:List Zc).length) 32)).bind fun _=>
 some (.inl ((w64 (s0.1+1)),((s0.2:List Zc)++[y7]))))
 (some (.inl ((w64 (s0.1+1)),s0.2))))))
 (some (.inr s0.2))
instance (n:Za) (l:List Zc) (thing:Int) (at3_:Int) (y1:Bool):ZU (ZeX n l thing at3_ y1):=⟨fun s0=>(.un::.sl (l.map Zg)::vi thing::vi at3_::.be 0 0 0::(U 4 (.ms 1::vb y1::vi s0.1::(U 40 [])))),fun s0=>[some ⟨35,3,[[.sl (n.legs.map cLeg),.sl (n.off.map cInt),vi n.change]]⟩,some ⟨135,4,s0.2.map Zg⟩]⟩
def Zc2 (n:Za) (l:List Zc) (thing:Int) (at3_:Int):Option (List Zc):=
 (Zax n l).bind fun y1=>
 (Zl (ZeX n l thing at3_ y1) NN (0,([]:List Zc))).bind (fun o0=>
 some o0)
instance (n:Za) (l:List Zc) (thing:Int) (at3_:Int):CT Tryz.prog (Zc2 n l thing at3_):=⟨191,[.ag (Zm n),.sl (l.map Zg),vi thing,vi at3_],[],fun r=>.ms 0,fun r=>[some ⟨135,4,r.map Zg⟩],fun H=>by replace H:=H0 H; unfold Zc2 at H; exact Zh Tryz.func191 rfl Tryz.ntmps191 Tryz.results191 fun Q hQ hQn=>wk3⟩
def ZeA (n:Za) (leg:Int) (at2_:Int) (s0:Int):Option (Int ⊕ (Unit ⊕ Int)):=
 cond (decide (s0≤60))
 ((ZP n leg s0).bind fun y1=>
 cond y1
 ((Zo n (⟨leg,s0⟩:Ze)).bind fun y2=>
 cond (decide (at2_≤y2))
 (some (.inr (.inr s0)))
 (some (.inl (w64 (s0+1)))))
 (some (.inl (w64 (s0+1)))))
 (some (.inr (.inl ())))
instance (n:Za) (leg:Int) (at2_:Int):ZU (ZeA n leg at2_):=⟨fun s0=>(.un::vi leg::vi at2_::.be 0 0 0::(U 3 (vi s0::(U 18 [])))),fun s0=>[some ⟨35,3,[[.sl (n.legs.map cLeg),.sl (n.off.map cInt),vi n.change]]⟩]⟩
def Zdn (n:Za) (leg:Int) (at2_:Int):Option Int:=
 (Zl (ZeA n leg at2_) NN 0).bind (ZX (fun o0=>
 some (-1)) (fun r=>some r))
instance (n:Za) (leg:Int) (at2_:Int):CT Tryz.prog (Zdn n leg at2_):=⟨247,[.ag (Zm n),vi leg,vi at2_],[],fun r=>vi r,fun r=>[],fun H=>by replace H:=H0 H; unfold Zdn at H; exact Zh Tryz.func247 rfl Tryz.ntmps247 Tryz.results247 fun Q hQ hQn=>wk3⟩
def Ze8 (n:Za) (places:List ByteArray) (best:List Int) (from3_:Int) (s0:Int × (List Int)):Option ((Int × (List Int)) ⊕ (List Int)):=
 cond (decide (s0.1<(n.legs.length:Int)))
 ((getI n.legs s0.1).bind fun y2=>
 (ZE places y2.from_).bind fun y3=>
 (getI n.legs s0.1).bind fun y4=>
 (ZE places y4.to_).bind fun y5=>
 (getI best y3).bind fun y6=>
 cond (decide (y6<0))
 (some (.inl ((w64 (s0.1+1)),s0.2)))
 ((getI best y3).bind fun y7=>
 (Z8 n y7 (decide (y3=from3_))).bind fun y8=>
 (Zdn n s0.1 y8).bind fun y9=>
 cond (decide (y9<0))
 (some (.inl ((w64 (s0.1+1)),s0.2)))
 ((Zn n (⟨s0.1,y9⟩:Ze)).bind fun y10=>
 (getI s0.2 y5).bind fun y11=>
 cond (decide (y11<0))
 ((getI s0.2 y5).bind fun y12=>
 some (.inl ((w64 (s0.1+1)),(s0.2.set (Int.toNat y5) y10))))
 ((getI s0.2 y5).bind fun y13=>
 cond (decide (y10<y13))
 ((getI s0.2 y5).bind fun y14=>
 some (.inl ((w64 (s0.1+1)),(s0.2.set (Int.toNat y5) y10))))
 (some (.inl ((w64 (s0.1+1)),s0.2)))))))
 (some (.inr s0.2))
instance (n:Za) (places:List ByteArray) (best:List Int) (from3_:Int):ZU (Ze8 n places best from3_):=⟨fun s0=>(.un::.sl (places.map cStr)::.sl (best.map cInt)::vi from3_::.be 0 0 0::(U 4 (.ms 1::vi s0.1::(U 71 [])))),fun s0=>[some ⟨35,3,[[.sl (n.legs.map cLeg),.sl (n.off.map cInt),vi n.change]]⟩,some ⟨3,1,s0.2.map cInt⟩]⟩
def Zev (n:Za) (places:List ByteArray) (best:List Int) (from3_:Int):Option (List Int):=
 (ZaW best).bind fun y1=>
 (Zl (Ze8 n places best from3_) NN (0,y1)).bind (fun o0=>
 some o0)
instance (n:Za) (places:List ByteArray) (best:List Int) (from3_:Int):CT Tryz.prog (Zev n places best from3_):=⟨258,[.ag (Zm n),.sl (places.map cStr),.sl (best.map cInt),vi from3_],[],fun r=>.ms 0,fun r=>[some ⟨3,1,r.map cInt⟩],fun H=>by replace H:=H0 H; unfold Zev at H; exact Zh Tryz.func258 rfl Tryz.ntmps258 Tryz.results258 fun Q hQ hQn=>wk3⟩
def ZdF (n:Za) (legs:Int) (y1:(List ByteArray)) (y2:Int) (s0:Int × (List Int)):Option ((Int × (List Int)) ⊕ (List Int)):=
 cond (decide (s0.1<legs))
 (cond (decide (s0.1<(y1.length:Int)))
 ((Zev n y1 s0.2 y2).bind fun y5=>
 some (.inl ((w64 (s0.1+1)),y5)))
 (some (.inr s0.2)))
 (some (.inr s0.2))
instance (n:Za) (legs:Int) (y1:(List ByteArray)) (y2:Int):ZU (ZdF n legs y1 y2):=⟨fun s0=>(U 3 (vi legs::.be 0 0 0::(U 4 (.ms 1::vi y2::.ms 2::vi s0.1::(U 42 []))))),fun s0=>[some ⟨35,3,[[.sl (n.legs.map cLeg),.sl (n.off.map cInt),vi n.change]]⟩,some ⟨9,1,y1.map cStr⟩,some ⟨3,1,s0.2.map cInt⟩]⟩
def Zci (n:Za) (from1_:ByteArray) (at2_:Int) (legs:Int):Option (List Int):=
 (ZS n).bind fun y1=>
 (ZE y1 from1_).bind fun y2=>
 (Zi n).bind fun y3=>
 cond (!y3)
 (some ([]:List Int))
 (cond (decide (y2<0))
 (some ([]:List Int))
 (cond (decide (100000<at2_))
 (some ([]:List Int))
 (cond (decide (legs<0))
 (some ([]:List Int))
 ((ZbC y1 y2 at2_).bind fun y4=>
 (Zl (ZdF n legs y1 y2) NN (0,y4)).bind (fun o0=>
 some o0)))))
instance (n:Za) (from1_:ByteArray) (at2_:Int) (legs:Int):CT Tryz.prog (Zci n from1_ at2_ legs):=⟨237,[.ag (Zm n),vs from1_,vi at2_,vi legs],[],fun r=>.ms 0,fun r=>[some ⟨3,1,r.map cInt⟩],fun H=>by replace H:=H0 H; unfold Zci at H; exact Zh Tryz.func237 rfl Tryz.ntmps237 Tryz.results237 fun Q hQ hQn=>wk3⟩
def Zeb (n:Za) (from1_:ByteArray) (to_:ByteArray) (at3_:Int):Option Int:=
 (ZS n).bind fun y1=>
 (ZE y1 to_).bind fun y2=>
 (Zci n from1_ at3_ (y1.length:Int)).bind fun y3=>
 cond (decide (y2<0))
 (some (-1))
 (cond (decide ((y3.length:Int)=0))
 (some (-1))
 ((getI y3 y2).bind fun y4=>
 some y4))
instance (n:Za) (from1_:ByteArray) (to_:ByteArray) (at3_:Int):CT Tryz.prog (Zeb n from1_ to_ at3_):=⟨198,[.ag (Zm n),vs from1_,vs to_,vi at3_],[],fun r=>vi r,fun r=>[],fun H=>by replace H:=H0 H; unfold Zeb at H; exact Zh Tryz.func198 rfl Tryz.ntmps198 Tryz.results198 fun Q hQ hQn=>wk3⟩
def Zdw (n:Za) (service:Int) (from2_:ByteArray) (to_:ByteArray) (at4_:Int):Option Int:=
 (Zeb n from2_ to_ at4_).bind fun y1=>
 cond (decide (y1<0))
 (some (-1))
 ((ZG service 1 3).bind fun y2=>
 cond (!y2)
 (some (-1))
 (cond (decide (1080<(Int.tmod y1 1440)))
 (some (w64 ((w64 ((w64 ((w64 ((IntKind.i64.wrap (Int.tdiv y1 1440))+1))+(w64 ((w64 (service-1))*(w64 (service-1))))))*1440))+1080)))
 (some (w64 ((w64 ((w64 ((IntKind.i64.wrap (Int.tdiv y1 1440))+(w64 ((w64 (service-1))*(w64 (service-1))))))*1440))+1080)))))
instance (n:Za) (service:Int) (from2_:ByteArray) (to_:ByteArray) (at4_:Int):CT Tryz.prog (Zdw n service from2_ to_ at4_):=⟨132,[.ag (Zm n),vi service,vs from2_,vs to_,vi at4_],[],fun r=>vi r,fun r=>[],fun H=>by replace H:=H0 H; unfold Zdw at H; exact Zh Tryz.func132 rfl Tryz.ntmps132 Tryz.results132 fun Q hQ hQn=>wk3⟩
end Go.Proofs.YtmcdjilbkmhfoaaGreat
namespace Go.Proofs.YtmcdjilbkmhfoaaGreat
set_option maxRecDepth 10000
open Go.RowKit
set_option linter.unusedVariables false
set_option linter.unusedSimpArgs false
set_option linter.unusedSectionVars false
theorem ZcQ (l:List ByteArray) (p:ByteArray):-1≤idxV l p∧idxV l p<l.length:=by
 unfold idxV
 cases h:l.findIdx? fun y=>decide (y=p) with
 | none=>simp; omega
 | some k=>
  have:=(List.findIdx?_eq_some_iff_getElem.1 h).1
  simp only [Option.elim]; omega
theorem Zcc {l:List ByteArray} {p:ByteArray} (h:p∈l):0≤idxV l p:=by
 unfold idxV
 cases h':l.findIdx? fun y=>decide (y=p) with
 | none=>
  have:=List.findIdx?_eq_none_iff.1 h' p h
  simp at this
 | some k=>simp only [Option.elim]; omega
theorem ZdQ {n:Za} {l:YLeg} (h:l∈n.legs):l.from_∈Zb n∧l.to_∈Zb n:=by
 obtain ⟨i,hi,rfl⟩:=List.getElem_of_mem h
 obtain ⟨a,b⟩:=Zmj hi
 unfold Zb
 exact ⟨ZhY.2 (.inl (List.mem_of_getElem? a)),ZhY.2 (.inl (List.mem_of_getElem? b))⟩
theorem ZaS {α:Type} {xs:List α} {i:Int} (h:0≤i∧i<xs.length):∃ x,getI xs i=some x∧x∈xs:=by
 have hlt:i.toNat<xs.length:=by omega
 exact ⟨xs[i.toNat],by unfold getI; rw [if_pos h.1]; exact List.getElem?_eq_getElem hlt,List.getElem_mem hlt⟩
section
variable {n:Za} (hf:ZV n)
include hf
theorem plen:(Zb n).length≤2097152:=by have:=Zar n; have:=hf.legs; omega
theorem ZeE (p:ByteArray):ZE (Zb n) p=some (idxV (Zb n) p):=ZeU (by have:=plen hf; omega) p
theorem ZrL (leg day:Int):∃ b,ZP n leg day=some b:=(Zfu hf leg day).2
theorem Zgl {l:List Zc} (hl:l.length≤1048576) {closed:List Ze} (hc:closed.length≤1048576) {leg:Int} {y:YLeg} (hy:getI n.legs leg=some y) (at_ weight:Int):Tot (Z5 n l closed leg at_ weight) fun r=>True:=by
 unfold Z5
 have hl0:Tot (Zl (Z0 n l closed leg at_ weight) NN 0) fun r=>True:=by
  refine Tot.loop (fun k s=>∃ i:Nat,s=(i:Int)∧i+k=61) (fun k s hs=>?_) NN 61 0 ⟨0,rfl,rfl⟩ (by unfold NN; omega)
  obtain ⟨i,rfl,hk⟩:=hs
  unfold Z0
  refine Tot.cond (fun hd=>?_) fun hd=>Tot.ret trivial
  have hi:=of_decide_eq_true hd
  have hw:w64 ((i:Int)+1)=((i+1:Nat):Int):=by rw [Zp (by omega)]; omega
  have go:∀ {σ:Type},Zgu (fun k (s:Int)=>∃ i:Nat,s=(i:Int)∧i+k=61) (fun r:Unit ⊕ Int=>True) k (Sum.inl (w64 ((i:Int)+1))):=⟨k-1,by omega,i+1,hw,by omega⟩
  obtain ⟨b,hb⟩:=ZrL hf leg (i:Int)
  obtain ⟨v,hv⟩:=Zd4 (n:=n) (t:=⟨leg,(i:Int)⟩) hy
  obtain ⟨q,hq⟩:=ZgC hl (⟨leg,(i:Int)⟩:Ze)
  rw [hb,Option.bind_some]
  refine Tot.cond (fun _=>?_) fun _=>Tot.ret (go (σ:=Unit))
  rw [hv,Option.bind_some]
  refine Tot.cond (fun _=>?_) fun _=>Tot.ret (go (σ:=Unit))
  rw [Zdf,ZdP hc,Option.bind_some]
  refine Tot.cond (fun _=>?_) fun _=>Tot.ret (go (σ:=Unit))
  rw [hy,Option.bind_some,hq,Option.bind_some]
  exact Tot.cond (fun _=>Tot.ret trivial) fun _=>Tot.ret (go (σ:=Unit))
 refine Tot.bind hl0 fun r _=>?_
 cases r with
 | inl u=>exact Tot.ret trivial
 | inr v=>exact Tot.ret trivial
theorem Ziu {leg:Int} {y:YLeg} (hy:getI n.legs leg=some y) (at_:Int):Tot (Zdn n leg at_) fun r=>True:=by
 unfold Zdn
 have hl0:Tot (Zl (ZeA n leg at_) NN 0) fun r=>True:=by
  refine Tot.loop (fun k s=>∃ i:Nat,s=(i:Int)∧i+k=61) (fun k s hs=>?_) NN 61 0 ⟨0,rfl,rfl⟩ (by unfold NN; omega)
  obtain ⟨i,rfl,hk⟩:=hs
  unfold ZeA
  refine Tot.cond (fun hd=>?_) fun hd=>Tot.ret trivial
  have hi:=of_decide_eq_true hd
  have hw:w64 ((i:Int)+1)=((i+1:Nat):Int):=by rw [Zp (by omega)]; omega
  have go:∀ {σ:Type},Zgu (fun k (s:Int)=>∃ i:Nat,s=(i:Int)∧i+k=61) (fun r:Unit ⊕ Int=>True) k (Sum.inl (w64 ((i:Int)+1))):=⟨k-1,by omega,i+1,hw,by omega⟩
  obtain ⟨b,hb⟩:=ZrL hf leg (i:Int)
  obtain ⟨v,hv⟩:=Zd4 (n:=n) (t:=⟨leg,(i:Int)⟩) hy
  rw [hb,Option.bind_some]
  refine Tot.cond (fun _=>?_) fun _=>Tot.ret (go (σ:=Unit))
  rw [hv,Option.bind_some]
  exact Tot.cond (fun _=>Tot.ret trivial) fun _=>Tot.ret (go (σ:=Unit))
 refine Tot.bind hl0 fun r _=>?_
 cases r with
 | inl u=>exact Tot.ret trivial
 | inr v=>exact Tot.ret trivial
omit hf in
theorem Zfp (a:Int) (b:Bool):Tot (Z8 n a b) fun r=>True:=by
 unfold Z8
 exact Tot.cond (fun _=>Tot.ret trivial) fun _=>Tot.ret trivial
omit hf in
theorem Zq4 (a b:Int):Tot (ZeI a b) fun r=>True:=by
 unfold ZeI
 exact Tot.cond (fun _=>Tot.ret trivial) fun _=>Tot.ret trivial
theorem ZrI {l:List Zc} (hl:l.length≤1048576) {closed:List Ze} (hc:closed.length≤1048576) (weight:Int) {best:List Int} (hb:best.length=(Zb n).length) (f:Int):Tot (Zan n l closed weight (Zb n) best f) fun r=>r.length=(Zb n).length:=by
 have hp:=plen hf
 have hll:=hf.legs
 unfold Zan
 refine Tot.bind (P:=fun r=>r=best) ?_ fun r hr=>?_
 ·by_cases h1:best.length≤1048576
  ·exact Tot.of (ZjU h1) rfl
  ·unfold ZaW
   exact Tot.chk (Zcp (by simp only [List.length_nil]; omega) (by omega)) (Tot.ret (by simp))
 ·subst hr
  refine Tot.bind (P:=fun o=>o.length=(Zb n).length) ?_ fun o ho=>Tot.ret ho
  refine Tot.loop (fun k s=>∃ i:Nat,s.1=(i:Int)∧i+k=n.legs.length∧s.2.length=(Zb n).length) (fun k s hs=>?_) NN n.legs.length _ ⟨0,rfl,by omega,hb⟩ (by unfold NN; omega)
  obtain ⟨i,hi,hk,hlen⟩:=hs
  unfold ZaJ
  rw [hi]
  refine Tot.cond (fun hd=>?_) fun hd=>Tot.ret hlen
  have hlt:=of_decide_eq_true hd
  have hw:w64 ((i:Int)+1)=((i+1:Nat):Int):=by rw [Zp (by omega)]; omega
  obtain ⟨y,hy,hm⟩:=ZaS (xs:=n.legs) (i:=(i:Int)) ⟨by omega,hlt⟩
  obtain ⟨m1,m2⟩:=ZdQ hm
  have a0:=Zcc m1
  have a1:=(ZcQ (Zb n) y.from_).2
  have b0:=Zcc m2
  have b1:=(ZcQ (Zb n) y.to_).2
  obtain ⟨v6,g6,_⟩:=ZaS (xs:=r) (i:=idxV (Zb n) y.from_) ⟨a0,by omega⟩
  obtain ⟨v11,g11,_⟩:=ZaS (xs:=s.2) (i:=idxV (Zb n) y.to_) ⟨b0,by omega⟩
  simp only [hy,Option.bind_some,ZeE hf,g6,hw]
  have go:∀ (s':List Int),s'.length=(Zb n).length→Zgu (fun k (s:Int × List Int)=>∃ i:Nat,s.1=(i:Int)∧i+k=n.legs.length∧s.2.length=(Zb n).length) (fun o:List Int=>o.length=(Zb n).length) k (Sum.inl (((i+1:Nat):Int),s')):=fun s' h'=>⟨k-1,by omega,i+1,rfl,by omega,h'⟩
  refine Tot.cond (fun _=>Tot.ret (go _ hlen)) fun _=>Tot.bind (Zfp _ _) fun y8 _=>Tot.bind (Zgl hf hl hc hy y8 weight) fun y9 _=>Tot.cond (fun _=>Tot.ret (go _ hlen)) fun _=>?_
  obtain ⟨e,he⟩:=Zcv (n:=n) (t:=⟨(i:Int),y9⟩) hy
  simp only [he,Option.bind_some,g11]
  exact Tot.cond (fun _=>Tot.ret (go _ (by rw [List.length_set]; exact hlen))) fun _=>Tot.cond (fun _=>Tot.ret (go _ (by rw [List.length_set]; exact hlen))) fun _=>Tot.ret (go _ hlen)
theorem ZpN {best:List Int} (hb:best.length=(Zb n).length) (f:Int):Tot (Zev n (Zb n) best f) fun r=>r.length=(Zb n).length:=by
 have hp:=plen hf
 have hll:=hf.legs
 unfold Zev
 refine Tot.bind (P:=fun r=>r=best) ?_ fun r hr=>?_
 ·by_cases h1:best.length≤1048576
  ·exact Tot.of (ZjU h1) rfl
  ·unfold ZaW
   exact Tot.chk (Zcp (by simp only [List.length_nil]; omega) (by omega)) (Tot.ret (by simp))
 ·subst hr
  refine Tot.bind (P:=fun o=>o.length=(Zb n).length) ?_ fun o ho=>Tot.ret ho
  refine Tot.loop (fun k s=>∃ i:Nat,s.1=(i:Int)∧i+k=n.legs.length∧s.2.length=(Zb n).length) (fun k s hs=>?_) NN n.legs.length _ ⟨0,rfl,by omega,hb⟩ (by unfold NN; omega)
  obtain ⟨i,hi,hk,hlen⟩:=hs
  unfold Ze8
  rw [hi]
  refine Tot.cond (fun hd=>?_) fun hd=>Tot.ret hlen
  have hlt:=of_decide_eq_true hd
  have hw:w64 ((i:Int)+1)=((i+1:Nat):Int):=by rw [Zp (by omega)]; omega
  obtain ⟨y,hy,hm⟩:=ZaS (xs:=n.legs) (i:=(i:Int)) ⟨by omega,hlt⟩
  obtain ⟨m1,m2⟩:=ZdQ hm
  have a0:=Zcc m1
  have a1:=(ZcQ (Zb n) y.from_).2
  have b0:=Zcc m2
  have b1:=(ZcQ (Zb n) y.to_).2
  obtain ⟨v6,g6,_⟩:=ZaS (xs:=r) (i:=idxV (Zb n) y.from_) ⟨a0,by omega⟩
  obtain ⟨v11,g11,_⟩:=ZaS (xs:=s.2) (i:=idxV (Zb n) y.to_) ⟨b0,by omega⟩
  simp only [hy,Option.bind_some,ZeE hf,g6,hw]
  have go:∀ (s':List Int),s'.length=(Zb n).length→Zgu (fun k (s:Int × List Int)=>∃ i:Nat,s.1=(i:Int)∧i+k=n.legs.length∧s.2.length=(Zb n).length) (fun o:List Int=>o.length=(Zb n).length) k (Sum.inl (((i+1:Nat):Int),s')):=fun s' h'=>⟨k-1,by omega,i+1,rfl,by omega,h'⟩
  refine Tot.cond (fun _=>Tot.ret (go _ hlen)) fun _=>Tot.bind (Zfp _ _) fun y8 _=>Tot.bind (Ziu hf hy y8) fun y9 _=>Tot.cond (fun _=>Tot.ret (go _ hlen)) fun _=>?_
  obtain ⟨e,he⟩:=Zcv (n:=n) (t:=⟨(i:Int),y9⟩) hy
  simp only [he,Option.bind_some,g11]
  exact Tot.cond (fun _=>Tot.ret (go _ (by rw [List.length_set]; exact hlen))) fun _=>Tot.cond (fun _=>Tot.ret (go _ (by rw [List.length_set]; exact hlen))) fun _=>Tot.ret (go _ hlen)
theorem ZhW (f at_:Int):Tot (ZbC (Zb n) f at_) fun r=>r.length=(Zb n).length:=by
 have hp:=plen hf
 unfold ZbC
 refine Tot.bind (P:=fun o=>o.length=(Zb n).length) ?_ fun o ho=>Tot.ret ho
 refine Tot.loop (fun k s=>∃ i:Nat,s.1=(i:Int)∧i+k=(Zb n).length∧s.2.length=i) (fun k s hs=>?_) NN (Zb n).length _ ⟨0,rfl,by omega,rfl⟩ (by unfold NN; omega)
 obtain ⟨i,hi,hk,hlen⟩:=hs
 unfold Zbx
 rw [hi]
 refine Tot.cond (fun hd=>?_) fun hd=>Tot.ret (by have:=of_decide_eq_false hd; simp only [Zgu]; omega)
 have hlt:=of_decide_eq_true hd
 have hw:w64 ((i:Int)+1)=((i+1:Nat):Int):=by rw [Zp (by omega)]; omega
 rw [hw]
 have go:∀ (x:Int),Zgu (fun k (s:Int × List Int)=>∃ i:Nat,s.1=(i:Int)∧i+k=(Zb n).length∧s.2.length=i) (fun o:List Int=>o.length=(Zb n).length) k (Sum.inl (((i+1:Nat):Int),s.2++[x])):=fun x=>⟨k-1,by omega,i+1,rfl,by omega,by simp [hlen]⟩
 refine Tot.cond (fun _=>Tot.bind (Zq4 _ _) fun y _=>Tot.chk (Zcp (by simp only [List.length_cons,List.length_nil]; omega) (by omega)) (Tot.ret (go y))) fun _=>Tot.chk (Zcp (by simp only [List.length_cons,List.length_nil]; omega) (by omega)) (Tot.ret (go _))
theorem ZsC {l:List Zc} (hl:l.length≤1048576) {closed:List Ze} (hc:closed.length≤1048576) (from_:ByteArray) (at_ weight legs:Int):
 Tot (ZK n l closed from_ at_ weight legs) fun r=>(r.length=(Zb n).length∧(Z6 n l=true∧0≤idxV (Zb n) from_∧at_≤100000∧1≤weight∧0≤legs))∨(r=[]∧¬ (Z6 n l=true∧0≤idxV (Zb n) from_∧at_≤100000∧1≤weight∧0≤legs)):=by
 have hp:=plen hf
 unfold ZK
 rw [(ZT hf).2]
 simp only [Option.bind_some,ZeE hf,Zby hf hl]
 refine Tot.cond (fun h1=>Tot.ret (.inr ⟨rfl,fun h=>by simp [h.1] at h1⟩)) fun h1=>Tot.cond (fun h2=>Tot.ret (.inr ⟨rfl,fun h=>by have:=of_decide_eq_true h2; omega⟩)) fun h2=>Tot.cond (fun h3=>Tot.ret (.inr ⟨rfl,fun h=>by have:=of_decide_eq_true h3; omega⟩)) fun h3=>Tot.cond (fun h4=>Tot.ret (.inr ⟨rfl,fun h=>by have:=of_decide_eq_true h4; omega⟩)) fun h4=>Tot.cond (fun h5=>Tot.ret (.inr ⟨rfl,fun h=>by have:=of_decide_eq_true h5; omega⟩)) fun h5=>Tot.bind (ZhW hf _ _) fun y hy=>?_
 have hbk:Z6 n l=true:=by simpa using h1
 have:=of_decide_eq_false h2
 have:=of_decide_eq_false h3
 have:=of_decide_eq_false h4
 have:=of_decide_eq_false h5
 refine Tot.bind (P:=fun o=>o.length=(Zb n).length) ?_ fun o ho=>Tot.ret (.inl ⟨ho,hbk,by omega,by omega,by omega,by omega⟩)
 refine Tot.loop (fun k s=>∃ i:Nat,s.1=(i:Int)∧i+k=(Zb n).length∧s.2.length=(Zb n).length) (fun k s hs=>?_) NN (Zb n).length _ ⟨0,rfl,by omega,hy⟩ (by unfold NN; omega)
 obtain ⟨i,hi,hk,hlen⟩:=hs
 unfold Za8
 rw [hi]
 refine Tot.cond (fun _=>Tot.cond (fun hd=>?_) fun _=>Tot.ret hlen) fun _=>Tot.ret hlen
 have hlt:=of_decide_eq_true hd
 have hw:w64 ((i:Int)+1)=((i+1:Nat):Int):=by rw [Zp (by omega)]; omega
 exact Tot.bind (ZrI hf hl hc weight hlen _) fun y5 h5=>Tot.ret ⟨k-1,by omega,i+1,hw,by omega,h5⟩
theorem ZlP (from_:ByteArray) (at_ legs:Int):Tot (Zci n from_ at_ legs) fun r=>r.length=(Zb n).length∨r=[]:=by
 have hp:=plen hf
 obtain ⟨_,b,hb⟩:=Zba hf
 unfold Zci
 rw [(ZT hf).2]
 simp only [Option.bind_some,ZeE hf,hb]
 refine Tot.cond (fun _=>Tot.ret (.inr rfl)) fun _=>Tot.cond (fun _=>Tot.ret (.inr rfl)) fun _=>Tot.cond (fun _=>Tot.ret (.inr rfl)) fun _=>Tot.cond (fun _=>Tot.ret (.inr rfl)) fun _=>Tot.bind (ZhW hf _ _) fun y hy=>?_
 refine Tot.bind (P:=fun o=>o.length=(Zb n).length) ?_ fun o ho=>Tot.ret (.inl ho)
 refine Tot.loop (fun k s=>∃ i:Nat,s.1=(i:Int)∧i+k=(Zb n).length∧s.2.length=(Zb n).length) (fun k s hs=>?_) NN (Zb n).length _ ⟨0,rfl,by omega,hy⟩ (by unfold NN; omega)
 obtain ⟨i,hi,hk,hlen⟩:=hs
 unfold ZdF
 rw [hi]
 refine Tot.cond (fun _=>Tot.cond (fun hd=>?_) fun _=>Tot.ret hlen) fun _=>Tot.ret hlen
 have hlt:=of_decide_eq_true hd
 have hw:w64 ((i:Int)+1)=((i+1:Nat):Int):=by rw [Zp (by omega)]; omega
 exact Tot.bind (ZpN hf hlen _) fun y5 h5=>Tot.ret ⟨k-1,by omega,i+1,hw,by omega,h5⟩
theorem ZnK (service:Int) (from_ to_:ByteArray) (at_:Int):Tot (Zdw n service from_ to_ at_) fun r=>True:=by
 unfold Zdw Zeb
 rw [(ZT hf).2]
 simp only [Option.bind_some,ZeE hf]
 refine Tot.bind (P:=fun _=>True) (Tot.bind (ZlP hf _ _ _) fun r hr=>Tot.cond (fun _=>Tot.ret trivial) fun h1=>Tot.cond (fun _=>Tot.ret trivial) fun h2=>?_) fun y _=>?_
 ·have h1':=of_decide_eq_false h1
  have h2':=of_decide_eq_false h2
  have hlt:=(ZcQ (Zb n) to_).2
  rcases hr with hr | hr
  ·obtain ⟨x,hx,_⟩:=ZaS (xs:=r) (i:=idxV (Zb n) to_) ⟨by omega,by omega⟩
   rw [hx]; exact Tot.ret trivial
  ·subst hr; simp at h2'
 ·rw [Zbb]
  simp only [Option.bind_some]
  exact Tot.cond (fun _=>Tot.ret trivial) fun _=>Tot.cond (fun _=>Tot.ret trivial) fun _=>Tot.cond (fun _=>Tot.ret trivial) fun _=>Tot.ret trivial
theorem Ztr {l:List Zc} (hl:l.length≤1048576) {closed:List Ze} (hc:closed.length≤1048576) (weight:Int) {before:List Int} (hb:before.length=(Zb n).length) (f:Int) {x:Int} (hx:0≤x∧x<(Zb n).length) (e:Int) (hn0:0<n.legs.length):
 Tot (Zb2 n l closed weight (Zb n) before f x e) fun t=>∃ y,getI n.legs t.leg=some y∧y∈n.legs:=by
 have hp:=plen hf
 have hll:=hf.legs
 unfold Zb2
 have hl0:Tot (Zl (Zas n l closed weight (Zb n) before f x e) NN 0) fun r=>∀ t,r=.inr t→∃ y,getI n.legs t.leg=some y∧y∈n.legs:=by
  refine Tot.loop (fun k s=>∃ i:Nat,s=(i:Int)∧i+k=n.legs.length) (fun k s hs=>?_) NN n.legs.length 0 ⟨0,rfl,by omega⟩ (by unfold NN; omega)
  obtain ⟨i,rfl,hk⟩:=hs
  unfold Zas
  refine Tot.cond (fun hd=>?_) fun hd=>Tot.ret (fun t h=>by cases h)
  have hlt:=of_decide_eq_true hd
  have hw:w64 ((i:Int)+1)=((i+1:Nat):Int):=by rw [Zp (by omega)]; omega
  obtain ⟨y,hy,hm⟩:=ZaS (xs:=n.legs) (i:=(i:Int)) ⟨by omega,hlt⟩
  obtain ⟨m1,m2⟩:=ZdQ hm
  have a0:=Zcc m1
  have a1:=(ZcQ (Zb n) y.from_).2
  obtain ⟨v6,g6,_⟩:=ZaS (xs:=before) (i:=idxV (Zb n) y.from_) ⟨a0,by omega⟩
  obtain ⟨p,gp,_⟩:=ZaS (xs:=Zb n) (i:=x) hx
  have go:Zgu (fun k (s:Int)=>∃ i:Nat,s=(i:Int)∧i+k=n.legs.length) (fun r:Unit ⊕ Ze=>∀ t,r=.inr t→∃ y,getI n.legs t.leg=some y∧y∈n.legs) k (Sum.inl (w64 ((i:Int)+1))):=⟨k-1,by omega,i+1,hw,by omega⟩
  simp only [hy,Option.bind_some,ZeE hf,gp,g6]
  refine Tot.cond (fun _=>Tot.ret go) fun _=>Tot.cond (fun _=>Tot.ret go) fun _=>Tot.bind (Zfp _ _) fun y7 _=>Tot.bind (Zgl hf hl hc hy y7 weight) fun y8 _=>Tot.cond (fun _=>?_) fun _=>Tot.ret go
  obtain ⟨v,hv⟩:=Zcv (n:=n) (t:=⟨(i:Int),y8⟩) hy
  rw [hv,Option.bind_some]
  exact Tot.cond (fun _=>Tot.ret (fun t h=>by cases h; exact ⟨y,hy,hm⟩)) fun _=>Tot.ret go
 refine Tot.bind hl0 fun r hr=>?_
 cases r with
 | inl u=>
  obtain ⟨y,hy,hm⟩:=ZaS (xs:=n.legs) (i:=0) ⟨by omega,by omega⟩
  exact Tot.ret ⟨y,hy,hm⟩
 | inr t=>exact Tot.ret (hr t rfl)
theorem Zpb {l:List Zc} (hb:Z6 n l=true) {b:Zc} (h:b∈l):Zb0 n b.trip=true:=by
 obtain ⟨i,hi,rfl⟩:=List.getElem_of_mem h
 have:=(Zoa hb hi).1
 unfold bk1 at this
 rw [List.getElem?_eq_getElem hi] at this
 simp only [Bool.and_eq_true] at this
 exact this.1.1.1
theorem Zol {l:List Zc} (hl:l.length≤1048576) (thing at_:Int):Tot (Zc2 n l thing at_) fun r=>r.length≤l.length:=by
 unfold Zc2
 rw [Zby hf hl,Option.bind_some]
 refine Tot.bind (P:=fun o:List Zc=>o.length≤l.length) ?_ fun o ho=>Tot.ret ho
 refine Tot.loop (fun k s=>∃ i:Nat,s.1=(i:Int)∧i+k=l.length∧s.2.length≤i) (fun k s hs=>?_) NN l.length _ ⟨0,rfl,by omega,by simp⟩ (by unfold NN; omega)
 obtain ⟨i,hi,hk,hlen⟩:=hs
 unfold ZeX
 rw [hi]
 refine Tot.cond (fun hd=>?_) fun hd=>Tot.ret (by simp only [Zgu]; omega)
 have hlt:=of_decide_eq_true hd
 have hw:w64 ((i:Int)+1)=((i+1:Nat):Int):=by rw [Zp (by omega)]; omega
 obtain ⟨y,hy,hm⟩:=ZaS (xs:=l) (i:=(i:Int)) ⟨by omega,hlt⟩
 simp only [hy,Option.bind_some,hw]
 have go:∀ s':List Zc,s'.length≤i+1→Zgu (fun k (s:Int × List Zc)=>∃ i:Nat,s.1=(i:Int)∧i+k=l.length∧s.2.length≤i) (fun o:List Zc=>o.length≤l.length) k (Sum.inl (((i+1:Nat):Int),s')):=fun s' h'=>⟨k-1,by omega,i+1,rfl,by omega,h'⟩
 have add:Tot ((Go.Proofs.YtmcdjilbkmhfoaaGreat.chk (Z1 (s.2.length+[y].length) 32)).bind fun _=>some (Sum.inl (((i+1:Nat):Int),s.2++[y]):(Int × List Zc) ⊕ List Zc)) (Zgu (fun k (s:Int × List Zc)=>∃ i:Nat,s.1=(i:Int)∧i+k=l.length∧s.2.length≤i) (fun o:List Zc=>o.length≤l.length) k):=
  Tot.chk (Zcp (by simp only [List.length_cons,List.length_nil]; omega) (by omega)) (Tot.ret (go _ (by simp; omega)))
 refine Tot.cond (fun _=>add) fun hb=>Tot.cond (fun _=>add) fun _=>?_
 have hbk:Z6 n l=true:=by simpa using hb
 obtain ⟨z,hz,_⟩:=Zaz hf (Zpb hf hbk hm)
 obtain ⟨v,hv⟩:=Zd4 (n:=n) (t:=y.trip) hz
 rw [hv,Option.bind_some]
 exact Tot.cond (fun _=>add) fun _=>Tot.ret (go _ (by omega))
omit hf in
theorem Zt2 {l:List Zc} (hl:l.length≤1048575) (b:Zc):Tot (ZdX l b) fun r=>r.length=l.length+1:=by
 unfold ZdX
 refine Tot.bind (P:=fun o:Int=>0≤o∧o≤l.length) ?_ fun o ho=>?_
 ·refine Tot.loop (fun k s=>∃ i:Nat,s=(i:Int)∧i+k=l.length) (fun k s hs=>?_) NN l.length 0 ⟨0,rfl,by omega⟩ (by unfold NN; omega)
  obtain ⟨i,rfl,hk⟩:=hs
  unfold Ze1
  refine Tot.cond (fun hd=>?_) fun hd=>Tot.ret (by simp only [Zgu]; omega)
  have hlt:=of_decide_eq_true hd
  have hw:w64 ((i:Int)+1)=((i+1:Nat):Int):=by rw [Zp (by omega)]; omega
  obtain ⟨y,hy,hm⟩:=ZaS (xs:=l) (i:=(i:Int)) ⟨by omega,hlt⟩
  rw [hy,Option.bind_some,Zk9,Option.bind_some]
  exact Tot.cond (fun _=>Tot.ret ⟨k-1,by omega,i+1,hw,by omega⟩) fun _=>Tot.ret (by simp only [Zgu]; omega)
 ·have l1:(subL l 0 o).length=o.toNat:=by unfold subL; simp; omega
  have l2:(subL l o (l.length:Int)).length=l.length-o.toNat:=by unfold subL; simp
  refine Tot.chk (by unfold slOk; exact decide_eq_true (by omega)) ?_
  rw [ZfG (by omega),Option.bind_some]
  refine Tot.chk (Zcp (by simp only [List.length_cons,List.length_nil]; omega) (by omega)) (Tot.chk (by unfold slOk; exact decide_eq_true (by omega)) (Tot.chk (Zcp (by simp only [List.length_append,List.length_cons,List.length_nil]; omega) (by omega)) (Tot.ret ?_)))
  simp only [List.length_append,List.length_cons,List.length_nil]
  omega
theorem Zn9 {l:List Zc} (hl:l.length≤1048000) (thing weight:Int) (way:List Ze):Tot (ZW n l thing weight way) fun r=>r.1.length≤l.length+20∧(r.2=true→r.1.length≤120):=by
 unfold ZW
 rw [ZfG (by omega),Option.bind_some,Zby hf (by omega),Option.bind_some]
 refine Tot.cond (fun _=>Tot.ret ⟨by simp only; omega,fun h=>by cases h⟩) fun _=>Tot.cond (fun _=>Tot.ret ⟨by simp only; omega,fun h=>by cases h⟩) fun hd=>?_
 have hle:=of_decide_eq_false hd
 refine Tot.bind (P:=fun o:List Zc=>o.length≤l.length+20) ?_ fun o ho=>?_
 ·refine Tot.loop (fun k s=>∃ i:Nat,s.1=(i:Int)∧i+k=way.length∧s.2.length=l.length+i) (fun k s hs=>?_) NN way.length _ ⟨0,rfl,by omega,rfl⟩ (by unfold NN; omega)
  obtain ⟨i,hi,hk,hlen⟩:=hs
  unfold Zc1
  rw [hi]
  refine Tot.cond (fun hd=>?_) fun hd=>Tot.ret (by simp only [Zgu]; omega)
  have hlt:=of_decide_eq_true hd
  have hw:w64 ((i:Int)+1)=((i+1:Nat):Int):=by rw [Zp (by omega)]; omega
  obtain ⟨y,hy,hm⟩:=ZaS (xs:=way) (i:=(i:Int)) ⟨by omega,hlt⟩
  rw [hy,Option.bind_some,hw]
  exact Tot.bind (Zt2 (by omega) _) fun r hr=>Tot.ret ⟨k-1,by omega,i+1,rfl,by omega,by simp only; omega⟩
 ·rw [Zby hf (by omega),Option.bind_some]
  refine Tot.cond (fun _=>Tot.ret ⟨by simp only; omega,fun h=>by cases h⟩) fun hb=>Tot.ret ⟨ho,fun _=>(ZeP (n:=n) (l:=o) (by simpa using hb)).2⟩
end
end Go.Proofs.YtmcdjilbkmhfoaaGreat
namespace Go.Proofs.YtmcdjilbkmhfoaaGreat
set_option maxRecDepth 10000
open Go.RowKit
set_option linter.unusedVariables false
set_option linter.unusedSimpArgs false
set_option linter.unusedSectionVars false
abbrev leB (a b:Zc):Prop:=befB b a=false
theorem Zjz {a b:Zc} (h:befB a b=true):befB b a=false:=Go.Sort.SWO.asymmA ZlJ h
theorem Zqc {l:List Zc} (hl:l.length≤1048575) (b:Zc) (hs:l.Pairwise leB):Tot (ZdX l b) fun r=>r.length=l.length+1∧r.Perm (l++[b])∧r.Pairwise leB:=by
 unfold ZdX
 refine Tot.bind (P:=fun o:Int=>∃ k:Nat,o=(k:Int)∧k≤l.length∧(∀ i (h:i<l.length),i<k→befB l[i] b=true)∧(∀ h:k<l.length,befB l[k] b=false)) ?_ fun o ho=>?_
 ·refine Tot.loop (fun k s=>∃ i:Nat,s=(i:Int)∧i+k=l.length∧∀ j (h:j<l.length),j<i→befB l[j] b=true) (fun k s hs=>?_) NN l.length 0 ⟨0,rfl,by omega,fun j _ h=>by omega⟩ (by unfold NN; omega)
  obtain ⟨i,rfl,hk,hb⟩:=hs
  unfold Ze1
  refine Tot.cond (fun hd=>?_) fun hd=>Tot.ret ⟨i,rfl,by omega,fun j h h'=>hb j h h',fun h=>by have:=of_decide_eq_false hd; omega⟩
  have hlt:=of_decide_eq_true hd
  have hw:w64 ((i:Int)+1)=((i+1:Nat):Int):=by rw [Zp (by omega)]; omega
  have hil:i<l.length:=by omega
  have hy:getI l (i:Int)=some l[i]:=by rw [Zq]; exact List.getElem?_eq_getElem hil
  rw [hy,Option.bind_some,Zk9,Option.bind_some]
  refine Tot.cond (fun h1=>Tot.ret ⟨k-1,by omega,i+1,hw,by omega,fun j h h'=>?_⟩) fun h1=>Tot.ret ⟨i,rfl,by omega,fun j h h'=>hb j h h',fun _=>h1⟩
  by_cases hji:j=i
  ·subst hji; exact h1
  ·exact hb j h (by omega)
 ·obtain ⟨k,rfl,hk,hbef,hnot⟩:=ho
  have e1:subL l 0 (k:Int)=l.take k:=by unfold subL; simp
  have e2:subL l (k:Int) (l.length:Int)=l.drop k:=by
   unfold subL
   simp only [Int.toNat_natCast]
   rw [List.take_of_length_le (by simp)]
  rw [e1,e2]
  refine Tot.chk (by unfold slOk; exact decide_eq_true (by omega)) ?_
  rw [ZfG (by simp only [List.length_take]; omega),Option.bind_some]
  refine Tot.chk (Zcp (by simp only [List.length_cons,List.length_nil,List.length_take]; omega) (by omega)) (Tot.chk (by unfold slOk; exact decide_eq_true (by omega)) (Tot.chk (Zcp (by simp only [List.length_append,List.length_cons,List.length_nil,List.length_take,List.length_drop]; omega) (by omega)) (Tot.ret ⟨?_,?_,?_⟩)))
  ·simp only [List.length_append,List.length_cons,List.length_nil,List.length_take,List.length_drop]; omega
  ·have h1:(l.take k++[b]++l.drop k).Perm (l.take k++(l.drop k++[b])):=by
    rw [List.append_assoc]
    exact List.Perm.append_left _ List.perm_append_comm
   rw [← List.append_assoc,List.take_append_drop] at h1
   exact h1
  ·have hs1:=List.Pairwise.sublist (List.take_sublist k l) hs
   have hs2:=List.Pairwise.sublist (List.drop_sublist k l) hs
   have hgt:∀ y∈l.drop k,befB y b=false:=fun y hy=>by
    obtain ⟨j,hj,rfl⟩:=List.getElem_of_mem hy
    rw [List.length_drop] at hj
    rw [List.getElem_drop]
    have h0:=hnot (by omega)
    by_cases hj0:j=0
    ·subst hj0; exact h0
    ·have:=List.pairwise_iff_getElem.1 hs k (k+j) (by omega) (by omega) (by omega)
     exact ZlJ.ntrans _ _ _ this h0
   have hlt:∀ x∈l.take k,befB x b=true:=fun x hx=>by
    obtain ⟨j,hj,rfl⟩:=List.getElem_of_mem hx
    rw [List.length_take] at hj
    rw [List.getElem_take]
    exact hbef j (by omega) (by omega)
   rw [List.append_assoc,List.pairwise_append]
   refine ⟨hs1,?_,fun x hx y hy=>?_⟩
   ·rw [List.singleton_append,List.pairwise_cons]
    exact ⟨fun y hy=>hgt y hy,hs2⟩
   ·rw [List.singleton_append,List.mem_cons] at hy
    rcases hy with rfl | hy
    ·exact Zjz (hlt x hx)
    ·exact ZlJ.ntrans _ _ _ (hgt y hy) (Zjz (hlt x hx))
def Zft (thing weight:Int) (way:List Ze):List Zc:=way.map fun t=>⟨thing,t,weight⟩
theorem Zsp {n:Za} {l:List Zc} (h:Z6 n l=true):l.Pairwise leB:=List.pairwise_iff_getElem.2 fun i j hi hj hij=>Zjz (ZhQ h j i hj hij)
theorem ZlE {n:Za} {d e:List Zc} (hp:d.Perm e) (hd:d.Pairwise leB) (he:e.Pairwise leB) (hb:Z6 n d=true):d=e:=by
 refine List.Perm.eq_of_pairwise (le:=leB) (fun a b ha hb' h1 h2=>?_) hd he hp
 have hb2:=hp.mem_iff.2 hb'
 obtain ⟨i,hi,rfl⟩:=List.getElem_of_mem ha
 obtain ⟨j,hj,rfl⟩:=List.getElem_of_mem hb2
 rcases Nat.lt_trichotomy i j with h | h | h
 ·have:=ZhQ hb j i hj h
  have h2':befB d[i] d[j]=false:=h2
  rw [this] at h2'; cases h2'
 ·subst h; rfl
 ·have:=ZhQ hb i j hi h
  have h1':befB d[j] d[i]=false:=h1
  rw [this] at h1'; cases h1'
theorem Zr0 {n:Za} {d e:List Zc} (hp:d.Perm e) (hd:d.Pairwise leB) (he:e.Pairwise leB):Z6 n d=Z6 n e:=by
 cases h1:Z6 n d with
 | true=>rw [← ZlE hp hd he h1,h1]
 | false=>
  cases h2:Z6 n e with
  | false=>rfl
  | true=>rw [ZlE hp.symm he hd h2,h1] at h2; cases h2
theorem ZlS {n:Za} (hf:ZV n) {l:List Zc} (hl:l.length≤1048000) (thing weight:Int) {way:List Ze} {d:List Zc} (hp:d.Perm (l++Zft thing weight way)) (hs:d.Pairwise leB):
 ZW n l thing weight way=some (if Z6 n l=true∧way.length≤20∧Z6 n d=true then (d,true) else (l,false)):=by
 unfold ZW
 rw [ZfG (by omega),Option.bind_some,Zby hf (by omega),Option.bind_some]
 by_cases hb:Z6 n l=true
 case neg=>
  have hb':Z6 n l=false:=by simpa using hb
  rw [hb',if_neg (fun h=>by cases h.1)]; rfl
 rw [hb]
 by_cases hw:way.length≤20
 case neg=>
  rw [if_neg (fun h=>hw h.2.1),decide_eq_true (show 20<(way.length:Int) by omega)]; rfl
 rw [decide_eq_false (show ¬ 20<(way.length:Int) by omega)]
 obtain ⟨o,ho,ho1,ho2,ho3⟩:Tot (Zl (Zc1 n l thing weight way) NN (0,l)) fun o=>o.length=l.length+way.length∧o.Perm (l++Zft thing weight way)∧o.Pairwise leB:=by
  refine Tot.loop (fun k s=>∃ i:Nat,s.1=(i:Int)∧i+k=way.length∧s.2.length=l.length+i∧s.2.Perm (l++Zft thing weight (way.take i))∧s.2.Pairwise leB) (fun k s hs=>?_) NN way.length _ ⟨0,rfl,by omega,rfl,by simp [Zft],Zsp hb⟩ (by unfold NN; omega)
  obtain ⟨i,hi,hk,hlen,hpp,hss⟩:=hs
  unfold Zc1
  rw [hi]
  refine Tot.cond (fun hd=>?_) fun hd=>Tot.ret (by
   have:=of_decide_eq_false hd
   have hi2:i=way.length:=by omega
   rw [hi2,List.take_length] at hpp
   exact ⟨by omega,hpp,hss⟩)
  have hlt:=of_decide_eq_true hd
  have hwi:w64 ((i:Int)+1)=((i+1:Nat):Int):=by rw [Zp (by omega)]; omega
  have hil:i<way.length:=by omega
  have hy:getI way (i:Int)=some way[i]:=by rw [Zq]; exact List.getElem?_eq_getElem hil
  rw [hy,Option.bind_some,hwi]
  refine Tot.bind (Zqc (by omega) _ hss) fun r hr=>Tot.ret ⟨k-1,by omega,i+1,rfl,by omega,by simp only; omega,?_,hr.2.2⟩
  refine hr.2.1.trans ?_
  have:Zft thing weight (way.take (i+1))=Zft thing weight (way.take i)++[⟨thing,way[i],weight⟩]:=by
   unfold Zft
   rw [List.take_succ_eq_append_getElem hil,List.map_append]; rfl
  rw [this,← List.append_assoc]
  exact hpp.append_right _
 simp only [Bool.not_true,cond_false,ho,Option.bind_some]
 rw [Zby hf (by omega),Option.bind_some,Zr0 (n:=n) (ho2.trans hp.symm) ho3 hs]
 by_cases hd:Z6 n d=true
 ·rw [hd,if_pos ⟨by trivial,hw,by trivial⟩,ZlE (hp.trans ho2.symm) hs ho3 hd]; rfl
 ·have hd':Z6 n d=false:=by simpa using hd
  rw [hd',if_neg (fun h=>by cases h.2.2)]; rfl
end Go.Proofs.YtmcdjilbkmhfoaaGreat
namespace Go.Proofs.YtmcdjilbkmhfoaaGreat
set_option maxRecDepth 10000
open Go.RowKit Go.Lib Go.Sort
set_option linter.unusedVariables false
set_option linter.unusedSimpArgs false
set_option maxRecDepth 100000
set_option maxHeartbeats 4000000
abbrev SW (w:World):Nat→Prop:=fun b=>b<w.heap.size
theorem Zhb {w w':World} {p:PV} {x:Value} (h:RepC w (SW w) p x) (hu:Up w w'):RepC w' (SW w') p x:=
 h.ext (fun b hb=>Nat.lt_of_lt_of_le hb hu.size) (fun b o hb=>hu.cell (p:=⟨b,o,none⟩) hb)
theorem Zdo.ownT {P:Program} {α:Type} [Enc α] {c:α→List PV} [hf:ZhM c (id:α→α)] {f:FuncId} {args:List PV} {T:TypeId} {r:List α} (h:Zdo P f args [] (.ms 0) [some ⟨T,Enc.k α,r.map c⟩]) {w:World} (ht:Tab w (own0 fun _=>none)) {vs:Array Value} (hl:vs.size=args.length) (ha:∀ (i:Nat) (p:PV),args[i]?=some p→∃ x,vs[i]?=some x∧Rep w (E1 (SW w) (fun _=>none) 0) p x):
 Calls P f vs w fun e w'=>∃ v,e=.returned v∧Own w' w.heap.size T v r∧Up w w':=by
 have hok:Ok w (own0 fun _=>none) (E1 (fun b=>b<w.heap.size) (fun _=>none) 0) w []:=
  ⟨UpO.refl _ _,fun b h=>h,fun l B h=>(by cases h),fun l l' B B' h=>(by cases h),fun l h=>absurd h (Nat.not_lt_zero l),fun l B h=>(by cases h),fun l mb h=>(by simp at h),fun l B h=>(by cases h),ht⟩
 refine (h (fun b=>b<w.heap.size) (fun _=>none) w vs hok hl ha).mono ?_
 rintro e w' ⟨v,E',rfl,hk,_,_,_,hr⟩
 refine ⟨v,rfl,?_,⟨hk.up.os,hk.up.tape,hk.up.output,hk.up.size,fun b hb=>hk.up.block b hb ZoK⟩⟩
 obtain ⟨B,hB,hb,rfl⟩:=hr.ms_inv hk (l:=0) rfl
 have hkk:=hb.k
 have hn:B.n=r.length:=by have:=hb.n; simpa using this
 have hT:=hb.T
 simp only at hkk hT
 cases hz:B.z with
 | true=>
  have h0:r=[]:=by have:=hb.nil hz; simpa using this
  subst h0
  have hsv:B.sv=.slice none 0 0:=by simp [Blk.sv,hz]
  rw [hsv]
  exact World.ownsRow_nil _ _ _ _
 | false=>
  have hsv:B.sv=.slice (some ⟨B.b,0,none⟩) r.length B.c:=by simp [Blk.sv,hz,hn]
  rw [hsv]
  obtain ⟨cells,hc,hcs,hcell⟩:=hb.mem hz
  have hown:=hk.own 0 B hB hz
  have hfr:w.heap.size≤B.b:=by
   rcases hown.1 with h | h
   ·exact absurd h ZoK
   ·exact h
  refine ⟨by rw [Zd6],.inr ⟨B.b,B.c,cells,rfl,hfr,by rw [hc,hT],by rw [← hn]; exact hb.nc,hb.cm,by rw [hcs,hkk],?_⟩⟩
  apply List.ext_getElem?
  intro t
  have hkp:0<Enc.k α:=Enc.pos
  rcases Nat.lt_or_ge t (r.length*Enc.k α) with hi | hi
  ·rw [List.getElem?_take_of_lt hi,Array.getElem?_toList]
   have hi':t / Enc.k α<r.length:=by rw [Nat.div_lt_iff_lt_mul hkp]; exact hi
   have hj:=Nat.mod_lt t hkp
   have e0:t / Enc.k α*Enc.k α+t % Enc.k α=t:=by rw [Nat.mul_comm]; exact Nat.div_add_mod t _
   have hcl:(c r[t / Enc.k α]).length=Enc.k α:=hf.len _
   obtain ⟨u,hu1,hu2⟩:=hf.at_ r[t / Enc.k α] (t % Enc.k α) _ (List.getElem?_eq_getElem (by rw [hcl]; exact hj))
   obtain ⟨x,x1,_,x3⟩:=hcell (t / Enc.k α) (c r[t / Enc.k α]) (t % Enc.k α) (.v u) (by simp [hi']) (by rw [List.getElem?_eq_getElem (by rw [hcl]; exact hj),hu2])
   obtain ⟨rfl,_⟩:=x3.v_inv
   rw [hkk,e0] at x1
   have hfl:=ZhF (xs:=r) (i:=t / Enc.k α) (x:=r[t / Enc.k α]) (List.getElem?_eq_getElem hi') hu1
   rw [e0] at hfl
   rw [x1,hfl]
  ·rw [List.getElem?_eq_none (by rw [List.length_take]; omega),List.getElem?_eq_none (by rw [Zd6]; omega)]
theorem ZwQ:ElT Tryz.prog 37 135 (Enc.k Zc) 32:=ElT.mk' (z:=.agg #[I 0,I 0,I 0,I 0]) Tryz.underlying37 (by kernel_rfl) rfl
section
variable {n:Za} (hf:ZV n) {w:World} {O:Nat→Prop} (ht:Tab w O) {v0 v1:Value} (h0:RepC w (SW w) (.sl (n.legs.map cLeg)) v0) (h1:RepC w (SW w) (.sl (n.off.map cInt)) v1)
include hf ht h0 h1
theorem Zty {W:World} (hu:Up w W) {xs:List Zc} (hx:xs.length≤1048576) {lv:Value} (hl:RepC W (SW W) (.sl (xs.map Zg)) lv):
 Calls Tryz.prog 139 #[.agg #[v0,v1,I n.change],lv] W fun e w'=>e=.returned (.bool (Z6 n xs))∧Up W w':=by
 have o0:=h0.one (by simp) (by simp)
 have o1:=h1.one (by simp) (by simp)
 have hC:=CT.ok (P:=Tryz.prog) (ZhG hf hx)
 simp only [CT.f,CT.args,CT.m0,CT.res,CT.mem] at hC
 refine Zdo.valT hC (ZmV ht (O':=fun _=>False) ⟨hu.os,hu.tape,hu.output,hu.size,fun b hb _=>hu.block b hb⟩ fun b _ h=>h.elim) rfl fun i p hp=>?_
 match i with
 | 0=>
  obtain rfl:_=p:=Option.some.inj hp
  refine ⟨_,rfl,.ag _ _ rfl (fun j x hx=>?_) fun j p x hp hx=>?_⟩
  ·match j with
   | 0=>obtain rfl:_=x:=Option.some.inj hx
        exact o0
   | 1=>obtain rfl:_=x:=Option.some.inj hx
        exact o1
   | 2=>obtain rfl:_=x:=Option.some.inj hx
        rfl
   | j+3=>simp at hx
  ·match j with
   | 0=>obtain rfl:_=x:=Option.some.inj hx
        obtain rfl:_=p:=Option.some.inj hp
        exact .c (Zhb h0 hu)
   | 1=>obtain rfl:_=x:=Option.some.inj hx
        obtain rfl:_=p:=Option.some.inj hp
        exact .c (Zhb h1 hu)
   | 2=>obtain rfl:_=x:=Option.some.inj hx
        obtain rfl:_=p:=Option.some.inj hp
        exact ZhI _ rfl
   | j+3=>simp at hx
 | 1=>
  obtain rfl:_=p:=Option.some.inj hp
  exact ⟨_,rfl,.c hl⟩
 | i+2=>simp at hp
omit hf h0 h1 in
theorem Zqu {W:World} (hu:Up w W) {xs:List Zc} (hx:xs.length≤1048576) {lv:Value} (hl:RepC W (SW W) (.sl (xs.map Zg)) lv):
 Calls Tryz.prog 169 #[lv] W fun e w'=>∃ v,e=.returned v∧Own w' W.heap.size 135 v xs∧Up W w':=by
 have hm:ZaX xs=some xs:=by
  unfold ZaX
  simp only [List.length_nil,chk0 hx (show 32≤1024 by omega),Option.bind_some,List.nil_append]
 have hC:=CT.ok (P:=Tryz.prog) hm
 simp only [CT.f,CT.args,CT.m0,CT.res,CT.mem] at hC
 refine Zdo.ownT hC (ZmV ht (O':=fun _=>False) ⟨hu.os,hu.tape,hu.output,hu.size,fun b hb _=>hu.block b hb⟩ fun b _ h=>h.elim) rfl fun i p hp=>?_
 match i with
 | 0=>
  obtain rfl:_=p:=Option.some.inj hp
  exact ⟨_,rfl,.c hl⟩
 | i+1=>simp at hp
end
end Go.Proofs.YtmcdjilbkmhfoaaGreat
namespace Go.Proofs.YtmcdjilbkmhfoaaGreat
set_option maxRecDepth 10000
open Go.RowKit Go.Lib Go.Sort
set_option linter.unusedVariables false
set_option linter.unusedSimpArgs false
set_option linter.unusedSectionVars false
set_option maxRecDepth 100000
set_option maxHeartbeats 4000000
theorem Zbi {w w':World} {b o:Nat} {v:Value} (h:w.cell? ⟨b,o,none⟩=some v) (hb:b<w.heap.size) (hu:Up w w'):w'.cell? ⟨b,o,none⟩=some v:=(hu.cell (p:=⟨b,o,none⟩) hb).trans h
theorem Zr8 {w W:World} {O:Nat→Prop} (h:Tab w O) (hu:Up w W) {B:Nat} (hB:w.heap.size≤B):Tab W (fun b=>B≤b):=by
 obtain ⟨T,h1,h2⟩:=h
 exact ⟨T,fun b hb=>⟨Nat.lt_of_lt_of_le (h1 b hb).1 hu.size,fun h=>by have:=(h1 b hb).1; omega⟩,fun w'' hw''=>h2 w'' fun b hb=>(hw'' b hb).trans (hu.block b (h1 b hb).1)⟩
theorem ZtJ {w:World} {B Bx:Nat} {v v':Value} {xs:List Zc} (h:Own w B 135 v xs) (hx:w.heap[Bx]?=some (.cells #[v'] 37 (0,0))):v.ownBlock≠some Bx:=by
 rcases h.2 with ⟨hv,_⟩ | ⟨g,cap,cur,hv,hB,hg,_⟩
 ·rw [hv]; simp [Value.ownBlock]
 ·rw [hv]
  intro e
  have:g=Bx:=by simpa [Value.ownBlock] using e
  subst this
  rw [hg] at hx
  simp at hx
section
variable {n:Za} (hf:ZV n) {w:World} {O:Nat→Prop} (ht:Tab w O) {v0 v1:Value} (h0:RepC w (SW w) (.sl (n.legs.map cLeg)) v0) (h1:RepC w (SW w) (.sl (n.off.map cInt)) v1)
 {l:List Zc} (hl:l.length≤1048000) {lv:Value} (hlr:RepC w (SW w) (.sl (l.map Zg)) lv) (thing weight:Int) {way:List Ze} (hwl:way.length≤1048576) {A:Option Addr} {wn:Nat} (hwr:Rd w w.heap.size A way)
include hf ht h0 h1 hl hlr hwl hwr
theorem Zt9 (hno:¬ (Z6 n l=true∧way.length≤20)):
 Calls Tryz.prog 135 #[.agg #[v0,v1,I n.change],lv,I thing,I weight,.slice A way.length wn] w fun e w'=>∃ v,e=.returned (.tuple #[v,.bool false])∧Own w' w.heap.size 135 v l∧Up w w':=by
 have hA:=fun (W:World) (hu:Up w W)=>Zty hf ht h0 h1 hu (xs:=l) (by omega) (Zhb hlr hu)
 have hC:=fun (W:World) (hu:Up w W)=>Zqu ht hu (xs:=l) (by omega) (Zhb hlr hu)
 have HA:Hid _:=hA
 have HC:Hid _:=hC
 clear hA hC hf ht h0 h1 hlr hwr
 by_cases hb:Z6 n l=true
 ·have h20:(20:Int)<(way.length:Int):=by
   rcases Nat.lt_or_ge 20 way.length with h | h
   ·omega
   ·exact absurd ⟨hb,h⟩ hno
  have Hb:Hid (Z6 n l=true):=hb
  clear hno hb
  go_enter Tryz.func135,Tryz.ntmps135
  go_wp2_with (first
   | (go_at_call 139; refine (HA.out _ (by (repeat (first | exact Up.rfl' _ | (refine Up.al _ ?_) | (refine Up.dr _ ?_) | (refine Up.dr1 ?_) | (refine Up.sc ?_ (by first | exact Nat.le_refl _ | (simp; done) | omega) _) | (refine Up.step (by assumption) ?_))))).mono ?_; rintro e w1 ⟨rfl,hu1⟩; rw [Hb.out])
   | (go_at_call 169; refine (HC.out _ (by (repeat (first | exact Up.rfl' _ | (refine Up.al _ ?_) | (refine Up.dr _ ?_) | (refine Up.dr1 ?_) | (refine Up.sc ?_ (by first | exact Nat.le_refl _ | (simp; done) | omega) _) | (refine Up.step (by assumption) ?_))))).mono ?_; rintro e w2 ⟨v2,rfl,ho2,hu2⟩))
  go_ret2
  exact ⟨v2,rfl,ho2.down (by (repeat (first | exact Up.rfl' _ | (refine Up.al _ ?_) | (refine Up.dr _ ?_) | (refine Up.dr1 ?_) | (refine Up.sc ?_ (by first | exact Nat.le_refl _ | (simp; done) | omega) _) | (refine Up.step (by assumption) ?_)))),by (repeat (first | exact Up.rfl' _ | (refine Up.al _ ?_) | (refine Up.dr _ ?_) | (refine Up.dr1 ?_) | (refine Up.sc ?_ (by first | exact Nat.le_refl _ | (simp; done) | omega) _) | (refine Up.step (by assumption) ?_)))⟩
 ·have hb':Z6 n l=false:=by simpa using hb
  have Hb:Hid (Z6 n l=false):=hb'
  clear hno hb hb'
  go_enter Tryz.func135,Tryz.ntmps135
  go_wp2_with (first
   | (go_at_call 139; refine (HA.out _ (by (repeat (first | exact Up.rfl' _ | (refine Up.al _ ?_) | (refine Up.dr _ ?_) | (refine Up.dr1 ?_) | (refine Up.sc ?_ (by first | exact Nat.le_refl _ | (simp; done) | omega) _) | (refine Up.step (by assumption) ?_))))).mono ?_; rintro e w1 ⟨rfl,hu1⟩; rw [Hb.out])
   | (go_at_call 169; refine (HC.out _ (by (repeat (first | exact Up.rfl' _ | (refine Up.al _ ?_) | (refine Up.dr _ ?_) | (refine Up.dr1 ?_) | (refine Up.sc ?_ (by first | exact Nat.le_refl _ | (simp; done) | omega) _) | (refine Up.step (by assumption) ?_))))).mono ?_; rintro e w2 ⟨v2,rfl,ho2,hu2⟩))
  go_ret2
  exact ⟨v2,rfl,ho2.down (by (repeat (first | exact Up.rfl' _ | (refine Up.al _ ?_) | (refine Up.dr _ ?_) | (refine Up.dr1 ?_) | (refine Up.sc ?_ (by first | exact Nat.le_refl _ | (simp; done) | omega) _) | (refine Up.step (by assumption) ?_)))),by (repeat (first | exact Up.rfl' _ | (refine Up.al _ ?_) | (refine Up.dr _ ?_) | (refine Up.dr1 ?_) | (refine Up.sc ?_ (by first | exact Nat.le_refl _ | (simp; done) | omega) _) | (refine Up.step (by assumption) ?_)))⟩
theorem Zsn (hb:Z6 n l=true) (h20:way.length≤20):
 Calls Tryz.prog 135 #[.agg #[v0,v1,I n.change],lv,I thing,I weight,.slice A way.length wn] w fun e w'=>∃ v ys ok,e=.returned (.tuple #[v,.bool ok])∧Own w' w.heap.size 135 v ys∧Up w w'∧ZW n l thing weight way=some (ys,ok):=by
 have hlb:=(ZeP hb).2
 have hA:=fun (W:World) (hu:Up w W) (xs:List Zc) (hx:xs.length≤1048576) (lv:Value) (hl:RepC W (SW W) (.sl (xs.map Zg)) lv)=>Zty hf ht h0 h1 hu (xs:=xs) hx hl
 have hC:=fun (W:World) (hu:Up w W)=>Zqu ht hu (xs:=l) (by omega) (Zhb hlr hu)
 have HA:Hid _:=hA
 have HC:Hid _:=hC
 have HL:Hid (∀ W,Up w W→RepC W (SW W) (.sl (l.map Zg)) lv):=fun W hu=>Zhb hlr hu
 have HW:Hid (Rd w w.heap.size A way):=hwr
 have HF:Hid (ZV n):=hf
 have HT:Hid (Tab w O):=ht
 have Hb:Hid (Z6 n l=true):=hb
 have h20z:¬ (20:Int)<(way.length:Int):=by omega
 clear hA hC hf ht h0 h1 hlr hwr hb
 go_enter Tryz.func135,Tryz.ntmps135
 go_wp2_with (first
  | (go_at_call 139; refine (HA.out _ (by (repeat (first | exact Up.rfl' _ | (refine Up.al _ ?_) | (refine Up.dr _ ?_) | (refine Up.dr1 ?_) | (refine Up.sc ?_ (by first | exact Nat.le_refl _ | (simp; done) | omega) _) | (refine Up.step (by assumption) ?_)))) l (by omega) lv (HL.out _ (by (repeat (first | exact Up.rfl' _ | (refine Up.al _ ?_) | (refine Up.dr _ ?_) | (refine Up.dr1 ?_) | (refine Up.sc ?_ (by first | exact Nat.le_refl _ | (simp; done) | omega) _) | (refine Up.step (by assumption) ?_)))))).mono ?_; rintro e w1 ⟨rfl,hu1⟩; rw [Hb.out])
  | (go_at_call 169; refine (HC.out _ (by (repeat (first | exact Up.rfl' _ | (refine Up.al _ ?_) | (refine Up.dr _ ?_) | (refine Up.dr1 ?_) | (refine Up.sc ?_ (by first | exact Nat.le_refl _ | (simp; done) | omega) _) | (refine Up.step (by assumption) ?_))))).mono ?_; rintro e w2 ⟨v2,rfl,ho2,hu2⟩; obtain ⟨A2,c2,rfl,hc2,_⟩:=ho2.form))
 have hub:Up (w.alloc (.cells #[v0,v1,I n.change] 35)) w2:=by (repeat (first | exact Up.rfl' _ | (refine Up.al _ ?_) | (refine Up.dr _ ?_) | (refine Up.dr1 ?_) | (refine Up.sc ?_ (by first | exact Nat.le_refl _ | (simp; done) | omega) _) | (refine Up.step (by assumption) ?_)))
 have hown:Own w2 (w.heap.size+1) 135 (.slice A2 l.length c2) l:=by
  have:=ho2.down (w0:=w.alloc (.cells #[v0,v1,I n.change] 35)) (by (repeat (first | exact Up.rfl' _ | (refine Up.al _ ?_) | (refine Up.dr _ ?_) | (refine Up.dr1 ?_) | (refine Up.sc ?_ (by first | exact Nat.le_refl _ | (simp; done) | omega) _) | (refine Up.step (by assumption) ?_))))
  simpa using this
 have HUB:=Lib.hid hub
 have HO:=Lib.hid hown
 clear ho2 hc2 hown
 go_loopw [30] (fun vi wr=>∃ (i:Nat) (v:Value),vi=.int .i64 i∧i≤way.length∧Own wr (w.heap.size+1) 135 v (l++Zft thing weight (way.take i))∧wr.heap[w2.heap.size]?=some (.cells #[v] 37 (0,0))∧Up (w.alloc (.cells #[v0,v1,I n.change] 35)) wr) (fun vi _=>way.length-(intOf vi).toNat)
 case atStart=>
  refine ⟨0,_,by go_num,by omega,?_,heap_alloc_new _ _,Up.al _ HUB.out⟩
  simp only [List.take_zero,Zft,List.map_nil,List.append_nil]
  exact HO.out.up (Up.al _ (Up.rfl' _))
 case round=>
  obtain ⟨i,v,rfl,hi,hv,hx,hwr⟩:=hrel
  obtain ⟨A3,c3,rfl,hc3,hm3⟩:=hv.form
  have hnl:(l++Zft thing weight (way.take i)).length=l.length+i:=by simp [Zft]; omega
  rw [hnl] at hv hx
  have hcx:wr.cell? ⟨w2.heap.size,0,none⟩=some (.slice A3 (l.length+i) c3):=by rw [cell_of_row wr _ 0 _ _ (0,0) hx]; rfl
  have hz:w2.heap.size<wr.heap.size:=(Array.getElem?_eq_some_iff.1 hx).1
  have hz1:wr.heap.size≠w2.heap.size:=by omega
  have hz2:w2.heap.size≠wr.heap.size:=by omega
  have HV:=Lib.hid hv
  have HX:=Lib.hid hx
  have HWR:=Lib.hid hwr
  have HNL:=Lib.hid hnl
  clear hv hx hwr
  clear hnl hc3 hm3
  by_cases hlt:i<way.length
  ·obtain ⟨b,off,rfl,hbb,hcc⟩:=(HW.out.up (Up.step (w.alloc (.cells #[v0,v1,I n.change] 35) |> fun _=>HWR.out) (Up.al _ (Up.rfl' w)))).at_ (List.getElem?_eq_getElem hlt)
   have d0:wr.cell? ⟨b,off+i*2,none⟩=some (I way[i].leg):=hcc 0 _ rfl
   have d1:wr.cell? ⟨b,off+i*2+1,none⟩=some (I way[i].day):=hcc 1 _ rfl
   clear hcc
   have hrd1:Rd ((wr.alloc (.cells #[I way[i].leg,I way[i].day] 55)).alloc (.cells #[I thing,I way[i].leg,I way[i].day,I weight] 135)) (wr.heap.size+2) (some ⟨wr.heap.size+1,0,none⟩) [(⟨thing,way[i],weight⟩:Zc)]:=by
    have e:(wr.alloc (.cells #[I way[i].leg,I way[i].day] 55)).heap.size=wr.heap.size+1:=by simp
    have h:=Rd.one (wr.alloc (.cells #[I way[i].leg,I way[i].day] 55)) 135 (⟨thing,way[i],weight⟩:Zc) (wr.heap.size+2) (by rw [e]; omega)
    rw [e] at h
    exact h
   have HR1:=Lib.hid hrd1
   clear hrd1
   have hlen:=HNL.out
   have hsz:w.heap.size+1≤wr.heap.size:=by have:=HWR.out.size; simpa using this
   go_wp2_with (at_builtin; refine ZN ZwQ rfl (.tmp 34) (.tmp 39) rfl (base:=w.heap.size+1) (ys:=l++Zft thing weight (way.take i)) (xs:=[(⟨thing,way[i],weight⟩:Zc)]) (by rfl) (HV.out.up (by (repeat (first | exact Up.rfl' _ | (refine Up.al _ ?_) | (refine Up.dr _ ?_) | (refine Up.dr1 ?_) | (refine Up.sc ?_ (by first | exact Nat.le_refl _ | (simp; done) | omega) _) | (refine Up.step (by assumption) ?_))))) 1 (by rfl) rfl HR1.out (by simp only [List.length_cons,List.length_nil]; omega) (by unfold maxLen; simp only [List.length_cons,List.length_nil]; omega) (by simp; omega) ?_; intro v' w3 ho3 hg3 _ hu3; refine Hid.out ?_)
   have hx3:w3.heap[w2.heap.size]?=some (.cells #[.slice A3 (l.length+i) c3] 37 (0,0)):=by
    rw [hg3.block _ (by simp; omega) (fun e=>ZtJ HV.out HX.out e.symm)]
    exact ((Up.al _ (Up.al _ (Up.rfl' wr))).block _ hz).trans HX.out
   obtain ⟨A4,c4,rfl,hc4,hm4⟩:=ho3.form
   have hl4:(l++Zft thing weight (way.take i)++[(⟨thing,way[i],weight⟩:Zc)]).length=l.length+(i+1):=by simp [Zft]; omega
   rw [hl4] at ho3 ⊢
   clear hl4
   have hnews:Zft thing weight (way.take (i+1))=Zft thing weight (way.take i)++[⟨thing,way[i],weight⟩]:=by
    unfold Zft
    rw [List.take_succ_eq_append_getElem hlt,List.map_append]; rfl
   have hcell3:w3.cell? ⟨w2.heap.size,0,none⟩=some (.slice A3 (l.length+i) c3):=by rw [cell_of_row w3 _ 0 _ _ (0,0) hx3]; rfl
   have hfr3:w3.frozen? ⟨w2.heap.size,0,none⟩=false:=by simp [World.frozen?,hx3]
   have hwr3:Up (w.alloc (.cells #[v0,v1,I n.change] 35)) w3:=hu3 _ (by simp) (Up.al _ (Up.al _ HWR.out))
   have HX3:=Lib.hid hx3
   have HO3:=Lib.hid ho3
   have HN:=Lib.hid hnews
   have HW3:=Lib.hid hwr3
   clear hx3 ho3 hg3 hu3 hnews hwr3 hc4 hm4 hlen
   refine Lib.hid ?_
   go_wp2
   refine ⟨⟨i+1,_,by go_num,by omega,?_,heap_setCell_same w3 _ 0 _ _ _ HX3.out,Up.sc HW3.out (by have:=HUB.out.size; simp at this ⊢; omega) _⟩,by simp [intOf]; omega⟩
   rw [HN.out,← List.append_assoc]
   exact HO3.out.grown (row:=some w2.heap.size) ⟨rfl,rfl,rfl,by simp,fun k hk hne=>heap_setCell_other _ _ _ _ (fun e=>hne (by rw [e]))⟩ (.inr (ZtJ HO3.out HX3.out))
  ·have hie:i=way.length:=by omega
   subst hie
   have hst:=Zvl HV.out HX.out (by rw [HNL.out]; omega) (Zr8 HT.out (Up.step HWR.out (Up.al _ (Up.rfl' w))) (by omega)) (fun b h=>h)
   have hge:¬ (way.length:Int)<(way.length:Int):=by omega
   go_wp2_with (go_at_call 200; refine hst.mono ?_; rintro e w4 ⟨rfl,ys,hp,hs,ho4,hu4⟩; refine Hid.out ?_)
   rw [List.take_length] at hp
   have hyl:ys.length=l.length+way.length:=by rw [hp.length_eq]; simp [Zft]
   have hsp:=ZlS HF.out hl thing weight hp hs
   have hup4:Up (w.alloc (.cells #[v0,v1,I n.change] 35)) w4:=by
    have h:=HWR.out
    exact ⟨hu4.os.trans h.os,hu4.tape.trans h.tape,hu4.output.trans h.output,Nat.le_trans h.size hu4.size,fun b hb=>(hu4.block b (Nat.lt_of_lt_of_le hb h.size) (fun hh=>by simp at hb; omega)).trans (h.block b hb)⟩
   have e0:w4.cell? ⟨w.heap.size,0,none⟩=some v0:=Zbi (by simp) (by simp) hup4
   have e1:w4.cell? ⟨w.heap.size,1,none⟩=some v1:=Zbi (by simp) (by simp) hup4
   have e2:w4.cell? ⟨w.heap.size,2,none⟩=some (I n.change):=Zbi (by simp) (by simp) hup4
   have ex:w4.heap[w2.heap.size]?=some (.cells #[.slice A3 (l.length+way.length) c3] 37 (0,0)):=(hu4.block _ hz (fun hh=>hh.2 rfl)).trans HX.out
   have exc:w4.cell? ⟨w2.heap.size,0,none⟩=some (.slice A3 (l.length+way.length) c3):=by rw [cell_of_row w4 _ 0 _ _ (0,0) ex]; rfl
   have hrp:RepC w4 (SW w4) (.sl (ys.map Zg)) (.slice A3 (l.length+way.length) c3):=by
    rw [← hyl] at ho4 ⊢
    obtain ⟨A5,c5,e5,h5,h6⟩:=ho4.form
    obtain ⟨rfl,rfl⟩:A3=A5∧c3=c5:=by simpa using e5
    exact ZnM (c:=Zg) id (by rw [List.map_id]; exact ho4.rd) h5 h6
   have hupw:Up w w4:=Up.step hup4 (Up.al _ (Up.rfl' w))
   have hA:=HA.out w4 hupw ys (by omega) _ hrp
   have HSP:=Lib.hid hsp
   have HO4:=Lib.hid ho4
   have HUP:=Lib.hid hup4
   have HUPW:=Lib.hid hupw
   have HZ4:Hid (w2.heap.size<w4.heap.size):=Nat.lt_of_lt_of_le hz hu4.size
   clear hst hp hs ho4 hu4 hyl hsp hup4 ex hrp hupw
   refine Lib.hid ?_
   cases hby:Z6 n ys with
   | true=>
    rw [hby] at hA
    have HBY:=Lib.hid hby
    clear hby
    go_wp2_with (first
     | (go_at_call 139; refine hA.mono ?_; rintro e w5 ⟨rfl,hu5⟩; have exc5:=Zbi exc HZ4.out hu5))
    go_ret2
    exact ⟨_,ys,true,rfl,(HO4.out.more (by omega)).up hu5,Up.step hu5 (Up.step HUP.out (Up.al _ (Up.rfl' w))),by rw [HSP.out,if_pos ⟨Hb.out,h20,HBY.out⟩]⟩
   | false=>
    rw [hby] at hA
    have HBY:=Lib.hid hby
    clear hby
    go_wp2_with (first
     | (go_at_call 139; refine hA.mono ?_; rintro e w5 ⟨rfl,hu5⟩)
     | (go_at_call 169; refine (HC.out _ (Up.step hu5 HUPW.out)).mono ?_; rintro e w6 ⟨v6,rfl,ho6,hu6⟩))
    go_ret2
    exact ⟨v6,l,false,rfl,ho6.down (Up.step hu5 HUPW.out),Up.step hu6 (Up.step hu5 HUPW.out),by rw [HSP.out,if_neg (fun h=>by rw [HBY.out] at h; cases h.2.2)]⟩
end
end Go.Proofs.YtmcdjilbkmhfoaaGreat
namespace Go.Proofs.YtmcdjilbkmhfoaaGreat
set_option maxRecDepth 10000
open Go.RowKit Go.Lib Go.Sort
set_option linter.unusedVariables false
set_option linter.unusedSimpArgs false
set_option maxRecDepth 100000
set_option maxHeartbeats 4000000
def okS1 (n:Za) (s:Zj):Bool:=(Zz n s).getD false
def ZgM (n:Za) (l:List Zj):List Zj:=(l.take 200).filter (okS1 n)
def ddV (ys:List Zj) (k:Nat):List Zj:=(List.range k).flatMap fun i=>match ys[i]? with
 | some y=>if i=0∨¬ ys[i-1]?=some y then [y] else []
 | none=>[]
theorem Zue:ElT Tryz.prog 39 130 (Enc.k Zj) 56:=ElT.mk' (z:=.agg #[I 0,I 0,I 0,.string ⟨#[]⟩,I 0,I 0]) Tryz.underlying39 (by kernel_rfl) rfl
section
variable {n:Za} (hf:ZV n) {w:World} {O:Nat→Prop} (ht:Tab w O) {v0 v1:Value} (h0:RepC w (SW w) (.sl (n.legs.map cLeg)) v0) (h1:RepC w (SW w) (.sl (n.off.map cInt)) v1)
include hf ht h0 h1
theorem ZsM {W:World} (hu:Up w W) (s:Zj):
 Calls Tryz.prog 140 #[.agg #[v0,v1,I n.change],.agg #[I s.thing,I s.at_,I s.kind,.string s.place,I s.trip.leg,I s.trip.day]] W fun e w'=>e=.returned (.bool (okS1 n s))∧Up W w':=by
 have o0:=h0.one (by simp) (by simp)
 have o1:=h1.one (by simp) (by simp)
 have hm:ZaU n s=some (okS1 n s):=by rw [ZjV hf]; obtain ⟨b,hb⟩:=ZgB hf s; unfold okS1; rw [hb]; rfl
 have hC:=CT.ok (P:=Tryz.prog) hm
 simp only [CT.f,CT.args,CT.m0,CT.res,CT.mem] at hC
 refine Zdo.valT hC (ZmV ht (O':=fun _=>False) ⟨hu.os,hu.tape,hu.output,hu.size,fun b hb _=>hu.block b hb⟩ fun b _ h=>h.elim) rfl fun i p hp=>?_
 match i with
 | 0=>
  obtain rfl:_=p:=Option.some.inj hp
  refine ⟨_,rfl,.ag _ _ rfl (fun j x hx=>?_) fun j p x hp hx=>?_⟩
  ·match j with
   | 0=>obtain rfl:_=x:=Option.some.inj hx
        exact o0
   | 1=>obtain rfl:_=x:=Option.some.inj hx
        exact o1
   | 2=>obtain rfl:_=x:=Option.some.inj hx
        rfl
   | j+3=>simp at hx
  ·match j with
   | 0=>obtain rfl:_=x:=Option.some.inj hx
        obtain rfl:_=p:=Option.some.inj hp
        exact .c (Zhb h0 hu)
   | 1=>obtain rfl:_=x:=Option.some.inj hx
        obtain rfl:_=p:=Option.some.inj hp
        exact .c (Zhb h1 hu)
   | 2=>obtain rfl:_=x:=Option.some.inj hx
        obtain rfl:_=p:=Option.some.inj hp
        exact ZhI _ rfl
   | j+3=>simp at hx
 | 1=>
  obtain rfl:_=p:=Option.some.inj hp
  refine ⟨_,rfl,.ag _ _ rfl (fun j x hx=>?_) fun j p x hp hx=>?_⟩
  ·match j with
   | 0=>obtain rfl:_=x:=Option.some.inj hx
        rfl
   | 1=>obtain rfl:_=x:=Option.some.inj hx
        rfl
   | 2=>obtain rfl:_=x:=Option.some.inj hx
        rfl
   | 3=>obtain rfl:_=x:=Option.some.inj hx
        rfl
   | 4=>obtain rfl:_=x:=Option.some.inj hx
        rfl
   | 5=>obtain rfl:_=x:=Option.some.inj hx
        rfl
   | j+6=>simp at hx
  ·match j with
   | 0=>obtain rfl:_=x:=Option.some.inj hx
        obtain rfl:_=p:=Option.some.inj hp
        exact ZhI _ rfl
   | 1=>obtain rfl:_=x:=Option.some.inj hx
        obtain rfl:_=p:=Option.some.inj hp
        exact ZhI _ rfl
   | 2=>obtain rfl:_=x:=Option.some.inj hx
        obtain rfl:_=p:=Option.some.inj hp
        exact ZhI _ rfl
   | 3=>obtain rfl:_=x:=Option.some.inj hx
        obtain rfl:_=p:=Option.some.inj hp
        exact ZhI _ rfl
   | 4=>obtain rfl:_=x:=Option.some.inj hx
        obtain rfl:_=p:=Option.some.inj hp
        exact ZhI _ rfl
   | 5=>obtain rfl:_=x:=Option.some.inj hx
        obtain rfl:_=p:=Option.some.inj hp
        exact ZhI _ rfl
   | j+6=>simp at hx
 | i+2=>simp at hp
end
end Go.Proofs.YtmcdjilbkmhfoaaGreat
namespace Go.Proofs.YtmcdjilbkmhfoaaGreat
set_option maxRecDepth 10000
open Go.RowKit
def Ups (w:World):Type:={w':World // Up w w'}
instance (w:World):Nonempty (Ups w):=⟨⟨w,Up.rfl' w⟩⟩
def Ups.val {w:World} (x:Ups w):World:=x.1
theorem Ups.up {w:World} (x:Ups w):Up w x.val:=x.2
theorem Ups.cell {w:World} {b o:Nat} {v:Value} (h:w.cell? ⟨b,o,none⟩=some v):∀ x:Ups w,x.val.cell? ⟨b,o,none⟩=some v:=
 fun x=>(x.2.cell (p:=⟨b,o,none⟩) (World.block_lt_of_cell? w ⟨b,o,none⟩ h)).trans h
theorem Zb3 {w w':World} {b o:Nat} {v:Value} (h:w.cell? ⟨b,o,none⟩=some v) (hu:Up w w'):w'.cell? ⟨b,o,none⟩=some v:=Ups.cell h ⟨w',hu⟩
theorem Ups.rd {α:Type} [Enc α] {w:World} {A:Option Addr} {xs:List α} (h:Rd w w.heap.size A xs) (x:Ups w):Rd x.val x.val.heap.size A xs:=h.up x.2
theorem Ups.call {P:Program} {f:FuncId} {args:Array Value} {w:World} {x:Ups w} {v:Value} (h:Calls P f args x.val fun e w'=>e=.returned v∧Up x.val w'):
 Calls P f args x.val fun e w''=>e=.returned v∧∃ y:Ups w,w''=y.val:=
 h.mono fun _ v2 ⟨he,hu⟩=>⟨he,⟨v2,Up.step hu x.2⟩,rfl⟩
theorem Zhd {P:Program} {id:Nat} {Q:Exit→Act→World→Prop} {a:Act} {w:World} {l:List Oper} (hm:P.follows .mixedOrders=true) (hB:Region.lexB .any l.toArray=true)
 (h:wpQuiet P l.toArray (fun w'=>∃ x:Ups w,w'=x.val) (fun a'=>∀ w',Up w w'→Q .normal a' w') l a):(Code.region id l.toArray true).wp P Q a w:=by
 refine wp_region_quiet (C:=fun w'=>∃ x:Ups w,w'=x.val) hm hB ⟨⟨_,Up.dr1 (Up.rfl' w)⟩,rfl⟩ ?_
 have e:(fun a'=>∀ w',(∃ x:Ups w,w'=x.val)→Q .normal a' w')=(fun a'=>∀ w',Up w w'→Q .normal a' w'):=by
  funext a'
  refine propext ⟨fun h w' hu=>h w' ⟨⟨w',hu⟩,rfl⟩,fun h w' hx=>?_⟩
  obtain ⟨x,rfl⟩:=hx
  exact h _ x.2
 rw [e]
 simpa using h
end Go.Proofs.YtmcdjilbkmhfoaaGreat
