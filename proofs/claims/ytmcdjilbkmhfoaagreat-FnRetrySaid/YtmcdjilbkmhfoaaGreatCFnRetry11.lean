/- A part of the proof of the statement in the last file of this claim: texts on the language of the program and on its functions. No condition. -/
import Derived.Test.YtmcdjilbkmhfoaaGreatCFnWorldKeeps4
import Derived.Test.YtmcdjilbkmhfoaaGreatCFnWorldKeeps5
import Derived.Test.YtmcdjilbkmhfoaaGreatCFnRetry10
import Derived.Test.YtmcdjilbkmhfoaaGreatCFnWorldKeeps6
import Derived.Test.YtmcdjilbkmhfoaaGreatCFnRetry8
import Derived.Test.YtmcdjilbkmhfoaaGreatCFnRetry9
import Derived.Test.YtmcdjilbkmhfoaaGreatCFnRetry7
namespace Go.Proofs.YtmcdjilbkmhfoaaGreat
set_option maxRecDepth 10000
open Go.RowKit
set_option linter.unusedVariables false
set_option maxHeartbeats 16000000
def ZaI (k:Zai) (place_:ByteArray):Option Bool:=
 cond k.known
 (cond (!k.rides)
 (some (decide (k.place=place_)))
 (some false))
 (cond k.free
 ((Zbe k.n k.from_.place k.from_.at_ place_ k.at_).bind fun y1=>
 cond y1
 (cond (!k.more)
 (some true)
 ((Zbe k.n place_ k.at_ k.to_.place k.to_.at_).bind fun y2=>
 some y2))
 (some false))
 (some false))
instance (k:Zai) (place_:ByteArray):CT Tryz.prog (ZaI k place_):=⟨156,[.ag (Zlk k),vs place_],[],fun r=>vb r,fun r=>[],fun H=>by replace H:=H0 H; unfold ZaI at H; exact Zh Tryz.func156 rfl Tryz.ntmps156 Tryz.results156 fun Q hQ hQn=>wk3⟩
def Zem (n:Za) (l:List Zk) (thing:Int) (at3_:Int) (place_:ByteArray):Option Bool:=
 (Z8 n).bind fun y1=>
 cond y1
 ((Z4 n).bind fun y2=>
 (Zz y2 place_).bind fun y3=>
 cond (decide (0≤y3))
 ((ZaR n l thing at3_).bind fun y4=>
 (ZaI y4 place_).bind fun y5=>
 some y5)
 (some false))
 (some false)
instance (n:Za) (l:List Zk) (thing:Int) (at3_:Int) (place_:ByteArray):CT Tryz.prog (Zem n l thing at3_ place_):=⟨145,[.ag (Zr n),.sl (l.map ZF),vi thing,vi at3_,vs place_],[],fun r=>vb r,fun r=>[],fun H=>by replace H:=H0 H; unfold Zem at H; exact Zh Tryz.func145 rfl Tryz.ntmps145 Tryz.results145 fun Q hQ hQn=>wk3⟩
def Z3 (k:Zai) (t:Ze):Option Bool:=
 cond k.known
 (cond k.rides
 (some (decide (k.ride=t)))
 (some false))
 ((getI k.n.legs t.leg).bind fun y1=>
 cond (!k.free)
 (some false)
 ((ZH k.n t).bind fun y2=>
 cond (decide (k.at_<y2))
 (some false)
 ((ZO k.n t).bind fun y3=>
 cond (decide (y3≤k.at_))
 (some false)
 ((ZH k.n t).bind fun y4=>
 (Zbe k.n k.from_.place k.from_.at_ y1.from_ y4).bind fun y5=>
 cond (!y5)
 (some false)
 (cond (!k.more)
 (some true)
 ((ZO k.n t).bind fun y6=>
 (Zbe k.n y1.to_ y6 k.to_.place k.to_.at_).bind fun y7=>
 some y7))))))
instance (k:Zai) (t:Ze):CT Tryz.prog (Z3 k t):=⟨158,[.ag (Zlk k),.ag (Zs t)],[],fun r=>vb r,fun r=>[],fun H=>by replace H:=H0 H; unfold Z3 at H; exact Zh Tryz.func158 rfl Tryz.ntmps158 Tryz.results158 fun Q hQ hQn=>wk3⟩
def ZbX (n:Za) (l:List Zk) (thing:Int) (at3_:Int) (t:Ze):Option Bool:=
 (Zad n t).bind fun y1=>
 cond y1
 ((ZaR n l thing at3_).bind fun y2=>
 (Z3 y2 t).bind fun y3=>
 some y3)
 (some false)
instance (n:Za) (l:List Zk) (thing:Int) (at3_:Int) (t:Ze):CT Tryz.prog (ZbX n l thing at3_ t):=⟨146,[.ag (Zr n),.sl (l.map ZF),vi thing,vi at3_,.ag (Zs t)],[],fun r=>vb r,fun r=>[],fun H=>by replace H:=H0 H; unfold ZbX at H; exact Zh Tryz.func146 rfl Tryz.ntmps146 Tryz.results146 fun Q hQ hQn=>wk3⟩
def Zce (n:Za) (y2:Zai) (y3:List ByteArray) (s0:Int × (List ByteArray)):Option ((Int × (List ByteArray)) ⊕ (List ByteArray)):=
 cond (decide (s0.1<(y3.length:Int)))
 ((getI y3 s0.1).bind fun y4=>
 (ZaI y2 y4).bind fun y5=>
 cond y5
 ((chk (ZQ ((s0.2:List ByteArray).length+([y4]:List ByteArray).length) 16)).bind fun _=>
 some (.inl ((w64 (s0.1+1)),((s0.2:List ByteArray)++[y4]))))
 (some (.inl ((w64 (s0.1+1)),s0.2))))
 (some (.inr s0.2))
instance (n:Za) (y2:Zai) (y3:List ByteArray):ZP (Zce n y2 y3):=⟨fun s0=>(U 4 (.be 0 0 0::(U 3 (.be 1 0 0::.be 2 0 0::.be 4 0 0::(U 16 (.ms 5::vi (y3.length:Int)::vi s0.1::(U 49 []))))))),fun s0=>[some ⟨35,3,[[.sl (n.legs.map cLeg),.sl (n.off.map cInt),vi n.change]]⟩,some ⟨92,2,[[.v (.slice none 0 0),.v (.slice none 0 0)]]⟩,some ⟨92,2,[[.ms 3,.v (.slice none 0 0)]]⟩,some ⟨9,1,s0.2.map cStr⟩,some ⟨162,15,[[.sl (y2.n.legs.map cLeg),.sl (y2.n.off.map cInt),vi y2.n.change,vi y2.at_,vb y2.known,vs y2.place,vi y2.ride.leg,vi y2.ride.day,vb y2.rides,vb y2.free,vs y2.from_.place,vi y2.from_.at_,vs y2.to_.place,vi y2.to_.at_,vb y2.more]]⟩,some ⟨9,1,y3.map cStr⟩]⟩
def Zcg (n:Za) (y2:Zai) (o0:(List ByteArray)) (s1:Int × (List Ze)) (s2:Int × (List Ze)):Option ((Int × (List Ze)) ⊕ (List Ze)):=
 cond (decide (s2.1<(n.legs.length:Int)))
 (cond (decide ((s2.2.length:Int)<60))
 ((Zd4 n s2.1 s1.1).bind fun y6=>
 cond y6
 ((Z3 y2 (⟨s2.1,s1.1⟩:Ze)).bind fun y7=>
 cond y7
 ((chk (ZQ ((s2.2:List Ze).length+([(⟨s2.1,s1.1⟩:Ze)]:List Ze).length) 16)).bind fun _=>
 some (.inl ((w64 (s2.1+1)),((s2.2:List Ze)++[(⟨s2.1,s1.1⟩:Ze)]))))
 (some (.inl ((w64 (s2.1+1)),s2.2))))
 (some (.inl ((w64 (s2.1+1)),s2.2))))
 (some (.inl ((w64 (s2.1+1)),s2.2))))
 (some (.inr s2.2))
instance (n:Za) (y2:Zai) (o0:(List ByteArray)) (s1:Int × (List Ze)):ZP (Zcg n y2 o0 s1):=⟨fun s2=>(U 4 (.be 0 0 0::(U 3 (.be 1 0 0::.be 2 0 0::.be 5 0 0::.un::.un::vi s1.1::(U 35 (vi (n.legs.length:Int)::vi s2.1::(U 28 []))))))),fun s2=>[some ⟨35,3,[[.sl (n.legs.map cLeg),.sl (n.off.map cInt),vi n.change]]⟩,some ⟨92,2,[[.v (.slice none 0 0),.v (.slice none 0 0)]]⟩,some ⟨92,2,[[.ms 3,.ms 4]]⟩,some ⟨9,1,o0.map cStr⟩,some ⟨55,2,s2.2.map Zs⟩,some ⟨162,15,[[.sl (y2.n.legs.map cLeg),.sl (y2.n.off.map cInt),vi y2.n.change,vi y2.at_,vb y2.known,vs y2.place,vi y2.ride.leg,vi y2.ride.day,vb y2.rides,vb y2.free,vs y2.from_.place,vi y2.from_.at_,vs y2.to_.place,vi y2.to_.at_,vb y2.more]]⟩]⟩
def Zcf (n:Za) (y2:Zai) (o0:(List ByteArray)) (s1:Int × (List Ze)):Option ((Int × (List Ze)) ⊕ (List Ze)):=
 cond (decide (s1.1≤60))
 ((Zj (Zcg n y2 o0 s1) NN (0,s1.2)).bind (fun o2=>
 some (.inl ((w64 (s1.1+1)),o2))))
 (some (.inr s1.2))
instance (n:Za) (y2:Zai) (o0:(List ByteArray)):ZP (Zcf n y2 o0):=⟨fun s1=>(U 4 (.be 0 0 0::(U 3 (.be 1 0 0::.be 2 0 0::.be 5 0 0::.un::.un::vi s1.1::(U 65 []))))),fun s1=>[some ⟨35,3,[[.sl (n.legs.map cLeg),.sl (n.off.map cInt),vi n.change]]⟩,some ⟨92,2,[[.v (.slice none 0 0),.v (.slice none 0 0)]]⟩,some ⟨92,2,[[.ms 3,.ms 4]]⟩,some ⟨9,1,o0.map cStr⟩,some ⟨55,2,s1.2.map Zs⟩,some ⟨162,15,[[.sl (y2.n.legs.map cLeg),.sl (y2.n.off.map cInt),vi y2.n.change,vi y2.at_,vb y2.known,vs y2.place,vi y2.ride.leg,vi y2.ride.day,vb y2.rides,vb y2.free,vs y2.from_.place,vi y2.from_.at_,vs y2.to_.place,vi y2.to_.at_,vb y2.more]]⟩]⟩
def ZcQ (n:Za) (l:List Zk) (thing:Int) (at3_:Int):Option ZjL:=
 (Z8 n).bind fun y1=>
 cond (!y1)
 (some (⟨[],[]⟩:ZjL))
 ((ZaR n l thing at3_).bind fun y2=>
 (Z4 n).bind fun y3=>
 (Zj (Zce n y2 y3) NN (0,[])).bind (fun o0=>
 (Zj (Zcf n y2 o0) NN (0,[])).bind (fun o1=>
 some (⟨o0,o1⟩:ZjL))))
instance (n:Za) (l:List Zk) (thing:Int) (at3_:Int):CT Tryz.prog (ZcQ n l thing at3_):=⟨62,[.ag (Zr n),.sl (l.map ZF),vi thing,vi at3_],[],fun r=>.ag [.sl (r.places.map cStr),.sl (r.rides.map Zs)],fun r=>[],fun H=>by replace H:=H0 H; unfold ZcQ at H; exact Zh Tryz.func62 rfl Tryz.ntmps62 Tryz.results62 fun Q hQ hQn=>wk3⟩
set_option linter.unusedSimpArgs false
set_option linter.unusedSectionVars false
structure Std (n:Za) (i:Nat) (b:Zk) (q:ByteArray):Prop where
 thing:b.thing=((i+1:Nat):Int)
 kind:b.kind=1∨b.kind=2
 spot:okS1 n b=true→Zu n b=some ⟨q,b.at_⟩
section
variable {n:Za} (hf:Z0 n) (hn:Zi n=some true) {i:Nat}
include hf hn
end
section
variable {w:Zd} (h:WOk w) {i:Nat} {o:Zf} (ho:w.orders[i]?=some o)
include h ho
end
section
variable {w:Zd} (h:WOk w) (hs:ZyY w)
include h hs
structure Told (w:Zd) (i:Nat) (o:Zf):Prop where
 clash:Zgz w.network w.scans ((i+1:Nat):Int)=some []
 last:∃ s,Za9 w.network w.scans ((i+1:Nat):Int) w.now=some (s,true)
 ride:o.state=2→∃ t,getI o.way o.gone=some t∧ZcQ w.network w.scans ((i+1:Nat):Int) w.now=some ⟨[],[t]⟩∧ZbX w.network w.scans ((i+1:Nat):Int) w.now t=some true
 done:o.state=3→ZcQ w.network w.scans ((i+1:Nat):Int) w.now=some ⟨[],[]⟩
 wait:o.state=1→Zem w.network w.scans ((i+1:Nat):Int) w.now o.place=some true
 state:o.state=1∨o.state=2∨o.state=3
end
theorem Zjy {α:Type} {body:Int→Option (Int ⊕ (Unit ⊕ Bool))} {xs:List α} (h1:∀ (i:Nat) x,xs[i]?=some x→body (i:Int)=some (.inl (w64 ((i:Int)+1)))) (h2:body (xs.length:Int)=some (.inr (.inl ()))) (hl:xs.length≤1048576):Zj body NN 0=some (.inl ()):=by
 exact ZbW (body:=body) (fun i:Nat=>(i:Int)) (n:=xs.length) (o:=.inl ()) (fun i hi=>by rw [h1 i _ (List.getElem?_eq_getElem hi),ZR hi (by omega)]) h2 NN (by unfold NN; omega)
theorem ZlH {α:Type} [DecidableEq α] {F:List α→List α→Option Bool} {B:List α→List α→Int→Option (Int ⊕ (Unit ⊕ Bool))}
 (hF:∀ a b,F a b=cond (!decide ((a.length:Int)=(b.length:Int))) (some false) ((Zj (B a b) NN 0).bind (ZY (fun _=>some true) (fun r=>some r))))
 (hB:∀ a b s0,B a b s0=cond (decide (s0<(a.length:Int))) ((getI a s0).bind fun y1=>(getI b s0).bind fun y2=>cond (!decide (y1=y2)) (some (.inr (.inr false))) (some (.inl (w64 (s0+1))))) (some (.inr (.inl ())))) {l:List α} (hl:l.length≤1048576):F l l=some true:=by
 have e:Zj (B l l) NN 0=some (.inl ()):=by
  refine Zjy (xs:=l) (fun i x hx=>?_) ?_ hl
  ·have hlt:=(List.getElem?_eq_some_iff.1 hx).1
   have hg:getI l (i:Int)=some x:=by rw [Zn]; exact hx
   rw [hB,decide_eq_true (show (i:Int)<l.length by omega),hg]
   simp
  ·rw [hB]; simp
 rw [hF,e]
 simp [ZY]
def Zcz (w:Zd) (from1_:ByteArray) (to_:ByteArray) (service:Int) (weight:Int):Option (Zd × Int × Bool):=
 (ZaZ w).bind fun y1=>
 (Za8 w).bind fun y2=>
 cond (!y2)
 (some (y1,0,false))
 (cond (decide (30≤(w.orders.length:Int)))
 (some (y1,0,false))
 (cond (decide (from1_=to_))
 (some (y1,0,false))
 ((Zx service 1 3).bind fun y3=>
 cond (!y3)
 (some (y1,0,false))
 ((Zx weight 1 30000).bind fun y4=>
 cond (!y4)
 (some (y1,0,false))
 ((Zb3 w.network w.bookings w.closed from1_ to_ (w64 (w.now+1)) weight).bind fun y5=>
 cond (!y5.2)
 (some (y1,0,false))
 ((Za7 w.network w.bookings (w64 ((w.orders.length:Int)+1)) weight y5.1).bind fun y6=>
 cond (!y6.2)
 (some (y1,0,false))
 ((frz (.un::vs from1_::vs to_::vi service::vi weight::.be 0 0 0::(U 4 (.be 1 0 0::.un::.un::.be 2 0 0::vi (w64 ((w.orders.length:Int)+1))::.sl (y5.1.map Zs)::(U 101 [])))) [some ⟨41,10,[[.sl (w.network.legs.map cLeg),.sl (w.network.off.map cInt),vi w.network.change,.sl (w.orders.map Zw),.sl (w.bookings.map Zg),.sl (w.closed.map Zs),vi w.now,.sl (w.scans.map ZF),.sl (w.skip.map cInt),vi w.made]]⟩,some ⟨41,10,[[.v (.slice none 0 0),.v (.slice none 0 0),vi 0,.v (.slice none 0 0),.v (.slice none 0 0),.v (.slice none 0 0),vi 0,.v (.slice none 0 0),.v (.slice none 0 0),vi 0]]⟩,some ⟨41,10,[[.ms 3,.ms 4,vi y1.network.change,.ms 5,.ms 6,.ms 7,vi y1.now,.ms 8,.ms 9,vi y1.made]]⟩,some ⟨67,6,y1.network.legs.map cLeg⟩,some ⟨3,1,y1.network.off.map cInt⟩,some ⟨62,11,y1.orders.map Zw⟩,some ⟨135,4,y6.1.map Zg⟩,some ⟨55,2,y1.closed.map Zs⟩,some ⟨130,6,y1.scans.map ZF⟩,some ⟨3,1,y1.skip.map cInt⟩]).bind fun _=>
 (ZaO w.network service from1_ to_ (w64 (w.now+1))).bind fun y7=>
 (ZcP y5.1).bind fun y8=>
 (chk (ZQ ((y1.orders:List Zf).length+([(⟨from1_,to_,service,weight,w.now,y7,y8,0,1,from1_,0⟩:Zf)]:List Zf).length) 128)).bind fun _=>
 (rhoM [2,3,4,98,6,7,8,9]).bind fun _=>
 (Za1 (⟨y1.network,((y1.orders:List Zf)++[(⟨from1_,to_,service,weight,w.now,y7,y8,0,1,from1_,0⟩:Zf)]),y6.1,y1.closed,y1.now,y1.scans,y1.skip,y1.made⟩:Zd) (⟨(w64 ((w.orders.length:Int)+1)),w.now,1,from1_,(⟨0,0⟩:Ze)⟩:Zk)).bind fun y9=>
 some (y9,(w64 ((w.orders.length:Int)+1)),true))))))))
instance (w:Zd) (from1_:ByteArray) (to_:ByteArray) (service:Int) (weight:Int):CT Tryz.prog (Zcz w from1_ to_ service weight):=⟨47,[.ag (Zbt w),vs from1_,vs to_,vi service,vi weight],[],fun r=>.tu [.ag [.ms 0,.ms 1,vi r.1.network.change,.ms 2,.ms 3,.ms 4,vi r.1.now,.ms 5,.ms 6,vi r.1.made],vi r.2.1,vb r.2.2],fun r=>[some ⟨67,6,r.1.network.legs.map cLeg⟩,some ⟨3,1,r.1.network.off.map cInt⟩,some ⟨62,11,r.1.orders.map Zw⟩,some ⟨135,4,r.1.bookings.map Zg⟩,some ⟨55,2,r.1.closed.map Zs⟩,some ⟨130,6,r.1.scans.map ZF⟩,some ⟨3,1,r.1.skip.map cInt⟩],fun H=>by replace H:=H0 H; unfold Zcz at H; exact Zh Tryz.func47 rfl Tryz.ntmps47 Tryz.results47 fun Q hQ hQn=>wk3⟩
def Zrc (w:Zd) (from_ to_:ByteArray) (service weight:Int):Prop:=
 30≤w.orders.length∨from_=to_∨¬ (1≤service∧service≤3)∨¬ (1≤weight∧weight≤30000)∨(∃ x,Zy w.network w.bookings w.closed from_ to_ (w.now+1) weight=some (x,false))∨
  ∃ way l,Zy w.network w.bookings w.closed from_ to_ (w.now+1) weight=some (way,true)∧ZN w.network w.bookings ((w.orders.length:Int)+1) weight way=some (l,false)
structure ZxC (w:Zd) (from_ to_:ByteArray) (service weight:Int) (r:Zd × Int × Bool) (way:List Ze) (ys:List Zc) (due:Int):Prop where
 room:Zy w.network w.bookings w.closed from_ to_ (w.now+1) weight=some (way,true)
 book:ZN w.network w.bookings ((w.orders.length:Int)+1) weight way=some (ys,true)
 prom:ZaO w.network service from_ to_ (w.now+1)=some due
 res:r=(accV w (newO w from_ to_ service weight due way) ys,(w.orders.length:Int)+1,true)
 ne:¬ from_=to_
 ok:WOk (accV w (newO w from_ to_ service weight due way) ys)
theorem ZtK {w:Zd} (h:WOk w) (from_ to_:ByteArray) (service weight:Int) (hpr:∀ way,Zy w.network w.bookings w.closed from_ to_ (w.now+1) weight=some (way,true)→1≤service∧service≤3→∃ d,ZaO w.network service from_ to_ (w.now+1)=some d∧0≤d∧d≤200000):
 ∃ r,Zcz w from_ to_ service weight=some r∧(r=(w,0,false)∧Zrc w from_ to_ service weight∨∃ way ys due,ZxC w from_ to_ service weight r way ys due):=by
 have hf:=h.fit
 obtain ⟨p1,p2,p3,p4,p5,p6,p7⟩:=h.parts
 have hw1:w64 (w.now+1)=w.now+1:=Zo (by omega)
 have hw2:w64 ((w.orders.length:Int)+1)=(w.orders.length:Int)+1:=Zo (by omega)
 unfold Zcz
 rw [Zj3 hf,Option.bind_some,ZeM hf,h.ok,Option.bind_some,Zej,hw1,hw2]
 simp only [Bool.not_true,cond_false,ZbH,Option.bind_some]
 by_cases c1:30≤w.orders.length
 ·exact ⟨_,by rw [decide_eq_true (show (30:Int)≤(w.orders.length:Int) by omega)]; rfl,.inl ⟨rfl,.inl c1⟩⟩
 rw [decide_eq_false (show ¬ (30:Int)≤(w.orders.length:Int) by omega),cond_false]
 by_cases c2:from_=to_
 ·exact ⟨_,by rw [decide_eq_true c2]; rfl,.inl ⟨rfl,.inr (.inl c2)⟩⟩
 rw [decide_eq_false c2,cond_false]
 by_cases c3:1≤service∧service≤3
 case neg=>
  refine ⟨(w,0,false),?_,.inl ⟨rfl,.inr (.inr (.inl c3))⟩⟩
  have:(decide (1≤service) && decide (service≤3))=false:=by rw [← Bool.decide_and]; exact decide_eq_false c3
  rw [this]; rfl
 rw [decide_eq_true c3.1,decide_eq_true c3.2]
 by_cases c4:1≤weight∧weight≤30000
 case neg=>
  refine ⟨(w,0,false),?_,.inl ⟨rfl,.inr (.inr (.inr (.inl c4)))⟩⟩
  have:(decide (1≤weight) && decide (weight≤30000))=false:=by rw [← Bool.decide_and]; exact decide_eq_false c4
  rw [this]; rfl
 rw [decide_eq_true c4.1,decide_eq_true c4.2]
 simp only [Bool.and_self,Bool.not_true,cond_false]
 obtain ⟨⟨way,b⟩,e1,e2⟩:=Zf5 hf.net hf.bookings hf.closed from_ to_ (w.now+1) weight
 rw [e1,Option.bind_some]
 cases b with
 | false=>exact ⟨(w,0,false),rfl,.inl ⟨rfl,.inr (.inr (.inr (.inr (.inl ⟨way,e2⟩))))⟩⟩
 | true=>
 have hR:=ZfW hf.net hf.bookings hf.closed e2
 have hlen:=hR.len
 simp only [Bool.not_true,cond_false]
 have hnl:(ZdR ((w.orders.length:Int)+1) weight way).length=way.length:=by unfold ZdR; rw [List.length_map]
 obtain ⟨d,d1,d2⟩:=Zp1 (w.bookings++ZdR ((w.orders.length:Int)+1) weight way) (by rw [List.length_append,hnl]; omega)
 have hbk:Za7 w.network w.bookings ((w.orders.length:Int)+1) weight way=ZN w.network w.bookings ((w.orders.length:Int)+1) weight way:=by
  unfold Za7
  rw [if_pos ⟨Zim.2 hf.net,by omega,by omega⟩]
 have hsp:=Zhe hf.net (show w.bookings.length≤1048000 by omega) ((w.orders.length:Int)+1) weight d1 d2
 rw [hbk]
 by_cases hbd:ZZ w.network d=true
 case neg=>
  rw [if_neg (fun hx=>hbd hx.2.2)] at hsp
  refine ⟨(w,0,false),?_,.inl ⟨rfl,.inr (.inr (.inr (.inr (.inr ⟨way,w.bookings,e2,hsp⟩))))⟩⟩
  rw [hsp]; rfl
 rw [if_pos ⟨hR.hC.1,hlen,hbd⟩] at hsp
 obtain ⟨due,q1,q2,q3⟩:=hpr way e2 c3
 have hacc:=ZxE h (by omega) c2 c3 c4 ⟨q2,q3⟩ hR d1 hbd
 have ha:chk (ZQ (w.orders.length+([newO w from_ to_ service weight due way]:List Zf).length) 128)=some ():=ZcC (by simp only [List.length_cons,List.length_nil]; omega) (by omega)
 have hct:ZcP way=some way:=by
  unfold ZcP
  exact ZgW (by omega)
 have hsi:=ZpT (w:=⟨w.network,w.orders++[newO w from_ to_ service weight due way],d,w.closed,w.now,w.scans,w.skip,w.made⟩) ⟨by simp only; omega,p4,by simp only; omega⟩ ⟨(w.orders.length:Int)+1,w.now,1,from_,⟨0,0⟩⟩
 refine ⟨(accV w (newO w from_ to_ service weight due way) d,(w.orders.length:Int)+1,true),?_,.inr ⟨way,d,due,e2,hsp,q1,rfl,c2,hacc⟩⟩
 rw [hsp]
 simp only [Option.bind_some,Bool.not_true,cond_false,frz,q1,hct,rhoM]
 unfold newO at ha hsi ⊢
 rw [ha]
 simp only [Option.bind_some]
 rw [hsi]
 rfl
def ZcI (w:Za) (o:Zf):Option ByteArray:=
 cond (decide (o.state=2))
 ((getI o.way o.gone).bind fun y1=>
 (getI w.legs y1.leg).bind fun y2=>
 some y2.to_)
 (some o.place)
instance (w:Za) (o:Zf):CT Tryz.prog (ZcI w o):=⟨189,[.ag [.sl (w.legs.map cLeg),.sl (w.off.map cInt),vi w.change,.un,.un,.un,.un,.un,.un,.un],.ag (Zw o)],[],fun r=>vs r,fun r=>[],fun H=>by replace H:=H0 H; unfold ZcI at H; exact Zh Tryz.func189 rfl Tryz.ntmps189 Tryz.results189 fun Q hQ hQn=>wk3⟩
def Zcj (w:Zd) (id:Int) (y2:Int) (s0:Int × (List Zc)):Option ((Int × (List Zc)) ⊕ (List Zc)):=
 cond (decide (s0.1<(w.bookings.length:Int)))
 ((getI w.bookings s0.1).bind fun y3=>
 cond (!decide (y3.thing=id))
 ((chk (ZQ ((s0.2:List Zc).length+([y3]:List Zc).length) 32)).bind fun _=>
 some (.inl ((w64 (s0.1+1)),((s0.2:List Zc)++[y3]))))
 ((rgI w.orders (w64 (id-1))).bind fun y4=>
 (chk (slOk y2 (y4.way.length:Int) y4.way.length)).bind fun _=>
 (ZaQ (subL y4.way y2 (y4.way.length:Int)) y3.trip).bind fun y5=>
 cond (!y5)
 ((chk (ZQ ((s0.2:List Zc).length+([y3]:List Zc).length) 32)).bind fun _=>
 some (.inl ((w64 (s0.1+1)),((s0.2:List Zc)++[y3]))))
 (some (.inl ((w64 (s0.1+1)),s0.2)))))
 (some (.inr s0.2))
instance (w:Zd) (id:Int) (y2:Int):ZP (Zcj w id y2):=⟨fun s0=>(.be 0 0 0::vi id::.un::.un::.be 3 (Int.toNat (w64 (id-1))) 0::vi y2::.ms 8::(U 22 (.ms 4::vi (w.bookings.length:Int)::vi s0.1::(U 132 [])))),fun s0=>[some ⟨41,10,[[.ms 1,.ms 2,vi w.network.change,.ms 3,.ms 4,.ms 5,vi w.now,.ms 6,.ms 7,vi w.made]]⟩,some ⟨67,6,w.network.legs.map cLeg⟩,some ⟨3,1,w.network.off.map cInt⟩,some ⟨62,11,w.orders.map Zw⟩,some ⟨135,4,w.bookings.map Zg⟩,some ⟨55,2,w.closed.map Zs⟩,some ⟨130,6,w.scans.map ZF⟩,some ⟨3,1,w.skip.map cInt⟩,some ⟨135,4,s0.2.map Zg⟩]⟩
def Zbb (w:Zd) (id:Int):Option Zd:=
 (getI w.orders (w64 (id-1))).bind fun y1=>
 (ZbY y1).bind fun y2=>
 (Zj (Zcj w id y2) NN (0,([]:List Zc))).bind (fun o0=>
 (rgI w.orders (w64 (id-1))).bind fun y6=>
 (chk (slOk 0 y2 y6.way.length)).bind fun _=>
 (ZaP (subL y6.way 0 y2)).bind fun y7=>
 (rgI w.orders (w64 (id-1))).bind fun y8=>
 cond (decide (0<y2))
 ((getI y7 (w64 (y2-1))).bind fun y9=>
 (ZO w.network y9).bind fun y10=>
 (rgI w.orders (w64 (id-1))).bind fun y11=>
 (ZcI w.network (⟨y8.from_,y8.to_,y8.service,y8.weight,y8.at_,y8.due,y7,y8.gone,y8.state,y8.place,y8.ended⟩:Zf)).bind fun y12=>
 (rgI w.orders (w64 (id-1))).bind fun y13=>
 (Zb3 w.network o0 w.closed y12 y8.to_ (if (w64 (y10+w.network.change)) > (w64 (w.now+1)) then (w64 (y10+w.network.change)) else (w64 (w.now+1))) y8.weight).bind fun y14=>
 cond (!y14.2)
 (some (⟨w.network,(w.orders.set (Int.toNat (w64 (id-1))) (⟨y8.from_,y8.to_,y8.service,y8.weight,y8.at_,y8.due,y7,y8.gone,y8.state,y8.place,y8.ended⟩:Zf)),o0,w.closed,w.now,w.scans,w.skip,w.made⟩:Zd))
 ((rgI w.orders (w64 (id-1))).bind fun y15=>
 (Za7 w.network o0 id y8.weight y14.1).bind fun y16=>
 cond y16.2
 ((rgI w.orders (w64 (id-1))).bind fun y17=>
 (chk (ZQ ((y7:List Ze).length+(y14.1:List Ze).length) 16)).bind fun _=>
 some (⟨w.network,(w.orders.set (Int.toNat (w64 (id-1))) (⟨y8.from_,y8.to_,y8.service,y8.weight,y8.at_,y8.due,((y7:List Ze)++y14.1),y8.gone,y8.state,y8.place,y8.ended⟩:Zf)),y16.1,w.closed,w.now,w.scans,w.skip,w.made⟩:Zd))
 (some (⟨w.network,(w.orders.set (Int.toNat (w64 (id-1))) (⟨y8.from_,y8.to_,y8.service,y8.weight,y8.at_,y8.due,y7,y8.gone,y8.state,y8.place,y8.ended⟩:Zf)),o0,w.closed,w.now,w.scans,w.skip,w.made⟩:Zd))))
 ((ZcI w.network (⟨y8.from_,y8.to_,y8.service,y8.weight,y8.at_,y8.due,y7,y8.gone,y8.state,y8.place,y8.ended⟩:Zf)).bind fun y18=>
 (rgI w.orders (w64 (id-1))).bind fun y19=>
 (Zb3 w.network o0 w.closed y18 y8.to_ (w64 (w.now+1)) y8.weight).bind fun y20=>
 cond (!y20.2)
 (some (⟨w.network,(w.orders.set (Int.toNat (w64 (id-1))) (⟨y8.from_,y8.to_,y8.service,y8.weight,y8.at_,y8.due,y7,y8.gone,y8.state,y8.place,y8.ended⟩:Zf)),o0,w.closed,w.now,w.scans,w.skip,w.made⟩:Zd))
 ((rgI w.orders (w64 (id-1))).bind fun y21=>
 (Za7 w.network o0 id y8.weight y20.1).bind fun y22=>
 cond y22.2
 ((rgI w.orders (w64 (id-1))).bind fun y23=>
 (chk (ZQ ((y7:List Ze).length+(y20.1:List Ze).length) 16)).bind fun _=>
 some (⟨w.network,(w.orders.set (Int.toNat (w64 (id-1))) (⟨y8.from_,y8.to_,y8.service,y8.weight,y8.at_,y8.due,((y7:List Ze)++y20.1),y8.gone,y8.state,y8.place,y8.ended⟩:Zf)),y22.1,w.closed,w.now,w.scans,w.skip,w.made⟩:Zd))
 (some (⟨w.network,(w.orders.set (Int.toNat (w64 (id-1))) (⟨y8.from_,y8.to_,y8.service,y8.weight,y8.at_,y8.due,y7,y8.gone,y8.state,y8.place,y8.ended⟩:Zf)),o0,w.closed,w.now,w.scans,w.skip,w.made⟩:Zd)))))
instance (w:Zd) (id:Int):CT Tryz.prog (Zbb w id):=⟨128,[.be 0 0 0,vi id],[some ⟨41,10,[[.ms 1,.ms 2,vi w.network.change,.ms 3,.ms 4,.ms 5,vi w.now,.ms 6,.ms 7,vi w.made]]⟩,some ⟨67,6,w.network.legs.map cLeg⟩,some ⟨3,1,w.network.off.map cInt⟩,some ⟨62,11,w.orders.map Zw⟩,some ⟨135,4,w.bookings.map Zg⟩,some ⟨55,2,w.closed.map Zs⟩,some ⟨130,6,w.scans.map ZF⟩,some ⟨3,1,w.skip.map cInt⟩],fun r=>.tu [],fun r=>[some ⟨41,10,[[.ms 1,.ms 2,vi r.network.change,.ms 3,.ms 8,.ms 5,vi r.now,.ms 6,.ms 7,vi r.made]]⟩,some ⟨67,6,r.network.legs.map cLeg⟩,some ⟨3,1,r.network.off.map cInt⟩,some ⟨62,11,r.orders.map Zw⟩,none,some ⟨55,2,r.closed.map Zs⟩,some ⟨130,6,r.scans.map ZF⟩,some ⟨3,1,r.skip.map cInt⟩,some ⟨135,4,r.bookings.map Zg⟩],fun H=>by replace H:=H0 H; unfold Zbb at H; exact Zh Tryz.func128 rfl Tryz.ntmps128 Tryz.results128 fun Q hQ hQn=>wk3⟩
def Zb8 (n:Za) (o:Zf):ByteArray:=if o.state=2 then ((o.way[o.gone.toNat]?).map (ZL n)).getD ⟨#[]⟩ else o.place
def ZT (o:Zf):List Ze:=o.way.take (Zm o).toNat
def Zfl (o:Zf):List Ze:=o.way.drop (Zm o).toNat
def atR (n:Za) (now:Int) (o:Zf):Int:=match (ZT o).getLast? with
 | some t=>if Z7 n t+n.change > now+1 then Z7 n t+n.change else now+1
 | none=>now+1
def Zds (w:Zd) (i:Nat) (o:Zf):List Zc:=Zgh ((i+1:Nat):Int) (Zfl o) w.bookings
def Zbq (o:Zf) (ts:List Ze):Zf:=⟨o.from_,o.to_,o.service,o.weight,o.at_,o.due,ts,o.gone,o.state,o.place,o.ended⟩
def newW (w:Zd) (i:Nat) (o:Zf) (ts:List Ze) (bs:List Zc):Zd:=⟨w.network,w.orders.set i (Zbq o ts),bs,w.closed,w.now,w.scans,w.skip,w.made⟩
def ZvH (w:Zd) (i:Nat) (o:Zf):Prop:=(∃ x,Zy w.network (Zds w i o) w.closed (Zb8 w.network o) o.to_ (atR w.network w.now o) o.weight=some (x,false))∨
 ∃ way,Zy w.network (Zds w i o) w.closed (Zb8 w.network o) o.to_ (atR w.network w.now o) o.weight=some (way,true)∧ZN w.network (Zds w i o) ((i+1:Nat):Int) o.weight way=some (Zds w i o,false)
structure Zu8 (w:Zd) (i:Nat) (o:Zf) (way:List Ze) (bs:List Zc):Prop where
 room:Zy w.network (Zds w i o) w.closed (Zb8 w.network o) o.to_ (atR w.network w.now o) o.weight=some (way,true)
 book:ZN w.network (Zds w i o) ((i+1:Nat):Int) o.weight way=some (bs,true)
 wayR:WayR w.network (Zds w i o) w.closed o.weight (Zb8 w.network o) o.to_ (atR w.network w.now o) way
 perm:bs.Perm (Zds w i o++ZdR ((i+1:Nat):Int) o.weight way)
 books:ZZ w.network bs=true
def Zie (w:Zd) (i:Nat) (o:Zf) (w':Zd):Prop:=(ZvH w i o∧w'=newW w i o (ZT o) (Zds w i o))∨∃ way bs,Zu8 w i o way bs∧w'=newW w i o (ZT o++way) bs
section
variable {w:Zd} {i:Nat} {o:Zf}
theorem Zsd (hb:w.bookings.length≤1000) (ho:getI w.orders (i:Int)=some o) (hl:o.way.length≤1048576) (hi:i≤1000) {k:Int} (hk:0≤k∧k≤o.way.length):
 Zj (Zcj w ((i+1:Nat):Int) k) NN (0,[])=some (Zgh ((i+1:Nat):Int) (o.way.drop k.toNat) w.bookings):=by
 have hid:w64 (((i+1:Nat):Int)-1)=(i:Int):=by rw [Zo (by omega)]; omega
 have hsub:subL o.way k (o.way.length:Int)=o.way.drop k.toNat:=by
  unfold subL
  rw [List.take_of_length_le (by rw [List.length_drop]; omega)]
 have hsl:chk (slOk k (o.way.length:Int) o.way.length)=some ():=Zjh (by unfold slOk; exact decide_eq_true ⟨hk.1,hk.2,Int.le_refl _⟩)
 refine ZbW (body:=Zcj w ((i+1:Nat):Int) k) (fun j:Nat=>((j:Int),Zgh ((i+1:Nat):Int) (o.way.drop k.toNat) (w.bookings.take j))) (n:=w.bookings.length) (fun j hj=>?_) ?_ NN (by unfold NN; omega)
 ·have hg:getI w.bookings (j:Int)=some w.bookings[j]:=by rw [Zn]; exact List.getElem?_eq_getElem hj
  have hw:w64 ((j:Int)+1)=((j+1:Nat):Int):=ZR hj (by omega)
  have hfl:(Zgh ((i+1:Nat):Int) (o.way.drop k.toNat) (w.bookings.take j)).length≤1000:=Nat.le_trans (List.length_filter_le _ _) (by rw [List.length_take]; omega)
  have ha:chk (ZQ ((Zgh ((i+1:Nat):Int) (o.way.drop k.toNat) (w.bookings.take j)).length+([w.bookings[j]]:List Zc).length) 32)=some ():=ZcC (by simp only [List.length_cons,List.length_nil]; omega) (by omega)
  have hs:Zgh ((i+1:Nat):Int) (o.way.drop k.toNat) (w.bookings.take (j+1))=Zgh ((i+1:Nat):Int) (o.way.drop k.toNat) (w.bookings.take j)++(if (decide (w.bookings[j].thing=((i+1:Nat):Int)) && Z2 (o.way.drop k.toNat) w.bookings[j].trip)=true then [] else [w.bookings[j]]):=by
   unfold Zgh
   rw [List.take_succ_eq_append_getElem hj,List.filter_append]
   simp only [List.filter_cons,List.filter_nil]
   cases decide (w.bookings[j].thing=((i+1:Nat):Int)) && Z2 (o.way.drop k.toNat) w.bookings[j].trip <;> rfl
  unfold Zcj
  simp only [decide_eq_true (show (j:Int)<w.bookings.length by omega),cond_true,hg,Option.bind_some,hw,ha]
  rw [hs]
  by_cases h:w.bookings[j].thing=((i+1:Nat):Int)
  ·rw [decide_eq_true h]
   simp only [Bool.not_true,cond_false,rgI,hid,ho,Option.bind_some,hsl,hsub,Zb1 (show (o.way.drop k.toNat).length≤1048576 by rw [List.length_drop]; omega),Bool.true_and]
   have e:((o.way.drop k.toNat).any fun y=>decide (y=w.bookings[j].trip))=Z2 (o.way.drop k.toNat) w.bookings[j].trip:=rfl
   rw [e]
   cases Z2 (o.way.drop k.toNat) w.bookings[j].trip with
   | true=>simp
   | false=>rfl
  ·rw [decide_eq_false h]; rfl
 ·unfold Zcj
  simp [List.take_length]
variable (hf:WFit w) (hn:Zi w.network=some true) (hb:ZZ w.network w.bookings=true) (hnow:0≤w.now∧w.now≤100000) (hi:i≤1000)
 (ho:w.orders[i]?=some o) (hg:0≤o.gone∧o.gone≤o.way.length) (h2:o.state=2→o.gone<o.way.length) (ht:∀ t∈o.way,ZbJ w.network t=true) (hwl:o.way.length≤1000)
include hf hn hb hnow hi ho hg h2 ht hwl
theorem ZwX:∃ w',Zbb w ((i+1:Nat):Int)=some w'∧Zie w i o w':=by
 have hl:=hf.way o (List.mem_of_getElem? ho)
 obtain ⟨_,hbl⟩:=Zav hb
 obtain ⟨c0,c1⟩:=ZbB hn
 have hoi:getI w.orders (i:Int)=some o:=by rw [Zn]; exact ho
 have hid:w64 (((i+1:Nat):Int)-1)=(i:Int):=by rw [Zo (by omega)]; omega
 have hk:0≤Zm o∧Zm o≤o.way.length:=by
  unfold Zm
  by_cases h:o.state=2
  ·rw [if_pos h]; have:=h2 h; omega
  ·rw [if_neg h]; exact hg
 have hcome:ZbY o=some (Zm o):=by
  rw [(Zhh hg hl).2.2,if_neg (by omega)]
 have hkl:(ZT o).length=(Zm o).toNat:=by unfold ZT; rw [List.length_take]; omega
 have hsub:subL o.way 0 (Zm o)=ZT o:=by unfold subL ZT; simp
 have hsl:chk (slOk 0 (Zm o) o.way.length)=some ():=Zjh (by unfold slOk; exact decide_eq_true ⟨Int.le_refl _,hk.1,hk.2⟩)
 have hct:ZaP (ZT o)=some (ZT o):=ZgW (by omega)
 have hw1:w64 (w.now+1)=w.now+1:=Zo (by omega)
 have hll:(Zds w i o).length≤120:=Nat.le_trans (Zhj _ _ _).length_le hbl
 have hlv:=ZjT hf.net hb (Zhj ((i+1:Nat):Int) (Zfl o) w.bookings)
 have hat:ZcI w.network (Zbq o (ZT o))=some (Zb8 w.network o):=by
  have e0:ZcI w.network (Zbq o (ZT o))=cond (decide (o.state=2)) ((getI (ZT o) o.gone).bind fun y1=>(getI w.network.legs y1.leg).bind fun y2=>some y2.to_) (some o.place):=rfl
  rw [e0]
  unfold Zb8
  by_cases h:o.state=2
  ·have h3:=h2 h
   have hgt:o.gone.toNat<o.way.length:=by omega
   have e1:getI (ZT o) o.gone=some o.way[o.gone.toNat]:=by
    unfold getI ZT Zm
    rw [if_pos hg.1,if_pos h,List.getElem?_take,if_pos (by omega)]
    exact List.getElem?_eq_getElem hgt
   obtain ⟨y,hy,_⟩:=Zah hf.net (ht _ (List.getElem_mem hgt))
   rw [decide_eq_true h,cond_true,e1,Option.bind_some,hy,Option.bind_some,if_pos h,List.getElem?_eq_getElem hgt,Option.map_some,Option.getD_some]
   unfold ZL
   rw [hy]; rfl
  ·rw [decide_eq_false h,cond_false,if_neg h]
 obtain ⟨⟨way,b⟩,e1,e2⟩:=Zf5 hf.net (l:=Zds w i o) (by omega) hf.closed (Zb8 w.network o) o.to_ (atR w.network w.now o) o.weight
 -- what follows when the way was looked for
 have tail:∀ a,a=atR w.network w.now o→∃ w',((Zb3 w.network (Zds w i o) w.closed (Zb8 w.network o) o.to_ a o.weight).bind fun y14=>
  cond (!y14.2) (some (newW w i o (ZT o) (Zds w i o)))
  ((rgI w.orders (w64 (((i+1:Nat):Int)-1))).bind fun y15=>
  (Za7 w.network (Zds w i o) ((i+1:Nat):Int) o.weight y14.1).bind fun y16=>
  cond y16.2
  ((rgI w.orders (w64 (((i+1:Nat):Int)-1))).bind fun y17=>
  (chk (ZQ (((ZT o):List Ze).length+(y14.1:List Ze).length) 16)).bind fun _=>
  some (newW w i o (ZT o++y14.1) y16.1))
  (some (newW w i o (ZT o) (Zds w i o)))))=some w'∧Zie w i o w':=by
  rintro a rfl
  rw [e1,Option.bind_some]
  cases b with
  | false=>exact ⟨_,rfl,.inl ⟨.inl ⟨way,e2⟩,rfl⟩⟩
  | true=>
  have hR:=ZfW hf.net (show (Zds w i o).length≤1048576 by omega) hf.closed e2
  have hlen:=hR.len
  have hnl:(ZdR ((i+1:Nat):Int) o.weight way).length=way.length:=by unfold ZdR; rw [List.length_map]
  obtain ⟨d,d1,d2⟩:=Zp1 (Zds w i o++ZdR ((i+1:Nat):Int) o.weight way) (by rw [List.length_append,hnl]; omega)
  have hbk:Za7 w.network (Zds w i o) ((i+1:Nat):Int) o.weight way=ZN w.network (Zds w i o) ((i+1:Nat):Int) o.weight way:=by
   unfold Za7
   rw [if_pos ⟨Zim.2 hf.net,by omega,by omega⟩]
  have hsp:=Zhe hf.net (show (Zds w i o).length≤1048000 by omega) ((i+1:Nat):Int) o.weight d1 d2
  simp only [Bool.not_true,cond_false,rgI,hid,hoi,Option.bind_some]
  rw [hbk]
  by_cases hbd:ZZ w.network d=true
  ·rw [if_pos ⟨hlv,hlen,hbd⟩] at hsp
   have ha:chk (ZQ ((ZT o).length+way.length) 16)=some ():=ZcC (by omega) (by omega)
   exact ⟨_,by rw [hsp]; simp only [Option.bind_some,cond_true,ha],.inr ⟨way,d,⟨e2,hsp,hR,d1,hbd⟩,rfl⟩⟩
  ·rw [if_neg (fun hx=>hbd hx.2.2)] at hsp
   exact ⟨_,by rw [hsp]; rfl,.inl ⟨.inr ⟨way,e2,hsp⟩,rfl⟩⟩
 unfold Zbb
 simp only [rgI,hid,hoi,Option.bind_some,hcome,Zsd (show w.bookings.length≤1000 by omega) hoi hl hi hk,hsl,hsub,hct]
 have hdl:Zgh ((i+1:Nat):Int) (List.drop (Zm o).toNat o.way) w.bookings=Zds w i o:=rfl
 rw [hdl]
 by_cases h0:0<Zm o
 ·have hkt:(Zm o).toNat-1<o.way.length:=by omega
  have hlast:(ZT o).getLast?=some o.way[(Zm o).toNat-1]:=by
   unfold ZT
   rw [ZdV (by omega) (by omega)]
   exact List.getElem?_eq_getElem hkt
  have hgk:getI (ZT o) (w64 (Zm o-1))=some o.way[(Zm o).toNat-1]:=by
   rw [Zo (by omega)]
   unfold getI ZT
   rw [if_pos (by omega),List.getElem?_take,if_pos (by omega),show (Zm o-1).toNat=(Zm o).toNat-1 by omega]
   exact List.getElem?_eq_getElem hkt
  obtain ⟨t1,t2,t3,t4,t5⟩:=ZI hf.net hn (ht _ (List.getElem_mem hkt))
  have he:ZO w.network o.way[(Zm o).toNat-1]=some (Z7 w.network o.way[(Zm o).toNat-1]):=by rw [ZfG]; exact t2
  have hwe:w64 (Z7 w.network o.way[(Zm o).toNat-1]+w.network.change)=Z7 w.network o.way[(Zm o).toNat-1]+w.network.change:=Zo (by omega)
  have hate:(if Z7 w.network o.way[(Zm o).toNat-1]+w.network.change > w.now+1 then Z7 w.network o.way[(Zm o).toNat-1]+w.network.change else w.now+1)=atR w.network w.now o:=by
   unfold atR; rw [hlast]
  rw [decide_eq_true h0,cond_true,hgk]
  simp only [Option.bind_some,he,hw1,hwe]
  have hat':ZcI w.network ⟨o.from_,o.to_,o.service,o.weight,o.at_,o.due,ZT o,o.gone,o.state,o.place,o.ended⟩=some (Zb8 w.network o):=hat
  rw [hat',Option.bind_some]
  obtain ⟨w',q1,q2⟩:=tail _ hate
  refine ⟨w',?_,q2⟩
  rw [← q1]
  simp only [rgI,hid,hoi,Option.bind_some,newW,Zbq,Int.toNat_natCast]
 ·have hlast:(ZT o).getLast?=none:=by
   unfold ZT
   rw [show (Zm o).toNat=0 by omega]; rfl
  have hate:w.now+1=atR w.network w.now o:=by unfold atR; rw [hlast]
  rw [decide_eq_false h0,cond_false]
  have hat':ZcI w.network ⟨o.from_,o.to_,o.service,o.weight,o.at_,o.due,ZT o,o.gone,o.state,o.place,o.ended⟩=some (Zb8 w.network o):=hat
  rw [hat',Option.bind_some,hw1]
  obtain ⟨w',q1,q2⟩:=tail _ hate
  refine ⟨w',?_,q2⟩
  rw [← q1]
  simp only [rgI,hid,hoi,Option.bind_some,newW,Zbq,Int.toNat_natCast]
end
def Zja (n:Za) (bs:List Zc) (cl:List Ze) (now:Int) (i:Nat) (o:Zf):Bool:=ZcY ⟨n,[],bs,cl,now,[],[],0⟩ i o
theorem Zsx (w:Zd) (i:Nat) (o:Zf):ZcY w i o=Zja w.network w.bookings w.closed w.now i o:=rfl
structure ZjJ (w:Zd) (c:Nat→List Ze):Prop where
 fit:WFit w
 books:ZZ w.network w.bookings=true
 now:0≤w.now∧w.now≤100000
 olen:w.orders.length≤30
 ord:∀ (i:Nat) (o:Zf),w.orders[i]?=some o→Zja w.network w.bookings (c i) w.now i o=true
 sum:(w.orders.map fun o=>o.way.length).sum=w.bookings.length
 cl:∀ i,(c i).length≤1048576
theorem Zvq {α:Type} (f:α→Nat):∀ {l:List α} {x:α},x∈l→f x≤(l.map f).sum
 | a::l,x,h=>by
  simp only [List.map_cons,List.sum_cons]
  rcases List.mem_cons.1 h with rfl | h
  ·omega
  ·have:=Zvq f h; omega
theorem ZtD {w:Zd} (hf:WFit w) (ho:w.orders.length≤1000):Zjg w=((w.orders.map fun o=>o.way.length).sum:Nat):=by
 have:=ZnW w.orders 0 hf.way (by omega)
 rw [Nat.zero_add] at this
 exact this
structure Zmz (w:Zd):Prop where
 closed:w.closed.length≤20
 scans:w.scans.length≤200
 skip:w.skip.length≤50
 made:w.scans.length≤w.made∧w.made≤1000000000
 cl:allI (ZgV w) 0 w.closed=true
 sc:allI (Zk0 w) 0 w.scans=true
theorem Zcv {w:Zd} (h:WOk w):ZjJ w (fun _=>w.closed)∧Zmz w:=by
 obtain ⟨p1,p2,p3,p4,p5,p6,p7⟩:=h.parts
 have hv:=h.ok
 unfold ZcB at hv
 simp only [Bool.and_eq_true,Bool.not_eq_true',decide_eq_true_iff,decide_eq_false_iff_not] at hv
 obtain ⟨⟨⟨⟨⟨⟨⟨⟨⟨⟨h1,h2⟩,h3⟩,h4⟩,h5⟩,h6⟩,h7⟩,h8⟩,h9⟩,h10⟩,h11⟩:=hv
 refine ⟨⟨h.fit,h1,p1,p2,fun i o ho=>?_,?_,fun _=>h.fit.closed⟩,⟨p3,p4,p5,p6,h8,h9⟩⟩
 ·rw [← Zsx]; exact Zd8 h.ok ho
 ·have:=ZtD h.fit (by omega)
  rw [this] at h11
  omega
theorem Zp9 {w:Zd} (h:ZjJ w (fun _=>w.closed)) (k:Zmz w):WOk w:=by
 refine ⟨h.fit,?_⟩
 have:=h.olen
 have:=k.closed
 have:=k.scans
 have:=k.skip
 unfold ZcB
 simp only [Bool.and_eq_true,Bool.not_eq_true',decide_eq_true_iff,decide_eq_false_iff_not]
 refine ⟨⟨⟨⟨⟨⟨⟨⟨⟨⟨h.books,h.now⟩,by omega⟩,by omega⟩,by omega⟩,by omega⟩,k.made⟩,k.cl⟩,k.sc⟩,?_⟩,?_⟩
 ·refine Zas.2 fun i o ho=>?_
  rw [Nat.zero_add]
  exact h.ord i o ho
 ·rw [ZtD h.fit (by omega),h.sum]
structure OrdP (n:Za) (bs:List Zc) (cl:List Ze) (now:Int) (i:Nat) (o:Zf):Prop where
 ok:Zn5 ⟨n,[],bs,cl,now,[],[],0⟩ i o
 chain:ZbG n o.from_ (o.at_+1) o.way
 st:Zfi n o now
section
variable {w:Zd} {c:Nat→List Ze} (h:ZjJ w c) {i:Nat} {o:Zf} (ho:w.orders[i]?=some o)
include h ho
theorem ZhI:o.way.length≤120:=by
 have:=Zvq (fun o:Zf=>o.way.length) (List.mem_of_getElem? ho)
 have:=(Zav h.books).2
 have:=h.sum
 omega
theorem ZaV:OrdP w.network w.bookings (c i) w.now i o:=by
 have hn:=(Zav h.books).1
 have hl:=ZhI h ho
 have hO:=ZpI (w:=⟨w.network,[],w.bookings,c i,w.now,[],[],0⟩) ⟨h.fit.net,by simp,h.fit.bookings,h.cl i,by simp,by simp,by simp⟩ (i:=i) (o:=o) (by omega) (h.ord i o ho)
 have hw:w64 (o.at_+1)=o.at_+1:=by
  have h1:0≤o.at_:=hO.at_.1
  have h2:o.at_≤w.now:=hO.at_.2
  have:=h.now
  rw [Zo (by omega)]
 have hc:=Zh6 h.fit.net hn (by omega) hO.isWay
 rw [hw] at hc
 exact ⟨hO,hc,(Zhu h.fit.net hn hO.gone (by omega) hO.trip w.now).1 hO.st⟩
theorem ZcO:0≤Zm o∧Zm o≤o.way.length∧(ZT o).length=(Zm o).toNat∧o.gone≤Zm o:=by
 have hO:=(ZaV h ho).ok
 obtain ⟨g0,g1⟩:=hO.gone
 have hk:0≤Zm o∧Zm o≤o.way.length∧o.gone≤Zm o:=by
  unfold Zm
  by_cases hs:o.state=2
  ·rw [if_pos hs]
   rcases hO.cases with c1 | c1 | c1
   ·have:=c1.1; omega
   ·have:=c1.2; omega
   ·have:=c1.1; omega
  ·rw [if_neg hs]; omega
 refine ⟨hk.1,hk.2.1,?_,hk.2.2⟩
 unfold ZT
 rw [List.length_take]; omega
theorem Zgu:o.way=ZT o++Zfl o:=(List.take_append_drop _ _).symm
theorem Zl6 {j:Nat} (hj:j<(ZT o).length):(ZT o)[j]?=o.way[j]?:=by
 have:=(ZcO h ho).2.2.1
 unfold ZT
 rw [List.getElem?_take,if_pos (by omega)]
theorem Zj7 (hs:¬ o.state=3):endP w.network o.from_ (ZT o)=Zb8 w.network o:=by
 have hP:=ZaV h ho
 obtain ⟨k0,k1,k2,k3⟩:=ZcO h ho
 obtain ⟨g0,g1⟩:=hP.ok.gone
 unfold Zb8
 rcases hP.st.cases with ⟨s1,s2,s3,s4,s5⟩ | ⟨s1,s2,s3,t,t1,t2,t3⟩ | s
 ·rw [if_neg (by omega),s2]
  unfold ZfY
  have hcv:Zm o=o.gone:=by unfold Zm; rw [if_neg (by omega)]
  by_cases hg:0<o.gone
  ·have hlt:(o.gone-1).toNat<o.way.length:=by omega
   rw [if_pos hg,List.getElem?_eq_getElem hlt]
   refine Zfq ?_
   unfold ZT
   rw [hcv,ZdV (by omega) (by omega),show o.gone.toNat-1=(o.gone-1).toNat by omega,List.getElem?_eq_getElem hlt]
  ·rw [if_neg hg]
   unfold ZT
   rw [hcv,show o.gone.toNat=0 by omega]; rfl
 ·rw [if_pos s1,t1]
  refine Zfq ?_
  have hcv:Zm o=o.gone+1:=by unfold Zm; rw [if_pos s1]
  have hlt:=(List.getElem?_eq_some_iff.1 t1).1
  unfold ZT
  rw [hcv,ZdV (by omega) (by omega),show (o.gone+1).toNat-1=o.gone.toNat by omega,t1]
 ·exact absurd s.1 hs
theorem ZrN:endA w.network (o.at_+1) (ZT o)≤atR w.network w.now o∧w.now+1≤atR w.network w.now o∧0≤atR w.network w.now o:=by
 have hP:=ZaV h ho
 have hnow:=h.now
 have h2:o.at_≤w.now:=hP.ok.at_.2
 unfold atR
 cases hl:(ZT o).getLast? with
 | none=>
  rw [List.getLast?_eq_none_iff] at hl
  rw [hl]
  refine ⟨?_,?_,?_⟩ <;> simp only [endA,List.foldl_nil] <;> omega
 | some t=>
  rw [Zj6 hl]
  simp only
  split <;> omega
theorem Zne {more:List Ze} {bs:List Zc} (hs:¬ o.state=3) (hne:¬ Zb8 w.network o=o.to_)
 (hb1:∀ t∈ZT o,ZcD bs ((i+1:Nat):Int) t o.weight=true) (hb2:∀ t∈more,ZcD bs ((i+1:Nat):Int) t o.weight=true)
 (hc:ZbG w.network (Zb8 w.network o) (atR w.network w.now o) more) (hl:more.length≤20) (hend:more=[]∨(Zb8 w.network o::more.map (ZL w.network)).Nodup∧(Zb8 w.network o::more.map (ZL w.network)).getLast?=some o.to_)
 (hopen:more.any (Z2 w.closed)=false):Zja w.network bs w.closed w.now i (Zbq o (ZT o++more))=true:=by
 have hP:=ZaV h ho
 have hn:=(Zav h.books).1
 have hlen:=ZhI h ho
 obtain ⟨k0,k1,k2,k3⟩:=ZcO h ho
 obtain ⟨g0,g1⟩:=hP.ok.gone
 have hnow:=h.now
 obtain ⟨a1,a2,a3⟩:=ZrN h ho
 have hep:=Zj7 h ho hs
 have hv:=h.ord i o ho
 unfold Zja ZcY at hv ⊢
 simp only [Bool.and_eq_true,Bool.not_eq_true',decide_eq_true_iff,decide_eq_false_iff_not] at hv ⊢
 obtain ⟨⟨⟨⟨⟨⟨⟨⟨⟨⟨⟨h1,h2⟩,h3⟩,h4⟩,h5⟩,h6⟩,h7⟩,h8⟩,h9⟩,h10⟩,h11⟩,h12⟩:=hv
 have hch:ZbG w.network o.from_ (o.at_+1) (ZT o++more):=by
  have:=hP.chain
  rw [Zgu h ho] at this
  refine (Zhf _).2 ⟨((Zhf _).1 this).1,?_⟩
  rw [hep]
  exact Zi7 hc a1
 have htr:=Zek hch
 have hget:∀ (j:Nat),j<(ZT o).length→(ZT o++more)[j]?=o.way[j]?:=fun j hj=>by
  rw [List.getElem?_append_left hj]
  exact Zl6 h ho hj
 refine ⟨⟨⟨⟨⟨⟨⟨⟨⟨⟨⟨h1,h2⟩,h3⟩,h4⟩,h5⟩,h6⟩,h7⟩,?_⟩,?_⟩,?_⟩,?_⟩,?_⟩
 ·simp only [Zbq,List.length_append]; omega
 ·refine Zas.2 fun j t hj=>?_
  have hj':(ZT o++more)[j]?=some t:=hj
  have htm:=List.mem_of_getElem? hj'
  unfold wayC
  simp only [Bool.and_eq_true,Bool.not_eq_true',Bool.and_eq_false_imp,decide_eq_true_iff,decide_eq_false_iff_not,Nat.zero_add]
  refine ⟨⟨htr t htm,?_⟩,fun he hj1=>?_⟩
  ·rcases List.mem_append.1 htm with hm | hm
   ·exact hb1 t hm
   ·exact hb2 t hm
  ·have hj1':j+1<(ZT o++more).length:=hj1
   have he':ZL w.network t=o.to_:=he
   rw [List.length_append] at hj1'
   by_cases hjk:j<(ZT o).length
   ·rw [hget j hjk] at hj'
    have:=Zas.1 h9 j t hj'
    unfold wayC at this
    simp only [Bool.and_eq_true,Bool.not_eq_true',Bool.and_eq_false_imp,decide_eq_true_iff,decide_eq_false_iff_not,Nat.zero_add] at this
    have hno:=this.2 he'
    have hjl:=(List.getElem?_eq_some_iff.1 hj').1
    refine hne ?_
    rw [← hep,← he']
    refine Zfq ?_
    unfold ZT
    rw [ZdV (by omega) (by omega),show (Zm o).toNat-1=j by omega,hj']
   ·rw [List.getElem?_append_right (by omega)] at hj'
    rcases hend with rfl | ⟨hnd,hla⟩
    ·simp at hj'
    rw [List.getLast?_eq_getElem?,List.length_cons,List.length_map,Nat.add_sub_cancel] at hla
    have q1:(Zb8 w.network o::more.map (ZL w.network))[j-(ZT o).length+1]?=some o.to_:=by rw [List.getElem?_cons_succ,List.getElem?_map,hj',Option.map_some,he']
    have q2:=List.pairwise_iff_getElem.1 hnd (j-(ZT o).length+1) more.length (by simp; omega) (by simp) (by omega)
    exact q2 ((List.getElem?_eq_some_iff.1 q1).2.trans (List.getElem?_eq_some_iff.1 hla).2.symm)
 ·have hw:w64 (o.at_+1)=o.at_+1:=by
   have q1:0≤o.at_:=h6.1
   have q2:o.at_≤w.now:=h6.2
   rw [Zo (by omega)]
  show (ZaN w.network (ZT o++more) o.from_ (endP w.network o.from_ (ZT o++more)) (w64 (o.at_+1))).getD false=true
  have hl2:(ZT o++more).length≤1048576:=by rw [List.length_append]; omega
  rw [hw,Zj0 h.fit.net hn hl2 (by omega) (Zme h.fit.net hn (by omega) htr) hch rfl]; rfl
 ·have hS:Zfi w.network (Zbq o (ZT o++more)) w.now:=by
   refine ⟨fun t hg ht=>?_,?_⟩
   ·have hg':0<o.gone:=hg
    have ht':(ZT o++more)[(o.gone-1).toNat]?=some t:=ht
    rw [hget _ (by omega)] at ht'
    exact hP.st.past t hg' ht'
   ·have hhere:ZfY w.network (Zbq o (ZT o++more))=ZfY w.network o:=by
     unfold ZfY
     by_cases hg:0<o.gone
     ·rw [if_pos hg,if_pos (show 0<(Zbq o (ZT o++more)).gone from hg)]
      show (((ZT o++more)[(o.gone-1).toNat]?).map (ZL w.network)).getD ⟨#[]⟩=_
      rw [hget _ (by omega)]
     ·rw [if_neg hg,if_neg (show ¬ 0<(Zbq o (ZT o++more)).gone from hg)]; rfl
    rcases hP.st.cases with ⟨s1,s2,s3,s4,s5⟩ | ⟨s1,s2,s3,t,t1,t2,t3⟩ | s
    ·refine .inl ⟨s1,by rw [hhere]; exact s2,by rw [hhere]; exact s3,s4,fun t ht=>?_⟩
     have ht':(ZT o++more)[o.gone.toNat]?=some t:=ht
     have hcv:Zm o=o.gone:=by unfold Zm; rw [if_neg (by omega)]
     rw [List.getElem?_append_right (by omega),show o.gone.toNat-(ZT o).length=0 by omega] at ht'
     cases more with
     | nil=>simp at ht'
     | cons x xs=>
      obtain rfl:x=t:=by simpa using ht'
      have:=hc.2.2.1
      omega
    ·have hcv:Zm o=o.gone+1:=by unfold Zm; rw [if_pos s1]
     refine .inr (.inl ⟨s1,s2,s3,t,?_,t2,t3⟩)
     show (ZT o++more)[o.gone.toNat]?=some t
     rw [hget _ (by omega)]; exact t1
    ·exact absurd s.1 hs
  show (ZC w.network (Zbq o (ZT o++more)) w.now).getD false=true
  rw [(Zhu h.fit.net hn (o:=Zbq o (ZT o++more)) ⟨g0,by simp only [Zbq,List.length_append]; omega⟩ (by simp only [Zbq,List.length_append]; omega) htr w.now).2 hS]; rfl
 ·have hd:((Zbq o (ZT o++more)).way.drop (Zm (Zbq o (ZT o++more))).toNat)=more:=by
   show (ZT o++more).drop (Zm o).toNat=more
   rw [← k2,List.drop_left]
  rw [hd]; exact hopen
theorem Zg0 {t:Ze} (ht:t∈o.way):(⟨((i+1:Nat):Int),t,o.weight⟩:Zc)∈w.bookings:=by
 obtain ⟨j,hj,rfl⟩:=List.getElem_of_mem ht
 have:=Zas.1 (ZaV h ho).ok.way j _ (List.getElem?_eq_getElem hj)
 unfold wayC at this
 simp only [Bool.and_eq_true] at this
 have:=this.1.2
 unfold ZcD at this
 obtain ⟨x,h1,h2⟩:=List.any_eq_true.1 this
 rw [← of_decide_eq_true h2]; exact h1
theorem Zm9 {t:Ze} (ht:t∈ZT o):(⟨((i+1:Nat):Int),t,o.weight⟩:Zc)∈Zds w i o:=by
 have hP:=ZaV h ho
 have hn:=(Zav h.books).1
 have hnd:=Zh1 h.fit.net hn hP.chain
 rw [Zgu h ho] at hnd
 have hw:t∈o.way:=by rw [Zgu h ho]; exact List.mem_append_left _ ht
 exact Znb.2 ⟨Zg0 h ho hw,fun hx=>(List.nodup_append.1 hnd).2.2 t ht t hx.2 rfl⟩
theorem Zur:(Zds w i o).length+(Zfl o).length=w.bookings.length:=by
 have hP:=ZaV h ho
 have hn:=(Zav h.books).1
 have hnd:=Zh1 h.fit.net hn hP.chain
 rw [Zgu h ho] at hnd
 exact ZrL h.books (List.nodup_append.1 hnd).2.1 fun t ht=>Zg0 h ho (by rw [Zgu h ho]; exact List.mem_append_right _ ht)
theorem ZpF {more:List Ze} {bs:List Zc} (hb:ZZ w.network bs=true) (hl:bs.length=(Zds w i o).length+more.length) (hin:∀ b∈Zds w i o,b∈bs)
 (hO:Zja w.network bs w.closed w.now i (Zbq o (ZT o++more))=true) (hm:more.length≤20):ZjJ (newW w i o (ZT o++more) bs) (fun j=>if j=i then w.closed else c j):=by
 have hlen:=ZhI h ho
 obtain ⟨k0,k1,k2,k3⟩:=ZcO h ho
 have hbl:=(Zav hb).2
 have hil:=(List.getElem?_eq_some_iff.1 ho).1
 have hwl:(ZT o).length+(Zfl o).length=o.way.length:=by
  have:=congrArg List.length (Zgu h ho)
  rw [List.length_append] at this; omega
 refine ⟨⟨h.fit.net,?_,?_,h.fit.closed,h.fit.scans,h.fit.skip,fun x hx=>?_⟩,hb,h.now,?_,fun j x hx=>?_,?_,fun j=>?_⟩
 ·simp only [newW,List.length_set]; exact h.fit.orders
 ·simp only [newW]; omega
 ·rcases List.mem_or_eq_of_mem_set hx with hx | rfl
  ·exact h.fit.way x hx
  ·simp only [Zbq,List.length_append]; omega
 ·simp only [newW,List.length_set]; exact h.olen
 ·have hx':(w.orders.set i (Zbq o (ZT o++more)))[j]?=some x:=hx
  show Zja w.network bs (if j=i then w.closed else c j) w.now j x=true
  by_cases hji:j=i
  ·subst hji
   rw [List.getElem?_set_self hil] at hx'
   obtain rfl:=Option.some.inj hx'
   rw [if_pos rfl]; exact hO
  ·rw [if_neg hji]
   rw [List.getElem?_set_ne (fun e=>hji e.symm)] at hx'
   have hv:=h.ord j x hx'
   unfold Zja ZcY at hv ⊢
   simp only [Bool.and_eq_true,Bool.not_eq_true',decide_eq_true_iff,decide_eq_false_iff_not] at hv ⊢
   obtain ⟨⟨⟨⟨⟨⟨⟨⟨⟨⟨⟨h1,h2⟩,h3⟩,h4⟩,h5⟩,h6⟩,h7⟩,h8⟩,h9⟩,h10⟩,h11⟩,h12⟩:=hv
   refine ⟨⟨⟨⟨⟨⟨⟨⟨⟨⟨⟨h1,h2⟩,h3⟩,h4⟩,h5⟩,h6⟩,h7⟩,h8⟩,?_⟩,h10⟩,h11⟩,h12⟩
   refine Zas.2 fun a t ha=>?_
   have:=Zas.1 h9 a t ha
   unfold wayC at this ⊢
   simp only [Bool.and_eq_true] at this ⊢
   refine ⟨⟨this.1.1,?_⟩,this.2⟩
   have hbk:=this.1.2
   unfold ZcD at hbk ⊢
   obtain ⟨y,y1,y2⟩:=List.any_eq_true.1 hbk
   obtain rfl:=of_decide_eq_true y2
   exact List.any_eq_true.2 ⟨_,hin _ (Znb.2 ⟨y1,fun e=>hji (by have:=e.1; simp only at this; omega)⟩),y2⟩
 ·have:=Ztx (fun o:Zf=>o.way.length) (Zbq o (ZT o++more)) ho
  have e:(Zbq o (ZT o++more)).way.length=(ZT o).length+more.length:=List.length_append
  simp only [e] at this
  have hs:=h.sum
  have hll:=Zur h ho
  show ((w.orders.set i (Zbq o (ZT o++more))).map fun o=>o.way.length).sum=bs.length
  omega
 ·show (if j=i then w.closed else c j).length≤1048576
  split
  ·exact h.fit.closed
  ·exact h.cl j
theorem ZqN (hs:¬ o.state=3) (hne:¬ Zb8 w.network o=o.to_):∃ w',Zbb w ((i+1:Nat):Int)=some w'∧Zie w i o w'∧ZjJ w' (fun j=>if j=i then w.closed else c j):=by
 have hP:=ZaV h ho
 have hn:=(Zav h.books).1
 have hlen:=ZhI h ho
 have hil:=(List.getElem?_eq_some_iff.1 ho).1
 have hol:=h.olen
 obtain ⟨w',e,hR⟩:=ZwX h.fit hn h.books h.now (by omega) ho hP.ok.gone (fun h2=>by
  rcases hP.ok.cases with c1 | c1 | c1
  ·have:=c1.1; omega
  ·exact c1.2
  ·have:=c1.1; omega) hP.ok.trip (by omega)
 refine ⟨w',e,hR,?_⟩
 rcases hR with ⟨_,rfl⟩ | ⟨way,bs,hN,rfl⟩
 ·have hO:=Zne h ho (more:=[]) (bs:=Zds w i o) hs hne (fun t ht=>?_) (by simp) trivial (by simp) (.inl rfl) rfl
  ·have:=ZpF h ho (more:=[]) (bs:=Zds w i o) (ZjT h.fit.net h.books (Zhj _ _ _)) (by simp) (fun b hb=>hb) hO (by simp)
   rw [List.append_nil] at this
   exact this
  ·unfold ZcD
   exact List.any_eq_true.2 ⟨_,Zm9 h ho ht,decide_eq_true rfl⟩
 ·obtain ⟨a1,a2,a3⟩:=ZrN h ho
  have hat:(if 0 > atR w.network w.now o then 0 else atR w.network w.now o)=atR w.network w.now o:=if_neg (by omega)
  have hch:=hN.wayR.chain
  rw [hat] at hch
  have hpl:=hN.perm.length_eq
  have hnl:(ZdR ((i+1:Nat):Int) o.weight way).length=way.length:=by unfold ZdR; rw [List.length_map]
  rw [List.length_append,hnl] at hpl
  have hO:=Zne h ho (more:=way) (bs:=bs) hs hne (fun t ht=>?_) (fun t ht=>?_) hch hN.wayR.len (.inr ⟨hN.wayR.nodup,hN.wayR.last⟩) ?_
  ·exact ZpF h ho hN.books hpl (fun b hb=>hN.perm.mem_iff.2 (List.mem_append_left _ hb)) hO hN.wayR.len
  ·unfold ZcD
   exact List.any_eq_true.2 ⟨_,hN.perm.mem_iff.2 (List.mem_append_left _ (Zm9 h ho ht)),decide_eq_true rfl⟩
  ·unfold ZcD
   refine List.any_eq_true.2 ⟨⟨((i+1:Nat):Int),t,o.weight⟩,hN.perm.mem_iff.2 (List.mem_append_right _ ?_),decide_eq_true rfl⟩
   unfold ZdR; exact List.mem_map_of_mem ht
  ·refine List.any_eq_false.2 fun t ht=>?_
   have:=(hN.wayR.found t ht).1
   rw [Zcs,Zb1 h.fit.closed] at this
   have:=Option.some.inj this
   show ¬ Z2 w.closed t=true
   unfold Z2
   rw [this]; simp
end
structure Zfn (w:Zd):Prop where
 thing:∀ s∈w.scans,s.thing≤(w.orders.length:Int)
 sub:∀ (i:Nat) (o:Zf),w.orders[i]?=some o→(ofT ((i+1:Nat):Int) w.scans).Sublist (Zdr w.network i o)
/-! An order's scans with the stages of its way: before a scan,and behind it. -/
def plS (n:Za) (o:Zf) (k:Nat):ByteArray:=endP n o.from_ (o.way.take k)
def arS (n:Za) (o:Zf) (k:Nat):Int:=match (o.way.take k).getLast? with
 | some t=>Z7 n t
 | none=>o.at_
structure ZvI (n:Za) (i:Nat) (o:Zf) (x:Zk × Nat × Nat):Prop where
 thing:x.1.thing=((i+1:Nat):Int)
 behind:¬ x.1.kind=4→okS1 n x.1=true→Zu n x.1=some ⟨plS n o x.2.2,arS n o x.2.2⟩
 before:okS1 n x.1=true→∃ s,Zt n x.1=some ⟨plS n o x.2.1,s⟩∧arS n o x.2.1≤s
 le:x.2.1≤o.way.length∧x.2.2≤o.way.length
 kind:x.1.kind=1∨x.1.kind=2∨x.1.kind=3∨x.1.kind=4
 load:x.1.kind=3→∃ t,o.way[x.2.1]?=some t∧x.1=Zcc n i t∧x.2.2=x.2.1+1
section
variable {w:Zd} (h:WOk w) {i:Nat} {o:Zf} (ho:w.orders[i]?=some o)
include h ho
end
section
variable {w:Zd} (h:WOk w) (hs:Zfn w)
include h hs
end
/-! The bookings are those of the ways. -/
def allN:Nat→List Zf→List Zc
 | _,[]=>[]
 | i,o::os=>ZdR ((i+1:Nat):Int) o.weight o.way++allN (i+1) os
theorem Zo5:∀ (os:List Zf) (i:Nat),(allN i os).length=(os.map fun o=>o.way.length).sum
 | [],_=>rfl
 | o::os,i=>by
  unfold allN ZdR
  rw [List.length_append,List.length_map,Zo5 os,List.map_cons,List.sum_cons]
theorem Zjp {b:Zc}:∀ {os:List Zf} {i:Nat},b∈allN i os↔∃ (j:Nat) (o:Zf) (t:Ze),os[j]?=some o∧t∈o.way∧b=⟨((i+j+1:Nat):Int),t,o.weight⟩
 | [],i=>by simp [allN]
 | o::os,i=>by
  unfold allN ZdR
  rw [List.mem_append,Zjp (os:=os) (i:=i+1),List.mem_map]
  constructor
  ·rintro (⟨t,h1,h2⟩ | ⟨j,o',t,h1,h2,h3⟩)
   ·exact ⟨0,o,t,rfl,h1,h2.symm⟩
   ·exact ⟨j+1,o',t,by simpa using h1,h2,by rw [h3,show i+1+j+1=i+(j+1)+1 by omega]⟩
  ·rintro ⟨j,o',t,h1,h2,h3⟩
   cases j with
   | zero=>
    obtain rfl:o=o':=by simpa using h1
    exact .inl ⟨t,h2,h3.symm⟩
   | succ j=>exact .inr ⟨j,o',t,by simpa using h1,h2,by rw [h3,show i+1+j+1=i+(j+1)+1 by omega]⟩
theorem Zk7:∀ {os:List Zf} {i:Nat},(∀ o∈os,o.way.Nodup)→(allN i os).Nodup
 | [],i,_=>List.nodup_nil
 | o::os,i,h=>by
  unfold allN
  refine List.nodup_append.2 ⟨?_,Zk7 fun x hx=>h x (by simp [hx]),fun a ha b hb e=>?_⟩
  ·unfold ZdR List.Nodup
   rw [List.pairwise_map]
   exact (h o (by simp)).imp fun {a b} hne e=>hne (by simpa using e)
  ·obtain ⟨j,o',t,_,_,h3⟩:=Zjp.1 hb
   unfold ZdR at ha
   obtain ⟨t',_,rfl⟩:=List.mem_map.1 ha
   rw [h3] at e
   have:=congrArg Zc.thing e
   simp only at this
   omega
theorem Zle {w:Zd} {c:Nat→List Ze} (h:ZjJ w c) {b:Zc} (hb:b∈w.bookings):∃ (j:Nat) (o:Zf) (t:Ze),w.orders[j]?=some o∧t∈o.way∧b=⟨((j+1:Nat):Int),t,o.weight⟩:=by
 have hn:=(Zav h.books).1
 have hnd:(allN 0 w.orders).Nodup:=Zk7 fun o ho=>by
  obtain ⟨i,hi,rfl⟩:=List.getElem_of_mem ho
  exact Zh1 h.fit.net hn (ZaV h (List.getElem?_eq_getElem hi)).chain
 have hsub:∀ x∈allN 0 w.orders,x∈w.bookings:=fun x hx=>by
  obtain ⟨j,o,t,h1,h2,rfl⟩:=Zjp.1 hx
  rw [Nat.zero_add]
  exact Zg0 h h1 h2
 have hlen:(allN 0 w.orders).length=w.bookings.length:=by rw [Zo5,h.sum]
 have hin:b∈allN 0 w.orders:=Classical.byContradiction fun hx=>by
  have:=ZgM (xs:=b::allN 0 w.orders) (ys:=w.bookings) (List.nodup_cons.2 ⟨hx,hnd⟩) fun x hm=>by
   rcases List.mem_cons.1 hm with rfl | hm
   ·exact hb
   ·exact hsub x hm
  simp only [List.length_cons] at this
  omega
 obtain ⟨j,o,t,h1,h2,h3⟩:=Zjp.1 hin
 rw [Nat.zero_add] at h3
 exact ⟨j,o,t,h1,h2,h3⟩
theorem ZqP {w:Zd} {c:Nat→List Ze} (h:ZjJ w c) {i:Nat} {o:Zf} (ho:w.orders[i]?=some o) (hr:¬ Zfl o=[]):¬ o.state=3∧¬ Zb8 w.network o=o.to_:=by
 have hP:=ZaV h ho
 obtain ⟨k0,k1,k2,k3⟩:=ZcO h ho
 have hlt:Zm o<o.way.length:=by
  rcases Int.lt_or_le (Zm o) o.way.length with hx | hx
  ·exact hx
  ·exact absurd (List.drop_eq_nil_of_le (by omega)) hr
 have hs:¬ o.state=3:=fun hs=>by
  rcases hP.ok.cases with ⟨c1,_⟩ | ⟨c1,_⟩ | ⟨c1,c2,_⟩
  ·omega
  ·omega
  ·have:Zm o=o.gone:=by unfold Zm; rw [if_neg (by omega)]
   omega
 refine ⟨hs,fun he=>?_⟩
 rw [← Zj7 h ho hs] at he
 by_cases h0:0<Zm o
 ·have hkt:(Zm o).toNat-1<o.way.length:=by omega
  have hlast:(ZT o).getLast?=some o.way[(Zm o).toNat-1]:=by
   unfold ZT
   rw [ZdV (by omega) (by omega)]
   exact List.getElem?_eq_getElem hkt
  rw [Zfq hlast] at he
  have:=Zas.1 hP.ok.way _ _ (List.getElem?_eq_getElem hkt)
  unfold wayC at this
  simp only [Bool.and_eq_true,Bool.not_eq_true',Bool.and_eq_false_imp,decide_eq_true_iff,decide_eq_false_iff_not,Nat.zero_add] at this
  exact this.2 he (by omega)
 ·have:ZT o=[]:=by unfold ZT; rw [show (Zm o).toNat=0 by omega]; rfl
  rw [this] at he
  exact hP.ok.fromto he
structure ZgT (w w':Zd):Prop where
 network:w'.network=w.network
 now:w'.now=w.now
 closed:w'.closed=w.closed
 scans:w'.scans=w.scans
 skip:w'.skip=w.skip
 made:w'.made=w.made
 len:w'.orders.length=w.orders.length
theorem ZgT.refl (w:Zd):ZgT w w:=⟨rfl,rfl,rfl,rfl,rfl,rfl,rfl⟩
theorem ZgT.trans {a b c:Zd} (h:ZgT a b) (k:ZgT b c):ZgT a c:=⟨k.1.trans h.1,k.2.trans h.2,k.3.trans h.3,k.4.trans h.4,k.5.trans h.5,k.6.trans h.6,k.7.trans h.7⟩
theorem ZgT.new (w:Zd) (i:Nat) (o:Zf) (ts:List Ze) (bs:List Zc):ZgT w (newW w i o ts bs):=⟨rfl,rfl,rfl,rfl,rfl,rfl,by simp only [newW,List.length_set]⟩
theorem ZtG {n:Za} (hf:Z0 n) {l:List Zc} {closed:List Ze} {weight at_:Int} {from_ to_:ByteArray} {way:List Ze} (h:WayR n l closed weight from_ to_ at_ way):way.length≤(Zb n).length-1:=by
 have:=ZgM (xs:=from_::way.map (ZL n)) (ys:=Zb n) h.nodup fun p hp=>by
  rcases List.mem_cons.1 hp with rfl | hp
  ·exact Zvp h.hC.2.1
  ·obtain ⟨t,ht,rfl⟩:=List.mem_map.1 hp
   obtain ⟨y,hy,hym⟩:=Zah hf (Zek h.chain t ht)
   have f2:ZL n t=y.to_:=by unfold ZL; rw [hy]; rfl
   rw [f2]
   exact (Zf0 hym).2
 simp only [List.length_cons,List.length_map] at this
 omega
def Zgf (n:Za) (o o':Zf):Prop:=o'=o∨∃ more,more.length≤(Zb n).length-1∧o'=Zbq o (ZT o++more)
theorem ZpR {w w':Zd} (hf:Z0 w.network) {i:Nat} {o:Zf} (hR:Zie w i o w') (ho:w.orders[i]?=some o):ZgT w w'∧(∃ o',w'.orders[i]?=some o'∧Zgf w.network o o')∧∀ j,¬ j=i→w'.orders[j]?=w.orders[j]?:=by
 have hil:=(List.getElem?_eq_some_iff.1 ho).1
 rcases hR with ⟨_,rfl⟩ | ⟨way,bs,hN,rfl⟩
 ·refine ⟨ZgT.new _ _ _ _ _,⟨Zbq o (ZT o),?_,.inr ⟨[],by simp,by rw [List.append_nil]⟩⟩,fun j hj=>?_⟩
  ·show (w.orders.set i _)[i]?=_
   rw [List.getElem?_set_self hil]
  ·show (w.orders.set i _)[j]?=_
   rw [List.getElem?_set_ne (fun e=>hj e.symm)]
 ·refine ⟨ZgT.new _ _ _ _ _,⟨_,?_,.inr ⟨way,ZtG hf hN.wayR,rfl⟩⟩,fun j hj=>?_⟩
  ·show (w.orders.set i _)[i]?=_
   rw [List.getElem?_set_self hil]
  ·show (w.orders.set i _)[j]?=_
   rw [List.getElem?_set_ne (fun e=>hj e.symm)]
def tupS (w:Zd):Int × Int × Int × (List YLeg) × (List Int) × (List Zf) × (List Zc) × (List Ze) × (List Zk) × (List Int):=(w.network.change,w.now,w.made,w.network.legs,w.network.off,w.orders,w.bookings,w.closed,w.scans,w.skip)
theorem Zkc (skip:List Int):∀ (l:List Zk) (p:List Zk × Int),∃ L,(l.foldl (ZeI skip) p).1=p.1++L∧L.Sublist l
 | [],p=>⟨[],by simp,.slnil⟩
 | s::l,p=>by
  rw [List.foldl_cons]
  obtain ⟨L,h1,h2⟩:=Zkc skip l (ZeI skip p s)
  have h3:(ZeI skip p s).1=p.1++[s]∨(ZeI skip p s).1=p.1:=by
   unfold ZeI
   simp only
   by_cases hm:(skip.any fun y=>decide (y=(if p.2<1000000000 then p.2+1 else p.2)))=false∧p.1.length<200
   ·rw [if_pos hm]; exact .inl rfl
   ·rw [if_neg hm]; exact .inr rfl
  rcases h3 with h3 | h3
  ·exact ⟨s::L,by rw [h1,h3,List.append_assoc]; rfl,h2.cons_cons s⟩
  ·exact ⟨L,by rw [h1,h3],h2.cons s⟩
theorem ZwD (th:Int) {a b:List Zk} (h:a.Sublist b):(ofT th a).Sublist (ofT th b):=h.filter _
theorem Zm0 {w:Zd} {a:Int} (h:WOk w) (hs:Zfn w):Zfn (ZbF w a):=by
 obtain ⟨L,h1,h2⟩:=Zkc w.skip (ZiE w a) (w.scans,w.made)
 have hsc:(ZbF w a).scans=w.scans++L:=h1
 refine ⟨fun s hm=>?_,fun i o' ho'=>?_⟩
 ·show s.thing≤((w.orders.map (Zf2 w.network a)).length:Int)
  rw [List.length_map]
  rw [hsc] at hm
  rcases List.mem_append.1 hm with hm | hm
  ·exact hs.thing s hm
  ·have hm:=h2.subset hm
   unfold ZiE at hm
   rcases List.mem_append.1 hm with hm | hm
   ·obtain ⟨j,o,h1,h3⟩:=ZfK hm
    have:=(List.getElem?_eq_some_iff.1 h1).1
    rw [Zj5 _ _ s h3]; omega
   ·obtain ⟨j,o,h1,h3⟩:=ZfK hm
    have:=(List.getElem?_eq_some_iff.1 h1).1
    rw [List.length_map] at this
    rw [Zko _ _ s h3]; omega
 ·have ho2:(w.orders.map (Zf2 w.network a))[i]?=some o':=ho'
  rw [List.getElem?_map] at ho2
  obtain ⟨o,ho,rfl⟩:=Option.map_eq_some_iff.1 ho2
  have e1:=Zh7 (f:=Zca w.network a) Zj5 w.orders 0 i o ho
  have e2:=Zh7 (f:=Zfu w.network a) Zko (w.orders.map (ZS w.network a)) 0 i (ZS w.network a o) (by rw [List.getElem?_map,ho]; rfl)
  simp only [Nat.zero_add] at e1 e2
  have hL:=ZwD ((i+1:Nat):Int) h2
  unfold ZiE at hL
  rw [ZgN,e1,e2] at hL
  rw [hsc,ZgN]
  show (ofT _ w.scans++ofT _ L).Sublist (Zdr w.network i (Zf2 w.network a o))
  unfold Zf2
  rw [Zta,ZoR (h.way ho).gone.1,List.append_assoc]
  exact (hs.sub i o ho).append hL
theorem ZnB:∀ (k:Nat) (w:Zd) (u:Int),WOk w→Zfn w→u≤100000→Zfn (runV k w u)
 | 0,w,u,_,hs,_=>hs
 | k+1,w,u,h,hs,hu=>by
  unfold runV
  split
  ·exact hs
  ·rename_i hc
   obtain ⟨a,_,_⟩:=Zgi h (by omega)
   exact ZnB k _ u a (Zm0 h hs) hu
theorem ZmB {w:Zd} (h:WOk w) (hs:Zfn w) {u:Int} (hu:u≤100000):Zfn (advV w u):=by
 have hr:=ZnB (Zgc w) w u h hs hu
 exact ⟨hr.thing,hr.sub⟩
theorem Zrk {w:Zd} (hs:Zfn w) {from_ to_:ByteArray} {service weight due:Int} {way:List Ze} (ys:List Zc):Zfn (accV w (newO w from_ to_ service weight due way) ys):=by
 obtain ⟨L,h1,h2⟩:=Zkc w.skip [(⟨(w.orders.length:Int)+1,w.now,1,from_,⟨0,0⟩⟩:Zk)] (w.scans,w.made)
 have hsc:(accV w (newO w from_ to_ service weight due way) ys).scans=w.scans++L:=h1
 have hord:(accV w (newO w from_ to_ service weight due way) ys).orders=w.orders++[newO w from_ to_ service weight due way]:=rfl
 have hthing:=hs.thing
 have hnew:∀ i,Zdr w.network i (newO w from_ to_ service weight due way)=[⟨((i+1:Nat):Int),w.now,1,from_,⟨0,0⟩⟩]:=fun i=>by
  unfold Zdr newO
  simp
 refine ⟨fun s hm=>?_,fun i o ho=>?_⟩
 ·rw [hsc] at hm
  rw [hord,List.length_append]
  rcases List.mem_append.1 hm with hm | hm
  ·have:=hthing s hm; simp only [List.length_cons,List.length_nil]; omega
  ·obtain rfl:=List.mem_singleton.1 (h2.subset hm); simp
 ·rw [hsc,ZgN]
  show (_:List Zk).Sublist (Zdr w.network i o)
  rw [hord] at ho
  by_cases hi:i<w.orders.length
  ·rw [List.getElem?_append_left hi] at ho
   rw [Ziv (l:=L) (fun s hm=>by obtain rfl:=List.mem_singleton.1 (h2.subset hm); simp only; omega),List.append_nil]
   exact hs.sub i o ho
  ·have hie:i=w.orders.length:=by
    have:=(List.getElem?_eq_some_iff.1 ho).1
    simp only [List.length_append,List.length_cons,List.length_nil] at this; omega
   subst hie
   rw [List.getElem?_append_right (Nat.le_refl _),Nat.sub_self] at ho
   obtain rfl:newO w from_ to_ service weight due way=o:=by simpa using ho
   rw [hnew,Ziv (l:=w.scans) (fun s hm=>by have:=hthing s hm; omega),List.nil_append]
   refine List.Sublist.trans (List.filter_sublist) (h2.trans ?_)
   rw [show ((w.orders.length+1:Nat):Int)=(w.orders.length:Int)+1 by omega]
   exact List.Sublist.refl _
theorem ZnC {n:Za} {i:Nat} {o o':Zf} (h:Zgf n o o') (hg:0≤o.gone∧o.gone≤Zm o∧Zm o≤o.way.length):Zdr n i o'=Zdr n i o:=by
 rcases h with rfl | ⟨more,_,rfl⟩
 ·rfl
 have hk:(ZT o).length=(Zm o).toNat:=by unfold ZT; rw [List.length_take]; omega
 have e1:(ZT o++more).take o.gone.toNat=o.way.take o.gone.toNat:=by
  rw [List.take_append_of_le_length (by omega)]
  unfold ZT
  rw [List.take_take,Nat.min_eq_left (by omega)]
 have e2:o.state=2→(ZT o++more)[o.gone.toNat]?=o.way[o.gone.toNat]?:=fun h2=>by
  have hcv:Zm o=o.gone+1:=by unfold Zm; rw [if_pos h2]
  rw [List.getElem?_append_left (by omega)]
  unfold ZT
  rw [List.getElem?_take,if_pos (by omega)]
 unfold Zdr
 show (⟨((i+1:Nat):Int),o.at_,1,o.from_,⟨0,0⟩⟩:Zk)::(((ZT o++more).take o.gone.toNat).flatMap fun t=>[Zcc n i t,ZeU n i t])++(if o.state=2 then (((ZT o++more)[o.gone.toNat]?).map (Zcc n i)).toList else if o.state=3 then [⟨((i+1:Nat):Int),o.ended,4,o.to_,⟨0,0⟩⟩] else [])=_
 rw [e1]
 by_cases h2:o.state=2
 ·rw [if_pos h2,if_pos h2,e2 h2]
 ·rw [if_neg h2,if_neg h2]
theorem Zg4 {w x:Zd} (h:WOk w) (hs:Zfn w) (hn:x.network=w.network) (hsc:x.scans=w.scans) (hl:x.orders.length=w.orders.length) (hr:∀ (i:Nat) (o:Zf),w.orders[i]?=some o→∃ o',x.orders[i]?=some o'∧Zgf w.network o o'):Zfn x:=by
 obtain ⟨hP,_⟩:=Zcv h
 refine ⟨fun s hm=>by rw [hl]; rw [hsc] at hm; exact hs.thing s hm,fun i o' ho'=>?_⟩
 have hi:i<w.orders.length:=by rw [← hl]; exact (List.getElem?_eq_some_iff.1 ho').1
 have ho:=List.getElem?_eq_getElem hi
 obtain ⟨o2,e,hR⟩:=hr i _ ho
 rw [ho'] at e
 obtain rfl:=Option.some.inj e
 have hc:=ZcO hP ho
 rw [hn,hsc,ZnC hR ⟨(ZaV hP ho).ok.gone.1,hc.2.2.2,hc.2.1⟩]
 exact hs.sub i _ ho
def ZaF (w:Zd) (i:Int):Option Zd:=
 (getI w.orders i).bind fun y1=>
 (ZaS y1).bind fun y2=>
 cond (decide (0<y2))
 ((getI y1.way (w64 (y2-1))).bind fun y3=>
 (Zq w.network y3).bind fun y4=>
 (Zeo (w64 (w.now+1)) (w64 (y4+w.network.change))).bind fun y5=>
 (ZdK w.network w.bookings (w64 (i+1)) (w64 (w.now+1))).bind fun y6=>
 (ZaT w.network y1).bind fun y7=>
 (Zy w.network y6 w.closed y7 y1.to_ y5 y1.weight).bind fun y8=>
 (ZN w.network y6 (w64 (i+1)) y1.weight y8.1).bind fun y9=>
 (chk (slOk 0 y2 y1.way.length)).bind fun _=>
 (chk (ZQ ((([]:List Ze):List Ze).length+((subL y1.way 0 y2):List Ze).length) 16)).bind fun _=>
 (getI w.orders i).bind fun y10=>
 cond y9.2
 ((getI w.orders i).bind fun y11=>
 (chk (ZQ ((((([]:List Ze):List Ze)++(subL y1.way 0 y2)):List Ze).length+(y8.1:List Ze).length) 16)).bind fun _=>
 (getI w.orders i).bind fun y12=>
 some (⟨w.network,(w.orders.set (Int.toNat i) (⟨y10.from_,y10.to_,y10.service,y10.weight,y10.at_,y10.due,((((([]:List Ze):List Ze)++(subL y1.way 0 y2)):List Ze)++y8.1),y10.gone,y10.state,y10.place,y10.ended⟩:Zf)),y9.1,w.closed,w.now,w.scans,w.skip,w.made⟩:Zd))
 (some (⟨w.network,(w.orders.set (Int.toNat i) (⟨y10.from_,y10.to_,y10.service,y10.weight,y10.at_,y10.due,((([]:List Ze):List Ze)++(subL y1.way 0 y2)),y10.gone,y10.state,y10.place,y10.ended⟩:Zf)),y6,w.closed,w.now,w.scans,w.skip,w.made⟩:Zd)))
 ((ZdK w.network w.bookings (w64 (i+1)) (w64 (w.now+1))).bind fun y13=>
 (ZaT w.network y1).bind fun y14=>
 (Zy w.network y13 w.closed y14 y1.to_ (w64 (w.now+1)) y1.weight).bind fun y15=>
 (ZN w.network y13 (w64 (i+1)) y1.weight y15.1).bind fun y16=>
 (chk (slOk 0 y2 y1.way.length)).bind fun _=>
 (chk (ZQ ((([]:List Ze):List Ze).length+((subL y1.way 0 y2):List Ze).length) 16)).bind fun _=>
 (getI w.orders i).bind fun y17=>
 cond y16.2
 ((getI w.orders i).bind fun y18=>
 (chk (ZQ ((((([]:List Ze):List Ze)++(subL y1.way 0 y2)):List Ze).length+(y15.1:List Ze).length) 16)).bind fun _=>
 (getI w.orders i).bind fun y19=>
 some (⟨w.network,(w.orders.set (Int.toNat i) (⟨y17.from_,y17.to_,y17.service,y17.weight,y17.at_,y17.due,((((([]:List Ze):List Ze)++(subL y1.way 0 y2)):List Ze)++y15.1),y17.gone,y17.state,y17.place,y17.ended⟩:Zf)),y16.1,w.closed,w.now,w.scans,w.skip,w.made⟩:Zd))
 (some (⟨w.network,(w.orders.set (Int.toNat i) (⟨y17.from_,y17.to_,y17.service,y17.weight,y17.at_,y17.due,((([]:List Ze):List Ze)++(subL y1.way 0 y2)),y17.gone,y17.state,y17.place,y17.ended⟩:Zf)),y13,w.closed,w.now,w.scans,w.skip,w.made⟩:Zd)))
instance (w:Zd) (i:Int):CT Tryz.prog (ZaF w i):=⟨123,[.be 0 0 0,vi i],[some ⟨41,10,[[.ms 1,.ms 2,vi w.network.change,.ms 3,.ms 4,.ms 5,vi w.now,.ms 6,.ms 7,vi w.made]]⟩,some ⟨67,6,w.network.legs.map cLeg⟩,some ⟨3,1,w.network.off.map cInt⟩,some ⟨62,11,w.orders.map Zw⟩,some ⟨135,4,w.bookings.map Zg⟩,some ⟨55,2,w.closed.map Zs⟩,some ⟨130,6,w.scans.map ZF⟩,some ⟨3,1,w.skip.map cInt⟩],fun r=>.tu [],fun r=>[some ⟨41,10,[[.ms 1,.ms 2,vi r.network.change,.ms 3,.ms 8,.ms 5,vi r.now,.ms 6,.ms 7,vi r.made]]⟩,some ⟨67,6,r.network.legs.map cLeg⟩,some ⟨3,1,r.network.off.map cInt⟩,some ⟨62,11,r.orders.map Zw⟩,none,some ⟨55,2,r.closed.map Zs⟩,some ⟨130,6,r.scans.map ZF⟩,some ⟨3,1,r.skip.map cInt⟩,some ⟨135,4,r.bookings.map Zg⟩],fun H=>by replace H:=H0 H; unfold ZaF at H; exact Zh Tryz.func123 rfl Tryz.ntmps123 Tryz.results123 fun Q hQ hQn=>wk3⟩
theorem Zda {α β:Type} {x:Option α} {f:α→Option β} {r:β}:x.bind f=some r↔∃ a,x=some a∧f a=some r:=by
 cases x <;> simp
theorem ZrA {α:Type} {b:Bool} {x y:α} {P:α→Prop} (h:b=true→P x) (k:b=false→P y):P (cond b x y):=by
 cases b with
 | true=>exact h rfl
 | false=>exact k rfl
theorem Zs0 {n:Za} {l:List Zc} {closed:List Ze} {from_ to_:ByteArray} {at_ weight:Int} {x:List Ze} (h:Zy n l closed from_ to_ at_ weight=some (x,false)):x=[]:=by
 unfold Zy at h
 obtain ⟨y1,_,h⟩:=Zda.1 h
 obtain ⟨y2,_,h⟩:=Zda.1 h
 obtain ⟨y3,_,h⟩:=Zda.1 h
 obtain ⟨y4,_,h⟩:=Zda.1 h
 revert h
 have nil:(some (([]:List Ze),false))=some (x,false)→x=[]:=fun e=>by
  have:=congrArg Prod.fst (Option.some.inj e); exact this.symm
 refine ZrA (P:=fun z=>z=some (x,false)→x=[]) (fun _=>nil) fun _=>ZrA (P:=fun z=>z=some (x,false)→x=[]) (fun _=>nil) fun _ h=>?_
 obtain ⟨y5,_,h⟩:=Zda.1 h
 revert h
 refine ZrA (P:=fun z=>z=some (x,false)→x=[]) (fun _=>nil) fun _ h=>?_
 obtain ⟨y6,_,h⟩:=Zda.1 h
 obtain ⟨o0,_,h⟩:=Zda.1 h
 obtain ⟨o1,_,h⟩:=Zda.1 h
 have:=congrArg Prod.snd (Option.some.inj h)
 cases this
section
variable {w:Zd} {c:Nat→List Ze} (h:ZjJ w c) {i:Nat} {o:Zf} (ho:w.orders[i]?=some o)
include h ho
theorem ZoD {a b:Nat} {s t:Ze} (hab:a<b) (ha:o.way[a]?=some s) (hb:o.way[b]?=some t):Z7 w.network s≤ZM w.network t∧ZM w.network s<Z7 w.network s:=by
 have hn:=(Zav h.books).1
 have hO:=ZaV h ho
 obtain ⟨c0,c1⟩:=ZbB hn
 have hs:=hO.ok.trip s (List.mem_of_getElem? ha)
 obtain ⟨t1,t2,t3,t4,t5⟩:=ZI h.fit.net hn hs
 refine ⟨?_,by omega⟩
 have hal:=(List.getElem?_eq_some_iff.1 ha).1
 have hbl:=(List.getElem?_eq_some_iff.1 hb).1
 have h1:o.way[a+1]?=some o.way[a+1]:=List.getElem?_eq_getElem (by omega)
 have hn1:=((ZlW hO.chain ha).2 _ h1).1
 by_cases hb1:b=a+1
 ·subst hb1
  rw [hb] at h1
  rw [← Option.some.inj h1] at hn1
  omega
 ·have hlt:=Zig h.fit.net hn hO.chain
  have:=List.pairwise_iff_getElem.1 hlt (a+1) b (by omega) hbl (by omega)
  rw [(List.getElem?_eq_some_iff.1 hb).2] at this
  omega
theorem Zm6 {t:Ze} (ht:t∈ZT o):ZM w.network t≤w.now:=by
 have hO:=ZaV h ho
 obtain ⟨k0,k1,k2,k3⟩:=ZcO h ho
 obtain ⟨g0,g1⟩:=hO.ok.gone
 obtain ⟨a,ha,hae⟩:=List.getElem_of_mem ht
 have hao:o.way[a]?=some t:=by rw [← Zl6 h ho ha,← hae]; exact List.getElem?_eq_getElem ha
 have past:0<o.gone→a≤(o.gone-1).toNat→ZM w.network t≤w.now:=fun hg hle=>by
  have hgl:(o.gone-1).toNat<o.way.length:=by omega
  have hp:=hO.st.past _ hg (List.getElem?_eq_getElem hgl)
  by_cases hag:a=(o.gone-1).toNat
  ·subst hag
   rw [List.getElem?_eq_getElem hgl] at hao
   rw [Option.some.inj hao] at hp
   have hn:=(Zav h.books).1
   obtain ⟨t1,t2,t3,t4,t5⟩:=ZI h.fit.net hn (hO.ok.trip t (by rw [← Option.some.inj hao]; exact List.getElem_mem hgl))
   omega
  ·have:=ZoD h ho (a:=a) (b:=(o.gone-1).toNat) (by omega) hao (List.getElem?_eq_getElem hgl)
   have hn:=(Zav h.books).1
   obtain ⟨t1,t2,t3,t4,t5⟩:=ZI h.fit.net hn (hO.ok.trip _ (List.getElem_mem hgl))
   omega
 rcases hO.st.cases with ⟨s1,s2,s3,s4,s5⟩ | ⟨s1,s2,s3,t2,u1,u2,u3⟩ | ⟨s1,s2,s3,s4,s5,s6⟩
 ·have hcv:Zm o=o.gone:=by unfold Zm; rw [if_neg (by omega)]
  exact past (by omega) (by omega)
 ·have hcv:Zm o=o.gone+1:=by unfold Zm; rw [if_pos s1]
  by_cases hag:a=o.gone.toNat
  ·subst hag
   rw [u1] at hao
   rw [Option.some.inj hao] at u2
   exact u2
  ·exact past (by omega) (by omega)
 ·have hcv:Zm o=o.gone:=by unfold Zm; rw [if_neg (by omega)]
  exact past (by omega) (by omega)
theorem ZqO {t:Ze} (ht:t∈Zfl o):w.now<ZM w.network t:=by
 have hO:=ZaV h ho
 obtain ⟨k0,k1,k2,k3⟩:=ZcO h ho
 obtain ⟨g0,g1⟩:=hO.ok.gone
 obtain ⟨a,ha,hae⟩:=List.getElem_of_mem ht
 have hao:o.way[(Zm o).toNat+a]?=some t:=by
  have:=List.getElem?_eq_getElem ha
  rw [hae] at this
  unfold Zfl at this
  rw [List.getElem?_drop] at this
  exact this
 have hal:=(List.getElem?_eq_some_iff.1 hao).1
 rcases hO.st.cases with ⟨s1,s2,s3,s4,s5⟩ | ⟨s1,s2,s3,t2,u1,u2,u3⟩ | ⟨s1,s2,s3,s4,s5,s6⟩
 ·have hcv:Zm o=o.gone:=by unfold Zm; rw [if_neg (by omega)]
  have hgl:o.gone.toNat<o.way.length:=by omega
  have h5:=s5 _ (List.getElem?_eq_getElem hgl)
  by_cases h0:a=0
  ·subst h0
   rw [hcv,Nat.add_zero,List.getElem?_eq_getElem hgl] at hao
   rw [← Option.some.inj hao]; exact h5
  ·have:=ZoD h ho (a:=o.gone.toNat) (by omega) (List.getElem?_eq_getElem hgl) hao
   omega
 ·have hcv:Zm o=o.gone+1:=by unfold Zm; rw [if_pos s1]
  have:=ZoD h ho (a:=o.gone.toNat) (by omega) u1 hao
  omega
 ·have hcv:Zm o=o.gone:=by unfold Zm; rw [if_neg (by omega)]
  omega
theorem Zvj:ZdK w.network w.bookings ((i+1:Nat):Int) (w.now+1)=some (Zds w i o):=by
 have hn:=(Zav h.books).1
 have hbl:=(Zav h.books).2
 have hO:=ZaV h ho
 unfold ZdK
 rw [Zcu h.fit.net h.fit.bookings,h.books,Option.bind_some]
 have e:Zj (Zcn w.network w.bookings ((i+1:Nat):Int) (w.now+1) true) NN (0,[])=some (Zds w i o):=by
  refine ZbW (body:=Zcn w.network w.bookings ((i+1:Nat):Int) (w.now+1) true) (fun j:Nat=>((j:Int),Zgh ((i+1:Nat):Int) (Zfl o) (w.bookings.take j))) (n:=w.bookings.length) (fun j hj=>?_) ?_ NN (by unfold NN; omega)
  ·have hg:getI w.bookings (j:Int)=some w.bookings[j]:=by rw [Zn]; exact List.getElem?_eq_getElem hj
   have hw:w64 ((j:Int)+1)=((j+1:Nat):Int):=ZR hj (by omega)
   have hfl:(Zgh ((i+1:Nat):Int) (Zfl o) (w.bookings.take j)).length≤1000:=Nat.le_trans (List.length_filter_le _ _) (by rw [List.length_take]; omega)
   have ha:chk (ZQ ((Zgh ((i+1:Nat):Int) (Zfl o) (w.bookings.take j)).length+([w.bookings[j]]:List Zc).length) 32)=some ():=ZcC (by simp only [List.length_cons,List.length_nil]; omega) (by omega)
   have hs:Zgh ((i+1:Nat):Int) (Zfl o) (w.bookings.take (j+1))=Zgh ((i+1:Nat):Int) (Zfl o) (w.bookings.take j)++(if (decide (w.bookings[j].thing=((i+1:Nat):Int)) && Z2 (Zfl o) w.bookings[j].trip)=true then [] else [w.bookings[j]]):=by
    unfold Zgh
    rw [List.take_succ_eq_append_getElem hj,List.filter_append]
    simp only [List.filter_cons,List.filter_nil]
    cases decide (w.bookings[j].thing=((i+1:Nat):Int)) && Z2 (Zfl o) w.bookings[j].trip <;> rfl
   obtain ⟨t1,t2,t3,t4,t5⟩:=ZI h.fit.net hn (Zqd h.fit.net h.books (List.getElem_mem hj))
   unfold Zcn
   simp only [decide_eq_true (show (j:Int)<w.bookings.length by omega),cond_true,cond_false,Bool.not_true,hg,Option.bind_some,hw,ha,t1]
   rw [hs]
   by_cases hth:w.bookings[j].thing=((i+1:Nat):Int)
   ·rw [decide_eq_true hth]
    simp only [Bool.not_true,cond_false,Bool.true_and]
    obtain ⟨j',o',t',q1,q2,q3⟩:=Zle h (List.getElem_mem hj)
    have hjj:j'=i:=by
     have:=congrArg Zc.thing q3
     rw [hth] at this
     simp only at this
     omega
    subst hjj
    rw [ho] at q1
    obtain rfl:=Option.some.inj q1
    have htr:w.bookings[j].trip=t':=congrArg Zc.trip q3
    rw [htr]
    rw [Zgu h ho] at q2
    cases hc:Z2 (Zfl o) t' with
    | true=>
     have:=ZqO h ho (ZaX.1 hc)
     rw [decide_eq_false (by omega),if_pos rfl,List.append_nil]; rfl
    | false=>
     rcases List.mem_append.1 q2 with q2 | q2
     ·have:=Zm6 h ho q2
      rw [decide_eq_true (by omega),if_neg (by simp)]; rfl
     ·rw [ZaX.2 q2] at hc; cases hc
   ·rw [decide_eq_false hth]; rfl
  ·unfold Zcn Zds
   simp [List.take_length]
 rw [e]; rfl
theorem ZvN (hs:¬ o.state=3):∃ w',ZaF w (i:Int)=some w'∧Zie w i o w':=by
 have hn:=(Zav h.books).1
 have hbl:=(Zav h.books).2
 have hO:=ZaV h ho
 have hlen:=ZhI h ho
 obtain ⟨k0,k1,k2,k3⟩:=ZcO h ho
 obtain ⟨g0,g1⟩:=hO.ok.gone
 obtain ⟨c0,c1⟩:=ZbB hn
 have hil:=(List.getElem?_eq_some_iff.1 ho).1
 have hol:=h.olen
 have hnow:=h.now
 have hoi:getI w.orders (i:Int)=some o:=by rw [Zn]; exact ho
 have hcome:ZaS o=some (Zm o):=(Zhh hO.ok.gone (by omega)).1
 have hsub:subL o.way 0 (Zm o)=ZT o:=by unfold subL ZT; simp
 have hsl:chk (slOk 0 (Zm o) o.way.length)=some ():=Zjh (by unfold slOk; exact decide_eq_true ⟨Int.le_refl _,k0,k1⟩)
 have hw1:w64 (w.now+1)=w.now+1:=Zo (by omega)
 have hwi:w64 ((i:Int)+1)=((i+1:Nat):Int):=by rw [Zo (by omega)]; omega
 have hll:(Zds w i o).length≤120:=Nat.le_trans (Zhj _ _ _).length_le hbl
 have hlv:=ZjT h.fit.net h.books (Zhj ((i+1:Nat):Int) (Zfl o) w.bookings)
 have hkl:(ZT o).length≤120:=by rw [k2]; omega
 have hhere:ZaT w.network o=some (Zb8 w.network o):=by
  unfold ZaT Zb8
  rcases hO.st.cases with ⟨s1,_⟩ | ⟨s1,s2,s3,t2,u1,u2,u3⟩ | ⟨s1,_⟩
  ·rw [decide_eq_false (by omega),if_neg (by omega)]; rfl
  ·have hg:getI o.way o.gone=some t2:=by unfold getI; rw [if_pos g0]; exact u1
   obtain ⟨y,hy,_⟩:=Zah h.fit.net (hO.ok.trip t2 (List.mem_of_getElem? u1))
   rw [decide_eq_true s1,if_pos s1,cond_true,hg,u1,Option.bind_some,hy,Option.bind_some,Option.map_some,Option.getD_some]
   unfold ZL
   rw [hy]; rfl
  ·exact absurd s1 hs
 have ha0:chk (ZQ ((([]:List Ze)).length+(ZT o).length) 16)=some ():=ZcC (by simp only [List.length_nil]; omega) (by omega)
 obtain ⟨⟨way,b⟩,_,e2⟩:=Zf5 h.fit.net (l:=Zds w i o) (by omega) h.fit.closed (Zb8 w.network o) o.to_ (atR w.network w.now o) o.weight
 have tail:∀ a,a=atR w.network w.now o→∃ w',((Zy w.network (Zds w i o) w.closed (Zb8 w.network o) o.to_ a o.weight).bind fun y8=>
  (ZN w.network (Zds w i o) ((i+1:Nat):Int) o.weight y8.1).bind fun y9=>
  cond y9.2
  ((chk (ZQ ((([]++ZT o):List Ze).length+(y8.1:List Ze).length) 16)).bind fun _=>
  some (newW w i o (ZT o++y8.1) y9.1))
  (some (newW w i o (ZT o) (Zds w i o))))=some w'∧Zie w i o w':=by
  rintro a rfl
  rw [e2,Option.bind_some]
  cases b with
  | false=>
   obtain rfl:=Zs0 e2
   have hsp:=Zhe h.fit.net (show (Zds w i o).length≤1048000 by omega) ((i+1:Nat):Int) o.weight (way:=[]) (d:=Zds w i o) (by simp [ZdR]) (Zpa hlv)
   rw [if_pos ⟨hlv,by simp,hlv⟩] at hsp
   have ha:chk (ZQ ((([]++ZT o):List Ze).length+([]:List Ze).length) 16)=some ():=ZcC (by simp only [List.nil_append,List.length_nil]; omega) (by omega)
   exact ⟨_,by rw [hsp]; simp only [Option.bind_some,cond_true,ha,List.append_nil],.inl ⟨.inl ⟨[],e2⟩,rfl⟩⟩
  | true=>
  have hR:=ZfW h.fit.net (show (Zds w i o).length≤1048576 by omega) h.fit.closed e2
  have hwl:=hR.len
  have hnl:(ZdR ((i+1:Nat):Int) o.weight way).length=way.length:=by unfold ZdR; rw [List.length_map]
  obtain ⟨d,d1,d2⟩:=Zp1 (Zds w i o++ZdR ((i+1:Nat):Int) o.weight way) (by rw [List.length_append,hnl]; omega)
  have hsp:=Zhe h.fit.net (show (Zds w i o).length≤1048000 by omega) ((i+1:Nat):Int) o.weight d1 d2
  by_cases hbd:ZZ w.network d=true
  ·rw [if_pos ⟨hlv,hwl,hbd⟩] at hsp
   have ha:chk (ZQ ((([]++ZT o):List Ze).length+way.length) 16)=some ():=ZcC (by simp only [List.nil_append]; omega) (by omega)
   exact ⟨_,by rw [hsp]; simp only [Option.bind_some,cond_true,ha],.inr ⟨way,d,⟨e2,hsp,hR,d1,hbd⟩,rfl⟩⟩
  ·rw [if_neg (fun hx=>hbd hx.2.2)] at hsp
   exact ⟨_,by rw [hsp]; rfl,.inl ⟨.inr ⟨way,e2,hsp⟩,rfl⟩⟩
 unfold ZaF
 rw [hoi,Option.bind_some,hcome,Option.bind_some]
 by_cases h0:0<Zm o
 ·have hkt:(Zm o).toNat-1<o.way.length:=by omega
  have hlast:(ZT o).getLast?=some o.way[(Zm o).toNat-1]:=by
   unfold ZT
   rw [ZdV (by omega) (by omega)]
   exact List.getElem?_eq_getElem hkt
  have hgk:getI o.way (w64 (Zm o-1))=some o.way[(Zm o).toNat-1]:=by
   rw [Zo (by omega)]
   unfold getI
   rw [if_pos (by omega),show (Zm o-1).toNat=(Zm o).toNat-1 by omega]
   exact List.getElem?_eq_getElem hkt
  obtain ⟨t1,t2,t3,t4,t5⟩:=ZI h.fit.net hn (hO.ok.trip _ (List.getElem_mem hkt))
  have hwe:w64 (Z7 w.network o.way[(Zm o).toNat-1]+w.network.change)=Z7 w.network o.way[(Zm o).toNat-1]+w.network.change:=Zo (by omega)
  have hmax:Zeo (w.now+1) (Z7 w.network o.way[(Zm o).toNat-1]+w.network.change)=some (atR w.network w.now o):=by
   unfold Zeo atR
   rw [hlast]
   simp only
   by_cases hm:w.now+1<Z7 w.network o.way[(Zm o).toNat-1]+w.network.change
   ·rw [decide_eq_true hm,if_pos hm]; rfl
   ·rw [decide_eq_false hm,if_neg hm]; rfl
  rw [decide_eq_true h0,cond_true,hgk]
  simp only [Option.bind_some,t2,hw1,hwe,hmax,hwi,Zvj h ho,hhere,hsl,hsub,ha0,hoi]
  obtain ⟨w',q1,q2⟩:=tail _ rfl
  refine ⟨w',?_,q2⟩
  rw [← q1]
  simp only [newW,Zbq,Int.toNat_natCast,List.nil_append]
 ·have hlast:(ZT o).getLast?=none:=by
   unfold ZT
   rw [show (Zm o).toNat=0 by omega]; rfl
  have hate:w.now+1=atR w.network w.now o:=by unfold atR; rw [hlast]
  rw [decide_eq_false h0,cond_false]
  simp only [Option.bind_some,hw1,hwi,Zvj h ho,hhere,hsl,hsub,ha0,hoi]
  obtain ⟨w',q1,q2⟩:=tail _ hate
  refine ⟨w',?_,q2⟩
  rw [← q1]
  simp only [newW,Zbq,Int.toNat_natCast,List.nil_append]
omit h ho in
theorem ZsY {a b:Zd} (h1:Zie w i o a) (h2:Zie w i o b):a=b:=by
 have no:∀ {way bs},ZvH w i o→Zu8 w i o way bs→False:=fun {way bs} hx hy=>by
  rcases hx with ⟨x,hx⟩ | ⟨x,hx,hb⟩
  ·rw [hy.room] at hx
   have:=congrArg Prod.snd (Option.some.inj hx); cases this
  ·rw [hy.room] at hx
   have hxx:way=x:=congrArg Prod.fst (Option.some.inj hx)
   rw [← hxx,hy.book] at hb
   have:=congrArg Prod.snd (Option.some.inj hb); cases this
 rcases h1 with ⟨n1,rfl⟩ | ⟨w1,b1,n1,rfl⟩ <;> rcases h2 with ⟨n2,rfl⟩ | ⟨w2,b2,n2,rfl⟩
 ·rfl
 ·exact (no n1 n2).elim
 ·exact (no n2 n1).elim
 ·have e:=n2.room
  rw [n1.room] at e
  have hw:w1=w2:=congrArg Prod.fst (Option.some.inj e)
  subst hw
  have e2:=n2.book
  rw [n1.book] at e2
  have hb:b1=b2:=congrArg Prod.fst (Option.some.inj e2)
  subst hb
  rfl
theorem Zk6 (hs:¬ o.state=3) (hne:¬ Zb8 w.network o=o.to_):∃ w',ZaF w (i:Int)=some w'∧Zbb w ((i+1:Nat):Int)=some w'∧Zie w i o w'∧ZjJ w' (fun j=>if j=i then w.closed else c j):=by
 obtain ⟨a,a1,a2,a3⟩:=ZqN h ho hs hne
 obtain ⟨b,b1,b2⟩:=ZvN h ho hs
 obtain rfl:=ZsY b2 a2
 exact ⟨b,b1,a1,a2,a3⟩
end
def ZaC (w:Zd) (from1_:ByteArray) (to_:ByteArray) (service:Int) (weight:Int):Option (Zd × Int × Bool):=
 (Zbf w).bind fun y1=>
 (Zbs w).bind fun y2=>
 cond (!y2)
 (some (y1,0,false))
 (cond (decide (30≤(w.orders.length:Int)))
 (some (y1,0,false))
 (cond (decide (from1_=to_))
 (some (y1,0,false))
 ((ZJ service 1 3).bind fun y3=>
 cond (!y3)
 (some (y1,0,false))
 ((ZJ weight 1 30000).bind fun y4=>
 cond (!y4)
 (some (y1,0,false))
 ((Zy w.network w.bookings w.closed from1_ to_ (w64 (w.now+1)) weight).bind fun y5=>
 (ZN w.network w.bookings (w64 ((w.orders.length:Int)+1)) weight y5.1).bind fun y6=>
 cond (!y5.2)
 (some (y1,0,false))
 (cond (!y6.2)
 (some (y1,0,false))
 ((Zc8 w.network service from1_ to_ (w64 (w.now+1))).bind fun y7=>
 (frz (.un::vs from1_::(U 3 (.be 0 0 0::(U 4 (.be 1 0 0::.un::.un::.be 2 0 0::.un::.un::vi (w64 ((w.orders.length:Int)+1))::.un::.un::.be 10 0 0::(U 99 [])))))) [some ⟨41,10,[[.sl (w.network.legs.map cLeg),.sl (w.network.off.map cInt),vi w.network.change,.sl (w.orders.map Zw),.sl (w.bookings.map Zg),.sl (w.closed.map Zs),vi w.now,.sl (w.scans.map ZF),.sl (w.skip.map cInt),vi w.made]]⟩,some ⟨41,10,[[.v (.slice none 0 0),.v (.slice none 0 0),vi 0,.v (.slice none 0 0),.v (.slice none 0 0),.v (.slice none 0 0),vi 0,.v (.slice none 0 0),.v (.slice none 0 0),vi 0]]⟩,some ⟨41,10,[[.ms 3,.ms 4,vi y1.network.change,.ms 5,.ms 6,.ms 7,vi y1.now,.ms 8,.ms 9,vi y1.made]]⟩,some ⟨67,6,y1.network.legs.map cLeg⟩,some ⟨3,1,y1.network.off.map cInt⟩,some ⟨62,11,y1.orders.map Zw⟩,some ⟨135,4,y6.1.map Zg⟩,some ⟨55,2,y1.closed.map Zs⟩,some ⟨130,6,y1.scans.map ZF⟩,some ⟨3,1,y1.skip.map cInt⟩,some ⟨62,11,[[vs from1_,vs to_,vi service,vi weight,vi w.now,vi y7,.sl (y5.1.map Zs),vi 0,vi 1,vs from1_,vi 0]]⟩]).bind fun _=>
 (chk (ZQ ((y1.orders:List Zf).length+([(⟨from1_,to_,service,weight,w.now,y7,y5.1,0,1,from1_,0⟩:Zf)]:List Zf).length) 128)).bind fun _=>
 (rhoM [2,3,4,12,6,7,8,9]).bind fun _=>
 (Zbo (⟨y1.network,((y1.orders:List Zf)++[(⟨from1_,to_,service,weight,w.now,y7,y5.1,0,1,from1_,0⟩:Zf)]),y6.1,y1.closed,y1.now,y1.scans,y1.skip,y1.made⟩:Zd) (⟨(w64 ((w.orders.length:Int)+1)),w.now,1,from1_,(⟨0,0⟩:Ze)⟩:Zk)).bind fun y8=>
 some (y8,(w64 ((w.orders.length:Int)+1)),true))))))))
instance (w:Zd) (from1_:ByteArray) (to_:ByteArray) (service:Int) (weight:Int):CT Tryz.prog (ZaC w from1_ to_ service weight):=⟨46,[.ag (Zbt w),vs from1_,vs to_,vi service,vi weight],[],fun r=>.tu [.ag [.ms 0,.ms 1,vi r.1.network.change,.ms 2,.ms 3,.ms 4,vi r.1.now,.ms 5,.ms 6,vi r.1.made],vi r.2.1,vb r.2.2],fun r=>[some ⟨67,6,r.1.network.legs.map cLeg⟩,some ⟨3,1,r.1.network.off.map cInt⟩,some ⟨62,11,r.1.orders.map Zw⟩,some ⟨135,4,r.1.bookings.map Zg⟩,some ⟨55,2,r.1.closed.map Zs⟩,some ⟨130,6,r.1.scans.map ZF⟩,some ⟨3,1,r.1.skip.map cInt⟩],fun H=>by replace H:=H0 H; unfold ZaC at H; exact Zh Tryz.func46 rfl Tryz.ntmps46 Tryz.results46 fun Q hQ hQn=>wk3⟩
section
variable {n:Za} (hf:Z0 n) (hn:Zi n=some true)
include hf hn
theorem Zyu {leg z:Int} {y:YLeg} (hy:getI n.legs leg=some y):ZcF n leg z=Z1 n [] [] leg z 0:=by
 have hlo:=(Zkv hf hn y (ZgX hy)).room
 have hw:w64 (y.room-0)=y.room:=by rw [Zo (by omega)]; omega
 have hb:Zc9 n leg z=ZV n [] [] leg z 0:=by
  funext s
  unfold Zc9 ZV
  cases decide (s≤60) with
  | false=>rfl
  | true=>
  cases ZX n leg s with
  | none=>rfl
  | some b=>
  cases b with
  | false=>rfl
  | true=>
  simp only [cond_true,Option.bind_some]
  cases Zp n ⟨leg,s⟩ with
  | none=>rfl
  | some v=>
  simp only [Option.bind_some]
  cases decide (z≤v) with
  | false=>rfl
  | true=>
  have hc:Zaq [] (⟨leg,s⟩:Ze)=some false:=by rw [Zcs,Zb1 (by simp)]; rfl
  simp only [cond_true,hc,Option.bind_some,Bool.not_false,hy,Zl8,hw,decide_eq_true hlo.1]
 unfold ZcF Z1
 rw [hb]
theorem Zw5 (best:List Int) (f:Int):Ze9 n (Zb n) best f=Zau n [] [] 0 (Zb n) best f:=by
 have hb:ZeR n (Zb n) best f=ZaB n [] [] 0 (Zb n) best f:=by
  funext s
  unfold ZeR ZaB
  cases decide (s.1<(n.legs.length:Int)) with
  | false=>simp only [cond_false]
  | true=>
  simp only [cond_true]
  cases hy:getI n.legs s.1 with
  | none=>simp only [Option.bind_none]
  | some y=>simp only [Option.bind_some,Zyu hf hn hy]
 unfold Ze9 Zau
 rw [hb]
theorem Zqc {from_:ByteArray} {at_:Int} (hfr:0≤idxV (Zb n) from_) (hat:at_≤100000) {k:Nat} (hk:k≤(Zb n).length):ZcT n from_ at_ (k:Int)=some (Z6 n [] [] 0 (idxV (Zb n) from_) at_ k):=by
 have hp:=plen hf
 obtain ⟨r0,e0,_⟩:=Zka hf (idxV (Zb n) from_) at_
 have h0:Z6 n [] [] 0 (idxV (Zb n) from_) at_ 0=r0:=by unfold Z6; rw [e0]; rfl
 unfold ZcT
 rw [(Zac hf).2]
 simp only [Option.bind_some,Zgk hf,hn,Bool.not_true,cond_false,decide_eq_false (show ¬ idxV (Zb n) from_<0 by omega),decide_eq_false (show ¬ 100000<at_ by omega),decide_eq_false (show ¬ (k:Int)<0 by omega),e0]
 have e:Zj (Za6 n (k:Int) (Zb n) (idxV (Zb n) from_)) NN (0,Z6 n [] [] 0 (idxV (Zb n) from_) at_ 0)=some (Z6 n [] [] 0 (idxV (Zb n) from_) at_ k):=by
  refine ZbW (body:=Za6 n (k:Int) (Zb n) (idxV (Zb n) from_)) (fun i:Nat=>((i:Int),Z6 n [] [] 0 (idxV (Zb n) from_) at_ i)) (n:=k) (o:=Z6 n [] [] 0 (idxV (Zb n) from_) at_ k) (fun i hi=>?_) ?_ NN (by unfold NN; omega)
  ·unfold Za6
   rw [decide_eq_true (show (i:Int)<(k:Int) by omega),decide_eq_true (show (i:Int)<((Zb n).length:Int) by omega),cond_true,cond_true,Zw5 hf hn,(ZgF hf (l:=[]) (by simp) (closed:=[]) (by simp) 0 _ at_ i).1,Option.bind_some,Zo (by omega)]
   rfl
  ·unfold Za6
   simp
 rw [← h0,e]; rfl
theorem Zqi {from_ to_:ByteArray} {at_:Int} (hfr:0≤idxV (Zb n) from_) (hat:at_≤100000) (hto:0≤idxV (Zb n) to_) {e:Int} (he:getI (Z6 n [] [] 0 (idxV (Zb n) from_) at_ (Zb n).length) (idxV (Zb n) to_)=some e):ZcN n from_ to_ at_=some e:=by
 have hlt:=(Ze2 (Zb n) to_).2
 have hbl:=Zfb hf (l:=[]) (by simp) (closed:=[]) (by simp) 0 (idxV (Zb n) from_) at_ (Zb n).length
 unfold ZcN
 rw [(Zac hf).2]
 simp only [Option.bind_some,Zgk hf,Zqc hf hn hfr hat (Nat.le_refl _),decide_eq_false (show ¬ idxV (Zb n) to_<0 by omega),decide_eq_false (show ¬ (((Z6 n [] [] 0 (idxV (Zb n) from_) at_ (Zb n).length).length:Int)=0) by rw [hbl]; omega),cond_false,he]
omit hf hn in
theorem Znt {service e at_:Int} {from_ to_:ByteArray} (he:ZcN n from_ to_ at_=some e) (h0:0≤e) (h1:e≤100000) (hs:1≤service∧service≤3):Zc8 n service from_ to_ at_=some (dueV e service):=by
 unfold Zc8
 rw [he]
 simp only [Option.bind_some,ZbH]
 have d1:e.tdiv 1440=e / 1440:=Int.tdiv_eq_ediv_of_nonneg h0
 have d2:e.tmod 1440=e % 1440:=Int.tmod_eq_emod_of_nonneg h0
 have hb:0≤e / 1440∧e / 1440≤69:=by omega
 have hwr:IntKind.i64.wrap (e / 1440)=e / 1440:=Zo (by omega)
 have hk:∃ k:Int,0≤k∧k≤4∧w64 (w64 (service-1)*w64 (service-1))=k∧k=(if service=1 then 0 else if service=2 then 1 else 4):=by
  rcases (show service=1∨service=2∨service=3 by omega) with rfl | rfl | rfl
  ·exact ⟨0,by omega,by omega,by decide,by simp⟩
  ·exact ⟨1,by omega,by omega,by decide,by simp⟩
  ·exact ⟨4,by omega,by omega,by decide,by simp⟩
 obtain ⟨k,k0,k1,k2,k3⟩:=hk
 rw [d1,d2,hwr,decide_eq_true hs.1,decide_eq_true hs.2,decide_eq_false (show ¬ e<0 by omega),k2]
 simp only [cond_false,Bool.and_self,Bool.not_true]
 unfold dueV
 rw [← k3]
 by_cases hd:1080<e % 1440
 ·rw [decide_eq_true hd,if_pos hd,cond_true]
  rw [Zo (n:=e / 1440+1) (by omega),Zo (n:=e / 1440+1+k) (by omega),Zo (n:=(e / 1440+1+k)*1440) (by omega),Zo (by omega)]
 ·rw [decide_eq_false hd,if_neg hd,cond_false]
  rw [Zo (n:=e / 1440+k) (by omega),Zo (n:=(e / 1440+k)*1440) (by omega),Zo (by omega),Int.add_zero]
theorem Zjf {l:List Zc} (hl:l.length≤1048576) {closed:List Ze} (hc:closed.length≤1048576) {from_ to_:ByteArray} {at_ weight service:Int} (hs:1≤service∧service≤3) {way:List Ze} (h:Zy n l closed from_ to_ at_ weight=some (way,true)):
 ∃ d,ZaO n service from_ to_ at_=some d∧Zc8 n service from_ to_ at_=some d∧0≤d∧d≤200000:=by
 obtain ⟨d,d1,d2,d3⟩:=ZoL hf hn hl hc hs h
 have hR:=ZfW hf hl hc h
 obtain ⟨q1,q2,q3,q4⟩:=hR.hC
 have hlt:=(Ze2 (Zb n) to_).2
 have hbl:=Zfb hf (l:=[]) (by simp) (closed:=[]) (by simp) 0 (idxV (Zb n) from_) at_ (Zb n).length
 obtain ⟨e,he,_⟩:=Zew (xs:=Z6 n [] [] 0 (idxV (Zb n) from_) at_ (Zb n).length) (i:=idxV (Zb n) to_) ⟨hR.hto,by rw [hbl]; exact hlt⟩
 have e1:=ZiP hf hn q2 q3 hR.hto he
 have e2:=Zqi hf hn q2 q3 hR.hto he
 have hpos:0≤e∧e≤100000:=by
  unfold ZaO at d1
  rw [e1,Option.bind_some] at d1
  obtain ⟨v,hv,h0⟩:∃ v,LeAt (Z6 n [] [] 0 (idxV (Zb n) from_) at_ (Zb n).length) (idxV (Zb n) to_) v∧v≤100000:=Zlb hf hn hl hc h
  obtain ⟨v',v1,v2,v3⟩:=hv
  rw [he] at v1
  obtain rfl:=Option.some.inj v1
  exact ⟨v2,by omega⟩
 refine ⟨dueV e service,ZlD e1 hpos.1 hpos.2 hs,Znt e2 hpos.1 hpos.2 hs,?_⟩
 have:=Zvk (service:=service) hpos.1 hpos.2
 omega
end
theorem Zn7 {w:Zd} (h:WOk w) (from_ to_:ByteArray) (service weight:Int):
 ∃ r,Zcz w from_ to_ service weight=some r∧ZaC w from_ to_ service weight=some r∧(r=(w,0,false)∧Zrc w from_ to_ service weight∨∃ way ys due,ZxC w from_ to_ service weight r way ys due):=by
 have hf:=h.fit
 obtain ⟨p1,p2,p3,p4,p5,p6,p7⟩:=h.parts
 obtain ⟨r,e,hr⟩:=ZtK h from_ to_ service weight fun way hw hs=>by
  obtain ⟨d,d1,_,d2,d3⟩:=Zjf hf.net h.net hf.bookings hf.closed hs hw
  exact ⟨d,d1,d2,d3⟩
 refine ⟨r,e,?_,hr⟩
 have hw1:w64 (w.now+1)=w.now+1:=Zo (by omega)
 have hw2:w64 ((w.orders.length:Int)+1)=(w.orders.length:Int)+1:=Zo (by omega)
 have start:∀ X,(∀ (q:Option (Zd × Int × Bool)),q=some r→True)→X=some r→X=some r:=fun _ _ e=>e
 unfold ZaC
 rw [Zj4 hf,Option.bind_some,Zge hf,h.ok,Option.bind_some,hw1,hw2]
 simp only [Bool.not_true,cond_false,ZbH,Option.bind_some]
 -- what follows where all is well but the way
 obtain ⟨⟨way,b⟩,e1,e2⟩:=Zf5 hf.net hf.bookings hf.closed from_ to_ (w.now+1) weight
 have hbt:=ZtS hf.net (show w.bookings.length≤1048000 by omega) ((w.orders.length:Int)+1) weight way
 obtain ⟨y6,e6,_⟩:=hbt
 rw [e2]
 simp only [Option.bind_some]
 rw [e6]
 simp only [Option.bind_some]
 rcases hr with ⟨rfl,hR⟩ | ⟨way',ys,due,hT⟩
 ·by_cases c1:30≤w.orders.length
  ·rw [decide_eq_true (show (30:Int)≤(w.orders.length:Int) by omega)]; rfl
  rw [decide_eq_false (show ¬ (30:Int)≤(w.orders.length:Int) by omega),cond_false]
  by_cases c2:from_=to_
  ·rw [decide_eq_true c2]; rfl
  rw [decide_eq_false c2,cond_false]
  by_cases c3:1≤service∧service≤3
  case neg=>
   have:(decide (1≤service) && decide (service≤3))=false:=by rw [← Bool.decide_and]; exact decide_eq_false c3
   rw [this]; rfl
  rw [decide_eq_true c3.1,decide_eq_true c3.2]
  by_cases c4:1≤weight∧weight≤30000
  case neg=>
   have:(decide (1≤weight) && decide (weight≤30000))=false:=by rw [← Bool.decide_and]; exact decide_eq_false c4
   rw [this]; rfl
  rw [decide_eq_true c4.1,decide_eq_true c4.2]
  simp only [Bool.and_self,Bool.not_true,cond_false]
  rcases hR with hx | hx | hx | hx | ⟨x,hx⟩ | ⟨wy,l,hx,hy⟩
  ·exact absurd hx c1
  ·exact absurd hx c2
  ·exact absurd c3 hx
  ·exact absurd c4 hx
  ·rw [e2] at hx
   have hb:b=false:=congrArg Prod.snd (Option.some.inj hx)
   rw [hb]; rfl
  ·rw [e2] at hx
   have hb:way=wy:=congrArg Prod.fst (Option.some.inj hx)
   rw [← hb,e6] at hy
   have hb2:y6.2=false:=congrArg Prod.snd (Option.some.inj hy)
   rw [hb2]
   cases b <;> rfl
 ·have hrm:=hT.room
  rw [e2] at hrm
  have hb:b=true:=congrArg Prod.snd (Option.some.inj hrm)
  have hway:way=way':=congrArg Prod.fst (Option.some.inj hrm)
  subst hway
  subst hb
  have hbk:=hT.book
  rw [e6] at hbk
  obtain rfl:=Option.some.inj hbk
  have hok:=hT.ok
  obtain ⟨k1,k2,_⟩:=hok.parts
  have k2':(w.orders++[newO w from_ to_ service weight due way]).length≤30:=k2
  rw [List.length_append] at k2'
  simp only [List.length_cons,List.length_nil] at k2'
  have hv:=Zd8 hok.ok (i:=w.orders.length) (o:=newO w from_ to_ service weight due way) (by
   show (w.orders++[newO w from_ to_ service weight due way])[w.orders.length]?=_
   rw [List.getElem?_append_right (Nat.le_refl _),Nat.sub_self]; rfl)
  unfold ZcY at hv
  simp only [Bool.and_eq_true,Bool.not_eq_true',decide_eq_true_iff,decide_eq_false_iff_not] at hv
  have c3:1≤service∧service≤3:=hv.1.1.1.1.1.1.1.1.2
  have c4:1≤weight∧weight≤30000:=hv.1.1.1.1.1.1.1.2
  obtain ⟨d,d1,d2,_⟩:=Zjf hf.net h.net hf.bookings hf.closed c3 hT.room
  have hpr:=hT.prom
  rw [d1] at hpr
  obtain rfl:=Option.some.inj hpr
  have hR:=ZfW hf.net hf.bookings hf.closed hT.room
  have hlen:=hR.len
  have ha:chk (ZQ (w.orders.length+([newO w from_ to_ service weight d way]:List Zf).length) 128)=some ():=ZcC (by simp only [List.length_cons,List.length_nil]; omega) (by omega)
  have hsi:=ZpU (w:=⟨w.network,w.orders++[newO w from_ to_ service weight d way],ys,w.closed,w.now,w.scans,w.skip,w.made⟩) ⟨by simp only; omega,p4,by simp only; omega⟩ ⟨(w.orders.length:Int)+1,w.now,1,from_,⟨0,0⟩⟩
  rw [decide_eq_false (show ¬ (30:Int)≤(w.orders.length:Int) by omega),cond_false,decide_eq_false hT.ne,cond_false,decide_eq_true c3.1,decide_eq_true c3.2,decide_eq_true c4.1,decide_eq_true c4.2]
  simp only [Bool.and_self,Bool.not_true,cond_false,d2,Option.bind_some,frz,rhoM]
  unfold newO at ha hsi
  rw [ha]
  simp only [Option.bind_some]
  rw [hsi,hT.res]
  rfl
def Zbx (t:Ze) (y1:Zd) (s0:Int × Int × Int × Int × (List YLeg) × (List Int) × (List Zf) × (List Zc) × (List Ze) × (List Zk) × (List Int)):Option ((Int × Int × Int × Int × (List YLeg) × (List Int) × (List Zf) × (List Zc) × (List Ze) × (List Zk) × (List Int)) ⊕ (Int × Int × Int × (List YLeg) × (List Int) × (List Zf) × (List Zc) × (List Ze) × (List Zk) × (List Int))):=
 cond (decide (s0.1<(y1.orders.length:Int)))
 ((getI s0.2.2.2.2.2.2.1 s0.1).bind fun y6=>
 (ZbY y6).bind fun y7=>
 (chk (slOk y7 (y6.way.length:Int) y6.way.length)).bind fun _=>
 (ZaQ (subL y6.way y7 (y6.way.length:Int)) t).bind fun y8=>
 cond y8
 ((rhoM [2,3,4,5,6,7,8,9]).bind fun _=>
 (Zbb (⟨(⟨s0.2.2.2.2.1,s0.2.2.2.2.2.1,s0.2.1⟩:Za),s0.2.2.2.2.2.2.1,s0.2.2.2.2.2.2.2.1,s0.2.2.2.2.2.2.2.2.1,s0.2.2.1,s0.2.2.2.2.2.2.2.2.2.1,s0.2.2.2.2.2.2.2.2.2.2,s0.2.2.2.1⟩:Zd) (w64 (s0.1+1))).bind fun y9=>
 some (.inl ((w64 (s0.1+1)),y9.network.change,y9.now,y9.made,y9.network.legs,y9.network.off,y9.orders,y9.bookings,y9.closed,y9.scans,y9.skip)))
 (some (.inl ((w64 (s0.1+1)),s0.2.1,s0.2.2.1,s0.2.2.2.1,s0.2.2.2.2.1,s0.2.2.2.2.2.1,s0.2.2.2.2.2.2.1,s0.2.2.2.2.2.2.2.1,s0.2.2.2.2.2.2.2.2.1,s0.2.2.2.2.2.2.2.2.2.1,s0.2.2.2.2.2.2.2.2.2.2))))
 (some (.inr (s0.2.1,s0.2.2.1,s0.2.2.2.1,s0.2.2.2.2.1,s0.2.2.2.2.2.1,s0.2.2.2.2.2.2.1,s0.2.2.2.2.2.2.2.1,s0.2.2.2.2.2.2.2.2.1,s0.2.2.2.2.2.2.2.2.2.1,s0.2.2.2.2.2.2.2.2.2.2)))
instance (t:Ze) (y1:Zd):ZP (Zbx t y1):=⟨fun s0=>(U 3 (.be 0 0 0::.be 1 0 0::.un::.be 2 0 0::(U 44 (vi (y1.orders.length:Int)::vi s0.1::(U 19 []))))),fun s0=>[some ⟨55,2,[[vi t.leg,vi t.day]]⟩,some ⟨41,10,[[.v (.slice none 0 0),.v (.slice none 0 0),vi 0,.v (.slice none 0 0),.v (.slice none 0 0),.v (.slice none 0 0),vi 0,.v (.slice none 0 0),.v (.slice none 0 0),vi 0]]⟩,some ⟨41,10,[[.ms 3,.ms 4,vi s0.2.1,.ms 5,.ms 6,.ms 7,vi s0.2.2.1,.ms 8,.ms 9,vi s0.2.2.2.1]]⟩,some ⟨67,6,s0.2.2.2.2.1.map cLeg⟩,some ⟨3,1,s0.2.2.2.2.2.1.map cInt⟩,some ⟨62,11,s0.2.2.2.2.2.2.1.map Zw⟩,some ⟨135,4,s0.2.2.2.2.2.2.2.1.map Zg⟩,some ⟨55,2,s0.2.2.2.2.2.2.2.2.1.map Zs⟩,some ⟨130,6,s0.2.2.2.2.2.2.2.2.2.1.map ZF⟩,some ⟨3,1,s0.2.2.2.2.2.2.2.2.2.2.map cInt⟩]⟩
def Zbw (w:Zd) (t:Ze):Option (Zd × Bool):=
 (ZaZ w).bind fun y1=>
 (Za8 w).bind fun y2=>
 cond (!y2)
 (some (y1,false))
 ((Zad w.network t).bind fun y3=>
 cond (!y3)
 (some (y1,false))
 ((ZH w.network t).bind fun y4=>
 cond (decide (y4≤w.now))
 (some (y1,false))
 ((ZaQ w.closed t).bind fun y5=>
 cond y5
 (some (y1,false))
 (cond (decide (20≤(w.closed.length:Int)))
 (some (y1,false))
 ((chk (ZQ ((y1.closed:List Ze).length+([t]:List Ze).length) 16)).bind fun _=>
 (Zj (Zbx t y1) NN (0,y1.network.change,y1.now,y1.made,y1.network.legs,y1.network.off,y1.orders,y1.bookings,((y1.closed:List Ze)++[t]),y1.scans,y1.skip)).bind (fun o0=>
 some ((⟨(⟨o0.2.2.2.1,o0.2.2.2.2.1,o0.1⟩:Za),o0.2.2.2.2.2.1,o0.2.2.2.2.2.2.1,o0.2.2.2.2.2.2.2.1,o0.2.1,o0.2.2.2.2.2.2.2.2.1,o0.2.2.2.2.2.2.2.2.2,o0.2.2.1⟩:Zd),true)))))))
instance (w:Zd) (t:Ze):CT Tryz.prog (Zbw w t):=⟨43,[.ag (Zbt w),.ag (Zs t)],[],fun r=>.tu [.ag [.sl (r.1.network.legs.map cLeg),.sl (r.1.network.off.map cInt),vi r.1.network.change,.sl (r.1.orders.map Zw),.sl (r.1.bookings.map Zg),.sl (r.1.closed.map Zs),vi r.1.now,.sl (r.1.scans.map ZF),.sl (r.1.skip.map cInt),vi r.1.made],vb r.2],fun r=>[],fun H=>by replace H:=H0 H; unfold Zbw at H; exact Zh Tryz.func43 rfl Tryz.ntmps43 Tryz.results43 fun Q hQ hQn=>wk3⟩
def ZaY (t:Ze) (s0:Int × Int × Int × Int × (List YLeg) × (List Int) × (List Zf) × (List Zc) × (List Ze) × (List Zk) × (List Int)):Option ((Int × Int × Int × Int × (List YLeg) × (List Int) × (List Zf) × (List Zc) × (List Ze) × (List Zk) × (List Int)) ⊕ (Int × Int × Int × (List YLeg) × (List Int) × (List Zf) × (List Zc) × (List Ze) × (List Zk) × (List Int))):=
 cond (decide (s0.1<(s0.2.2.2.2.2.2.1.length:Int)))
 ((getI s0.2.2.2.2.2.2.1 s0.1).bind fun y6=>
 (ZaS y6).bind fun y7=>
 (chk (slOk y7 (y6.way.length:Int) y6.way.length)).bind fun _=>
 (Zaq (subL y6.way y7 (y6.way.length:Int)) t).bind fun y8=>
 cond y8
 ((rhoM [2,3,4,5,6,7,8,9]).bind fun _=>
 (ZaF (⟨(⟨s0.2.2.2.2.1,s0.2.2.2.2.2.1,s0.2.1⟩:Za),s0.2.2.2.2.2.2.1,s0.2.2.2.2.2.2.2.1,s0.2.2.2.2.2.2.2.2.1,s0.2.2.1,s0.2.2.2.2.2.2.2.2.2.1,s0.2.2.2.2.2.2.2.2.2.2,s0.2.2.2.1⟩:Zd) s0.1).bind fun y9=>
 some (.inl ((w64 (s0.1+1)),y9.network.change,y9.now,y9.made,y9.network.legs,y9.network.off,y9.orders,y9.bookings,y9.closed,y9.scans,y9.skip)))
 (some (.inl ((w64 (s0.1+1)),s0.2.1,s0.2.2.1,s0.2.2.2.1,s0.2.2.2.2.1,s0.2.2.2.2.2.1,s0.2.2.2.2.2.2.1,s0.2.2.2.2.2.2.2.1,s0.2.2.2.2.2.2.2.2.1,s0.2.2.2.2.2.2.2.2.2.1,s0.2.2.2.2.2.2.2.2.2.2))))
 (some (.inr (s0.2.1,s0.2.2.1,s0.2.2.2.1,s0.2.2.2.2.1,s0.2.2.2.2.2.1,s0.2.2.2.2.2.2.1,s0.2.2.2.2.2.2.2.1,s0.2.2.2.2.2.2.2.2.1,s0.2.2.2.2.2.2.2.2.2.1,s0.2.2.2.2.2.2.2.2.2.2)))
instance (t:Ze):ZP (ZaY t):=⟨fun s0=>(U 3 (.be 0 0 0::.be 1 0 0::.un::.be 2 0 0::vi s0.1::(U 63 []))),fun s0=>[some ⟨55,2,[[vi t.leg,vi t.day]]⟩,some ⟨41,10,[[.v (.slice none 0 0),.v (.slice none 0 0),vi 0,.v (.slice none 0 0),.v (.slice none 0 0),.v (.slice none 0 0),vi 0,.v (.slice none 0 0),.v (.slice none 0 0),vi 0]]⟩,some ⟨41,10,[[.ms 3,.ms 4,vi s0.2.1,.ms 5,.ms 6,.ms 7,vi s0.2.2.1,.ms 8,.ms 9,vi s0.2.2.2.1]]⟩,some ⟨67,6,s0.2.2.2.2.1.map cLeg⟩,some ⟨3,1,s0.2.2.2.2.2.1.map cInt⟩,some ⟨62,11,s0.2.2.2.2.2.2.1.map Zw⟩,some ⟨135,4,s0.2.2.2.2.2.2.2.1.map Zg⟩,some ⟨55,2,s0.2.2.2.2.2.2.2.2.1.map Zs⟩,some ⟨130,6,s0.2.2.2.2.2.2.2.2.2.1.map ZF⟩,some ⟨3,1,s0.2.2.2.2.2.2.2.2.2.2.map cInt⟩]⟩
def Zbn (w:Zd) (t:Ze):Option (Zd × Bool):=
 (Zbf w).bind fun y1=>
 (Zbs w).bind fun y2=>
 cond (!y2)
 (some (y1,false))
 ((Zan w.network t).bind fun y3=>
 cond (!y3)
 (some (y1,false))
 ((Zp w.network t).bind fun y4=>
 cond (decide (y4≤w.now))
 (some (y1,false))
 ((Zaq w.closed t).bind fun y5=>
 cond y5
 (some (y1,false))
 (cond (decide (20≤(w.closed.length:Int)))
 (some (y1,false))
 ((chk (ZQ ((y1.closed:List Ze).length+([t]:List Ze).length) 16)).bind fun _=>
 (Zj (ZaY t) NN (0,y1.network.change,y1.now,y1.made,y1.network.legs,y1.network.off,y1.orders,y1.bookings,((y1.closed:List Ze)++[t]),y1.scans,y1.skip)).bind (fun o0=>
 some ((⟨(⟨o0.2.2.2.1,o0.2.2.2.2.1,o0.1⟩:Za),o0.2.2.2.2.2.1,o0.2.2.2.2.2.2.1,o0.2.2.2.2.2.2.2.1,o0.2.1,o0.2.2.2.2.2.2.2.2.1,o0.2.2.2.2.2.2.2.2.2,o0.2.2.1⟩:Zd),true)))))))
instance (w:Zd) (t:Ze):CT Tryz.prog (Zbn w t):=⟨41,[.ag (Zbt w),.ag (Zs t)],[],fun r=>.tu [.ag [.ms 0,.ms 1,vi r.1.network.change,.ms 2,.ms 3,.ms 4,vi r.1.now,.ms 5,.ms 6,vi r.1.made],vb r.2],fun r=>[some ⟨67,6,r.1.network.legs.map cLeg⟩,some ⟨3,1,r.1.network.off.map cInt⟩,some ⟨62,11,r.1.orders.map Zw⟩,some ⟨135,4,r.1.bookings.map Zg⟩,some ⟨55,2,r.1.closed.map Zs⟩,some ⟨130,6,r.1.scans.map ZF⟩,some ⟨3,1,r.1.skip.map cInt⟩],fun H=>by replace H:=H0 H; unfold Zbn at H; exact Zh Tryz.func41 rfl Tryz.ntmps41 Tryz.results41 fun Q hQ hQn=>wk3⟩
theorem Zws {σ σ' ο ο':Type} {b:σ→Option (σ ⊕ ο)} {b':σ'→Option (σ' ⊕ ο')} (I:Nat→σ→σ'→Prop) {P:ο→ο'→Prop}
 (h:∀ k s s',I k s s'→(∃ t t' k',b s=some (.inl t)∧b' s'=some (.inl t')∧k'<k∧I k' t t')∨∃ o o',b s=some (.inr o)∧b' s'=some (.inr o')∧P o o'):
 ∀ (N k:Nat) (s:σ) (s':σ'),I k s s'→k<N→∃ o o',Zj b N s=some o∧Zj b' N s'=some o'∧P o o'
 | 0,k,s,s',_,hN=>by omega
 | N+1,k,s,s',hI,hN=>by
  simp only [Zj]
  rcases h k s s' hI with ⟨t,t',k',e,e',hk,hI'⟩ | ⟨o,o',e,e',hP⟩
  ·rw [e,e']
   exact Zws I h N k' t t' hI' (by omega)
  ·rw [e,e']
   exact ⟨o,o',rfl,rfl,hP⟩
structure Shut (w:Zd) (t:Ze) (x:Zd):Prop where
 trip:ZbJ w.network t=true
 later:w.now<ZM w.network t
 new:¬ t∈w.closed
 few:w.closed.length<20
 ok:WOk x
 same:ZgT ⟨w.network,w.orders,w.bookings,w.closed++[t],w.now,w.scans,w.skip,w.made⟩ x
 ord:∀ (i:Nat) (o:Zf),w.orders[i]?=some o→∃ o',x.orders[i]?=some o'∧(¬ t∈Zfl o→o'=o)∧Zgf w.network o o'
theorem ZkI {w:Zd} (h:WOk w) (t:Ze):∃ r,Zbw w t=some r∧Zbn w t=some r∧(r=(w,false)∨∃ x,r=(x,true)∧Shut w t x):=by
 have hf:=h.fit
 obtain ⟨p1,p2,p3,p4,p5,p6,p7⟩:=h.parts
 obtain ⟨hP,hRs⟩:=Zcv h
 unfold Zbw Zbn
 rw [Zj3 hf,Zj4 hf,Option.bind_some,Option.bind_some,ZeM hf,Zge hf,h.ok,Option.bind_some,Option.bind_some,(Zgl hf.net t).1,Zio hf.net h.net,Option.bind_some,Option.bind_some]
 simp only [Bool.not_true,cond_false]
 cases htb:ZbJ w.network t with
 | false=>exact ⟨_,rfl,rfl,.inl rfl⟩
 | true=>
 obtain ⟨t1,t2,t3,t4,t5⟩:=ZI hf.net h.net htb
 have hst:ZH w.network t=some (ZM w.network t):=by rw [Zei]; exact t1
 rw [hst,t1,Option.bind_some,Option.bind_some]
 simp only [Bool.not_true,cond_false]
 by_cases c1:ZM w.network t≤w.now
 ·exact ⟨_,by rw [decide_eq_true c1]; rfl,by rw [decide_eq_true c1]; rfl,.inl rfl⟩
 rw [decide_eq_false c1,cond_false,cond_false,Zcs,Zb1 hf.closed,Option.bind_some,Option.bind_some]
 have hcb:(w.closed.any fun y=>decide (y=t))=Z2 w.closed t:=rfl
 rw [hcb]
 cases hcl:Z2 w.closed t with
 | true=>exact ⟨_,rfl,rfl,.inl rfl⟩
 | false=>
 simp only [cond_false]
 by_cases c2:(20:Int)≤(w.closed.length:Int)
 ·exact ⟨_,by rw [decide_eq_true c2]; rfl,by rw [decide_eq_true c2]; rfl,.inl rfl⟩
 have ha:chk (ZQ (w.closed.length+([t]:List Ze).length) 16)=some ():=ZcC (by simp only [List.length_cons,List.length_nil]; omega) (by omega)
 rw [decide_eq_false c2,cond_false,cond_false,ha,Option.bind_some,Option.bind_some]
 let w1:Zd:=⟨w.network,w.orders,w.bookings,w.closed++[t],w.now,w.scans,w.skip,w.made⟩
 have hf1:WFit w1:=⟨hf.net,hf.orders,hf.bookings,by simp only [w1,List.length_append,List.length_cons,List.length_nil]; omega,hf.scans,hf.skip,hf.way⟩
 have hnc:¬ t∈w.closed:=fun hm=>by rw [ZaX.2 hm] at hcl; cases hcl
 have key:∃ r r',Zj (Zbx t w) NN (0,tupS w1)=some r∧Zj (ZaY t) NN (0,tupS w1)=some r'∧r'=r∧∃ u,r=tupS u∧ZgT w1 u∧ZjJ u (fun j=>if j<w.orders.length then u.closed else w.closed)∧∀ (i:Nat) (o:Zf),w.orders[i]?=some o→∃ o',u.orders[i]?=some o'∧(¬ t∈Zfl o→o'=o)∧Zgf w.network o o':=by
  refine Zws (fun (k:Nat) (s s':Int × Int × Int × Int × (List YLeg) × (List Int) × (List Zf) × (List Zc) × (List Ze) × (List Zk) × (List Int))=>s'=s∧∃ (i:Nat) (u:Zd),s=((i:Int),tupS u)∧i+k=w.orders.length∧ZgT w1 u∧ZjJ u (fun j=>if j<i then u.closed else w.closed)∧
   (∀ (j:Nat) (o:Zf),w.orders[j]?=some o→∃ o',u.orders[j]?=some o'∧(¬ t∈Zfl o→o'=o)∧Zgf w.network o o')∧∀ j,i≤j→u.orders[j]?=w.orders[j]?) (fun k s s' hs=>?_) NN w.orders.length _ _ ⟨rfl,0,w1,rfl,by omega,ZgT.refl _,⟨hf1,hP.books,hP.now,hP.olen,fun i o ho=>hP.ord i o ho,hP.sum,fun i=>by simp; omega⟩,fun j o ho=>⟨o,ho,fun _=>rfl,Or.inl rfl⟩,fun j _=>rfl⟩ (by unfold NN; omega)
  obtain ⟨rfl,i,u,rfl,hk,hS,hU,hold,hrest⟩:=hs
  have hul:u.orders.length=w.orders.length:=hS.len
  by_cases hlt:i<w.orders.length
  ·have hd1:decide ((i:Int)<(w.orders.length:Int))=true:=decide_eq_true (by omega)
   have hd2:decide ((i:Int)<(u.orders.length:Int))=true:=decide_eq_true (by omega)
   have hwi:w64 ((i:Int)+1)=((i+1:Nat):Int):=by rw [Zo (by omega)]; omega
   have hio:=List.getElem?_eq_getElem hlt
   have huo:u.orders[i]?=some w.orders[i]:=by rw [hrest i (Nat.le_refl _)]; exact hio
   have hg:getI u.orders (i:Int)=some w.orders[i]:=by rw [Zn]; exact huo
   have hO:=ZaV hU huo
   have hlen:=ZhI hU huo
   obtain ⟨k0,k1,k2,k3⟩:=ZcO hU huo
   have hcome2:ZaS w.orders[i]=some (Zm w.orders[i]):=(Zhh hO.ok.gone (by omega)).1
   have hcome:ZbY w.orders[i]=some (Zm w.orders[i]):=by
    rw [(Zhh hO.ok.gone (by omega)).2.2,if_neg (by omega)]
   have hsl:chk (slOk (Zm w.orders[i]) (w.orders[i].way.length:Int) w.orders[i].way.length)=some ():=Zjh (by unfold slOk; exact decide_eq_true ⟨k0,k1,Int.le_refl _⟩)
   have hsub:subL w.orders[i].way (Zm w.orders[i]) (w.orders[i].way.length:Int)=Zfl w.orders[i]:=by
    unfold subL Zfl
    rw [List.take_of_length_le (by rw [List.length_drop]; omega)]
   have hrl:(Zfl w.orders[i]).length≤1048576:=by unfold Zfl; rw [List.length_drop]; omega
   have hcr:((Zfl w.orders[i]).any fun y=>decide (y=t))=Z2 (Zfl w.orders[i]) t:=rfl
   cases hc:Z2 (Zfl w.orders[i]) t
   rotate_left
   ·have hm:=ZaX.1 hc
    obtain ⟨r1,r2⟩:=ZqP hU huo (fun e=>by rw [e] at hm; cases hm)
    obtain ⟨u',e2,e,hR,hU'⟩:=Zk6 hU huo r1 r2
    obtain ⟨s1,⟨o',o1,o2⟩,s3⟩:=ZpR hU.fit.net hR huo
    rw [hS.network] at o2
    have e':Zbb ⟨⟨u.network.legs,u.network.off,u.network.change⟩,u.orders,u.bookings,u.closed,u.now,u.scans,u.skip,u.made⟩ ((i+1:Nat):Int)=some u':=e
    have e2':ZaF ⟨⟨u.network.legs,u.network.off,u.network.change⟩,u.orders,u.bookings,u.closed,u.now,u.scans,u.skip,u.made⟩ (i:Int)=some u':=e2
    refine .inl ⟨(((i+1:Nat):Int),tupS u'),_,k-1,?_,?_,by omega,rfl,i+1,u',rfl,by omega,hS.trans s1,?_,fun j o ho=>?_,fun j hj=>?_⟩
    ·unfold Zbx
     simp only [tupS,hd1,cond_true,hg,Option.bind_some,hcome,hsl,hsub,Zb1 hrl,hwi,hcr,hc,rhoM,e']
    ·unfold ZaY
     show cond (decide ((i:Int)<(u.orders.length:Int))) _ _=_
     rw [hd2]
     simp only [tupS,cond_true,hg,Option.bind_some,hcome2,hsl,hsub,Zcs,Zb1 hrl,hwi,hcr,hc,rhoM,e2']
    ·have ef:(fun j=>if j=i then u.closed else if j<i then u.closed else w.closed)=fun j=>if j<i+1 then u'.closed else w.closed:=by
      funext j
      rw [s1.closed]
      by_cases hj:j=i
      ·rw [if_pos hj,if_pos (by omega)]
      ·rw [if_neg hj]
       by_cases hj2:j<i
       ·rw [if_pos hj2,if_pos (by omega)]
       ·rw [if_neg hj2,if_neg (by omega)]
     rw [← ef]; exact hU'
    ·by_cases hj:j=i
     ·subst hj
      rw [hio] at ho
      obtain rfl:=Option.some.inj ho
      exact ⟨o',o1,fun hx=>absurd hm hx,o2⟩
     ·rw [s3 j hj]; exact hold j o ho
    ·rw [s3 j (by omega)]; exact hrest j (by omega)
   ·refine .inl ⟨(((i+1:Nat):Int),tupS u),_,k-1,?_,?_,by omega,rfl,i+1,u,rfl,by omega,hS,⟨hU.fit,hU.books,hU.now,hU.olen,fun j o ho=>?_,hU.sum,fun j=>?_⟩,hold,fun j hj=>hrest j (by omega)⟩
    ·unfold Zbx
     simp only [tupS,hd1,cond_true,cond_false,hg,Option.bind_some,hcome,hsl,hsub,Zb1 hrl,hwi,hcr,hc]
    ·unfold ZaY
     show cond (decide ((i:Int)<(u.orders.length:Int))) _ _=_
     rw [hd2]
     simp only [tupS,cond_true,cond_false,hg,Option.bind_some,hcome2,hsl,hsub,Zcs,Zb1 hrl,hwi,hcr,hc]
    ·by_cases hj:j=i
     ·subst hj
      rw [huo] at ho
      obtain rfl:=Option.some.inj ho
      have hv:=hU.ord j _ huo
      rw [if_neg (Nat.lt_irrefl j)] at hv
      rw [if_pos (Nat.lt_succ_self j)]
      unfold Zja ZcY at hv ⊢
      simp only [Bool.and_eq_true,Bool.not_eq_true'] at hv ⊢
      refine ⟨hv.1,?_⟩
      have h12:=hv.2
      rw [hS.closed]
      refine List.any_eq_false.2 fun y hy hyc=>?_
      have:=List.any_eq_false.1 h12 y hy
      have hyc':=ZaX.1 hyc
      rcases List.mem_append.1 hyc' with hx | hx
      ·exact this (ZaX.2 hx)
      ·obtain rfl:=List.mem_singleton.1 hx
       have:Z2 (Zfl w.orders[j]) y=true:=ZaX.2 hy
       rw [this] at hc; cases hc
     ·have hv:=hU.ord j o ho
      by_cases hj2:j<i
      ·rw [if_pos hj2] at hv
       rw [if_pos (by omega)]; exact hv
      ·rw [if_neg hj2] at hv
       rw [if_neg (by omega)]; exact hv
    ·show (if j<i+1 then u.closed else w.closed).length≤1048576
     split
     ·exact hU.fit.closed
     ·exact hf.closed
  ·have hd1:decide ((i:Int)<(w.orders.length:Int))=false:=decide_eq_false (by omega)
   have hd2:decide ((i:Int)<(u.orders.length:Int))=false:=decide_eq_false (by omega)
   refine .inr ⟨tupS u,_,?_,?_,rfl,u,rfl,hS,?_,hold⟩
   ·unfold Zbx
    simp only [tupS,hd1,cond_false]
   ·unfold ZaY
    show cond (decide ((i:Int)<(u.orders.length:Int))) _ _=_
    rw [hd2]
    simp only [tupS,cond_false]
   refine ⟨hU.fit,hU.books,hU.now,hU.olen,fun j o ho=>?_,hU.sum,fun j=>?_⟩
   ·have hj:=(List.getElem?_eq_some_iff.1 ho).1
    have hv:=hU.ord j o ho
    rw [if_pos (by omega)] at hv
    rw [if_pos (by omega)]; exact hv
   ·show (if j<w.orders.length then u.closed else w.closed).length≤1048576
    split
    ·exact hU.fit.closed
    ·exact hf.closed
 obtain ⟨r,_,e,e2,rfl,u,rfl,hS,hU,hold⟩:=key
 have e':Zj (Zbx t w) NN (0,w.network.change,w.now,w.made,w.network.legs,w.network.off,w.orders,w.bookings,w.closed++[t],w.scans,w.skip)=some (tupS u):=e
 have e2':Zj (ZaY t) NN (0,w.network.change,w.now,w.made,w.network.legs,w.network.off,w.orders,w.bookings,w.closed++[t],w.scans,w.skip)=some (tupS u):=e2
 rw [e',e2',Option.bind_some]
 refine ⟨(u,true),rfl,rfl,.inr ⟨u,rfl,htb,by omega,hnc,by omega,?_,hS,hold⟩⟩
 refine Zp9 ⟨hU.fit,hU.books,hU.now,hU.olen,fun j o ho=>?_,hU.sum,fun _=>hU.fit.closed⟩ ⟨?_,by rw [hS.scans]; exact hRs.scans,by rw [hS.skip]; exact hRs.skip,by rw [hS.scans,hS.made]; exact hRs.made,?_,?_⟩
 ·have hj:=(List.getElem?_eq_some_iff.1 ho).1
  have hv:=hU.ord j o ho
  rw [if_pos (by rw [← hS.len]; exact hj)] at hv
  exact hv
 ·rw [hS.closed]; simp only [w1,List.length_append,List.length_cons,List.length_nil]; omega
 ·refine Zas.2 fun j x hx=>?_
  unfold ZgV
  rw [hS.closed,hS.network] at *
  have hx':(w.closed++[t])[j]?=some x:=hx
  rw [Nat.zero_add]
  show (ZbJ w.network x && !Z2 ((w.closed++[t]).take j) x)=true
  by_cases hj:j<w.closed.length
  ·rw [List.getElem?_append_left hj] at hx'
   have:=Zas.1 hRs.cl j x hx'
   unfold ZgV at this
   rw [Nat.zero_add] at this
   rw [List.take_append_of_le_length (by omega)]
   exact this
  ·rw [List.getElem?_append_right (by omega)] at hx'
   have hj0:j-w.closed.length=0:=by
    have:=(List.getElem?_eq_some_iff.1 hx').1
    simp only [List.length_cons,List.length_nil] at this; omega
   rw [hj0] at hx'
   obtain rfl:t=x:=by simpa using hx'
   rw [show j=w.closed.length by omega,List.take_left,hcl,htb]; rfl
 ·refine Zas.2 fun j x hx=>?_
  rw [hS.scans] at hx
  have:=Zas.1 hRs.sc j x hx
  unfold Zk0 at this ⊢
  rw [hS.network,hS.now]
  exact this
structure Zjo (w:Zd) (t:Ze) (r:List Int):Prop where
 len:r.length≤w.orders.length
 pw:r.Pairwise (· < ·)
 at_:∀ y∈r,∃ (i:Nat) (o:Zf),y=(i:Int)+1∧w.orders[i]?=some o∧o.state=2∧getI o.way o.gone=some t
def Zdu (w:Zd) (s0:Int × (List Int)):Option ((Int × (List Int)) ⊕ (List Int)):=
 cond (decide (s0.1<(w.orders.length:Int)))
 ((getI w.orders s0.1).bind fun y2=>
 (Zbl w y2).bind fun y3=>
 cond y3
 ((chk (ZQ ((s0.2:List Int).length+([(w64 (s0.1+1))]:List Int).length) 8)).bind fun _=>
 some (.inl ((w64 (s0.1+1)),((s0.2:List Int)++[(w64 (s0.1+1))]))))
 (some (.inl ((w64 (s0.1+1)),s0.2))))
 (some (.inr s0.2))
instance (w:Zd):ZP (Zdu w):=⟨fun s0=>(.un::.be 0 0 0::.un::.ms 1::(U 8 (.sl (w.orders.map Zw)::vi (w.orders.length:Int)::vi s0.1::(U 14 [])))),fun s0=>[some ⟨41,10,[[.sl (w.network.legs.map cLeg),.sl (w.network.off.map cInt),vi w.network.change,.sl (w.orders.map Zw),.sl (w.bookings.map Zg),.sl (w.closed.map Zs),vi w.now,.sl (w.scans.map ZF),.sl (w.skip.map cInt),vi w.made]]⟩,some ⟨3,1,s0.2.map cInt⟩]⟩
def ZdC (w:Zd):Option (List Int):=
 (Za8 w).bind fun y1=>
 cond (!y1)
 (some ([]:List Int))
 ((Zj (Zdu w) NN (0,([]:List Int))).bind (fun o0=>
 some o0))
instance (w:Zd):CT Tryz.prog (ZdC w):=⟨38,[.ag (Zbt w)],[],fun r=>.ms 0,fun r=>[some ⟨3,1,r.map cInt⟩],fun H=>by replace H:=H0 H; unfold ZdC at H; exact Zh Tryz.func38 rfl Tryz.ntmps38 Tryz.results38 fun Q hQ hQn=>wk3⟩
def Zga (p:Zf→Bool):Nat→List Zf→List Int
 | _,[]=>[]
 | i,o::os=>(if p o=true then [((i+1:Nat):Int)] else [])++Zga p (i+1) os
theorem Zgp (p:Zf→Bool):∀ (os:List Zf) (i:Nat),(Zga p i os).length=os.countP p
 | [],_=>rfl
 | o::os,i=>by
  unfold Zga
  rw [List.length_append,Zgp p os,List.countP_cons]
  cases p o <;> simp <;> omega
theorem Ziy {p:Zf→Bool} {x:Int}:∀ {os:List Zf} {i:Nat},x∈Zga p i os↔∃ (j:Nat) (o:Zf),os[j]?=some o∧p o=true∧x=((i+j+1:Nat):Int)
 | [],i=>by simp [Zga]
 | o::os,i=>by
  unfold Zga
  rw [List.mem_append,Ziy (os:=os) (i:=i+1)]
  constructor
  ·rintro (h | ⟨j,o',h1,h2,h3⟩)
   ·cases hp:p o with
    | false=>rw [hp] at h; simp at h
    | true=>rw [hp,if_pos rfl] at h; exact ⟨0,o,rfl,hp,by rw [List.mem_singleton.1 h]⟩
   ·exact ⟨j+1,o',by simpa using h1,h2,by rw [h3,show i+1+j+1=i+(j+1)+1 by omega]⟩
  ·rintro ⟨j,o',h1,h2,h3⟩
   cases j with
   | zero=>
    obtain rfl:o=o':=by simpa using h1
    exact .inl (by rw [h2,if_pos rfl,h3]; simp)
   | succ j=>exact .inr ⟨j,o',by simpa using h1,h2,by rw [h3,show i+1+j+1=i+(j+1)+1 by omega]⟩
theorem ZlB (p:Zf→Bool):∀ (os:List Zf) (o:Zf) (i:Nat),Zga p i (os++[o])=Zga p i os++(if p o=true then [((i+os.length+1:Nat):Int)] else [])
 | [],o,i=>by simp [Zga]
 | x::os,o,i=>by
  simp only [List.cons_append,Zga,ZlB p os o (i+1),List.append_assoc,List.length_cons]
  rw [show i+1+os.length+1=i+(os.length+1)+1 by omega]
theorem Zjt {w:Zd} (hl:w.orders.length≤1048576) {body:Int × List Int→Option ((Int × List Int) ⊕ List Int)} {p:Zf→Bool}
 (h1:∀ (i:Nat) (out:List Int) (o:Zf),w.orders[i]?=some o→out.length≤i→body ((i:Int),out)=some (.inl (((i+1:Nat):Int),out++(if p o=true then [((i+1:Nat):Int)] else []))))
 (h2:∀ out,body ((w.orders.length:Int),out)=some (.inr out)):Zj body NN (0,([]:List Int))=some (Zga p 0 w.orders):=by
 refine ZbW (body:=body) (fun i:Nat=>((i:Int),Zga p 0 (w.orders.take i))) (n:=w.orders.length) (fun i hi=>?_) (by simp only [List.take_length]; exact h2 _) NN (by unfold NN; omega)
 have ho:=List.getElem?_eq_getElem hi
 have hpl:(Zga p 0 (w.orders.take i)).length≤i:=by
  rw [Zgp]
  exact Nat.le_trans List.countP_le_length (by rw [List.length_take]; omega)
 rw [h1 i _ _ ho hpl,List.take_succ_eq_append_getElem hi,ZlB,List.length_take,Nat.min_eq_left (by omega),Nat.zero_add]
theorem ZlP {n:Nat} (h:n≤1048576):chk (ZQ (n+1) 8)=some ():=Zjh (by unfold ZQ; rw [decide_eq_true_iff]; omega)
def ZaW (n:Za) (o:Zf):Bool:=!decide (o.state=3) && decide (Zm o=o.way.length) && !decide (Zb8 n o=o.to_)
section
variable {w:Zd} (h:WOk w)
include h
theorem Zmw {i:Nat} {o:Zf} (ho:w.orders[i]?=some o):Zbl w o=some (ZaW w.network o):=by
 have hok:=Zdk h.fit h.ok ho
 have hl:=h.fit.way o (List.mem_of_getElem? ho)
 obtain ⟨_,_,c3⟩:=Zhh hok.gone hl
 have hge:=hok.gone
 unfold Zbl ZaW
 rcases hok.cases with ⟨k1,k2⟩ | ⟨k1,k2⟩ | ⟨k1,k2,k3⟩
 ·have hcv:Zm o=o.gone:=by unfold Zm; rw [if_neg (by omega)]
  have hp:Zez w o=some (Zb8 w.network o):=by
   unfold Zez Zb8
   rw [decide_eq_false (show ¬ o.state=2 by omega),if_neg (show ¬ o.state=2 by omega)]; rfl
  rw [c3,hcv,if_neg (show ¬ (o.way.length:Int)<o.gone by omega),hp,decide_eq_false (show ¬ o.state=3 by omega)]
  simp only [Option.bind_some]
  cases decide (o.gone=(o.way.length:Int)) <;> rfl
 ·have hcv:Zm o=o.gone+1:=by unfold Zm; rw [if_pos k1]
  obtain ⟨t,htg,htb⟩:=ZkS h.fit h.ok ho hok.gone.1 k2
  obtain ⟨y,hy,_⟩:=Zah h.fit.net htb
  have hp:Zez w o=some (Zb8 w.network o):=by
   unfold Zez Zb8
   rw [decide_eq_true k1,if_pos k1,htg,(Zdb htg).2]
   simp only [cond_true,Option.bind_some,hy,Option.map_some,Option.getD_some]
   unfold ZL
   rw [hy]; rfl
  rw [c3,hcv,if_neg (show ¬ (o.way.length:Int)<o.gone+1 by omega),hp,decide_eq_false (show ¬ o.state=3 by omega)]
  simp only [Option.bind_some]
  cases decide (o.gone+1=(o.way.length:Int)) <;> rfl
 ·rw [decide_eq_true k1]; rfl
theorem ZnN:ZdC w=some (Zga (ZaW w.network) 0 w.orders):=by
 have hor:=h.fit.orders
 unfold ZdC
 rw [ZeM h.fit,h.ok,Option.bind_some]
 simp only [Bool.not_true,cond_false]
 rw [Zjt hor (p:=ZaW w.network) (fun i out o ho hlen=>?_) (fun out=>by unfold Zdu; simp)]
 ·rfl
 ·have hlt:=(List.getElem?_eq_some_iff.1 ho).1
  have hg:getI w.orders (i:Int)=some o:=by rw [Zn]; exact ho
  have hi:w64 ((i:Int)+1)=((i+1:Nat):Int):=ZR hlt (by omega)
  unfold Zdu
  simp only [decide_eq_true (show (i:Int)<w.orders.length by omega),cond_true,hg,Option.bind_some,hi,Zmw h ho,List.length_cons,List.length_nil,ZlP (show out.length≤1048576 by omega)]
  cases ZaW w.network o <;> simp
end
theorem Zje (n:Za):(Zb n).Nodup:=by
 unfold Zb List.Nodup
 have hs:((ZdQ n).foldl insS []).Pairwise fun a b=>sLt a b=true:=Zhl List.Pairwise.nil
 exact hs.imp fun {a b} (hlt:sLt a b=true) (e:a=b)=>Zs4 b (by rw [e] at hlt; exact hlt)
end Go.Proofs.YtmcdjilbkmhfoaaGreat
