/- A part of the proof of the statement in the last file of this claim: texts on the language of the program and on its functions. No condition. -/
import Derived.Test.YtmcdjilbkmhfoaaGreatCFnRetry7
import Derived.Test.YtmcdjilbkmhfoaaGreatCFnWorldKeeps4
import Derived.Test.YtmcdjilbkmhfoaaGreatCFnWorldKeeps5
import Derived.Test.YtmcdjilbkmhfoaaGreatCFnWorldKeeps6
namespace Go.Proofs.YtmcdjilbkmhfoaaGreat
set_option maxRecDepth 10000
open Go.RowKit
set_option linter.unusedVariables false
set_option linter.unusedSimpArgs false
set_option linter.unusedSectionVars false
theorem ZbW {σ ο:Type} {body:σ→Option (σ ⊕ ο)} (S:Nat→σ) {n:Nat} {o:ο} (h1:∀ i,i<n→body (S i)=some (.inl (S (i+1)))) (h2:body (S n)=some (.inr o)):∀ N,n<N→Zj body N (S 0)=some o:=by
 have key:∀ d j,j+d=n→∀ N,d<N→Zj body N (S j)=some o:=by
  intro d
  induction d with
  | zero=>
   intro j hj N hN
   obtain ⟨N,rfl⟩:∃ M,N=M+1:=⟨N-1,by omega⟩
   have:j=n:=by omega
   subst this
   unfold Zj; rw [h2]; rfl
  | succ d ih=>
   intro j hj N hN
   obtain ⟨N,rfl⟩:∃ M,N=M+1:=⟨N-1,by omega⟩
   unfold Zj
   rw [h1 j (by omega)]
   exact ih (j+1) (by omega) N (by omega)
 intro N hN
 exact key n 0 (by omega) N hN
theorem ZnA {A α:Type} (f:A→α→A):∀ (xs:List α) (i:Nat) (a:A),runL (fun _ a x=>some (.inl (f a x):A ⊕ A)) some i xs a=some (xs.foldl f a)
 | [],i,a=>rfl
 | x::xs,i,a=>by
  simp only [runL,Option.bind_some,ZY,List.foldl_cons]
  exact ZnA f xs (i+1) (f a x)
theorem Zow {w:Zd} (h:WOk w):ZbC w=some (Zc1 w):=by
 have hnet:=h.net
 have hor:=h.fit.orders
 have e1:Zj (ZaK w) NN ((-1),0)=some (Zc1 w):=by
  rw [ZgI (xs:=w.orders) (A:=Int) (fun a i=>(a,i)) (fun _ a o=>some (.inl (Zha a (Zbj w.network o)))) some (fun a i o ho=>?_) (fun a=>?_) (by unfold NN; omega) (-1)]
  ·exact ZnA (fun a o=>Zha a (Zbj w.network o)) w.orders 0 (-1)
  ·have hlt:=(List.getElem?_eq_some_iff.1 ho).1
   have hg:getI w.orders (i:Int)=some o:=by rw [Zn]; exact ho
   have hi:w64 ((i:Int)+1)=((i+1:Nat):Int):=ZR hlt (by omega)
   have hok:=Zdk h.fit h.ok ho
   unfold ZaK
   simp only [decide_eq_true (show (i:Int)<w.orders.length by omega),cond_true,hg,Option.bind_some,hi,Zei,ZfG]
   by_cases hgl:o.gone<o.way.length
   ·obtain ⟨t,htg,htb⟩:=ZkS h.fit h.ok ho hok.gone.1 hgl
    obtain ⟨t1,t2,t3,t4,t5⟩:=ZI h.fit.net hnet htb
    have ht:o.way[o.gone.toNat]?=some t:=by unfold getI at htg; rwa [if_pos hok.gone.1] at htg
    have ev:Zbj w.network o=some (if o.state=2 then Z7 w.network t else ZM w.network t):=by unfold Zbj; rw [ht]; rfl
    rw [ev]
    simp only [htg,Option.bind_some,t1,t2,decide_eq_true hgl,Zha]
    rcases hok.cases with ⟨c1,_⟩ | ⟨c1,_⟩ | ⟨c1,c2,_⟩
    ·rw [c1]
     simp only [show decide ((1:Int)=2)=false from rfl,show decide ((1:Int)=1)=true from rfl,cond_true,cond_false,decide_eq_true t3,show ¬ ((1:Int)=2) by omega,if_false,ZY]
     by_cases ha:a<0
     ·simp [ha]
     ·by_cases hb:ZM w.network t<a <;> simp [ha,hb]
    ·rw [c1]
     simp only [show decide ((2:Int)=2)=true from rfl,cond_true,decide_eq_true (show 0≤Z7 w.network t by omega),if_true,ZY]
     by_cases ha:a<0
     ·simp [ha]
     ·by_cases hb:Z7 w.network t<a <;> simp [ha,hb]
    ·omega
   ·have hge:=hok.gone.2
    have ev:Zbj w.network o=none:=by unfold Zbj; rw [List.getElem?_eq_none (by omega)]; rfl
    rw [ev,decide_eq_false hgl]
    rcases hok.cases with ⟨c1,_⟩ | ⟨c1,_⟩ | ⟨c1,c2,_⟩
    ·rw [c1]; rfl
    ·omega
    ·rw [c1]; rfl
  ·unfold ZaK
   simp
 unfold ZbC
 rw [e1]; rfl
theorem ZwB {w:Zd} (h:WOk w):Zeg w=some (Zc1 w):=by
 have h1:=Zwz h.fit h.ok
 rw [Zow h] at h1
 unfold Zeg
 rw [Zge h.fit,h.ok]
 simp only [Option.bind_some,Bool.not_true,cond_false]
 exact h1.symm
theorem chk0 {n c:Nat} (h:n≤1048576) (hc:c≤1024):chk (ZQ (0+n) c)=some ():=ZcC (by omega) hc
theorem chkn {n c:Nat} (h:n≤1048576) (hc:c≤1024):chk (ZQ n c)=some ():=by have:=chk0 h hc; rwa [Nat.zero_add] at this
theorem ZrD {n:Za} (h:Z0 n):ZcA n=some n:=by
 unfold ZcA
 simp only [List.length_nil,chk0 h.legs (show 64≤1024 by omega),chk0 h.off (show 8≤1024 by omega),Option.bind_some,List.nil_append]
theorem ZgW {l:List Ze} (h:l.length≤1048576):ZaP l=some l:=by
 unfold ZaP
 simp only [List.length_nil,chk0 h (show 16≤1024 by omega),Option.bind_some,List.nil_append]
theorem Zqe {l:List Zc} (h:l.length≤1048576):Zbg l=some l:=by
 unfold Zbg
 simp only [List.length_nil,chk0 h (show 32≤1024 by omega),Option.bind_some,List.nil_append]
theorem ZgR {α:Type} {xs:List α} {i:Nat} {x:α} (h:xs[i]?=some x):xs.take i++[x]=xs.take (i+1):=by
 rw [List.take_add_one,h]; rfl
theorem Zj3 {w:Zd} (h:WFit w):ZaZ w=some w:=by
 have hor:=h.orders
 unfold ZaZ
 rw [ZrD h.net,Option.bind_some,Zqe h.bookings,Option.bind_some,ZgW h.closed,Option.bind_some]
 have e:Zj (Zbm w w.network w.bookings w.closed) NN (0,[])=some w.orders:=by
  have:=ZbW (body:=Zbm w w.network w.bookings w.closed) (fun i:Nat=>((i:Int),w.orders.take i)) (n:=w.orders.length) (o:=w.orders) (fun i hi=>?_) ?_ NN (by unfold NN; omega)
  ·simpa using this
  ·have ho:w.orders[i]?=some w.orders[i]:=List.getElem?_eq_getElem hi
   have hg:getI w.orders (i:Int)=some w.orders[i]:=by rw [Zn]; exact ho
   have hw:w64 ((i:Int)+1)=((i+1:Nat):Int):=ZR hi (by omega)
   have hl:(w.orders.take i).length+1≤1048576:=by rw [List.length_take]; omega
   unfold Zbm
   simp only [decide_eq_true (show (i:Int)<w.orders.length by omega),cond_true,hg,Option.bind_some,ZgW (h.way _ (List.getElem_mem hi)),frz,List.length_cons,List.length_nil,Nat.zero_add,ZcC hl (show 128≤1024 by omega),hw]
   rw [← ZgR ho]
  ·unfold Zbm
   simp
 simp only [List.length_nil,chk0 h.scans (show 56≤1024 by omega),chk0 h.skip (show 8≤1024 by omega),Option.bind_some,e,List.nil_append]
theorem Zm3 {l:List Int} (h:l.length≤1048576):ZbZ l=some l:=by
 unfold ZbZ
 simp only [List.length_nil,chk0 h (show 8≤1024 by omega),Option.bind_some,List.nil_append]
theorem Zgd {l:List Zc} (h:l.length≤1048576):Zdj l=some l:=by
 unfold Zdj
 simp only [List.length_nil,chk0 h (show 32≤1024 by omega),Option.bind_some,List.nil_append]
theorem Zj4 {w:Zd} (h:WFit w):Zbf w=some w:=by
 have hor:=h.orders
 unfold Zbf
 have e:Zj (ZbN w w.network.off) NN (0,([]:List Zf))=some w.orders:=by
  have:=ZbW (body:=ZbN w w.network.off) (fun i:Nat=>((i:Int),w.orders.take i)) (n:=w.orders.length) (o:=w.orders) (fun i hi=>?_) ?_ NN (by unfold NN; omega)
  ·simpa using this
  ·have ho:w.orders[i]?=some w.orders[i]:=List.getElem?_eq_getElem hi
   have hg:getI w.orders (i:Int)=some w.orders[i]:=by rw [Zn]; exact ho
   have hw:w64 ((i:Int)+1)=((i+1:Nat):Int):=ZR hi (by omega)
   have hl:(w.orders.take i).length+1≤1048576:=by rw [List.length_take]; omega
   unfold ZbN
   simp only [decide_eq_true (show (i:Int)<w.orders.length by omega),cond_true,hg,Option.bind_some,chkn (h.way _ (List.getElem_mem hi)) (show 16≤1024 by omega),frz,List.length_cons,List.length_nil,Nat.zero_add,ZcC hl (show 128≤1024 by omega),hw,List.nil_append]
   rw [← ZgR ho]
  ·unfold ZbN
   simp
 simp only [List.length_nil,chk0 h.net.legs (show 64≤1024 by omega),Zm3 h.net.off,Zm3 h.skip,chk0 h.closed (show 16≤1024 by omega),chk0 h.scans (show 56≤1024 by omega),Option.bind_some,e,Zgd h.bookings,List.nil_append]
abbrev OwA:=Int × Int × Int × (List YLeg) × (List Int) × (List Zf) × (List Zc) × (List Ze) × (List Zk) × (List Int)
def owA (w:Zd):OwA:=(w.network.change,w.now,w.made,w.network.legs,w.network.off,w.orders,w.bookings,w.closed,w.scans,w.skip)
theorem WOk.pass {w:Zd} (h:WOk w):ZmA w:=by
 have hp:=h.parts
 refine ⟨h.fit.net,h.net,⟨rfl,⟨h.fit.skip,hp.2.2.2.1,by omega⟩,h.fit.orders⟩,fun o ho=>?_⟩
 obtain ⟨i,hi,rfl⟩:=List.getElem_of_mem ho
 have hok:=Zdk h.fit h.ok (List.getElem?_eq_getElem hi)
 refine ⟨hok.gone,h.fit.way _ ho,hok.trip,fun hs=>?_⟩
 rcases hok.cases with ⟨c,_⟩ | ⟨_,c⟩ | ⟨c,_⟩
 ·omega
 ·exact c
 ·omega
theorem ZjD {k:Nat} {w:Zd} {u:Int} (h:Zc1 w<0∨u<Zc1 w):runV k w u=w:=by
 cases k with
 | zero=>rfl
 | succ k=>unfold runV; rw [if_pos h]
theorem Zvx {k:Nat} {w:Zd} {u:Int} (h:WOk w) (hk:Zgc w≤k) (hu:u≤100000) (hc:¬ (Zc1 w<0∨u<Zc1 w)):runV k w u=runV (k-1) (ZbF w (Zc1 w)) u:=by
 have:=Zgj h (by omega)
 cases k with
 | zero=>omega
 | succ k=>
  rw [Nat.add_sub_cancel]
  conv=>lhs; unfold runV; rw [if_neg hc]
theorem ZtB {w:Zd} (h:WOk w):Zgc w≤240:=by
 have hp:=h.parts
 have hv:=h.ok
 unfold ZcB at hv
 simp only [Bool.and_eq_true,decide_eq_true_iff] at hv
 have ht:=hv.2
 have key:∀ (l:List Zf) (a:Int),(∀ o∈l,o.way.length≤1048576)→l.length≤30→0≤a→a≤1048576*(30-l.length:Nat)→l.foldl (fun a o=>w64 (a+(o.way.length:Int))) a=a+((l.map fun o=>o.way.length).sum:Nat):=by
  intro l
  induction l with
  | nil=>intro a _ _ _ _; simp
  | cons o l ih=>
   intro a hl hn h0 h1
   have h2:=hl o List.mem_cons_self
   simp only [List.length_cons] at hn h1
   have hw:w64 (a+(o.way.length:Int))=a+(o.way.length:Int):=Zo (by omega)
   simp only [List.foldl_cons,hw]
   rw [ih _ (fun x hx=>hl x (List.mem_cons_of_mem _ hx)) (by omega) (by omega) (by omega)]
   simp only [List.map_cons,List.sum_cons]
   omega
 have hs:=key w.orders 0 h.fit.way hp.2.1 (by omega) (by omega)
 unfold Zjg at ht
 rw [hs] at ht
 have h2:Zgc w≤2*((w.orders.map fun o=>o.way.length).sum):=by
  unfold Zgc
  have:∀ l:List Zf,(l.map Zeu).sum≤2*(l.map fun o=>o.way.length).sum:=by
   intro l
   induction l with
   | nil=>simp
   | cons o l ih=>
    have:Zeu o≤2*o.way.length:=by unfold Zeu; omega
    simp only [List.map_cons,List.sum_cons]
    omega
  exact this _
 omega
theorem Zk5 {u:Int} (hu:u≤100000):∀ (N k j:Nat) (w:Zd),WOk w→Zgc w≤k→j+k=240→k<N→Zj (Zdf u) N ((j:Int),owA w)=some (owA (runV k w u))
 | 0,k,j,w,_,_,_,hN=>by omega
 | N+1,k,j,w,h,hk,hj,hN=>by
  simp only [Zj]
  unfold Zdf
  simp only [owA]
  have hw:(⟨⟨w.network.legs,w.network.off,w.network.change⟩,w.orders,w.bookings,w.closed,w.now,w.scans,w.skip,w.made⟩:Zd)=w:=rfl
  by_cases hj2:j<240
  ·simp only [decide_eq_true (show (j:Int)<240 by omega),cond_true,hw,ZwB h,Option.bind_some]
   by_cases h0:Zc1 w<0
   ·rw [ZjD (.inl h0)]
    simp only [decide_eq_true h0,cond_true]
    rfl
   ·by_cases h1:u<Zc1 w
    ·rw [ZjD (.inr h1)]
     simp only [decide_eq_false h0,decide_eq_true h1,cond_true,cond_false]
     rfl
    ·obtain ⟨a,b,c⟩:=Zgi h (by omega)
     have ht:=Zgj h (by omega)
     have hb:=(Zki h.pass (Zc1 w)).2
     have hw1:w64 ((j:Int)+1)=((j+1:Nat):Int):=by rw [Zo (by omega)]; omega
     rw [Zvx h hk hu (by omega)]
     simp only [decide_eq_false h0,decide_eq_false h1,cond_false,rhoM,Option.bind_some,hb,hw1]
     exact Zk5 hu N (k-1) (j+1) _ a (by omega) (by omega) (by omega)
  ·have hk0:k=0:=by omega
   subst hk0
   simp only [decide_eq_false (show ¬ (j:Int)<240 by omega),cond_false]
   rfl
theorem Zrp {w:Zd} (hf:WFit w) (u:Int):Za0 w u=some (if ZcB w=true∧w.now≤u∧u≤100000 then advV w u else w):=by
 unfold Za0
 rw [Zj4 hf,Option.bind_some,Zge hf,Option.bind_some,ZbH,Option.bind_some]
 cases hv:ZcB w with
 | false=>simp
 | true=>
  have h:WOk w:=⟨hf,hv⟩
  by_cases h1:w.now≤u
  ·by_cases h2:u≤100000
   ·have e:((0:Int),w.network.change,w.now,w.made,w.network.legs,w.network.off,w.orders,w.bookings,w.closed,w.scans,w.skip)=(((0:Nat):Int),owA w):=rfl
    simp only [Bool.not_true,cond_false,decide_eq_true h1,decide_eq_true h2,Bool.and_self,h1,h2,and_self,if_true,e,Zk5 h2 NN 240 0 w h (ZtB h) rfl (by unfold NN; omega),Option.bind_some]
    rw [Zw6 h (ZtB h) (Nat.le_refl _) h2]
    rfl
   ·simp [h1,h2]
  ·simp [h1]
set_option maxHeartbeats 16000000
def Zeo (a:Int) (b:Int):Option Int:=
 cond (decide (a<b))
 (some b)
 (some a)
instance (a:Int) (b:Int):CT Tryz.prog (Zeo a b):=⟨190,[vi a,vi b],[],fun r=>vi r,fun r=>[],fun H=>by replace H:=H0 H; unfold Zeo at H; exact Zh Tryz.func190 rfl Tryz.ntmps190 Tryz.results190 fun Q hQ hQn=>wk3⟩
def ZbV (places:List ByteArray) (from1_:Int) (at2_:Int) (s0:Int × (List Int)):Option ((Int × (List Int)) ⊕ (List Int)):=
 cond (decide (s0.1<(places.length:Int)))
 (cond (decide (s0.1=from1_))
 ((Zeo at2_ 0).bind fun y1=>
 (chk (ZQ ((s0.2:List Int).length+([y1]:List Int).length) 8)).bind fun _=>
 some (.inl ((w64 (s0.1+1)),((s0.2:List Int)++[y1]))))
 ((chk (ZQ ((s0.2:List Int).length+([(-1)]:List Int).length) 8)).bind fun _=>
 some (.inl ((w64 (s0.1+1)),((s0.2:List Int)++[(-1)])))))
 (some (.inr s0.2))
instance (places:List ByteArray) (from1_:Int) (at2_:Int):ZP (ZbV places from1_ at2_):=⟨fun s0=>(.sl (places.map cStr)::vi from1_::vi at2_::(U 4 (.ms 0::vi s0.1::(U 19 [])))),fun s0=>[some ⟨3,1,s0.2.map cInt⟩]⟩
def Zb0 (places:List ByteArray) (from1_:Int) (at2_:Int):Option (List Int):=
 (Zj (ZbV places from1_ at2_) NN (0,([]:List Int))).bind (fun o0=>
 some o0)
instance (places:List ByteArray) (from1_:Int) (at2_:Int):CT Tryz.prog (Zb0 places from1_ at2_):=⟨233,[.sl (places.map cStr),vi from1_,vi at2_],[],fun r=>.ms 0,fun r=>[some ⟨3,1,r.map cInt⟩],fun H=>by replace H:=H0 H; unfold Zb0 at H; exact Zh Tryz.func233 rfl Tryz.ntmps233 Tryz.results233 fun Q hQ hQn=>wk3⟩
def Zag (n:Za) (at1_:Int) (first:Bool):Option Int:=
 cond first
 (some at1_)
 (some (w64 (at1_+n.change)))
instance (n:Za) (at1_:Int) (first:Bool):CT Tryz.prog (Zag n at1_ first):=⟨236,[.ag (Zr n),vi at1_,vb first],[],fun r=>vi r,fun r=>[],fun H=>by replace H:=H0 H; unfold Zag at H; exact Zh Tryz.func236 rfl Tryz.ntmps236 Tryz.results236 fun Q hQ hQn=>wk3⟩
def ZV (n:Za) (l:List Zc) (closed:List Ze) (leg:Int) (at4_:Int) (weight:Int) (s0:Int):Option (Int ⊕ (Unit ⊕ Int)):=
 cond (decide (s0≤60))
 ((ZX n leg s0).bind fun y1=>
 cond y1
 ((Zp n (⟨leg,s0⟩:Ze)).bind fun y2=>
 cond (decide (at4_≤y2))
 ((Zaq closed (⟨leg,s0⟩:Ze)).bind fun y3=>
 cond (!y3)
 ((getI n.legs leg).bind fun y4=>
 (Zap l (⟨leg,s0⟩:Ze)).bind fun y5=>
 cond (decide (weight≤(w64 (y4.room-y5))))
 (some (.inr (.inr s0)))
 (some (.inl (w64 (s0+1)))))
 (some (.inl (w64 (s0+1)))))
 (some (.inl (w64 (s0+1)))))
 (some (.inl (w64 (s0+1)))))
 (some (.inr (.inl ())))
instance (n:Za) (l:List Zc) (closed:List Ze) (leg:Int) (at4_:Int) (weight:Int):ZP (ZV n l closed leg at4_ weight):=⟨fun s0=>(.un::.sl (l.map Zg)::.sl (closed.map Zs)::vi leg::vi at4_::vi weight::.be 0 0 0::(U 6 (vi s0::(U 40 [])))),fun s0=>[some ⟨35,3,[[.sl (n.legs.map cLeg),.sl (n.off.map cInt),vi n.change]]⟩]⟩
def Z1 (n:Za) (l:List Zc) (closed:List Ze) (leg:Int) (at4_:Int) (weight:Int):Option Int:=
 (Zj (ZV n l closed leg at4_ weight) NN 0).bind (ZY (fun o0=>
 some (-1)) (fun r=>some r))
instance (n:Za) (l:List Zc) (closed:List Ze) (leg:Int) (at4_:Int) (weight:Int):CT Tryz.prog (Z1 n l closed leg at4_ weight):=⟨235,[.ag (Zr n),.sl (l.map Zg),.sl (closed.map Zs),vi leg,vi at4_,vi weight],[],fun r=>vi r,fun r=>[],fun H=>by replace H:=H0 H; unfold Z1 at H; exact Zh Tryz.func235 rfl Tryz.ntmps235 Tryz.results235 fun Q hQ hQn=>wk3⟩
def ZaB (n:Za) (l:List Zc) (closed:List Ze) (weight:Int) (places:List ByteArray) (best:List Int) (from6_:Int) (s0:Int × (List Int)):Option ((Int × (List Int)) ⊕ (List Int)):=
 cond (decide (s0.1<(n.legs.length:Int)))
 ((getI n.legs s0.1).bind fun y2=>
 (ZG places y2.from_).bind fun y3=>
 (getI n.legs s0.1).bind fun y4=>
 (ZG places y4.to_).bind fun y5=>
 (getI best y3).bind fun y6=>
 cond (decide (y6<0))
 (some (.inl ((w64 (s0.1+1)),s0.2)))
 ((getI best y3).bind fun y7=>
 (Zag n y7 (decide (y3=from6_))).bind fun y8=>
 (Z1 n l closed s0.1 y8 weight).bind fun y9=>
 cond (decide (y9<0))
 (some (.inl ((w64 (s0.1+1)),s0.2)))
 ((Zq n (⟨s0.1,y9⟩:Ze)).bind fun y10=>
 (getI s0.2 y5).bind fun y11=>
 cond (decide (y11<0))
 ((getI s0.2 y5).bind fun y12=>
 some (.inl ((w64 (s0.1+1)),(s0.2.set (Int.toNat y5) y10))))
 ((getI s0.2 y5).bind fun y13=>
 cond (decide (y10<y13))
 ((getI s0.2 y5).bind fun y14=>
 some (.inl ((w64 (s0.1+1)),(s0.2.set (Int.toNat y5) y10))))
 (some (.inl ((w64 (s0.1+1)),s0.2)))))))
 (some (.inr s0.2))
instance (n:Za) (l:List Zc) (closed:List Ze) (weight:Int) (places:List ByteArray) (best:List Int) (from6_:Int):ZP (ZaB n l closed weight places best from6_):=⟨fun s0=>(.un::.sl (l.map Zg)::.sl (closed.map Zs)::vi weight::.sl (places.map cStr)::.sl (best.map cInt)::vi from6_::.be 0 0 0::(U 7 (.ms 1::vi s0.1::(U 74 [])))),fun s0=>[some ⟨35,3,[[.sl (n.legs.map cLeg),.sl (n.off.map cInt),vi n.change]]⟩,some ⟨3,1,s0.2.map cInt⟩]⟩
def Zau (n:Za) (l:List Zc) (closed:List Ze) (weight:Int) (places:List ByteArray) (best:List Int) (from6_:Int):Option (List Int):=
 (ZbZ best).bind fun y1=>
 (Zj (ZaB n l closed weight places best from6_) NN (0,y1)).bind (fun o0=>
 some o0)
instance (n:Za) (l:List Zc) (closed:List Ze) (weight:Int) (places:List ByteArray) (best:List Int) (from6_:Int):CT Tryz.prog (Zau n l closed weight places best from6_):=⟨234,[.ag (Zr n),.sl (l.map Zg),.sl (closed.map Zs),vi weight,.sl (places.map cStr),.sl (best.map cInt),vi from6_],[],fun r=>.ms 0,fun r=>[some ⟨3,1,r.map cInt⟩],fun H=>by replace H:=H0 H; unfold Zau at H; exact Zh Tryz.func234 rfl Tryz.ntmps234 Tryz.results234 fun Q hQ hQn=>wk3⟩
def Zcm (n:Za) (l:List Zc) (closed:List Ze) (weight:Int) (legs:Int) (y1:(List ByteArray)) (y2:Int) (s0:Int × (List Int)):Option ((Int × (List Int)) ⊕ (List Int)):=
 cond (decide (s0.1<legs))
 (cond (decide (s0.1<(y1.length:Int)))
 ((Zau n l closed weight y1 s0.2 y2).bind fun y5=>
 some (.inl ((w64 (s0.1+1)),y5)))
 (some (.inr s0.2)))
 (some (.inr s0.2))
instance (n:Za) (l:List Zc) (closed:List Ze) (weight:Int) (legs:Int) (y1:(List ByteArray)) (y2:Int):ZP (Zcm n l closed weight legs y1 y2):=⟨fun s0=>(.un::.sl (l.map Zg)::.sl (closed.map Zs)::.un::.un::vi weight::vi legs::.be 0 0 0::(U 7 (.ms 1::vi y2::.ms 2::vi s0.1::(U 50 [])))),fun s0=>[some ⟨35,3,[[.sl (n.legs.map cLeg),.sl (n.off.map cInt),vi n.change]]⟩,some ⟨9,1,y1.map cStr⟩,some ⟨3,1,s0.2.map cInt⟩]⟩
def Zab (n:Za) (l:List Zc) (closed:List Ze) (from3_:ByteArray) (at4_:Int) (weight:Int) (legs:Int):Option (List Int):=
 (Z5 n).bind fun y1=>
 (ZG y1 from3_).bind fun y2=>
 (ZaG n l).bind fun y3=>
 cond (!y3)
 (some ([]:List Int))
 (cond (decide (y2<0))
 (some ([]:List Int))
 (cond (decide (100000<at4_))
 (some ([]:List Int))
 (cond (decide (weight<1))
 (some ([]:List Int))
 (cond (decide (legs<0))
 (some ([]:List Int))
 ((Zb0 y1 y2 at4_).bind fun y4=>
 (Zj (Zcm n l closed weight legs y1 y2) NN (0,y4)).bind (fun o0=>
 some o0))))))
instance (n:Za) (l:List Zc) (closed:List Ze) (from3_:ByteArray) (at4_:Int) (weight:Int) (legs:Int):CT Tryz.prog (Zab n l closed from3_ at4_ weight legs):=⟨195,[.ag (Zr n),.sl (l.map Zg),.sl (closed.map Zs),vs from3_,vi at4_,vi weight,vi legs],[],fun r=>.ms 0,fun r=>[some ⟨3,1,r.map cInt⟩],fun H=>by replace H:=H0 H; unfold Zab at H; exact Zh Tryz.func195 rfl Tryz.ntmps195 Tryz.results195 fun Q hQ hQn=>wk3⟩
def Zct (n:Za) (l:List Zc) (closed:List Ze) (weight:Int) (places:List ByteArray) (before:List Int) (from6_:Int) (to_:Int) (ends:Int) (s0:Int):Option (Int ⊕ (Unit ⊕ Ze)):=
 cond (decide (s0<(n.legs.length:Int)))
 ((getI n.legs s0).bind fun y1=>
 (ZG places y1.from_).bind fun y2=>
 (getI n.legs s0).bind fun y3=>
 (getI places to_).bind fun y4=>
 cond (!decide (y3.to_=y4))
 (some (.inl (w64 (s0+1))))
 ((getI before y2).bind fun y5=>
 cond (decide (y5<0))
 (some (.inl (w64 (s0+1))))
 ((getI before y2).bind fun y6=>
 (Zag n y6 (decide (y2=from6_))).bind fun y7=>
 (Z1 n l closed s0 y7 weight).bind fun y8=>
 cond (decide (0≤y8))
 ((Zq n (⟨s0,y8⟩:Ze)).bind fun y9=>
 cond (decide (y9=ends))
 (some (.inr (.inr (⟨s0,y8⟩:Ze))))
 (some (.inl (w64 (s0+1)))))
 (some (.inl (w64 (s0+1)))))))
 (some (.inr (.inl ())))
instance (n:Za) (l:List Zc) (closed:List Ze) (weight:Int) (places:List ByteArray) (before:List Int) (from6_:Int) (to_:Int) (ends:Int):ZP (Zct n l closed weight places before from6_ to_ ends):=⟨fun s0=>(.un::.sl (l.map Zg)::.sl (closed.map Zs)::vi weight::.sl (places.map cStr)::.sl (before.map cInt)::vi from6_::vi to_::vi ends::.be 0 0 0::(U 8 (.be 1 0 0::vi s0::(U 64 [])))),fun s0=>[some ⟨35,3,[[.sl (n.legs.map cLeg),.sl (n.off.map cInt),vi n.change]]⟩,some ⟨55,2,[[vi 0,vi 0]]⟩]⟩
def ZfD (n:Za) (l:List Zc) (closed:List Ze) (weight:Int) (places:List ByteArray) (before:List Int) (from6_:Int) (to_:Int) (ends:Int):Option Ze:=
 (Zj (Zct n l closed weight places before from6_ to_ ends) NN 0).bind (ZY (fun o0=>
 some (⟨0,0⟩:Ze)) (fun r=>some r))
instance (n:Za) (l:List Zc) (closed:List Ze) (weight:Int) (places:List ByteArray) (before:List Int) (from6_:Int) (to_:Int) (ends:Int):CT Tryz.prog (ZfD n l closed weight places before from6_ to_ ends):=⟨196,[.ag (Zr n),.sl (l.map Zg),.sl (closed.map Zs),vi weight,.sl (places.map cStr),.sl (before.map cInt),vi from6_,vi to_,vi ends],[],fun r=>.ag [vi r.leg,vi r.day],fun r=>[],fun H=>by replace H:=H0 H; unfold ZfD at H; exact Zh Tryz.func196 rfl Tryz.ntmps196 Tryz.results196 fun Q hQ hQn=>wk3⟩
def Za2 (n:Za) (l:List Zc) (closed:List Ze) (from3_:ByteArray) (at5_:Int) (weight:Int) (y1:(List ByteArray)) (y2:Int) (y3:Int) (y6:Int) (s0:Int):Option (Int ⊕ Int):=
 (Zab n l closed from3_ at5_ weight s0).bind fun y7=>
 (getI y7 y3).bind fun y8=>
 cond (!decide (y8=y6))
 (some (.inl (w64 (s0+1))))
 (some (.inr s0))
instance (n:Za) (l:List Zc) (closed:List Ze) (from3_:ByteArray) (at5_:Int) (weight:Int) (y1:(List ByteArray)) (y2:Int) (y3:Int) (y6:Int):ZP (Za2 n l closed from3_ at5_ weight y1 y2 y3 y6):=⟨fun s0=>(.un::.sl (l.map Zg)::.sl (closed.map Zs)::vs from3_::.un::vi at5_::vi weight::.be 0 0 0::(U 8 (.ms 1::vi y2::vi y3::.un::.ms 2::vi y6::vi s0::(U 97 [])))),fun s0=>[some ⟨35,3,[[.sl (n.legs.map cLeg),.sl (n.off.map cInt),vi n.change]]⟩,some ⟨9,1,y1.map cStr⟩,some ⟨55,2,([]:List Ze).map Zs⟩]⟩
def Zat (n:Za) (l:List Zc) (closed:List Ze) (from3_:ByteArray) (at5_:Int) (weight:Int) (y1:(List ByteArray)) (y2:Int) (s1:Int × Int × Int × (List Ze)):Option ((Int × Int × Int × (List Ze)) ⊕ (List Ze)):=
 cond (decide (0<s1.2.2.1))
 ((Zab n l closed from3_ at5_ weight (w64 (s1.2.2.1-1))).bind fun y9=>
 (ZfD n l closed weight y1 y9 y2 s1.1 s1.2.1).bind fun y10=>
 (chk (ZQ (([y10]:List Ze).length+(s1.2.2.2:List Ze).length) 16)).bind fun _=>
 (getI n.legs y10.leg).bind fun y11=>
 (ZG y1 y11.from_).bind fun y12=>
 (getI y9 y12).bind fun y13=>
 some (.inl (y12,y13,(w64 (s1.2.2.1-1)),(([y10]:List Ze)++s1.2.2.2))))
 (some (.inr s1.2.2.2))
instance (n:Za) (l:List Zc) (closed:List Ze) (from3_:ByteArray) (at5_:Int) (weight:Int) (y1:(List ByteArray)) (y2:Int):ZP (Zat n l closed from3_ at5_ weight y1 y2):=⟨fun s1=>(.un::.sl (l.map Zg)::.sl (closed.map Zs)::vs from3_::.un::vi at5_::vi weight::.be 0 0 0::(U 8 (.ms 1::vi y2::vi s1.1::.un::.ms 2::vi s1.2.1::.un::vi s1.2.2.1::(U 96 [])))),fun s1=>[some ⟨35,3,[[.sl (n.legs.map cLeg),.sl (n.off.map cInt),vi n.change]]⟩,some ⟨9,1,y1.map cStr⟩,some ⟨55,2,s1.2.2.2.map Zs⟩]⟩
def Zy (n:Za) (l:List Zc) (closed:List Ze) (from3_:ByteArray) (to_:ByteArray) (at5_:Int) (weight:Int):Option ((List Ze) × Bool):=
 (Z5 n).bind fun y1=>
 (ZG y1 from3_).bind fun y2=>
 (ZG y1 to_).bind fun y3=>
 (Zab n l closed from3_ at5_ weight (y1.length:Int)).bind fun y4=>
 cond (decide (y3<0))
 (some (([]:List Ze),false))
 (cond (decide ((y4.length:Int)=0))
 (some (([]:List Ze),false))
 ((getI y4 y3).bind fun y5=>
 cond (decide (y5<0))
 (some (([]:List Ze),false))
 ((getI y4 y3).bind fun y6=>
 (Zj (Za2 n l closed from3_ at5_ weight y1 y2 y3 y6) NN 0).bind (fun o0=>
 (Zj (Zat n l closed from3_ at5_ weight y1 y2) NN (y3,y6,o0,([]:List Ze))).bind (fun o1=>
 some (o1,true))))))
instance (n:Za) (l:List Zc) (closed:List Ze) (from3_:ByteArray) (to_:ByteArray) (at5_:Int) (weight:Int):CT Tryz.prog (Zy n l closed from3_ to_ at5_ weight):=⟨130,[.ag (Zr n),.sl (l.map Zg),.sl (closed.map Zs),vs from3_,vs to_,vi at5_,vi weight],[],fun r=>.tu [.ms 0,vb r.2],fun r=>[some ⟨55,2,r.1.map Zs⟩],fun H=>by replace H:=H0 H; unfold Zy at H; exact Zh Tryz.func130 rfl Tryz.ntmps130 Tryz.results130 fun Q hQ hQn=>wk3⟩
def ZfC (l:List Zc) (b:Zc) (s0:Int):Option (Int ⊕ Int):=
 cond (decide (s0<(l.length:Int)))
 ((getI l s0).bind fun y1=>
 (ZdO y1 b).bind fun y2=>
 cond y2
 (some (.inl (w64 (s0+1))))
 (some (.inr s0)))
 (some (.inr s0))
instance (l:List Zc) (b:Zc):ZP (ZfC l b):=⟨fun s0=>(.sl (l.map Zg)::.un::.un::.be 0 0 0::.un::vi s0::(U 25 [])),fun s0=>[some ⟨135,4,[[vi b.thing,vi b.trip.leg,vi b.trip.day,vi b.weight]]⟩]⟩
def ZeH (l:List Zc) (b:Zc):Option (List Zc):=
 (Zj (ZfC l b) NN 0).bind (fun o0=>
 (chk (slOk 0 o0 l.length)).bind fun _=>
 (Zdj (subL l 0 o0)).bind fun y3=>
 (chk (ZQ ((y3:List Zc).length+([b]:List Zc).length) 32)).bind fun _=>
 (chk (slOk o0 (l.length:Int) l.length)).bind fun _=>
 (chk (ZQ ((((y3:List Zc)++[b]):List Zc).length+((subL l o0 (l.length:Int)):List Zc).length) 32)).bind fun _=>
 some ((((y3:List Zc)++[b]):List Zc)++(subL l o0 (l.length:Int))))
instance (l:List Zc) (b:Zc):CT Tryz.prog (ZeH l b):=⟨197,[.sl (l.map Zg),.ag (Zg b)],[],fun r=>.ms 0,fun r=>[some ⟨135,4,r.map Zg⟩],fun H=>by replace H:=H0 H; unfold ZeH at H; exact Zh Tryz.func197 rfl Tryz.ntmps197 Tryz.results197 fun Q hQ hQn=>wk3⟩
def ZdJ (n:Za) (l:List Zc) (thing:Int) (weight:Int) (way:List Ze) (s0:Int × (List Zc)):Option ((Int × (List Zc)) ⊕ (List Zc)):=
 cond (decide (s0.1<(way.length:Int)))
 ((getI way s0.1).bind fun y3=>
 (ZeH s0.2 (⟨thing,y3,weight⟩:Zc)).bind fun y4=>
 some (.inl ((w64 (s0.1+1)),y4)))
 (some (.inr s0.2))
instance (n:Za) (l:List Zc) (thing:Int) (weight:Int) (way:List Ze):ZP (ZdJ n l thing weight way):=⟨fun s0=>(.un::.sl (l.map Zg)::vi thing::vi weight::.sl (way.map Zs)::.be 0 0 0::(U 6 (.ms 1::vi s0.1::(U 34 [])))),fun s0=>[some ⟨35,3,[[.sl (n.legs.map cLeg),.sl (n.off.map cInt),vi n.change]]⟩,some ⟨135,4,s0.2.map Zg⟩]⟩
def ZN (n:Za) (l:List Zc) (thing:Int) (weight:Int) (way:List Ze):Option ((List Zc) × Bool):=
 (Zdj l).bind fun y1=>
 (ZaG n l).bind fun y2=>
 cond (!y2)
 (some (y1,false))
 (cond (decide (20<(way.length:Int)))
 (some (y1,false))
 ((Zj (ZdJ n l thing weight way) NN (0,y1)).bind (fun o0=>
 (ZaG n o0).bind fun y5=>
 cond (!y5)
 ((Zdj l).bind fun y6=>
 some (y6,false))
 (some (o0,true)))))
instance (n:Za) (l:List Zc) (thing:Int) (weight:Int) (way:List Ze):CT Tryz.prog (ZN n l thing weight way):=⟨131,[.ag (Zr n),.sl (l.map Zg),vi thing,vi weight,.sl (way.map Zs)],[],fun r=>.tu [.ms 0,vb r.2],fun r=>[some ⟨135,4,r.1.map Zg⟩],fun H=>by replace H:=H0 H; unfold ZN at H; exact Zh Tryz.func131 rfl Tryz.ntmps131 Tryz.results131 fun Q hQ hQn=>wk3⟩
def Zcn (n:Za) (l:List Zc) (thing:Int) (at3_:Int) (y1:Bool) (s0:Int × (List Zc)):Option ((Int × (List Zc)) ⊕ (List Zc)):=
 cond (decide (s0.1<(l.length:Int)))
 (cond (!y1)
 ((getI l s0.1).bind fun y2=>
 (chk (ZQ ((s0.2:List Zc).length+([y2]:List Zc).length) 32)).bind fun _=>
 some (.inl ((w64 (s0.1+1)),((s0.2:List Zc)++[y2]))))
 ((getI l s0.1).bind fun y3=>
 cond (!decide (y3.thing=thing))
 ((getI l s0.1).bind fun y4=>
 (chk (ZQ ((s0.2:List Zc).length+([y4]:List Zc).length) 32)).bind fun _=>
 some (.inl ((w64 (s0.1+1)),((s0.2:List Zc)++[y4]))))
 ((getI l s0.1).bind fun y5=>
 (Zp n y5.trip).bind fun y6=>
 cond (decide (y6<at3_))
 ((getI l s0.1).bind fun y7=>
 (chk (ZQ ((s0.2:List Zc).length+([y7]:List Zc).length) 32)).bind fun _=>
 some (.inl ((w64 (s0.1+1)),((s0.2:List Zc)++[y7]))))
 (some (.inl ((w64 (s0.1+1)),s0.2))))))
 (some (.inr s0.2))
instance (n:Za) (l:List Zc) (thing:Int) (at3_:Int) (y1:Bool):ZP (Zcn n l thing at3_ y1):=⟨fun s0=>(.un::.sl (l.map Zg)::vi thing::vi at3_::.be 0 0 0::(U 4 (.ms 1::vb y1::vi s0.1::(U 40 [])))),fun s0=>[some ⟨35,3,[[.sl (n.legs.map cLeg),.sl (n.off.map cInt),vi n.change]]⟩,some ⟨135,4,s0.2.map Zg⟩]⟩
def ZdK (n:Za) (l:List Zc) (thing:Int) (at3_:Int):Option (List Zc):=
 (ZaG n l).bind fun y1=>
 (Zj (Zcn n l thing at3_ y1) NN (0,([]:List Zc))).bind (fun o0=>
 some o0)
instance (n:Za) (l:List Zc) (thing:Int) (at3_:Int):CT Tryz.prog (ZdK n l thing at3_):=⟨191,[.ag (Zr n),.sl (l.map Zg),vi thing,vi at3_],[],fun r=>.ms 0,fun r=>[some ⟨135,4,r.map Zg⟩],fun H=>by replace H:=H0 H; unfold ZdK at H; exact Zh Tryz.func191 rfl Tryz.ntmps191 Tryz.results191 fun Q hQ hQn=>wk3⟩
def Zc9 (n:Za) (leg:Int) (at2_:Int) (s0:Int):Option (Int ⊕ (Unit ⊕ Int)):=
 cond (decide (s0≤60))
 ((ZX n leg s0).bind fun y1=>
 cond y1
 ((Zp n (⟨leg,s0⟩:Ze)).bind fun y2=>
 cond (decide (at2_≤y2))
 (some (.inr (.inr s0)))
 (some (.inl (w64 (s0+1)))))
 (some (.inl (w64 (s0+1)))))
 (some (.inr (.inl ())))
instance (n:Za) (leg:Int) (at2_:Int):ZP (Zc9 n leg at2_):=⟨fun s0=>(.un::vi leg::vi at2_::.be 0 0 0::(U 3 (vi s0::(U 18 [])))),fun s0=>[some ⟨35,3,[[.sl (n.legs.map cLeg),.sl (n.off.map cInt),vi n.change]]⟩]⟩
def ZcF (n:Za) (leg:Int) (at2_:Int):Option Int:=
 (Zj (Zc9 n leg at2_) NN 0).bind (ZY (fun o0=>
 some (-1)) (fun r=>some r))
instance (n:Za) (leg:Int) (at2_:Int):CT Tryz.prog (ZcF n leg at2_):=⟨247,[.ag (Zr n),vi leg,vi at2_],[],fun r=>vi r,fun r=>[],fun H=>by replace H:=H0 H; unfold ZcF at H; exact Zh Tryz.func247 rfl Tryz.ntmps247 Tryz.results247 fun Q hQ hQn=>wk3⟩
def ZeR (n:Za) (places:List ByteArray) (best:List Int) (from3_:Int) (s0:Int × (List Int)):Option ((Int × (List Int)) ⊕ (List Int)):=
 cond (decide (s0.1<(n.legs.length:Int)))
 ((getI n.legs s0.1).bind fun y2=>
 (ZG places y2.from_).bind fun y3=>
 (getI n.legs s0.1).bind fun y4=>
 (ZG places y4.to_).bind fun y5=>
 (getI best y3).bind fun y6=>
 cond (decide (y6<0))
 (some (.inl ((w64 (s0.1+1)),s0.2)))
 ((getI best y3).bind fun y7=>
 (Zag n y7 (decide (y3=from3_))).bind fun y8=>
 (ZcF n s0.1 y8).bind fun y9=>
 cond (decide (y9<0))
 (some (.inl ((w64 (s0.1+1)),s0.2)))
 ((Zq n (⟨s0.1,y9⟩:Ze)).bind fun y10=>
 (getI s0.2 y5).bind fun y11=>
 cond (decide (y11<0))
 ((getI s0.2 y5).bind fun y12=>
 some (.inl ((w64 (s0.1+1)),(s0.2.set (Int.toNat y5) y10))))
 ((getI s0.2 y5).bind fun y13=>
 cond (decide (y10<y13))
 ((getI s0.2 y5).bind fun y14=>
 some (.inl ((w64 (s0.1+1)),(s0.2.set (Int.toNat y5) y10))))
 (some (.inl ((w64 (s0.1+1)),s0.2)))))))
 (some (.inr s0.2))
instance (n:Za) (places:List ByteArray) (best:List Int) (from3_:Int):ZP (ZeR n places best from3_):=⟨fun s0=>(.un::.sl (places.map cStr)::.sl (best.map cInt)::vi from3_::.be 0 0 0::(U 4 (.ms 1::vi s0.1::(U 71 [])))),fun s0=>[some ⟨35,3,[[.sl (n.legs.map cLeg),.sl (n.off.map cInt),vi n.change]]⟩,some ⟨3,1,s0.2.map cInt⟩]⟩
def Ze9 (n:Za) (places:List ByteArray) (best:List Int) (from3_:Int):Option (List Int):=
 (ZbZ best).bind fun y1=>
 (Zj (ZeR n places best from3_) NN (0,y1)).bind (fun o0=>
 some o0)
instance (n:Za) (places:List ByteArray) (best:List Int) (from3_:Int):CT Tryz.prog (Ze9 n places best from3_):=⟨258,[.ag (Zr n),.sl (places.map cStr),.sl (best.map cInt),vi from3_],[],fun r=>.ms 0,fun r=>[some ⟨3,1,r.map cInt⟩],fun H=>by replace H:=H0 H; unfold Ze9 at H; exact Zh Tryz.func258 rfl Tryz.ntmps258 Tryz.results258 fun Q hQ hQn=>wk3⟩
def Za6 (n:Za) (legs:Int) (y1:(List ByteArray)) (y2:Int) (s0:Int × (List Int)):Option ((Int × (List Int)) ⊕ (List Int)):=
 cond (decide (s0.1<legs))
 (cond (decide (s0.1<(y1.length:Int)))
 ((Ze9 n y1 s0.2 y2).bind fun y5=>
 some (.inl ((w64 (s0.1+1)),y5)))
 (some (.inr s0.2)))
 (some (.inr s0.2))
instance (n:Za) (legs:Int) (y1:(List ByteArray)) (y2:Int):ZP (Za6 n legs y1 y2):=⟨fun s0=>(U 3 (vi legs::.be 0 0 0::(U 4 (.ms 1::vi y2::.ms 2::vi s0.1::(U 42 []))))),fun s0=>[some ⟨35,3,[[.sl (n.legs.map cLeg),.sl (n.off.map cInt),vi n.change]]⟩,some ⟨9,1,y1.map cStr⟩,some ⟨3,1,s0.2.map cInt⟩]⟩
def ZcT (n:Za) (from1_:ByteArray) (at2_:Int) (legs:Int):Option (List Int):=
 (Z5 n).bind fun y1=>
 (ZG y1 from1_).bind fun y2=>
 (Zi n).bind fun y3=>
 cond (!y3)
 (some ([]:List Int))
 (cond (decide (y2<0))
 (some ([]:List Int))
 (cond (decide (100000<at2_))
 (some ([]:List Int))
 (cond (decide (legs<0))
 (some ([]:List Int))
 ((Zb0 y1 y2 at2_).bind fun y4=>
 (Zj (Za6 n legs y1 y2) NN (0,y4)).bind (fun o0=>
 some o0)))))
instance (n:Za) (from1_:ByteArray) (at2_:Int) (legs:Int):CT Tryz.prog (ZcT n from1_ at2_ legs):=⟨237,[.ag (Zr n),vs from1_,vi at2_,vi legs],[],fun r=>.ms 0,fun r=>[some ⟨3,1,r.map cInt⟩],fun H=>by replace H:=H0 H; unfold ZcT at H; exact Zh Tryz.func237 rfl Tryz.ntmps237 Tryz.results237 fun Q hQ hQn=>wk3⟩
def ZcN (n:Za) (from1_:ByteArray) (to_:ByteArray) (at3_:Int):Option Int:=
 (Z5 n).bind fun y1=>
 (ZG y1 to_).bind fun y2=>
 (ZcT n from1_ at3_ (y1.length:Int)).bind fun y3=>
 cond (decide (y2<0))
 (some (-1))
 (cond (decide ((y3.length:Int)=0))
 (some (-1))
 ((getI y3 y2).bind fun y4=>
 some y4))
instance (n:Za) (from1_:ByteArray) (to_:ByteArray) (at3_:Int):CT Tryz.prog (ZcN n from1_ to_ at3_):=⟨198,[.ag (Zr n),vs from1_,vs to_,vi at3_],[],fun r=>vi r,fun r=>[],fun H=>by replace H:=H0 H; unfold ZcN at H; exact Zh Tryz.func198 rfl Tryz.ntmps198 Tryz.results198 fun Q hQ hQn=>wk3⟩
def Zc8 (n:Za) (service:Int) (from2_:ByteArray) (to_:ByteArray) (at4_:Int):Option Int:=
 (ZcN n from2_ to_ at4_).bind fun y1=>
 cond (decide (y1<0))
 (some (-1))
 ((ZJ service 1 3).bind fun y2=>
 cond (!y2)
 (some (-1))
 (cond (decide (1080<(Int.tmod y1 1440)))
 (some (w64 ((w64 ((w64 ((w64 ((IntKind.i64.wrap (Int.tdiv y1 1440))+1))+(w64 ((w64 (service-1))*(w64 (service-1))))))*1440))+1080)))
 (some (w64 ((w64 ((w64 ((IntKind.i64.wrap (Int.tdiv y1 1440))+(w64 ((w64 (service-1))*(w64 (service-1))))))*1440))+1080)))))
instance (n:Za) (service:Int) (from2_:ByteArray) (to_:ByteArray) (at4_:Int):CT Tryz.prog (Zc8 n service from2_ to_ at4_):=⟨132,[.ag (Zr n),vi service,vs from2_,vs to_,vi at4_],[],fun r=>vi r,fun r=>[],fun H=>by replace H:=H0 H; unfold Zc8 at H; exact Zh Tryz.func132 rfl Tryz.ntmps132 Tryz.results132 fun Q hQ hQn=>wk3⟩
theorem Ze2 (l:List ByteArray) (p:ByteArray):-1≤idxV l p∧idxV l p<l.length:=by
 unfold idxV
 cases h:l.findIdx? fun y=>decide (y=p) with
 | none=>simp; omega
 | some k=>
  have:=(List.findIdx?_eq_some_iff_getElem.1 h).1
  simp only [Option.elim]; omega
theorem ZeW {l:List ByteArray} {p:ByteArray} (h:p∈l):0≤idxV l p:=by
 unfold idxV
 cases h':l.findIdx? fun y=>decide (y=p) with
 | none=>
  have:=List.findIdx?_eq_none_iff.1 h' p h
  simp at this
 | some k=>simp only [Option.elim]; omega
theorem Zf0 {n:Za} {l:YLeg} (h:l∈n.legs):l.from_∈Zb n∧l.to_∈Zb n:=by
 obtain ⟨i,hi,rfl⟩:=List.getElem_of_mem h
 obtain ⟨a,b⟩:=Znd hi
 unfold Zb
 exact ⟨Zhk.2 (.inl (List.mem_of_getElem? a)),Zhk.2 (.inl (List.mem_of_getElem? b))⟩
theorem Zew {α:Type} {xs:List α} {i:Int} (h:0≤i∧i<xs.length):∃ x,getI xs i=some x∧x∈xs:=by
 have hlt:i.toNat<xs.length:=by omega
 exact ⟨xs[i.toNat],by unfold getI; rw [if_pos h.1]; exact List.getElem?_eq_getElem hlt,List.getElem_mem hlt⟩
section
variable {n:Za} (hf:Z0 n)
include hf
theorem plen:(Zb n).length≤2097152:=by have:=Zaz n; have:=hf.legs; omega
theorem Zgk (p:ByteArray):ZG (Zb n) p=some (idxV (Zb n) p):=Zft (by have:=plen hf; omega) p
theorem Zs3 (leg day:Int):∃ b,ZX n leg day=some b:=(Zf1 hf leg day).2
theorem Zlz {l:List Zc} (hl:l.length≤1048576) {closed:List Ze} (hc:closed.length≤1048576) {leg:Int} {y:YLeg} (hy:getI n.legs leg=some y) (at_ weight:Int):Tot (Z1 n l closed leg at_ weight) fun r=>True:=by
 unfold Z1
 have hl0:Tot (Zj (ZV n l closed leg at_ weight) NN 0) fun r=>True:=by
  refine Tot.loop (fun k s=>∃ i:Nat,s=(i:Int)∧i+k=61) (fun k s hs=>?_) NN 61 0 ⟨0,rfl,rfl⟩ (by unfold NN; omega)
  obtain ⟨i,rfl,hk⟩:=hs
  unfold ZV
  refine Tot.cond (fun hd=>?_) fun hd=>Tot.ret trivial
  have hi:=of_decide_eq_true hd
  have hw:w64 ((i:Int)+1)=((i+1:Nat):Int):=by rw [Zo (by omega)]; omega
  have go:∀ {σ:Type},ZiJ (fun k (s:Int)=>∃ i:Nat,s=(i:Int)∧i+k=61) (fun r:Unit ⊕ Int=>True) k (Sum.inl (w64 ((i:Int)+1))):=⟨k-1,by omega,i+1,hw,by omega⟩
  obtain ⟨b,hb⟩:=Zs3 hf leg (i:Int)
  obtain ⟨v,hv⟩:=ZfM (n:=n) (t:=⟨leg,(i:Int)⟩) hy
  obtain ⟨q,hq⟩:=Zg1 hl (⟨leg,(i:Int)⟩:Ze)
  rw [hb,Option.bind_some]
  refine Tot.cond (fun _=>?_) fun _=>Tot.ret (go (σ:=Unit))
  rw [hv,Option.bind_some]
  refine Tot.cond (fun _=>?_) fun _=>Tot.ret (go (σ:=Unit))
  rw [Zcs,Zb1 hc,Option.bind_some]
  refine Tot.cond (fun _=>?_) fun _=>Tot.ret (go (σ:=Unit))
  rw [hy,Option.bind_some,hq,Option.bind_some]
  exact Tot.cond (fun _=>Tot.ret trivial) fun _=>Tot.ret (go (σ:=Unit))
 refine Tot.bind hl0 fun r _=>?_
 cases r with
 | inl u=>exact Tot.ret trivial
 | inr v=>exact Tot.ret trivial
theorem Zly {leg:Int} {y:YLeg} (hy:getI n.legs leg=some y) (at_:Int):Tot (ZcF n leg at_) fun r=>True:=by
 unfold ZcF
 have hl0:Tot (Zj (Zc9 n leg at_) NN 0) fun r=>True:=by
  refine Tot.loop (fun k s=>∃ i:Nat,s=(i:Int)∧i+k=61) (fun k s hs=>?_) NN 61 0 ⟨0,rfl,rfl⟩ (by unfold NN; omega)
  obtain ⟨i,rfl,hk⟩:=hs
  unfold Zc9
  refine Tot.cond (fun hd=>?_) fun hd=>Tot.ret trivial
  have hi:=of_decide_eq_true hd
  have hw:w64 ((i:Int)+1)=((i+1:Nat):Int):=by rw [Zo (by omega)]; omega
  have go:∀ {σ:Type},ZiJ (fun k (s:Int)=>∃ i:Nat,s=(i:Int)∧i+k=61) (fun r:Unit ⊕ Int=>True) k (Sum.inl (w64 ((i:Int)+1))):=⟨k-1,by omega,i+1,hw,by omega⟩
  obtain ⟨b,hb⟩:=Zs3 hf leg (i:Int)
  obtain ⟨v,hv⟩:=ZfM (n:=n) (t:=⟨leg,(i:Int)⟩) hy
  rw [hb,Option.bind_some]
  refine Tot.cond (fun _=>?_) fun _=>Tot.ret (go (σ:=Unit))
  rw [hv,Option.bind_some]
  exact Tot.cond (fun _=>Tot.ret trivial) fun _=>Tot.ret (go (σ:=Unit))
 refine Tot.bind hl0 fun r _=>?_
 cases r with
 | inl u=>exact Tot.ret trivial
 | inr v=>exact Tot.ret trivial
omit hf in
theorem ZiA (a:Int) (b:Bool):Tot (Zag n a b) fun r=>True:=by
 unfold Zag
 exact Tot.cond (fun _=>Tot.ret trivial) fun _=>Tot.ret trivial
omit hf in
theorem Zwt (a b:Int):Tot (Zeo a b) fun r=>True:=by
 unfold Zeo
 exact Tot.cond (fun _=>Tot.ret trivial) fun _=>Tot.ret trivial
theorem Zka (f at_:Int):Tot (Zb0 (Zb n) f at_) fun r=>r.length=(Zb n).length:=by
 have hp:=plen hf
 unfold Zb0
 refine Tot.bind (P:=fun o=>o.length=(Zb n).length) ?_ fun o ho=>Tot.ret ho
 refine Tot.loop (fun k s=>∃ i:Nat,s.1=(i:Int)∧i+k=(Zb n).length∧s.2.length=i) (fun k s hs=>?_) NN (Zb n).length _ ⟨0,rfl,by omega,rfl⟩ (by unfold NN; omega)
 obtain ⟨i,hi,hk,hlen⟩:=hs
 unfold ZbV
 rw [hi]
 refine Tot.cond (fun hd=>?_) fun hd=>Tot.ret (by have:=of_decide_eq_false hd; simp only [ZiJ]; omega)
 have hlt:=of_decide_eq_true hd
 have hw:w64 ((i:Int)+1)=((i+1:Nat):Int):=by rw [Zo (by omega)]; omega
 rw [hw]
 have go:∀ (x:Int),ZiJ (fun k (s:Int × List Int)=>∃ i:Nat,s.1=(i:Int)∧i+k=(Zb n).length∧s.2.length=i) (fun o:List Int=>o.length=(Zb n).length) k (Sum.inl (((i+1:Nat):Int),s.2++[x])):=fun x=>⟨k-1,by omega,i+1,rfl,by omega,by simp [hlen]⟩
 refine Tot.cond (fun _=>Tot.bind (Zwt _ _) fun y _=>Tot.chk (Zfo (by simp only [List.length_cons,List.length_nil]; omega) (by omega)) (Tot.ret (go y))) fun _=>Tot.chk (Zfo (by simp only [List.length_cons,List.length_nil]; omega) (by omega)) (Tot.ret (go _))
theorem Zqd {l:List Zc} (hb:ZZ n l=true) {b:Zc} (h:b∈l):ZbJ n b.trip=true:=by
 obtain ⟨i,hi,rfl⟩:=List.getElem_of_mem h
 have:=(Zjr hb hi).1
 unfold bk1 at this
 rw [List.getElem?_eq_getElem hi] at this
 simp only [Bool.and_eq_true] at this
 exact this.1.1.1
omit hf in
theorem ZvM {l:List Zc} (hl:l.length≤1048575) (b:Zc):Tot (ZeH l b) fun r=>r.length=l.length+1:=by
 unfold ZeH
 refine Tot.bind (P:=fun o:Int=>0≤o∧o≤l.length) ?_ fun o ho=>?_
 ·refine Tot.loop (fun k s=>∃ i:Nat,s=(i:Int)∧i+k=l.length) (fun k s hs=>?_) NN l.length 0 ⟨0,rfl,by omega⟩ (by unfold NN; omega)
  obtain ⟨i,rfl,hk⟩:=hs
  unfold ZfC
  refine Tot.cond (fun hd=>?_) fun hd=>Tot.ret (by simp only [ZiJ]; omega)
  have hlt:=of_decide_eq_true hd
  have hw:w64 ((i:Int)+1)=((i+1:Nat):Int):=by rw [Zo (by omega)]; omega
  obtain ⟨y,hy,hm⟩:=Zew (xs:=l) (i:=(i:Int)) ⟨by omega,hlt⟩
  rw [hy,Option.bind_some,ZlT,Option.bind_some]
  exact Tot.cond (fun _=>Tot.ret ⟨k-1,by omega,i+1,hw,by omega⟩) fun _=>Tot.ret (by simp only [ZiJ]; omega)
 ·have l1:(subL l 0 o).length=o.toNat:=by unfold subL; simp; omega
  have l2:(subL l o (l.length:Int)).length=l.length-o.toNat:=by unfold subL; simp
  refine Tot.chk (by unfold slOk; exact decide_eq_true (by omega)) ?_
  rw [Zgd (by omega),Option.bind_some]
  refine Tot.chk (Zfo (by simp only [List.length_cons,List.length_nil]; omega) (by omega)) (Tot.chk (by unfold slOk; exact decide_eq_true (by omega)) (Tot.chk (Zfo (by simp only [List.length_append,List.length_cons,List.length_nil]; omega) (by omega)) (Tot.ret ?_)))
  simp only [List.length_append,List.length_cons,List.length_nil]
  omega
theorem ZtS {l:List Zc} (hl:l.length≤1048000) (thing weight:Int) (way:List Ze):Tot (ZN n l thing weight way) fun r=>r.1.length≤l.length+20∧(r.2=true→r.1.length≤120):=by
 unfold ZN
 rw [Zgd (by omega),Option.bind_some,Zcu hf (by omega),Option.bind_some]
 refine Tot.cond (fun _=>Tot.ret ⟨by simp only; omega,fun h=>by cases h⟩) fun _=>Tot.cond (fun _=>Tot.ret ⟨by simp only; omega,fun h=>by cases h⟩) fun hd=>?_
 have hle:=of_decide_eq_false hd
 refine Tot.bind (P:=fun o:List Zc=>o.length≤l.length+20) ?_ fun o ho=>?_
 ·refine Tot.loop (fun k s=>∃ i:Nat,s.1=(i:Int)∧i+k=way.length∧s.2.length=l.length+i) (fun k s hs=>?_) NN way.length _ ⟨0,rfl,by omega,rfl⟩ (by unfold NN; omega)
  obtain ⟨i,hi,hk,hlen⟩:=hs
  unfold ZdJ
  rw [hi]
  refine Tot.cond (fun hd=>?_) fun hd=>Tot.ret (by simp only [ZiJ]; omega)
  have hlt:=of_decide_eq_true hd
  have hw:w64 ((i:Int)+1)=((i+1:Nat):Int):=by rw [Zo (by omega)]; omega
  obtain ⟨y,hy,hm⟩:=Zew (xs:=way) (i:=(i:Int)) ⟨by omega,hlt⟩
  rw [hy,Option.bind_some,hw]
  exact Tot.bind (ZvM (by omega) _) fun r hr=>Tot.ret ⟨k-1,by omega,i+1,rfl,by omega,by simp only; omega⟩
 ·rw [Zcu hf (by omega),Option.bind_some]
  refine Tot.cond (fun _=>Tot.ret ⟨by simp only; omega,fun h=>by cases h⟩) fun hb=>Tot.ret ⟨ho,fun _=>(Zav (n:=n) (l:=o) (by simpa using hb)).2⟩
end
theorem ZfZ {l:List ByteArray} {p:ByteArray} (h:0≤idxV l p):getI l (idxV l p)=some p:=by
 unfold idxV at h ⊢
 cases h':l.findIdx? fun y=>decide (y=p) with
 | none=>rw [h'] at h; simp at h
 | some k=>
  obtain ⟨h1,h2,_⟩:=List.findIdx?_eq_some_iff_getElem.1 h'
  have h2:=of_decide_eq_true h2
  simp only [Option.elim]
  rw [Zn,List.getElem?_eq_getElem h1,h2]
theorem Zpo {α:Type} {xs:List α} {i j:Int} {v x:α} (hi:0≤i) (h:getI (xs.set (Int.toNat i) v) j=some x):(j=i∧x=v)∨getI xs j=some x:=by
 obtain ⟨h0,h1⟩:=Zdb h
 by_cases he:j=i
 ·subst he
  rw [List.getElem?_set_self'] at h1
  cases hx:xs[j.toNat]? with
  | none=>rw [hx] at h1; simp at h1
  | some y=>rw [hx] at h1; simp at h1; exact .inl ⟨rfl,h1.symm⟩
 ·refine .inr ?_
  rw [List.getElem?_set_ne (by omega)] at h1
  unfold getI; rw [if_pos h0]; exact h1
def Cand (n:Za) (l:List Zc) (closed:List Ze) (weight f:Int) (r:List Int) (x v:Int):Prop:=
 ∃ (i:Nat) (y:YLeg) (d u z:Int),n.legs[i]?=some y∧idxV (Zb n) y.to_=x∧getI r (idxV (Zb n) y.from_)=some u∧¬ u<0∧Zag n u (decide (idxV (Zb n) y.from_=f))=some z∧Z1 n l closed (i:Int) z weight=some d∧¬ d<0∧Zq n ⟨(i:Int),d⟩=some v
section
variable {n:Za} (hf:Z0 n)
include hf
theorem ZlG {l:List Zc} (hl:l.length≤1048576) {closed:List Ze} (hc:closed.length≤1048576) (weight:Int) {best:List Int} (hb:best.length=(Zb n).length) (f:Int):Tot (Zau n l closed weight (Zb n) best f) fun r=>r.length=(Zb n).length∧∀ x v,getI r x=some v→getI best x=some v∨Cand n l closed weight f best x v:=by
 have hp:=plen hf
 have hll:=hf.legs
 unfold Zau
 refine Tot.bind (P:=fun r=>r=best) ?_ fun r hr=>?_
 ·by_cases h1:best.length≤1048576
  ·exact Tot.of (Zm3 h1) rfl
  ·unfold ZbZ
   exact Tot.chk (Zfo (by simp only [List.length_nil]; omega) (by omega)) (Tot.ret (by simp))
 ·subst hr
  refine Tot.bind (P:=fun o=>o.length=(Zb n).length∧∀ x v,getI o x=some v→getI r x=some v∨Cand n l closed weight f r x v) ?_ fun o ho=>Tot.ret ho
  refine Tot.loop (fun (k:Nat) (s:Int × List Int)=>∃ i:Nat,s.1=(i:Int)∧i+k=n.legs.length∧s.2.length=(Zb n).length∧∀ x v,getI s.2 x=some v→getI r x=some v∨Cand n l closed weight f r x v) (fun k s hs=>?_) NN n.legs.length _ ⟨0,rfl,by omega,hb,fun x v h=>.inl h⟩ (by unfold NN; omega)
  obtain ⟨i,hi,hk,hlen,hcd⟩:=hs
  unfold ZaB
  rw [hi]
  refine Tot.cond (fun hd=>?_) fun hd=>Tot.ret ⟨hlen,hcd⟩
  have hlt:=of_decide_eq_true hd
  have hw:w64 ((i:Int)+1)=((i+1:Nat):Int):=by rw [Zo (by omega)]; omega
  obtain ⟨y,hy,hm⟩:=Zew (xs:=n.legs) (i:=(i:Int)) ⟨by omega,hlt⟩
  obtain ⟨m1,m2⟩:=Zf0 hm
  have a0:=ZeW m1
  have a1:=(Ze2 (Zb n) y.from_).2
  have b0:=ZeW m2
  have b1:=(Ze2 (Zb n) y.to_).2
  obtain ⟨v6,g6,_⟩:=Zew (xs:=r) (i:=idxV (Zb n) y.from_) ⟨a0,by omega⟩
  obtain ⟨v11,g11,_⟩:=Zew (xs:=s.2) (i:=idxV (Zb n) y.to_) ⟨b0,by omega⟩
  simp only [hy,Option.bind_some,Zgk hf,g6,hw]
  have go:∀ (s':List Int),s'.length=(Zb n).length→(∀ x v,getI s' x=some v→getI r x=some v∨Cand n l closed weight f r x v)→ZiJ (fun (k:Nat) (s:Int × List Int)=>∃ i:Nat,s.1=(i:Int)∧i+k=n.legs.length∧s.2.length=(Zb n).length∧∀ x v,getI s.2 x=some v→getI r x=some v∨Cand n l closed weight f r x v) (fun o:List Int=>o.length=(Zb n).length∧∀ x v,getI o x=some v→getI r x=some v∨Cand n l closed weight f r x v) k (Sum.inl (((i+1:Nat):Int),s')):=fun s' h' h''=>⟨k-1,by omega,i+1,rfl,by omega,h',h''⟩
  refine Tot.cond (fun _=>Tot.ret (go _ hlen hcd)) fun hu=>?_
  obtain ⟨z,ez,_⟩:=ZiA (n:=n) v6 (decide (idxV (Zb n) y.from_=f))
  obtain ⟨d,ed,_⟩:=Zlz hf hl hc hy z weight
  rw [ez,Option.bind_some,ed,Option.bind_some]
  refine Tot.cond (fun _=>Tot.ret (go _ hlen hcd)) fun hdn=>?_
  obtain ⟨e,he⟩:=Zfr (n:=n) (t:=⟨(i:Int),d⟩) hy
  simp only [he,Option.bind_some,g11]
  have hyi:n.legs[i]?=some y:=by rw [Zn] at hy; exact hy
  have new:∀ x v,getI (s.2.set (Int.toNat (idxV (Zb n) y.to_)) e) x=some v→getI r x=some v∨Cand n l closed weight f r x v:=fun x v h=>by
   rcases Zpo b0 h with ⟨rfl,rfl⟩ | h
   ·exact .inr ⟨i,y,d,v6,z,hyi,rfl,g6,of_decide_eq_false hu,ez,ed,of_decide_eq_false hdn,he⟩
   ·exact hcd x v h
  exact Tot.cond (fun _=>Tot.ret (go _ (by rw [List.length_set]; exact hlen) new)) fun _=>Tot.cond (fun _=>Tot.ret (go _ (by rw [List.length_set]; exact hlen) new)) fun _=>Tot.ret (go _ hlen hcd)
end
def ZpS (n:Za) (l:List Zc) (closed:List Ze) (weight f:Int) (r:List Int):List Int:=(Zau n l closed weight (Zb n) r f).getD []
def Z6 (n:Za) (l:List Zc) (closed:List Ze) (weight f at_:Int):Nat→List Int
 | 0=>(Zb0 (Zb n) f at_).getD []
 | k+1=>ZpS n l closed weight f (Z6 n l closed weight f at_ k)
section
variable {n:Za} (hf:Z0 n) {l:List Zc} (hl:l.length≤1048576) {closed:List Ze} (hc:closed.length≤1048576) (weight f at_:Int)
include hf hl hc
theorem Zfb:∀ k,(Z6 n l closed weight f at_ k).length=(Zb n).length
 | 0=>by
  obtain ⟨r,e,h⟩:=Zka hf f at_
  unfold Z6; rw [e]; exact h
 | k+1=>by
  obtain ⟨r,e,h,_⟩:=ZlG hf hl hc weight (Zfb k) f
  unfold Z6 ZpS; rw [e]; exact h
theorem ZgF (k:Nat):Zau n l closed weight (Zb n) (Z6 n l closed weight f at_ k) f=some (Z6 n l closed weight f at_ (k+1))∧∀ x v,getI (Z6 n l closed weight f at_ (k+1)) x=some v→getI (Z6 n l closed weight f at_ k) x=some v∨Cand n l closed weight f (Z6 n l closed weight f at_ k) x v:=by
 obtain ⟨r,e,h,h'⟩:=ZlG hf hl hc weight (Zfb hf hl hc weight f at_ k) f
 have:Z6 n l closed weight f at_ (k+1)=r:=by show (Zau n l closed weight (Zb n) (Z6 n l closed weight f at_ k) f).getD []=r; rw [e]; rfl
 rw [this]
 exact ⟨e,h'⟩
theorem ZfR {from_:ByteArray} (hC:ZZ n l=true∧0≤idxV (Zb n) from_∧at_≤100000∧1≤weight) {k:Nat} (hk:k≤(Zb n).length):Zab n l closed from_ at_ weight (k:Int)=some (Z6 n l closed weight (idxV (Zb n) from_) at_ k):=by
 have hp:=plen hf
 obtain ⟨r0,e0,_⟩:=Zka hf (idxV (Zb n) from_) at_
 have h0:Z6 n l closed weight (idxV (Zb n) from_) at_ 0=r0:=by unfold Z6; rw [e0]; rfl
 unfold Zab
 rw [(Zac hf).2]
 simp only [Option.bind_some,Zgk hf,Zcu hf hl,hC.1,Bool.not_true,cond_false,decide_eq_false (show ¬ idxV (Zb n) from_<0 by omega),decide_eq_false (show ¬ 100000<at_ by omega),decide_eq_false (show ¬ weight<1 by omega),decide_eq_false (show ¬ (k:Int)<0 by omega),e0]
 have e:Zj (Zcm n l closed weight (k:Int) (Zb n) (idxV (Zb n) from_)) NN (0,Z6 n l closed weight (idxV (Zb n) from_) at_ 0)=some (Z6 n l closed weight (idxV (Zb n) from_) at_ k):=by
  refine ZbW (body:=Zcm n l closed weight (k:Int) (Zb n) (idxV (Zb n) from_)) (fun i:Nat=>((i:Int),Z6 n l closed weight (idxV (Zb n) from_) at_ i)) (n:=k) (o:=Z6 n l closed weight (idxV (Zb n) from_) at_ k) (fun i hi=>?_) ?_ NN (by unfold NN; omega)
  ·unfold Zcm
   rw [decide_eq_true (show (i:Int)<(k:Int) by omega),decide_eq_true (show (i:Int)<((Zb n).length:Int) by omega),cond_true,cond_true,(ZgF hf hl hc weight _ at_ i).1,Option.bind_some,Zo (by omega)]
   rfl
  ·unfold Zcm
   simp
 rw [← h0,e]; rfl
end
section
variable {n:Za} (hf:Z0 n)
include hf
end
def Zby (leg:Int) (at1_:Int) (c0_:Za) (c1_:List Ze) (c2_:List Zc) (c3_:Int) (s0:Int):Option (Int ⊕ (Unit ⊕ (Ze × Bool))):=
 cond (decide (s0≤60))
 ((Zd4 c0_ leg s0).bind fun y1=>
 cond y1
 ((ZH c0_ (⟨leg,s0⟩:Ze)).bind fun y2=>
 cond (decide (at1_≤y2))
 ((ZaQ c1_ (⟨leg,s0⟩:Ze)).bind fun y3=>
 cond (!y3)
 ((getI c0_.legs leg).bind fun y4=>
 (Zdc c2_ (⟨leg,s0⟩:Ze)).bind fun y5=>
 cond (decide (c3_≤(w64 (y4.room-y5))))
 (some (.inr (.inr ((⟨leg,s0⟩:Ze),true))))
 (some (.inl (w64 (s0+1)))))
 (some (.inl (w64 (s0+1)))))
 (some (.inl (w64 (s0+1)))))
 (some (.inl (w64 (s0+1)))))
 (some (.inr (.inl ())))
instance (leg:Int) (at1_:Int) (c0_:Za) (c1_:List Ze) (c2_:List Zc) (c3_:Int):ZP (Zby leg at1_ c0_ c1_ c2_ c3_):=⟨fun s0=>(vi leg::vi at1_::.rp [.sl (c0_.legs.map cLeg),.sl (c0_.off.map cInt),vi c0_.change]::.rp [.sl (c1_.map Zs)]::.rp [.sl (c2_.map Zg)]::.rp [vi c3_]::.un::.un::.be 0 0 0::.un::vi s0::(U 41 [])),fun s0=>[some ⟨55,2,[[vi 0,vi 0]]⟩]⟩
def Zb4 (leg:Int) (at1_:Int) (c0_:Za) (c1_:List Ze) (c2_:List Zc) (c3_:Int):Option (Ze × Bool):=
 (Zj (Zby leg at1_ c0_ c1_ c2_ c3_) NN 0).bind (ZY (fun o0=>
 some ((⟨0,0⟩:Ze),false)) (fun r=>some r))
instance (leg:Int) (at1_:Int) (c0_:Za) (c1_:List Ze) (c2_:List Zc) (c3_:Int):CT Tryz.prog (Zb4 leg at1_ c0_ c1_ c2_ c3_):=⟨238,[vi leg,vi at1_,.rp [.sl (c0_.legs.map cLeg),.sl (c0_.off.map cInt),vi c0_.change],.rp [.sl (c1_.map Zs)],.rp [.sl (c2_.map Zg)],.rp [vi c3_]],[],fun r=>.tu [.ag [vi r.1.leg,vi r.1.day],vb r.2],fun r=>[],fun H=>by replace H:=H0 H; unfold Zb4 at H; exact Zh Tryz.func238 rfl Tryz.ntmps238 Tryz.results238 fun Q hQ hQn=>wk3⟩
def Zdn (n:Za) (at1_:Int) (start:Bool):Option Int:=
 cond start
 (some at1_)
 (some (w64 (at1_+n.change)))
instance (n:Za) (at1_:Int) (start:Bool):CT Tryz.prog (Zdn n at1_ start):=⟨252,[.ag (Zr n),vi at1_,vb start],[],fun r=>vi r,fun r=>[],fun H=>by replace H:=H0 H; unfold Zdn at H; exact Zh Tryz.func252 rfl Tryz.ntmps252 Tryz.results252 fun Q hQ hQn=>wk3⟩
def ZaE (n:Za) (find0_:Za) (find1_:List Ze) (find2_:List Zc) (find3_:Int) (at3_:Int) (legs:Int) (y1:List ByteArray) (y2:Int) (s0:Int × (List Int)):Option ((Int × (List Int)) ⊕ (List Int)):=
 cond (decide (s0.1<(y1.length:Int)))
 ((chk (ZQ ((s0.2:List Int).length+([(-1)]:List Int).length) 8)).bind fun _=>
 some (.inl ((w64 (s0.1+1)),((s0.2:List Int)++[(-1)]))))
 (some (.inr s0.2))
instance (n:Za) (find0_:Za) (find1_:List Ze) (find2_:List Zc) (find3_:Int) (at3_:Int) (legs:Int) (y1:List ByteArray) (y2:Int):ZP (ZaE n find0_ find1_ find2_ find3_ at3_ legs y1 y2):=⟨fun s0=>(.un::.fn 238 [.rp [.sl (find0_.legs.map cLeg),.sl (find0_.off.map cInt),vi find0_.change],.rp [.sl (find1_.map Zs)],.rp [.sl (find2_.map Zg)],.rp [vi find3_]]::.un::vi at3_::vi legs::.be 0 0 0::(U 5 (.ms 1::vi y2::.ms 2::(U 26 (vi (y1.length:Int)::vi s0.1::(U 83 [])))))),fun s0=>[some ⟨35,3,[[.sl (n.legs.map cLeg),.sl (n.off.map cInt),vi n.change]]⟩,some ⟨9,1,y1.map cStr⟩,some ⟨3,1,s0.2.map cInt⟩]⟩
def Zaf (n:Za) (find0_:Za) (find1_:List Ze) (find2_:List Zc) (find3_:Int) (legs:Int) (y1:List ByteArray) (y2:Int) (s1:Int × (List Int)) (s2:Int × Bool × (List Int)):Option ((Int × Bool × (List Int)) ⊕ (Bool × (List Int))):=
 cond (decide (s2.1<(n.legs.length:Int)))
 ((getI n.legs s2.1).bind fun y4=>
 (Zz y1 y4.from_).bind fun y5=>
 (Zz y1 y4.to_).bind fun y6=>
 (getI s1.2 y5).bind fun y7=>
 cond (decide (y7<0))
 (some (.inl ((w64 (s2.1+1)),s2.2.1,s2.2.2)))
 ((getI s1.2 y5).bind fun y8=>
 (Zdn n y8 (decide (y5=y2))).bind fun y9=>
 (Zb4 s2.1 y9 find0_ find1_ find2_ find3_).bind fun y10=>
 cond y10.2
 ((getI s2.2.2 y6).bind fun y11=>
 cond (decide (y11<0))
 ((ZO n y10.1).bind fun y12=>
 (getI s2.2.2 y6).bind fun y13=>
 some (.inl ((w64 (s2.1+1)),true,(s2.2.2.set (Int.toNat y6) y12))))
 ((ZO n y10.1).bind fun y14=>
 (getI s2.2.2 y6).bind fun y15=>
 cond (decide (y14<y15))
 ((ZO n y10.1).bind fun y16=>
 (getI s2.2.2 y6).bind fun y17=>
 some (.inl ((w64 (s2.1+1)),true,(s2.2.2.set (Int.toNat y6) y16))))
 (some (.inl ((w64 (s2.1+1)),s2.2.1,s2.2.2)))))
 (some (.inl ((w64 (s2.1+1)),s2.2.1,s2.2.2)))))
 (some (.inr (s2.2.1,s2.2.2)))
instance (n:Za) (find0_:Za) (find1_:List Ze) (find2_:List Zc) (find3_:Int) (legs:Int) (y1:List ByteArray) (y2:Int) (s1:Int × (List Int)):ZP (Zaf n find0_ find1_ find2_ find3_ legs y1 y2 s1):=⟨fun s2=>(.un::.fn 238 [.rp [.sl (find0_.legs.map cLeg),.sl (find0_.off.map cInt),vi find0_.change],.rp [.sl (find1_.map Zs)],.rp [.sl (find2_.map Zg)],.rp [vi find3_]]::.un::.un::vi legs::.be 0 0 0::(U 5 (.ms 1::vi y2::.ms 2::vi s1.1::.ms 3::vb s2.2.1::(U 44 (.sl (n.legs.map cLeg)::vi (n.legs.length:Int)::vi s2.1::(U 61 [])))))),fun s2=>[some ⟨35,3,[[.sl (n.legs.map cLeg),.sl (n.off.map cInt),vi n.change]]⟩,some ⟨9,1,y1.map cStr⟩,some ⟨3,1,s1.2.map cInt⟩,some ⟨3,1,s2.2.2.map cInt⟩]⟩
def Zae (n:Za) (find0_:Za) (find1_:List Ze) (find2_:List Zc) (find3_:Int) (legs:Int) (y1:List ByteArray) (y2:Int) (s1:Int × (List Int)):Option ((Int × (List Int)) ⊕ (List Int)):=
 cond (decide (s1.1<legs))
 ((chk (ZQ ((([]:List Int):List Int).length+(s1.2:List Int).length) 8)).bind fun _=>
 (Zj (Zaf n find0_ find1_ find2_ find3_ legs y1 y2 s1) NN (0,false,((([]:List Int):List Int)++s1.2))).bind (fun o2=>
 cond (!o2.1)
 (some (.inr o2.2))
 (some (.inl ((w64 (s1.1+1)),o2.2)))))
 (some (.inr s1.2))
instance (n:Za) (find0_:Za) (find1_:List Ze) (find2_:List Zc) (find3_:Int) (legs:Int) (y1:List ByteArray) (y2:Int):ZP (Zae n find0_ find1_ find2_ find3_ legs y1 y2):=⟨fun s1=>(.un::.fn 238 [.rp [.sl (find0_.legs.map cLeg),.sl (find0_.off.map cInt),vi find0_.change],.rp [.sl (find1_.map Zs)],.rp [.sl (find2_.map Zg)],.rp [vi find3_]]::.un::.un::vi legs::.be 0 0 0::(U 5 (.ms 1::vi y2::.ms 2::vi s1.1::(U 110 [])))),fun s1=>[some ⟨35,3,[[.sl (n.legs.map cLeg),.sl (n.off.map cInt),vi n.change]]⟩,some ⟨9,1,y1.map cStr⟩,some ⟨3,1,s1.2.map cInt⟩]⟩
def Zay (n:Za) (find0_:Za) (find1_:List Ze) (find2_:List Zc) (find3_:Int) (from2_:ByteArray) (at3_:Int) (legs:Int):Option (List Int):=
 (Z4 n).bind fun y1=>
 (Zz y1 from2_).bind fun y2=>
 cond (decide (y2<0))
 (some ([]))
 (cond (decide (100000<at3_))
 (some ([]))
 (cond (decide (legs<0))
 (some ([]))
 ((Zj (ZaE n find0_ find1_ find2_ find3_ at3_ legs y1 y2) NN (0,([]:List Int))).bind (fun o0=>
 (getI o0 y2).bind fun y3=>
 (Zj (Zae n find0_ find1_ find2_ find3_ legs y1 y2) NN (0,(o0.set (Int.toNat y2) (if 0 > at3_ then 0 else at3_)))).bind (fun o1=>
 some o1)))))
instance (n:Za) (find0_:Za) (find1_:List Ze) (find2_:List Zc) (find3_:Int) (from2_:ByteArray) (at3_:Int) (legs:Int):CT Tryz.prog (Zay n find0_ find1_ find2_ find3_ from2_ at3_ legs):=⟨216,[.ag (Zr n),.fn 238 [.rp [.sl (find0_.legs.map cLeg),.sl (find0_.off.map cInt),vi find0_.change],.rp [.sl (find1_.map Zs)],.rp [.sl (find2_.map Zg)],.rp [vi find3_]],vs from2_,vi at3_,vi legs],[],fun r=>.ms 0,fun r=>[some ⟨3,1,r.map cInt⟩],fun H=>by replace H:=H0 H; unfold Zay at H; exact Zh Tryz.func216 rfl Tryz.ntmps216 Tryz.results216 fun Q hQ hQn=>wk3⟩
def ZaL (n:Za) (find0_:Za) (find1_:List Ze) (find2_:List Zc) (find3_:Int) (places:List ByteArray) (before:List Int) (from4_:ByteArray) (k:Int) (due:Int) (s0:Int):Option (Int ⊕ (Unit ⊕ (Ze × Bool))):=
 cond (decide (s0<(n.legs.length:Int)))
 ((getI n.legs s0).bind fun y1=>
 (Zz places y1.from_).bind fun y2=>
 (getI places k).bind fun y3=>
 cond (!decide (y1.to_=y3))
 (some (.inl (w64 (s0+1))))
 ((getI before y2).bind fun y4=>
 cond (decide (y4<0))
 (some (.inl (w64 (s0+1))))
 ((getI before y2).bind fun y5=>
 (Zdn n y5 (decide (y1.from_=from4_))).bind fun y6=>
 (Zb4 s0 y6 find0_ find1_ find2_ find3_).bind fun y7=>
 cond y7.2
 ((ZO n y7.1).bind fun y8=>
 cond (decide (y8=due))
 (some (.inr (.inr (y7.1,true))))
 (some (.inl (w64 (s0+1)))))
 (some (.inl (w64 (s0+1)))))))
 (some (.inr (.inl ())))
instance (n:Za) (find0_:Za) (find1_:List Ze) (find2_:List Zc) (find3_:Int) (places:List ByteArray) (before:List Int) (from4_:ByteArray) (k:Int) (due:Int):ZP (ZaL n find0_ find1_ find2_ find3_ places before from4_ k due):=⟨fun s0=>(.un::.fn 238 [.rp [.sl (find0_.legs.map cLeg),.sl (find0_.off.map cInt),vi find0_.change],.rp [.sl (find1_.map Zs)],.rp [.sl (find2_.map Zg)],.rp [vi find3_]]::.sl (places.map cStr)::.sl (before.map cInt)::vs from4_::vi k::vi due::.be 0 0 0::(U 6 (.be 1 0 0::(U 7 (.sl (n.legs.map cLeg)::vi (n.legs.length:Int)::vi s0::(U 49 [])))))),fun s0=>[some ⟨35,3,[[.sl (n.legs.map cLeg),.sl (n.off.map cInt),vi n.change]]⟩,some ⟨55,2,[[vi 0,vi 0]]⟩]⟩
def Zdg (n:Za) (find0_:Za) (find1_:List Ze) (find2_:List Zc) (find3_:Int) (places:List ByteArray) (before:List Int) (from4_:ByteArray) (k:Int) (due:Int):Option (Ze × Bool):=
 (Zj (ZaL n find0_ find1_ find2_ find3_ places before from4_ k due) NN 0).bind (ZY (fun o0=>
 some ((⟨0,0⟩:Ze),false)) (fun r=>some r))
instance (n:Za) (find0_:Za) (find1_:List Ze) (find2_:List Zc) (find3_:Int) (places:List ByteArray) (before:List Int) (from4_:ByteArray) (k:Int) (due:Int):CT Tryz.prog (Zdg n find0_ find1_ find2_ find3_ places before from4_ k due):=⟨217,[.ag (Zr n),.fn 238 [.rp [.sl (find0_.legs.map cLeg),.sl (find0_.off.map cInt),vi find0_.change],.rp [.sl (find1_.map Zs)],.rp [.sl (find2_.map Zg)],.rp [vi find3_]],.sl (places.map cStr),.sl (before.map cInt),vs from4_,vi k,vi due],[],fun r=>.tu [.ag [vi r.1.leg,vi r.1.day],vb r.2],fun r=>[],fun H=>by replace H:=H0 H; unfold Zdg at H; exact Zh Tryz.func217 rfl Tryz.ntmps217 Tryz.results217 fun Q hQ hQn=>wk3⟩
def Zar (n:Za) (find0_:Za) (find1_:List Ze) (find2_:List Zc) (find3_:Int) (from2_:ByteArray) (at4_:Int) (y1:List ByteArray) (y2:Int) (s0:Int × (List (List Int))):Option ((Int × (List (List Int))) ⊕ ((List (List Int)) ⊕ ((List Ze) × Bool))):=
 cond (decide (s0.1≤(y1.length:Int)))
 ((Zay n find0_ find1_ find2_ find3_ from2_ at4_ s0.1).bind fun y3=>
 cond (decide ((y3.length:Int)=0))
 (some (.inr (.inr ([],false))))
 (cond (decide (y2<0))
 (some (.inr (.inr ([],false))))
 ((frz (.un::.fn 238 [.rp [.sl (find0_.legs.map cLeg),.sl (find0_.off.map cInt),vi find0_.change],.rp [.sl (find1_.map Zs)],.rp [.sl (find2_.map Zg)],.rp [vi find3_]]::vs from2_::.un::vi at4_::.be 0 0 0::(U 6 (.ms 1::vi y2::.ms 2::vi s0.1::.sl (y3.map cInt)::(U 116 [])))) [some ⟨35,3,[[.sl (n.legs.map cLeg),.sl (n.off.map cInt),vi n.change]]⟩,some ⟨9,1,y1.map cStr⟩,some ⟨23,1,s0.2.map ZmH⟩]).bind fun _=>
 (chk (ZQ ((s0.2:List (List Int)).length+([y3]:List (List Int)).length) 24)).bind fun _=>
 some (.inl ((w64 (s0.1+1)),((s0.2:List (List Int))++[y3]))))))
 (some (.inr (.inl s0.2)))
instance (n:Za) (find0_:Za) (find1_:List Ze) (find2_:List Zc) (find3_:Int) (from2_:ByteArray) (at4_:Int) (y1:List ByteArray) (y2:Int):ZP (Zar n find0_ find1_ find2_ find3_ from2_ at4_ y1 y2):=⟨fun s0=>(.un::.fn 238 [.rp [.sl (find0_.legs.map cLeg),.sl (find0_.off.map cInt),vi find0_.change],.rp [.sl (find1_.map Zs)],.rp [.sl (find2_.map Zg)],.rp [vi find3_]]::vs from2_::.un::vi at4_::.be 0 0 0::(U 6 (.ms 1::vi y2::.ms 2::vi s0.1::(U 117 [])))),fun s0=>[some ⟨35,3,[[.sl (n.legs.map cLeg),.sl (n.off.map cInt),vi n.change]]⟩,some ⟨9,1,y1.map cStr⟩,some ⟨23,1,s0.2.map ZmH⟩]⟩
def ZaM (n:Za) (find0_:Za) (find1_:List Ze) (find2_:List Zc) (find3_:Int) (from2_:ByteArray) (y1:List ByteArray) (y2:Int) (o0:(List (List Int))) (y5:Int) (s1:Int):Option (Int ⊕ Int):=
 (getI o0 s1).bind fun y6=>
 (getI y6 y2).bind fun y7=>
 cond (!decide (y7=y5))
 (some (.inl (w64 (s1+1))))
 (some (.inr s1))
instance (n:Za) (find0_:Za) (find1_:List Ze) (find2_:List Zc) (find3_:Int) (from2_:ByteArray) (y1:List ByteArray) (y2:Int) (o0:(List (List Int))) (y5:Int):ZP (ZaM n find0_ find1_ find2_ find3_ from2_ y1 y2 o0 y5):=⟨fun s1=>(.un::.fn 238 [.rp [.sl (find0_.legs.map cLeg),.sl (find0_.off.map cInt),vi find0_.change],.rp [.sl (find1_.map Zs)],.rp [.sl (find2_.map Zg)],.rp [vi find3_]]::vs from2_::.un::.un::.be 0 0 0::(U 6 (.ms 1::vi y2::.ms 2::.un::.un::vi y5::vi s1::(U 114 [])))),fun s1=>[some ⟨35,3,[[.sl (n.legs.map cLeg),.sl (n.off.map cInt),vi n.change]]⟩,some ⟨9,1,y1.map cStr⟩,some ⟨23,1,o0.map ZmH⟩]⟩
def ZbR (n:Za) (find0_:Za) (find1_:List Ze) (find2_:List Zc) (find3_:Int) (from2_:ByteArray) (y1:List ByteArray) (o0:(List (List Int))) (s2:Int × Int × Int × (List Ze)):Option ((Int × Int × Int × (List Ze)) ⊕ ((List Ze) ⊕ ((List Ze) × Bool))):=
 cond (decide (0<s2.2.2.1))
 ((getI o0 (w64 (s2.2.2.1-1))).bind fun y8=>
 (Zdg n find0_ find1_ find2_ find3_ (y1:List ByteArray) y8 from2_ s2.1 s2.2.1).bind fun y9=>
 cond (!y9.2)
 (some (.inr (.inr ([],false))))
 ((chk (ZQ ((s2.2.2.2:List Ze).length+([y9.1]:List Ze).length) 16)).bind fun _=>
 (getI n.legs y9.1.leg).bind fun y10=>
 (Zz (y1:List ByteArray) y10.from_).bind fun y11=>
 (getI o0 (w64 (s2.2.2.1-1))).bind fun y12=>
 (getI y12 y11).bind fun y13=>
 some (.inl (y11,y13,(w64 (s2.2.2.1-1)),((s2.2.2.2:List Ze)++[y9.1])))))
 (some (.inr (.inl s2.2.2.2)))
instance (n:Za) (find0_:Za) (find1_:List Ze) (find2_:List Zc) (find3_:Int) (from2_:ByteArray) (y1:List ByteArray) (o0:(List (List Int))):ZP (ZbR n find0_ find1_ find2_ find3_ from2_ y1 o0):=⟨fun s2=>(.un::.fn 238 [.rp [.sl (find0_.legs.map cLeg),.sl (find0_.off.map cInt),vi find0_.change],.rp [.sl (find1_.map Zs)],.rp [.sl (find2_.map Zg)],.rp [vi find3_]]::vs from2_::.un::.un::.be 0 0 0::(U 6 (.sl ((y1:List ByteArray).map cStr)::vi s2.1::.ms 1::.un::.un::vi s2.2.1::vi s2.2.2.1::.ms 2::(U 113 [])))),fun s2=>[some ⟨35,3,[[.sl (n.legs.map cLeg),.sl (n.off.map cInt),vi n.change]]⟩,some ⟨23,1,o0.map ZmH⟩,some ⟨55,2,s2.2.2.2.map Zs⟩]⟩
def ZbS (o2:(List Ze)) (s3:Int × (List Ze)):Option ((Int × (List Ze)) ⊕ (List Ze)):=
 cond (decide (0≤s3.1))
 ((getI o2 s3.1).bind fun y14=>
 (chk (ZQ ((s3.2:List Ze).length+([y14]:List Ze).length) 16)).bind fun _=>
 some (.inl ((w64 (s3.1-1)),((s3.2:List Ze)++[y14]))))
 (some (.inr s3.2))
instance (o2:(List Ze)):ZP (ZbS o2):=⟨fun s3=>(U 19 (.ms 0::.un::.un::.ms 1::vi s3.1::(U 109 []))),fun s3=>[some ⟨55,2,o2.map Zs⟩,some ⟨55,2,s3.2.map Zs⟩]⟩
def Zfe (n:Za) (find0_:Za) (find1_:List Ze) (find2_:List Zc) (find3_:Int) (from2_:ByteArray) (to_:ByteArray) (at4_:Int):Option ((List Ze) × Bool):=
 (Z4 n).bind fun y1=>
 (Zz y1 to_).bind fun y2=>
 (Zj (Zar n find0_ find1_ find2_ find3_ from2_ at4_ y1 y2) NN (0,([]:List (List Int)))).bind (ZY (fun o0=>
 (getI o0 (y1.length:Int)).bind fun y4=>
 (getI y4 y2).bind fun y5=>
 cond (decide (y5<0))
 (some ([],false))
 ((Zj (ZaM n find0_ find1_ find2_ find3_ from2_ y1 y2 o0 y5) NN 0).bind (fun o1=>
 (Zj (ZbR n find0_ find1_ find2_ find3_ from2_ y1 o0) NN (y2,y5,o1,([]:List Ze))).bind (ZY (fun o2=>
 (Zj (ZbS o2) NN ((w64 ((o2.length:Int)-1)),([]:List Ze))).bind (fun o3=>
 some (o3,true))) (fun r=>some r))))) (fun r=>some r))
instance (n:Za) (find0_:Za) (find1_:List Ze) (find2_:List Zc) (find3_:Int) (from2_:ByteArray) (to_:ByteArray) (at4_:Int):CT Tryz.prog (Zfe n find0_ find1_ find2_ find3_ from2_ to_ at4_):=⟨151,[.ag (Zr n),.fn 238 [.rp [.sl (find0_.legs.map cLeg),.sl (find0_.off.map cInt),vi find0_.change],.rp [.sl (find1_.map Zs)],.rp [.sl (find2_.map Zg)],.rp [vi find3_]],vs from2_,vs to_,vi at4_],[],fun r=>.tu [.ms 0,vb r.2],fun r=>[some ⟨55,2,r.1.map Zs⟩],fun H=>by replace H:=H0 H; unfold Zfe at H; exact Zh Tryz.func151 rfl Tryz.ntmps151 Tryz.results151 fun Q hQ hQn=>wk3⟩
def Zf7 (n:Za) (l:List Zc) (closed:List Ze) (weight:Int):Option (Za × (List Ze) × (List Zc) × Int):=
 some (n,closed,l,weight)
instance (n:Za) (l:List Zc) (closed:List Ze) (weight:Int):CT Tryz.prog (Zf7 n l closed weight):=⟨199,[.ag (Zr n),.sl (l.map Zg),.sl (closed.map Zs),vi weight],[],fun r=>.fn 238 [.rp [.sl (r.1.legs.map cLeg),.sl (r.1.off.map cInt),vi r.1.change],.rp [.sl (r.2.1.map Zs)],.rp [.sl (r.2.2.1.map Zg)],.rp [vi r.2.2.2]],fun r=>[],fun H=>by replace H:=H0 H; unfold Zf7 at H; exact Zh Tryz.func199 rfl Tryz.ntmps199 Tryz.results199 fun Q hQ hQn=>wk3⟩
def Zb3 (n:Za) (l:List Zc) (closed:List Ze) (from3_:ByteArray) (to_:ByteArray) (at5_:Int) (weight:Int):Option ((List Ze) × Bool):=
 (Zcd n l).bind fun y1=>
 cond (!y1)
 (some ([],false))
 (cond (decide (weight<1))
 (some ([],false))
 ((Zf7 n l closed weight).bind fun y2=>
 (Zfe n y2.1 y2.2.1 y2.2.2.1 y2.2.2.2 from3_ to_ at5_).bind fun y3=>
 some (y3.1,y3.2)))
instance (n:Za) (l:List Zc) (closed:List Ze) (from3_:ByteArray) (to_:ByteArray) (at5_:Int) (weight:Int):CT Tryz.prog (Zb3 n l closed from3_ to_ at5_ weight):=⟨134,[.ag (Zr n),.sl (l.map Zg),.sl (closed.map Zs),vs from3_,vs to_,vi at5_,vi weight],[],fun r=>.tu [.ms 0,vb r.2],fun r=>[some ⟨55,2,r.1.map Zs⟩],fun H=>by replace H:=H0 H; unfold Zb3 at H; exact Zh Tryz.func134 rfl Tryz.ntmps134 Tryz.results134 fun Q hQ hQn=>wk3⟩
theorem ZpO:@Zdn=@Zag:=rfl
def sumM {σ ο ο':Type} (h:ο→ο'):σ ⊕ ο→σ ⊕ ο'
 | .inl s=>.inl s
 | .inr o=>.inr (h o)
theorem Zm4 {σ ο ο':Type} {b1:σ→Option (σ ⊕ ο)} {b2:σ→Option (σ ⊕ ο')} (h:ο→ο') (hb:∀ s,b2 s=(b1 s).map (sumM h)):∀ (N:Nat) (s:σ),Zj b2 N s=(Zj b1 N s).map h
 | 0,s=>rfl
 | N+1,s=>by
  have ih:=Zm4 h hb N
  unfold Zj
  rw [hb s]
  cases h1:b1 s with
  | none=>rfl
  | some r=>
   cases r with
   | inl s'=>exact ih s'
   | inr o=>rfl
theorem Zru {α β γ:Type} (x:Option α) (f:α→Option β) (g:β→γ):(x.bind f).map g=x.bind fun a=>(f a).map g:=by cases x <;> rfl
theorem ZrB {β γ:Type} (b:Bool) (x y:Option β) (g:β→γ):(cond b x y).map g=cond b (x.map g) (y.map g):=by cases b <;> rfl
def Zwc (leg:Int):Unit ⊕ Int→Unit ⊕ (Ze × Bool)
 | .inl u=>.inl u
 | .inr d=>.inr ((⟨leg,d⟩:Ze),true)
section
variable {n:Za} (hf:Z0 n)
include hf
theorem ZrV (l:List Zc) (closed:List Ze) (leg at_ weight:Int) (s:Int):Zby leg at_ n closed l weight s=(ZV n l closed leg at_ weight s).map (sumM (Zwc leg)):=by
 unfold Zby ZV
 rw [(Zf1 hf leg s).1,Zei,Zis,Zcs]
 simp only [ZrB,Zru,Option.map_some,sumM,Zwc]
theorem ZrW {l:List Zc} (hl:l.length≤1048576) {closed:List Ze} (hc:closed.length≤1048576) {leg:Int} {y:YLeg} (hy:getI n.legs leg=some y) (at_ weight:Int):
 ∃ d,Z1 n l closed leg at_ weight=some d∧Zb4 leg at_ n closed l weight=some (if d<0 then ((⟨0,0⟩:Ze),false) else ((⟨leg,d⟩:Ze),true)):=by
 have hl0:Tot (Zj (ZV n l closed leg at_ weight) NN 0) fun r=>∀ d,r=.inr d→0≤d:=by
  refine Tot.loop (fun k s=>∃ i:Nat,s=(i:Int)∧i+k=61) (fun k s hs=>?_) NN 61 0 ⟨0,rfl,rfl⟩ (by unfold NN; omega)
  obtain ⟨i,rfl,hk⟩:=hs
  unfold ZV
  refine Tot.cond (fun hd=>?_) fun hd=>Tot.ret (fun d h=>by cases h)
  have hi:=of_decide_eq_true hd
  have hw:w64 ((i:Int)+1)=((i+1:Nat):Int):=by rw [Zo (by omega)]; omega
  have go:ZiJ (fun k (s:Int)=>∃ i:Nat,s=(i:Int)∧i+k=61) (fun r:Unit ⊕ Int=>∀ d,r=.inr d→0≤d) k (Sum.inl (w64 ((i:Int)+1))):=⟨k-1,by omega,i+1,hw,by omega⟩
  obtain ⟨b,hb⟩:=Zs3 hf leg (i:Int)
  obtain ⟨v,hv⟩:=ZfM (n:=n) (t:=⟨leg,(i:Int)⟩) hy
  obtain ⟨q,hq⟩:=Zg1 hl (⟨leg,(i:Int)⟩:Ze)
  rw [hb,Option.bind_some]
  refine Tot.cond (fun _=>?_) fun _=>Tot.ret go
  rw [hv,Option.bind_some]
  refine Tot.cond (fun _=>?_) fun _=>Tot.ret go
  rw [Zcs,Zb1 hc,Option.bind_some]
  refine Tot.cond (fun _=>?_) fun _=>Tot.ret go
  rw [hy,Option.bind_some,hq,Option.bind_some]
  exact Tot.cond (fun _=>Tot.ret (fun d h=>by cases h; omega)) fun _=>Tot.ret go
 obtain ⟨r,e,hr⟩:=hl0
 have e2:=Zm4 (Zwc leg) (ZrV hf l closed leg at_ weight) NN (0:Int)
 rw [e] at e2
 unfold Z1 Zb4
 rw [e,e2]
 cases r with
 | inl u=>exact ⟨-1,rfl,rfl⟩
 | inr d=>exact ⟨d,rfl,by rw [if_neg (by have:=hr d rfl; omega)]; rfl⟩
theorem Zus {l:List Zc} (hl:l.length≤1048576) {closed:List Ze} (hc:closed.length≤1048576) (weight legs f:Int) {best:List Int} (hb:best.length=(Zb n).length) (k:Int) {lst:List Int} (hlst:lst.length=(Zb n).length) (ch:Bool) {i:Nat} (hi:i<n.legs.length):
 ∃ lst' ch',ZaB n l closed weight (Zb n) best f ((i:Int),lst)=some (.inl (((i+1:Nat):Int),lst'))∧Zaf n n closed l weight legs (Zb n) f (k,best) ((i:Int),ch,lst)=some (.inl (((i+1:Nat):Int),ch',lst'))∧lst'.length=(Zb n).length∧((ch'=ch∧lst'=lst)∨ch'=true):=by
 have hp:=plen hf
 have hll:=hf.legs
 have hw:w64 ((i:Int)+1)=((i+1:Nat):Int):=by rw [Zo (by omega)]; omega
 obtain ⟨y,hy,hm⟩:=Zew (xs:=n.legs) (i:=(i:Int)) ⟨by omega,by omega⟩
 obtain ⟨m1,m2⟩:=Zf0 hm
 have a0:=ZeW m1
 have a1:=(Ze2 (Zb n) y.from_).2
 have b0:=ZeW m2
 have b1:=(Ze2 (Zb n) y.to_).2
 obtain ⟨v6,g6,_⟩:=Zew (xs:=best) (i:=idxV (Zb n) y.from_) ⟨a0,by omega⟩
 obtain ⟨v11,g11,_⟩:=Zew (xs:=lst) (i:=idxV (Zb n) y.to_) ⟨b0,by omega⟩
 obtain ⟨z,ez,_⟩:=ZiA (n:=n) v6 (decide (idxV (Zb n) y.from_=f))
 obtain ⟨d,ed,ef⟩:=ZrW hf hl hc hy z weight
 obtain ⟨e,he⟩:=Zfr (n:=n) (t:=⟨(i:Int),d⟩) hy
 unfold ZaB Zaf
 have hpa:∀ p,Zz (Zb n) p=some (idxV (Zb n) p):=fun p=>by rw [ZdT]; exact Zgk hf p
 simp only [decide_eq_true (show (i:Int)<n.legs.length by omega),cond_true,hy,Option.bind_some,Zgk hf,hpa,g6,hw,ZpO,ez,ed,ef,g11,ZfG]
 by_cases hu:v6<0
 ·simp only [decide_eq_true hu,cond_true]
  exact ⟨lst,ch,rfl,rfl,hlst,.inl ⟨rfl,rfl⟩⟩
 simp only [decide_eq_false hu,cond_false]
 by_cases hd:d<0
 ·simp only [decide_eq_true hd,cond_true,if_pos hd,cond_false]
  exact ⟨lst,ch,rfl,rfl,hlst,.inl ⟨rfl,rfl⟩⟩
 simp only [decide_eq_false hd,cond_false,if_neg hd,cond_true,he,Option.bind_some]
 by_cases h1:v11<0
 ·simp only [decide_eq_true h1,cond_true]
  exact ⟨_,true,rfl,rfl,by rw [List.length_set]; exact hlst,.inr rfl⟩
 simp only [decide_eq_false h1,cond_false]
 by_cases h2:e<v11
 ·simp only [decide_eq_true h2,cond_true]
  exact ⟨_,true,rfl,rfl,by rw [List.length_set]; exact hlst,.inr rfl⟩
 ·simp only [decide_eq_false h2,cond_false]
  exact ⟨lst,ch,rfl,rfl,hlst,.inl ⟨rfl,rfl⟩⟩
theorem Zqo {l:List Zc} (hl:l.length≤1048576) {closed:List Ze} (hc:closed.length≤1048576) (weight legs f:Int) {best:List Int} (hb:best.length=(Zb n).length) (hbl:best.length≤1048576) (k:Int):
 ∃ r ch,Zau n l closed weight (Zb n) best f=some r∧Zj (Zaf n n closed l weight legs (Zb n) f (k,best)) NN (0,false,best)=some (ch,r)∧r.length=(Zb n).length∧(ch=false→r=best):=by
 have hll:=hf.legs
 have key:∀ (d i:Nat),i+d=n.legs.length→∀ (lst:List Int) (ch:Bool),lst.length=(Zb n).length→(ch=false→lst=best)→∀ N,d<N→
  ∃ r ch',Zj (ZaB n l closed weight (Zb n) best f) N ((i:Int),lst)=some r∧Zj (Zaf n n closed l weight legs (Zb n) f (k,best)) N ((i:Int),ch,lst)=some (ch',r)∧r.length=(Zb n).length∧(ch'=false→r=best):=by
  intro d
  induction d with
  | zero=>
   intro i hi lst ch h1 h2 N hN
   obtain ⟨N,rfl⟩:∃ M,N=M+1:=⟨N-1,by omega⟩
   have hnot:¬ (i:Int)<n.legs.length:=by omega
   refine ⟨lst,ch,?_,?_,h1,h2⟩
   ·unfold Zj ZaB
    simp only [decide_eq_false hnot,cond_false]; rfl
   ·unfold Zj Zaf
    simp only [decide_eq_false hnot,cond_false]; rfl
  | succ d ih=>
   intro i hi lst ch h1 h2 N hN
   obtain ⟨N,rfl⟩:∃ M,N=M+1:=⟨N-1,by omega⟩
   obtain ⟨lst',ch',e1,e2,h3,h4⟩:=Zus hf hl hc weight legs f hb k h1 ch (show i<n.legs.length by omega)
   obtain ⟨r,c,q1,q2,q3,q4⟩:=ih (i+1) (by omega) lst' ch' h3 (fun h=>by
    rcases h4 with ⟨a,b⟩ | a
    ·rw [b]; exact h2 (a ▸ h)
    ·rw [a] at h; cases h) N (by omega)
   refine ⟨r,c,?_,?_,q3,q4⟩
   ·unfold Zj; rw [e1]; exact q1
   ·unfold Zj; rw [e2]; exact q2
 obtain ⟨r,ch,q1,q2,q3,q4⟩:=key n.legs.length 0 (by omega) best false hb (fun _=>rfl) NN (by unfold NN; omega)
 have e0:((0:Nat):Int)=0:=rfl
 rw [e0] at q1 q2
 refine ⟨r,ch,?_,q2,q3,q4⟩
 unfold Zau
 rw [Zm3 hbl,Option.bind_some,q1]; rfl
omit hf in
theorem Zla {l:List Zc} {closed:List Ze} {weight f at_:Int} {i:Nat} (h:Z6 n l closed weight f at_ (i+1)=Z6 n l closed weight f at_ i):∀ k,Z6 n l closed weight f at_ (i+k)=Z6 n l closed weight f at_ i
 | 0=>rfl
 | k+1=>by
  have ih:=Zla h k
  have e1:Z6 n l closed weight f at_ (i+(k+1))=ZpS n l closed weight f (Z6 n l closed weight f at_ (i+k)):=rfl
  have e2:Z6 n l closed weight f at_ (i+1)=ZpS n l closed weight f (Z6 n l closed weight f at_ i):=rfl
  rw [e1,ih,← e2,h]
theorem Zqs {l:List Zc} (hl:l.length≤1048576) {closed:List Ze} (hc:closed.length≤1048576) (weight f at_:Int) (hp:(Zb n).length≤1048576) (legs:Nat) (hlegs:legs≤1048576):
 Zj (Zae n n closed l weight (legs:Int) (Zb n) f) NN (0,Z6 n l closed weight f at_ 0)=some (Z6 n l closed weight f at_ legs):=by
 have key:∀ (d i:Nat),i+d=legs→∀ N,d<N→Zj (Zae n n closed l weight (legs:Int) (Zb n) f) N ((i:Int),Z6 n l closed weight f at_ i)=some (Z6 n l closed weight f at_ legs):=by
  intro d
  induction d with
  | zero=>
   intro i hi N hN
   obtain ⟨N,rfl⟩:∃ M,N=M+1:=⟨N-1,by omega⟩
   have:i=legs:=by omega
   subst this
   unfold Zj Zae
   simp only [decide_eq_false (show ¬ (i:Int)<(i:Int) by omega),cond_false]; rfl
  | succ d ih=>
   intro i hi N hN
   obtain ⟨N,rfl⟩:∃ M,N=M+1:=⟨N-1,by omega⟩
   have hbl:=Zfb hf hl hc weight f at_ i
   have hwi:w64 ((i:Int)+1)=((i+1:Nat):Int):=by rw [Zo (by omega)]; omega
   obtain ⟨r,ch,q1,q2,q3,q4⟩:=Zqo hf hl hc weight (legs:Int) f hbl (by omega) (i:Int)
   have hr:Z6 n l closed weight f at_ (i+1)=r:=by
    have:=(ZgF hf hl hc weight f at_ i).1
    rw [q1] at this
    exact (Option.some.inj this).symm
   have ha:chk (ZQ ((([]:List Int):List Int).length+(Z6 n l closed weight f at_ i).length) 8)=some ():=by
    simp only [List.length_nil]; exact chk0 (by omega) (by omega)
   have body:Zae n n closed l weight (legs:Int) (Zb n) f ((i:Int),Z6 n l closed weight f at_ i)=(cond (!ch) (some (.inr r)) (some (.inl (((i+1:Nat):Int),r)))):=by
    unfold Zae
    simp only [decide_eq_true (show (i:Int)<(legs:Int) by omega),cond_true,ha,Option.bind_some,List.nil_append,q2,hwi]
   unfold Zj
   rw [body]
   cases ch with
   | false=>
    have e:=q4 rfl
    rw [← hr] at e
    have hconst:=Zla e (d+1)
    rw [show i+(d+1)=legs by omega] at hconst
    show some r=_
    rw [← hr,e,hconst]
   | true=>
    rw [← hr]
    exact ih (i+1) (by omega) N (by omega)
 exact key legs 0 (by omega) NN (by unfold NN; omega)
theorem Zl1 (hp:(Zb n).length≤1048576) (f:Int) (hf0:0≤f∧f<((Zb n).length:Int)) (at_:Int):Zb0 (Zb n) f at_=some ((List.replicate (Zb n).length (-1:Int)).set f.toNat (if 0 > at_ then 0 else at_)):=by
 have hmax:Zeo at_ 0=some (if 0 > at_ then 0 else at_):=by
  unfold Zeo
  by_cases h:at_<0
  ·rw [if_pos (by omega)]
   by_cases h2:0<at_
   ·omega
   ·simp [h2,h]
  ·rw [if_neg (by omega)]
   by_cases h2:0<at_
   ·simp [h2,h]
   ·have:at_=0:=by omega
    subst this; simp
 generalize hm:(if 0 > at_ then 0 else at_:Int)=mx at hmax ⊢
 have hLl:((List.replicate (Zb n).length (-1:Int)).set f.toNat mx).length=(Zb n).length:=by simp
 have hLi:∀ i:Nat,i<(Zb n).length→((List.replicate (Zb n).length (-1:Int)).set f.toNat mx)[i]?=some (if (i:Int)=f then mx else -1):=fun i hi=>by
  by_cases h:(i:Int)=f
  ·rw [if_pos h,show f.toNat=i by omega,List.getElem?_set_self (by simpa using hi)]
  ·rw [if_neg h,List.getElem?_set_ne (by omega),List.getElem?_replicate,if_pos hi]
 generalize (List.replicate (Zb n).length (-1:Int)).set f.toNat mx=L at hLl hLi ⊢
 have e:Zj (ZbV (Zb n) f at_) NN (0,[])=some L:=by
  have:=ZbW (body:=ZbV (Zb n) f at_) (fun i:Nat=>((i:Int),L.take i)) (n:=(Zb n).length) (o:=L) (fun i hi=>?_) ?_ NN (by unfold NN; omega)
  ·simpa using this
  ·have hw:w64 ((i:Int)+1)=((i+1:Nat):Int):=by rw [Zo (by omega)]; omega
   have hx:=hLi i hi
   have hlen:(L.take i).length=i:=by rw [List.length_take]; omega
   have ha:∀ x:Int,chk (ZQ ((L.take i).length+([x]:List Int).length) 8)=some ():=fun x=>ZcC (by simp only [List.length_cons,List.length_nil]; omega) (by omega)
   unfold ZbV
   rw [← ZgR hx]
   by_cases h:(i:Int)=f
   ·simp only [decide_eq_true (show (i:Int)<((Zb n).length:Int) by omega),decide_eq_true h,cond_true,hmax,Option.bind_some,ha,hw,if_pos h]
   ·simp only [decide_eq_true (show (i:Int)<((Zb n).length:Int) by omega),decide_eq_false h,cond_true,cond_false,Option.bind_some,ha,hw,if_neg h]
  ·unfold ZbV
   simp [← hLl]
 unfold Zb0
 rw [e]; rfl
theorem Zk9 {l:List Zc} (hl:l.length≤1048576) {closed:List Ze} (hc:closed.length≤1048576) (weight:Int) {from_:ByteArray} (h0:0≤idxV (Zb n) from_) {at_:Int} (hat:at_≤100000) (hp:(Zb n).length≤1048576) (legs:Nat) (hlegs:legs≤1048576):
 Zay n n closed l weight from_ at_ (legs:Int)=some (Z6 n l closed weight (idxV (Zb n) from_) at_ legs):=by
 have hlt:=(Ze2 (Zb n) from_).2
 have e0:Zj (ZaE n n closed l weight at_ (legs:Int) (Zb n) (idxV (Zb n) from_)) NN (0,[])=some (List.replicate (Zb n).length (-1:Int)):=by
  refine ZbW (body:=ZaE n n closed l weight at_ (legs:Int) (Zb n) (idxV (Zb n) from_)) (fun i:Nat=>((i:Int),List.replicate i (-1:Int))) (n:=(Zb n).length) (o:=List.replicate (Zb n).length (-1:Int)) (fun i hi=>?_) ?_ NN (by unfold NN; omega)
  ·have hw:w64 ((i:Int)+1)=((i+1:Nat):Int):=by rw [Zo (by omega)]; omega
   have ha:chk (ZQ ((List.replicate i (-1:Int)).length+([(-1)]:List Int).length) 8)=some ():=ZcC (by simp only [List.length_replicate,List.length_cons,List.length_nil]; omega) (by omega)
   unfold ZaE
   simp only [decide_eq_true (show (i:Int)<((Zb n).length:Int) by omega),cond_true,ha,Option.bind_some,hw,List.replicate_succ']
  ·unfold ZaE
   simp
 have hfirst:Z6 n l closed weight (idxV (Zb n) from_) at_ 0=(List.replicate (Zb n).length (-1:Int)).set (idxV (Zb n) from_).toNat (if 0 > at_ then 0 else at_):=by
  unfold Z6; rw [Zl1 hf hp _ ⟨h0,hlt⟩]; rfl
 obtain ⟨x,hx,_⟩:=Zew (xs:=List.replicate (Zb n).length (-1:Int)) (i:=idxV (Zb n) from_) ⟨h0,by rw [List.length_replicate]; exact hlt⟩
 unfold Zay
 rw [ZdT,(Zac hf).1,(Zac hf).2]
 simp only [Option.bind_some,Zgk hf,decide_eq_false (show ¬ idxV (Zb n) from_<0 by omega),decide_eq_false (show ¬ 100000<at_ by omega),decide_eq_false (show ¬ (legs:Int)<0 by omega),cond_false,e0,hx,← hfirst,Zqs hf hl hc weight _ at_ hp legs hlegs]
end
section
variable {n:Za} (hf:Z0 n)
include hf
structure ZvE (n:Za) (l:List Zc) (closed:List Ze) (at_ weight:Int) (t:Ze):Prop where
 trip:ZbJ n t=true
 start:at_≤ZM n t
 open_:Zaq closed t=some false
 room:∃ y q,getI n.legs t.leg=some y∧Zap l t=some q∧weight≤w64 (y.room-q)
theorem ZpG {l:List Zc} {closed:List Ze} {leg at_ weight d:Int} (h:Z1 n l closed leg at_ weight=some d):d=-1∨ZvE n l closed at_ weight ⟨leg,d⟩:=by
 unfold Z1 at h
 cases e:Zj (ZV n l closed leg at_ weight) NN 0 with
 | none=>rw [e] at h; cases h
 | some r=>
  rw [e] at h
  cases r with
  | inl u=>exact .inl (Option.some.inj h).symm
  | inr d'=>
   obtain rfl:d'=d:=Option.some.inj h
   refine .inr ?_
   have:=Zip (body:=ZV n l closed leg at_ weight) (P:=fun r=>∀ d,r=.inr d→ZvE n l closed at_ weight ⟨leg,d⟩) (fun s o hs=>?_) NN 0 _ e
   ·exact this d' rfl
   ·unfold ZV at hs
    by_cases h60:s≤60
    ·rw [decide_eq_true h60,cond_true] at hs
     obtain ⟨_,b,hb⟩:=Zf1 hf leg s
     have hb':=hb
     rw [hb,Option.bind_some] at hs
     intro d hd
     subst hd
     cases b with
     | false=>simp at hs
     | true=>
      have ht:ZbJ n ⟨leg,s⟩=true:=by unfold ZbJ; rw [hb']; rfl
      simp only [cond_true] at hs
      cases h1:Zp n ⟨leg,s⟩ with
      | none=>rw [h1] at hs; cases hs
      | some v=>
       rw [h1,Option.bind_some] at hs
       by_cases h2:at_≤v
       ·rw [decide_eq_true h2,cond_true] at hs
        cases h3:Zaq closed ⟨leg,s⟩ with
        | none=>rw [h3] at hs; cases hs
        | some c=>
         rw [h3,Option.bind_some] at hs
         cases c with
         | true=>simp at hs
         | false=>
          simp only [Bool.not_false,cond_true] at hs
          cases h4:getI n.legs leg with
          | none=>rw [h4] at hs; cases hs
          | some y=>
           rw [h4,Option.bind_some] at hs
           cases h5:Zap l ⟨leg,s⟩ with
           | none=>rw [h5] at hs; cases hs
           | some q=>
            rw [h5,Option.bind_some] at hs
            by_cases h6:weight≤w64 (y.room-q)
            ·rw [decide_eq_true h6,cond_true] at hs
             have:s=d:=by simpa using hs
             rw [← this]
             exact ⟨ht,by unfold ZM; rw [h1]; exact h2,h3,y,q,h4,h5,h6⟩
            ·rw [decide_eq_false h6] at hs; simp at hs
       ·rw [decide_eq_false h2] at hs; simp at hs
    ·rw [decide_eq_false h60] at hs
     intro d hd
     subst hd
     simp at hs
theorem Zsp {l:List Zc} {closed:List Ze} {leg at_ weight d:Int} (h:Z1 n l closed leg at_ weight=some d):d=-1∨ZbJ n ⟨leg,d⟩=true:=by
 rcases ZpG hf h with h | h
 ·exact .inl h
 ·exact .inr h.trip
omit hf in
theorem Zf6 {α:Type} {xs:List α} {i:Int} {v:α} (h0:0≤i) (h1:i<xs.length):getI (xs.set i.toNat v) i=some v:=by
 unfold getI; rw [if_pos h0,List.getElem?_set_self (by omega)]
omit hf in
theorem Zoq {α:Type} {xs:List α} {i j:Int} {v:α} (h0:0≤i) (h:j≠i):getI (xs.set i.toNat v) j=getI xs j:=by
 unfold getI
 by_cases hj:0≤j
 ·rw [if_pos hj,if_pos hj,List.getElem?_set_ne (by omega)]
 ·rw [if_neg hj,if_neg hj]
def LeAt (r:List Int) (x v:Int):Prop:=∃ w,getI r x=some w∧0≤w∧w≤v
def Zqa (n:Za) (l:List Zc) (closed:List Ze) (weight f:Int) (r:List Int) (i:Nat) (x v:Int):Prop:=
 ∃ (y:YLeg) (d u z:Int),n.legs[i]?=some y∧idxV (Zb n) y.to_=x∧getI r (idxV (Zb n) y.from_)=some u∧¬ u<0∧Zag n u (decide (idxV (Zb n) y.from_=f))=some z∧Z1 n l closed (i:Int) z weight=some d∧¬ d<0∧Zq n ⟨(i:Int),d⟩=some v
theorem ZuS (hn:Zi n=some true) {l:List Zc} (hl:l.length≤1048576) {closed:List Ze} (hc:closed.length≤1048576) (weight:Int) {best:List Int} (hb:best.length=(Zb n).length) (f:Int):
 Tot (Zau n l closed weight (Zb n) best f) fun r=>(∀ x v,getI best x=some v→0≤v→LeAt r x v)∧∀ x v,Cand n l closed weight f best x v→LeAt r x v:=by
 have hp:=plen hf
 have hll:=hf.legs
 unfold Zau
 refine Tot.bind (P:=fun r=>r=best) ?_ fun r hr=>?_
 ·by_cases h1:best.length≤1048576
  ·exact Tot.of (Zm3 h1) rfl
  ·unfold ZbZ
   exact Tot.chk (Zfo (by simp only [List.length_nil]; omega) (by omega)) (Tot.ret (by simp))
 ·subst hr
  refine Tot.bind (P:=fun o=>(∀ x v,getI r x=some v→0≤v→LeAt o x v)∧∀ x v,Cand n l closed weight f r x v→LeAt o x v) ?_ fun o ho=>Tot.ret ho
  refine Tot.loop (fun (k:Nat) (s:Int × List Int)=>∃ i:Nat,s.1=(i:Int)∧i+k=n.legs.length∧s.2.length=(Zb n).length∧(∀ x v,getI r x=some v→0≤v→LeAt s.2 x v)∧∀ j,j<i→∀ x v,Zqa n l closed weight f r j x v→LeAt s.2 x v) (fun k s hs=>?_) NN n.legs.length _ ⟨0,rfl,by omega,hb,fun x v h h0=>⟨v,h,h0,Int.le_refl _⟩,fun j hj=>by omega⟩ (by unfold NN; omega)
  obtain ⟨i,hi,hk,hlen,hA,hB⟩:=hs
  unfold ZaB
  rw [hi]
  refine Tot.cond (fun hd=>?_) fun hd=>Tot.ret ⟨hA,fun x v h=>?_⟩
  case refine_2=>
   obtain ⟨j,y,d,u,z,c1,c2⟩:=h
   have h1:=(List.getElem?_eq_some_iff.1 c1).1
   have h2:=of_decide_eq_false hd
   exact hB j (by omega) x v ⟨y,d,u,z,c1,c2⟩
  have hlt:=of_decide_eq_true hd
  have hw:w64 ((i:Int)+1)=((i+1:Nat):Int):=by rw [Zo (by omega)]; omega
  obtain ⟨y,hy,hm⟩:=Zew (xs:=n.legs) (i:=(i:Int)) ⟨by omega,hlt⟩
  obtain ⟨m1,m2⟩:=Zf0 hm
  have a0:=ZeW m1
  have a1:=(Ze2 (Zb n) y.from_).2
  have b0:=ZeW m2
  have b1:=(Ze2 (Zb n) y.to_).2
  obtain ⟨v6,g6,_⟩:=Zew (xs:=r) (i:=idxV (Zb n) y.from_) ⟨a0,by omega⟩
  obtain ⟨v11,g11,_⟩:=Zew (xs:=s.2) (i:=idxV (Zb n) y.to_) ⟨b0,by omega⟩
  simp only [hy,Option.bind_some,Zgk hf,g6,hw]
  have hyi:n.legs[i]?=some y:=by rw [Zn] at hy; exact hy
  have go:∀ (s':List Int),s'.length=(Zb n).length→(∀ x v,LeAt s.2 x v→LeAt s' x v)→(∀ x v,Zqa n l closed weight f r i x v→LeAt s' x v)→ZiJ (fun (k:Nat) (s:Int × List Int)=>∃ i:Nat,s.1=(i:Int)∧i+k=n.legs.length∧s.2.length=(Zb n).length∧(∀ x v,getI r x=some v→0≤v→LeAt s.2 x v)∧∀ j,j<i→∀ x v,Zqa n l closed weight f r j x v→LeAt s.2 x v) (fun o:List Int=>(∀ x v,getI r x=some v→0≤v→LeAt o x v)∧∀ x v,Cand n l closed weight f r x v→LeAt o x v) k (Sum.inl (((i+1:Nat):Int),s')):=fun s' h1 h2 h3=>
   ⟨k-1,by omega,i+1,rfl,by omega,h1,fun x v h h0=>h2 x v (hA x v h h0),fun j hj x v h=>by
    by_cases hji:j=i
    ·subst hji; exact h3 x v h
    ·exact h2 x v (hB j (by omega) x v h)⟩
  refine Tot.cond (fun hu=>Tot.ret (go _ hlen (fun x v h=>h) fun x v h=>?_)) fun hu=>?_
  ·exfalso
   obtain ⟨y',d,u,z,c1,c2,c3,c4,_⟩:=h
   rw [hyi] at c1
   obtain rfl:=Option.some.inj c1
   rw [g6] at c3
   obtain rfl:=Option.some.inj c3
   exact c4 (of_decide_eq_true hu)
  obtain ⟨z,ez,_⟩:=ZiA (n:=n) v6 (decide (idxV (Zb n) y.from_=f))
  obtain ⟨d,ed,_⟩:=Zlz hf hl hc hy z weight
  have hcI:∀ x v,Zqa n l closed weight f r i x v→¬ d<0∧x=idxV (Zb n) y.to_∧Zq n ⟨(i:Int),d⟩=some v:=by
   rintro x v ⟨y',d',u,z',c1,c2,c3,c4,c5,c6,c7,c8⟩
   rw [hyi] at c1
   obtain rfl:=Option.some.inj c1
   rw [g6] at c3
   obtain rfl:=Option.some.inj c3
   rw [ez] at c5
   obtain rfl:=Option.some.inj c5
   rw [ed] at c6
   obtain rfl:=Option.some.inj c6
   exact ⟨c7,c2.symm,c8⟩
  rw [ez,Option.bind_some,ed,Option.bind_some]
  refine Tot.cond (fun hdd=>Tot.ret (go _ hlen (fun x v h=>h) fun x v h=>absurd (of_decide_eq_true hdd) (hcI x v h).1)) fun hdn=>?_
  have htr:ZbJ n ⟨(i:Int),d⟩=true:=by
   rcases Zsp hf ed with h | h
   ·subst h; have:=of_decide_eq_false hdn; omega
   ·exact h
  obtain ⟨e,he⟩:=Zfr (n:=n) (t:=⟨(i:Int),d⟩) hy
  have he0:0≤e:=by
   obtain ⟨_,h2,h3,h4,_⟩:=ZI hf hn htr
   rw [he] at h2
   have:=Option.some.inj h2
   omega
  simp only [he,Option.bind_some,g11]
  have setok:=fun (hv:v11<0∨e<v11)=>go (s.2.set (Int.toNat (idxV (Zb n) y.to_)) e) (by rw [List.length_set]; exact hlen) (fun x v h=>by
   obtain ⟨w,hw1,hw2,hw3⟩:=h
   by_cases hx:x=idxV (Zb n) y.to_
   ·subst hx
    rw [g11] at hw1
    obtain rfl:=Option.some.inj hw1
    exact ⟨_,Zf6 b0 (by omega),he0,by omega⟩
   ·exact ⟨w,by rw [Zoq b0 hx]; exact hw1,hw2,hw3⟩) (fun x v h=>by
   obtain ⟨_,rfl,h8⟩:=hcI x v h
   rw [he] at h8
   obtain rfl:=Option.some.inj h8
   exact ⟨_,Zf6 b0 (by omega),he0,Int.le_refl _⟩)
  refine Tot.cond (fun h=>Tot.ret (setok (.inl (of_decide_eq_true h)))) fun h1=>Tot.cond (fun h=>Tot.ret (setok (.inr (of_decide_eq_true h)))) fun h2=>Tot.ret (go _ hlen (fun x v h=>h) fun x v h=>?_)
  obtain ⟨_,rfl,h8⟩:=hcI x v h
  rw [he] at h8
  obtain rfl:=Option.some.inj h8
  have h1:=of_decide_eq_false h1
  have h2:=of_decide_eq_false h2
  exact ⟨v11,g11,by omega,by omega⟩
theorem ZiM (hn:Zi n=some true) {l:List Zc} (hl:l.length≤1048576) {closed:List Ze} (hc:closed.length≤1048576) (weight f at_:Int) (k:Nat):
 (∀ x v,getI (Z6 n l closed weight f at_ k) x=some v→0≤v→LeAt (Z6 n l closed weight f at_ (k+1)) x v)∧∀ x v,Cand n l closed weight f (Z6 n l closed weight f at_ k) x v→LeAt (Z6 n l closed weight f at_ (k+1)) x v:=by
 obtain ⟨r,e,h⟩:=ZuS hf hn hl hc weight (Zfb hf hl hc weight f at_ k) f
 have h1:=(ZgF hf hl hc weight f at_ k).1
 rw [e] at h1
 obtain rfl:=Option.some.inj h1
 exact h
end
section
variable {n:Za} (hf:Z0 n)
include hf
omit hf in
theorem Zwi {l:List ByteArray} {p q:ByteArray} (hp:0≤idxV l p):decide (idxV l p=idxV l q)=decide (p=q):=by
 by_cases h:p=q
 ·subst h; simp
 ·rw [decide_eq_false h]
  refine decide_eq_false fun he=>h ?_
  have h1:=ZfZ hp
  have h2:=ZfZ (l:=l) (p:=q) (by omega)
  rw [← he,h1] at h2
  exact Option.some.inj h2
def ZvF (n:Za) (l:List Zc) (closed:List Ze) (weight f:Int) (r:List Int) (x v:Int) (t:Ze):Prop:=
 ∃ (i:Nat) (y:YLeg) (d u z:Int),t=⟨(i:Int),d⟩∧n.legs[i]?=some y∧idxV (Zb n) y.to_=x∧getI r (idxV (Zb n) y.from_)=some u∧¬ u<0∧Zag n u (decide (idxV (Zb n) y.from_=f))=some z∧Z1 n l closed (i:Int) z weight=some d∧¬ d<0∧Zq n ⟨(i:Int),d⟩=some v
theorem Zm8 {l:List Zc} (hl:l.length≤1048576) {closed:List Ze} (hc:closed.length≤1048576) (weight:Int) {from_:ByteArray} {before:List Int} (hb:before.length=(Zb n).length) {q0:ByteArray} {x:Int} (hxq:x=idxV (Zb n) q0) (hx:0≤x∧x<(Zb n).length) (e:Int) {i:Nat} (hi:i<n.legs.length):
 (Zct n l closed weight (Zb n) before (idxV (Zb n) from_) x e (i:Int)=some (.inl ((i+1:Nat):Int))∧ZaL n n closed l weight (Zb n) before from_ x e (i:Int)=some (.inl ((i+1:Nat):Int))∧¬ Zqa n l closed weight (idxV (Zb n) from_) before i x e)∨
 ∃ t,Zct n l closed weight (Zb n) before (idxV (Zb n) from_) x e (i:Int)=some (.inr (.inr t))∧ZaL n n closed l weight (Zb n) before from_ x e (i:Int)=some (.inr (.inr (t,true)))∧ZvF n l closed weight (idxV (Zb n) from_) before x e t:=by
 have hll:=hf.legs
 have hw:w64 ((i:Int)+1)=((i+1:Nat):Int):=by rw [Zo (by omega)]; omega
 obtain ⟨y,hy,hm⟩:=Zew (xs:=n.legs) (i:=(i:Int)) ⟨by omega,by omega⟩
 have hyi:n.legs[i]?=some y:=by rw [Zn] at hy; exact hy
 obtain ⟨m1,m2⟩:=Zf0 hm
 have a0:=ZeW m1
 have a1:=(Ze2 (Zb n) y.from_).2
 obtain ⟨v6,g6,_⟩:=Zew (xs:=before) (i:=idxV (Zb n) y.from_) ⟨a0,by omega⟩
 obtain ⟨p,gp,_⟩:=Zew (xs:=Zb n) (i:=x) hx
 obtain ⟨z,ez,_⟩:=ZiA (n:=n) v6 (decide (idxV (Zb n) y.from_=idxV (Zb n) from_))
 obtain ⟨d,ed,ef⟩:=ZrW hf hl hc hy z weight
 obtain ⟨v,hv⟩:=Zfr (n:=n) (t:=⟨(i:Int),d⟩) hy
 have hpa:∀ p,Zz (Zb n) p=some (idxV (Zb n) p):=fun p=>by rw [ZdT]; exact Zgk hf p
 have ez':Zdn n v6 (decide (y.from_=from_))=some z:=by rw [ZpO,← Zwi (l:=Zb n) a0]; exact ez
 have hno:∀ {P:Prop},(∀ y' d' u z',n.legs[i]?=some y'→idxV (Zb n) y'.to_=x→getI before (idxV (Zb n) y'.from_)=some u→¬ u<0→Zag n u (decide (idxV (Zb n) y'.from_=idxV (Zb n) from_))=some z'→Z1 n l closed (i:Int) z' weight=some d'→¬ d'<0→Zq n ⟨(i:Int),d'⟩=some e→y'=y→u=v6→z'=z→d'=d→False)→¬ Zqa n l closed weight (idxV (Zb n) from_) before i x e:=by
  rintro _ H ⟨y',d',u,z',c1,c2,c3,c4,c5,c6,c7,c8⟩
  have q1:y'=y:=by rw [hyi] at c1; exact (Option.some.inj c1).symm
  have q2:u=v6:=by rw [q1,g6] at c3; exact (Option.some.inj c3).symm
  have q3:z'=z:=by rw [q1,q2,ez] at c5; exact (Option.some.inj c5).symm
  have q4:d'=d:=by rw [q3,ed] at c6; exact (Option.some.inj c6).symm
  exact H y' d' u z' c1 c2 c3 c4 c5 c6 c7 c8 q1 q2 q3 q4
 have S:Zct n l closed weight (Zb n) before (idxV (Zb n) from_) x e (i:Int)=cond (!decide (y.to_=p)) (some (.inl ((i+1:Nat):Int))) (cond (decide (v6<0)) (some (.inl ((i+1:Nat):Int))) (cond (decide (0≤d)) (cond (decide (v=e)) (some (.inr (.inr ⟨(i:Int),d⟩))) (some (.inl ((i+1:Nat):Int)))) (some (.inl ((i+1:Nat):Int))))):=by
  unfold Zct
  simp only [decide_eq_true (show (i:Int)<n.legs.length by omega),cond_true,hy,Option.bind_some,Zgk hf,gp,g6,ez,ed,hv,hw]
 have T:ZaL n n closed l weight (Zb n) before from_ x e (i:Int)=cond (!decide (y.to_=p)) (some (.inl ((i+1:Nat):Int))) (cond (decide (v6<0)) (some (.inl ((i+1:Nat):Int))) (cond (decide (0≤d)) (cond (decide (v=e)) (some (.inr (.inr (⟨(i:Int),d⟩,true)))) (some (.inl ((i+1:Nat):Int)))) (some (.inl ((i+1:Nat):Int))))):=by
  unfold ZaL
  simp only [decide_eq_true (show (i:Int)<n.legs.length by omega),cond_true,hy,Option.bind_some,hpa,gp,g6,ez',ef,hw,ZfG]
  by_cases hd:d<0
  ·simp only [if_pos hd,decide_eq_false (show ¬ 0≤d by omega),cond_false]
  ·simp only [if_neg hd,decide_eq_true (show 0≤d by omega),cond_true,hv,Option.bind_some]
 rw [S,T]
 by_cases h1:y.to_=p
 ·by_cases h2:v6<0
  ·refine .inl ⟨by simp [h1,h2],by simp [h1,h2],hno (P:=True) fun y' d' u z' c1 c2 c3 c4 c5 c6 c7 c8 q1 q2 q3 q4=>c4 (by rw [q2]; exact h2)⟩
  ·by_cases h3:0≤d
   ·by_cases h4:v=e
    ·refine .inr ⟨⟨(i:Int),d⟩,by simp [h1,h2,h3,h4],by simp [h1,h2,h3,h4],i,y,d,v6,z,rfl,hyi,?_,g6,h2,ez,ed,by omega,by rw [hv,h4]⟩
     have g:=ZfZ (l:=Zb n) (p:=q0) (by omega)
     rw [← hxq,gp] at g
     rw [h1,Option.some.inj g,hxq]
    ·refine .inl ⟨by simp [h1,h2,h3,h4],by simp [h1,h2,h3,h4],hno (P:=True) fun y' d' u z' c1 c2 c3 c4 c5 c6 c7 c8 q1 q2 q3 q4=>h4 (by rw [q4,hv] at c8; exact Option.some.inj c8)⟩
   ·refine .inl ⟨by simp [h1,h2,h3],by simp [h1,h2,h3],hno (P:=True) fun y' d' u z' c1 c2 c3 c4 c5 c6 c7 c8 q1 q2 q3 q4=>c7 (by rw [q4]; omega)⟩
 ·refine .inl ⟨by simp [h1],by simp [h1],hno (P:=True) fun y' d' u z' c1 c2 c3 c4 c5 c6 c7 c8 q1 q2 q3 q4=>h1 ?_⟩
  rw [q1] at c2
  have g:=ZfZ (ZeW m2)
  rw [c2,gp] at g
  exact (Option.some.inj g).symm
theorem Zm7 {l:List Zc} (hl:l.length≤1048576) {closed:List Ze} (hc:closed.length≤1048576) (weight:Int) {from_:ByteArray} {before:List Int} (hb:before.length=(Zb n).length) {q0:ByteArray} {x:Int} (hxq:x=idxV (Zb n) q0) (hx:0≤x∧x<(Zb n).length) (e:Int) (hcd:Cand n l closed weight (idxV (Zb n) from_) before x e):
 ∃ t,ZfD n l closed weight (Zb n) before (idxV (Zb n) from_) x e=some t∧Zdg n n closed l weight (Zb n) before from_ x e=some (t,true)∧ZvF n l closed weight (idxV (Zb n) from_) before x e t:=by
 have hll:=hf.legs
 obtain ⟨i0,hci⟩:=hcd
 have hi0:i0<n.legs.length:=by obtain ⟨y,_,_,_,c1,_⟩:=hci; exact (List.getElem?_eq_some_iff.1 c1).1
 have key:∀ (d i:Nat),i+d=i0→∀ N,d<N→∃ t,Zj (Zct n l closed weight (Zb n) before (idxV (Zb n) from_) x e) N (i:Int)=some (.inr t)∧Zj (ZaL n n closed l weight (Zb n) before from_ x e) N (i:Int)=some (.inr (t,true))∧ZvF n l closed weight (idxV (Zb n) from_) before x e t:=by
  intro d
  induction d with
  | zero=>
   intro i hi N hN
   obtain ⟨N,rfl⟩:∃ M,N=M+1:=⟨N-1,by omega⟩
   rcases Zm8 hf hl hc weight hb hxq hx e (from_:=from_) (i:=i) (by omega) with ⟨_,_,h⟩ | ⟨t,h1,h2,h3⟩
   ·exact absurd ((show i=i0 by omega) ▸ hci) h
   ·exact ⟨t,by unfold Zj; rw [h1]; rfl,by unfold Zj; rw [h2]; rfl,h3⟩
  | succ d ih=>
   intro i hi N hN
   obtain ⟨N,rfl⟩:∃ M,N=M+1:=⟨N-1,by omega⟩
   rcases Zm8 hf hl hc weight hb hxq hx e (from_:=from_) (i:=i) (by omega) with ⟨h1,h2,_⟩ | ⟨t,h1,h2,h3⟩
   ·obtain ⟨t,q1,q2,q3⟩:=ih (i+1) (by omega) N (by omega)
    exact ⟨t,by unfold Zj; rw [h1]; exact q1,by unfold Zj; rw [h2]; exact q2,q3⟩
   ·exact ⟨t,by unfold Zj; rw [h1]; rfl,by unfold Zj; rw [h2]; rfl,h3⟩
 obtain ⟨t,h1,h2,h3⟩:=key i0 0 (by omega) NN (by unfold NN; omega)
 have e0:((0:Nat):Int)=0:=rfl
 rw [e0] at h1 h2
 exact ⟨t,by unfold ZfD; rw [h1]; rfl,by unfold Zdg; rw [h2]; rfl,h3⟩
omit hf in
theorem ZuP {o:List Ze} (h:o.length≤1048576):Zj (ZbS o) NN ((w64 ((o.length:Int)-1)),([]:List Ze))=some o.reverse:=by
 have key:∀ (m:Nat),m≤o.length→∀ N,m<N→Zj (ZbS o) N ((m:Int)-1,(o.drop m).reverse)=some o.reverse:=by
  intro m
  induction m with
  | zero=>
   intro hm N hN
   obtain ⟨N,rfl⟩:∃ M,N=M+1:=⟨N-1,by omega⟩
   unfold Zj ZbS
   simp
  | succ m ih=>
   intro hm N hN
   obtain ⟨N,rfl⟩:∃ M,N=M+1:=⟨N-1,by omega⟩
   have hg:getI o (((m+1:Nat):Int)-1)=some o[m]:=by
    rw [show ((m+1:Nat):Int)-1=(m:Int) by omega,Zn]; exact List.getElem?_eq_getElem (by omega)
   have hw:w64 (((m+1:Nat):Int)-1-1)=(m:Int)-1:=by rw [Zo (by omega)]; omega
   have ha:chk (ZQ ((o.drop (m+1)).reverse.length+([o[m]]:List Ze).length) 16)=some ():=ZcC (by simp only [List.length_reverse,List.length_drop,List.length_cons,List.length_nil]; omega) (by omega)
   have hd:o.drop m=o[m]::o.drop (m+1):=List.drop_eq_getElem_cons (by omega)
   have q:=ih (by omega) N (by omega)
   rw [hd,List.reverse_cons] at q
   unfold Zj
   unfold ZbS
   simp only [decide_eq_true (show (0:Int)≤((m+1:Nat):Int)-1 by omega),cond_true,hg,Option.bind_some,ha,hw]
   exact q
 have:=key o.length (Nat.le_refl _) NN (by unfold NN; omega)
 rw [List.drop_length] at this
 rw [Zo (by omega)]
 exact this
def allV (n:Za) (l:List Zc) (closed:List Ze) (weight f at_:Int):List (List Int):=(List.range ((Zb n).length+1)).map (Z6 n l closed weight f at_)
omit hf in
theorem ZjM {l:List Zc} {closed:List Ze} {weight f at_:Int} {k:Nat} (hk:k≤(Zb n).length):getI (allV n l closed weight f at_) (k:Int)=some (Z6 n l closed weight f at_ k):=by
 rw [Zn]; unfold allV
 rw [List.getElem?_map,List.getElem?_range (by omega)]; rfl
theorem Zrt (hn:Zi n=some true) {l:List Zc} (hl:l.length≤1048576) {closed:List Ze} (hc:closed.length≤1048576) (weight:Int) {from_:ByteArray} (at_:Int)
 (hC:ZZ n l=true∧0≤idxV (Zb n) from_∧at_≤100000∧1≤weight):
 ∀ (k:Nat) (q0:ByteArray) (x e:Int) (back:List Ze),x=idxV (Zb n) q0→0≤x→getI (Z6 n l closed weight (idxV (Zb n) from_) at_ k) x=some e→0≤e→(k=0∨¬ getI (Z6 n l closed weight (idxV (Zb n) from_) at_ (k-1)) x=some e)→back.length+k≤(Zb n).length→∀ N,k<N→
  ∃ back',Zj (Zat n l closed from_ at_ weight (Zb n) (idxV (Zb n) from_)) N (x,e,(k:Int),back.reverse)=some back'.reverse∧Zj (ZbR n n closed l weight from_ (Zb n) (allV n l closed weight (idxV (Zb n) from_) at_)) N (x,e,(k:Int),back)=some (.inl back')∧back'.length≤(Zb n).length:=by
 have hlg:=Zff hn
 have hp:(Zb n).length≤40:=by have:=Zaz n; omega
 intro k
 induction k with
 | zero=>
  intro q0 x e back hxq hx hg he hnot hlen N hN
  obtain ⟨N,rfl⟩:∃ M,N=M+1:=⟨N-1,by omega⟩
  refine ⟨back,?_,?_,by omega⟩
  ·unfold Zj Zat; simp
  ·unfold Zj ZbR; simp
 | succ k ih=>
  intro q0 x e back hxq hx hg he hnot hlen N hN
  obtain ⟨N,rfl⟩:∃ M,N=M+1:=⟨N-1,by omega⟩
  have hbl:=Zfb hf hl hc weight (idxV (Zb n) from_) at_
  have hnx:¬ getI (Z6 n l closed weight (idxV (Zb n) from_) at_ k) x=some e:=by
   rcases hnot with h | h
   ·omega
   ·exact h
  have hcd:Cand n l closed weight (idxV (Zb n) from_) (Z6 n l closed weight (idxV (Zb n) from_) at_ k) x e:=by
   rcases (ZgF hf hl hc weight (idxV (Zb n) from_) at_ k).2 x e hg with h | h
   ·exact absurd h hnx
   ·exact h
  have hxl:x<(Zb n).length:=by rw [hxq]; exact (Ze2 (Zb n) q0).2
  obtain ⟨t,hs,hi,i,y,d,u,z,rfl,c1,c2,c3,c4,c5,c6,c7,c8⟩:=Zm7 hf hl hc weight (hbl k) hxq ⟨hx,hxl⟩ e hcd
  have hfb:=ZfR hf hl hc weight at_ hC (k:=k) (by omega)
  have hw:w64 (((k+1:Nat):Int)-1)=(k:Int):=by rw [Zo (by omega)]; omega
  have hy:getI n.legs (i:Int)=some y:=by rw [Zn]; exact c1
  have ha1:chk (ZQ (([⟨(i:Int),d⟩]:List Ze).length+back.reverse.length) 16)=some ():=ZcC (by simp only [List.length_reverse,List.length_cons,List.length_nil]; omega) (by omega)
  have ha2:chk (ZQ (back.length+([⟨(i:Int),d⟩]:List Ze).length) 16)=some ():=ZcC (by simp only [List.length_cons,List.length_nil]; omega) (by omega)
  have hag:=ZjM (n:=n) (l:=l) (closed:=closed) (weight:=weight) (f:=idxV (Zb n) from_) (at_:=at_) (k:=k) (by omega)
  have hpa:Zz (Zb n) y.from_=some (idxV (Zb n) y.from_):=by rw [ZdT]; exact Zgk hf _
  have a0:=ZeW (Zf0 (List.mem_of_getElem? c1)).1
  obtain ⟨back',q1,q2,q3⟩:=ih y.from_ (idxV (Zb n) y.from_) u (back++[⟨(i:Int),d⟩]) rfl a0 c3 (by omega) (by
   by_cases hk0:k=0
   ·exact .inl hk0
   ·refine .inr fun hu=>hnx ?_
    obtain ⟨k',rfl⟩:∃ k',k=k'+1:=⟨k-1,by omega⟩
    have hb1:=(ZiM hf hn hl hc weight (idxV (Zb n) from_) at_ k').2 x e ⟨i,y,d,u,z,c1,c2,hu,c4,c5,c6,c7,c8⟩
    obtain ⟨w,w1,w2,w3⟩:=hb1
    obtain ⟨w',v1,v2,v3⟩:=(ZiM hf hn hl hc weight (idxV (Zb n) from_) at_ (k'+1)).1 x w w1 w2
    rw [hg] at v1
    obtain rfl:=Option.some.inj v1
    rw [w1,show w=e by omega]) (by simp only [List.length_append,List.length_cons,List.length_nil]; omega) N (by omega)
  refine ⟨back',?_,?_,q3⟩
  ·have hb:Zat n l closed from_ at_ weight (Zb n) (idxV (Zb n) from_) (x,e,((k+1:Nat):Int),back.reverse)=some (.inl (idxV (Zb n) y.from_,u,(k:Int),[⟨(i:Int),d⟩]++back.reverse)):=by
    unfold Zat
    simp only [decide_eq_true (show (0:Int)<((k+1:Nat):Int) by omega),cond_true,hw,hfb,Option.bind_some,hs,ha1,hy,Zgk hf,c3]
   rw [List.reverse_append,List.reverse_singleton] at q1
   unfold Zj
   rw [hb]
   exact q1
  ·have hb:ZbR n n closed l weight from_ (Zb n) (allV n l closed weight (idxV (Zb n) from_) at_) (x,e,((k+1:Nat):Int),back)=some (.inl (idxV (Zb n) y.from_,u,(k:Int),back++[⟨(i:Int),d⟩])):=by
    unfold ZbR
    simp only [decide_eq_true (show (0:Int)<((k+1:Nat):Int) by omega),cond_true,hw,hag,Option.bind_some,hi,Bool.not_true,cond_false,ha2,hy,hpa,c3]
   unfold Zj
   rw [hb]
   exact q2
theorem Zln {l:List Zc} (hl:l.length≤1048576) {closed:List Ze} (hc:closed.length≤1048576) (weight:Int) {from_:ByteArray} (at_:Int) (hp:(Zb n).length≤40)
 (hC:ZZ n l=true∧0≤idxV (Zb n) from_∧at_≤100000∧1≤weight) {x e:Int} (hx:0≤x∧x<(Zb n).length) (hg:getI (Z6 n l closed weight (idxV (Zb n) from_) at_ (Zb n).length) x=some e):
 ∃ k:Nat,k≤(Zb n).length∧getI (Z6 n l closed weight (idxV (Zb n) from_) at_ k) x=some e∧(k=0∨¬ getI (Z6 n l closed weight (idxV (Zb n) from_) at_ (k-1)) x=some e)∧
  Zj (Za2 n l closed from_ at_ weight (Zb n) (idxV (Zb n) from_) x e) NN 0=some (k:Int)∧Zj (ZaM n n closed l weight from_ (Zb n) x (allV n l closed weight (idxV (Zb n) from_) at_) e) NN 0=some (k:Int):=by
 have hbl:=Zfb hf hl hc weight (idxV (Zb n) from_) at_
 have key:∀ (dd i:Nat),i+dd=(Zb n).length→(i=0∨¬ getI (Z6 n l closed weight (idxV (Zb n) from_) at_ (i-1)) x=some e)→∀ N,dd<N→
  ∃ k:Nat,k≤(Zb n).length∧getI (Z6 n l closed weight (idxV (Zb n) from_) at_ k) x=some e∧(k=0∨¬ getI (Z6 n l closed weight (idxV (Zb n) from_) at_ (k-1)) x=some e)∧
  Zj (Za2 n l closed from_ at_ weight (Zb n) (idxV (Zb n) from_) x e) N (i:Int)=some (k:Int)∧Zj (ZaM n n closed l weight from_ (Zb n) x (allV n l closed weight (idxV (Zb n) from_) at_) e) N (i:Int)=some (k:Int):=by
  intro dd
  induction dd with
  | zero=>
   intro i hi h0 N hN
   obtain ⟨N,rfl⟩:∃ M,N=M+1:=⟨N-1,by omega⟩
   obtain rfl:i=(Zb n).length:=by omega
   refine ⟨(Zb n).length,Nat.le_refl _,hg,h0,?_,?_⟩
   ·unfold Zj Za2
    simp only [ZfR hf hl hc weight at_ hC (Nat.le_refl _),Option.bind_some,hg,decide_true,Bool.not_true,cond_false]
   ·unfold Zj ZaM
    simp only [ZjM (Nat.le_refl _),Option.bind_some,hg,decide_true,Bool.not_true,cond_false]
  | succ dd ih=>
   intro i hi h0 N hN
   obtain ⟨N,rfl⟩:∃ M,N=M+1:=⟨N-1,by omega⟩
   have hw:w64 ((i:Int)+1)=((i+1:Nat):Int):=by rw [Zo (by omega)]; omega
   obtain ⟨v,hv,_⟩:=Zew (xs:=Z6 n l closed weight (idxV (Zb n) from_) at_ i) (i:=x) ⟨hx.1,by rw [hbl]; exact hx.2⟩
   by_cases hve:v=e
   ·subst hve
    refine ⟨i,by omega,hv,h0,?_,?_⟩
    ·unfold Zj Za2
     simp only [ZfR hf hl hc weight at_ hC (show i≤(Zb n).length by omega),Option.bind_some,hv,decide_true,Bool.not_true,cond_false]
    ·unfold Zj ZaM
     simp only [ZjM (show i≤(Zb n).length by omega),Option.bind_some,hv,decide_true,Bool.not_true,cond_false]
   ·obtain ⟨k,q1,q2,q3,q4,q5⟩:=ih (i+1) (by omega) (.inr (by rw [Nat.add_sub_cancel,hv]; simpa using hve)) N (by omega)
    refine ⟨k,q1,q2,q3,?_,?_⟩
    ·have hb:Za2 n l closed from_ at_ weight (Zb n) (idxV (Zb n) from_) x e (i:Int)=some (.inl ((i+1:Nat):Int)):=by
      unfold Za2
      simp only [ZfR hf hl hc weight at_ hC (show i≤(Zb n).length by omega),Option.bind_some,hv,decide_eq_false hve,Bool.not_false,cond_true,hw]
     unfold Zj
     rw [hb]
     exact q4
    ·have hb:ZaM n n closed l weight from_ (Zb n) x (allV n l closed weight (idxV (Zb n) from_) at_) e (i:Int)=some (.inl ((i+1:Nat):Int)):=by
      unfold ZaM
      simp only [ZjM (show i≤(Zb n).length by omega),Option.bind_some,hv,decide_eq_false hve,Bool.not_false,cond_true,hw]
     unfold Zj
     rw [hb]
     exact q5
 obtain ⟨k,q1,q2,q3,q4,q5⟩:=key (Zb n).length 0 (by omega) (.inl rfl) NN (by unfold NN; omega)
 exact ⟨k,q1,q2,q3,q4,q5⟩
theorem Zn9 {l:List Zc} {closed:List Ze} (weight:Int) {from_:ByteArray} {at_:Int} (h:idxV (Zb n) from_<0∨100000<at_) (legs:Int):Zay n n closed l weight from_ at_ legs=some []:=by
 unfold Zay
 rw [ZdT,(Zac hf).1,(Zac hf).2]
 simp only [Option.bind_some,Zgk hf]
 by_cases h1:idxV (Zb n) from_<0
 ·simp only [decide_eq_true h1,cond_true]
 ·simp only [decide_eq_false h1,cond_false,decide_eq_true (show 100000<at_ by omega),cond_true]
theorem Zf5 {l:List Zc} (hl:l.length≤1048576) {closed:List Ze} (hc:closed.length≤1048576) (from_ to_:ByteArray) (at_ weight:Int):
 ∃ r,Zb3 n l closed from_ to_ at_ weight=some r∧Zy n l closed from_ to_ at_ weight=some r:=by
 have hplen:=plen hf
 have hpa:∀ p,Zz (Zb n) p=some (idxV (Zb n) p):=fun p=>by rw [ZdT]; exact Zgk hf p
 unfold Zb3 Zy Zf7 Zfe
 rw [Zh5 hf hl,(Zac hf).1,(Zac hf).2]
 simp only [Option.bind_some,Zgk hf,hpa]
 by_cases hB:ZZ n l=true
 case neg=>
  have hB:ZZ n l=false:=by simpa using hB
  have e:Zab n l closed from_ at_ weight ((Zb n).length:Int)=some []:=by
   unfold Zab
   rw [(Zac hf).2]
   simp only [Option.bind_some,Zgk hf,Zcu hf hl,hB,Bool.not_false,cond_true]
  refine ⟨([],false),by simp only [hB,Bool.not_false,cond_true],?_⟩
  simp only [e,Option.bind_some]
  by_cases h:idxV (Zb n) to_<0
  ·simp only [decide_eq_true h,cond_true]
  ·simp only [decide_eq_false h,cond_false,List.length_nil]; rfl
 have hn:=(Zav hB).1
 have hlg:=Zff hn
 have hp:(Zb n).length≤40:=by have:=Zaz n; omega
 simp only [hB,Bool.not_true,cond_false]
 by_cases hw1:weight<1
 ·have e:Zab n l closed from_ at_ weight ((Zb n).length:Int)=some []:=by
   unfold Zab
   rw [(Zac hf).2]
   simp only [Option.bind_some,Zgk hf,Zcu hf hl,hB,Bool.not_true,cond_false,decide_eq_true hw1,cond_true]
   by_cases h1:idxV (Zb n) from_<0
   ·simp only [decide_eq_true h1,cond_true]
   ·by_cases h2:100000<at_
    ·simp only [decide_eq_false h1,decide_eq_true h2,cond_true,cond_false]
    ·simp only [decide_eq_false h1,decide_eq_false h2,cond_false]
  refine ⟨([],false),by simp only [decide_eq_true hw1,cond_true],?_⟩
  simp only [e,Option.bind_some]
  by_cases h:idxV (Zb n) to_<0
  ·simp only [decide_eq_true h,cond_true]
  ·simp only [decide_eq_false h,cond_false,List.length_nil]; rfl
 simp only [decide_eq_false hw1,cond_false]
 by_cases hA:idxV (Zb n) from_<0∨100000<at_
 ·have e:Zab n l closed from_ at_ weight ((Zb n).length:Int)=some []:=by
   unfold Zab
   rw [(Zac hf).2]
   simp only [Option.bind_some,Zgk hf,Zcu hf hl,hB,Bool.not_true,cond_false]
   by_cases h1:idxV (Zb n) from_<0
   ·simp only [decide_eq_true h1,cond_true]
   ·simp only [decide_eq_false h1,cond_false,decide_eq_true (show 100000<at_ by omega),cond_true]
  have e0:Zj (Zar n n closed l weight from_ at_ (Zb n) (idxV (Zb n) to_)) NN (0,([]:List (List Int)))=some (.inr ([],false)):=by
   obtain ⟨N,hN⟩:∃ N,NN=N+1:=⟨NN-1,by unfold NN; omega⟩
   rw [hN]
   unfold Zj Zar
   simp only [decide_eq_true (show (0:Int)≤((Zb n).length:Int) by omega),cond_true,Zn9 hf weight hA,Option.bind_some,List.length_nil]
   rfl
  refine ⟨([],false),by rw [e0]; rfl,?_⟩
  simp only [e,Option.bind_some]
  by_cases h:idxV (Zb n) to_<0
  ·simp only [decide_eq_true h,cond_true]
  ·simp only [decide_eq_false h,cond_false,List.length_nil]; rfl
 have hC:ZZ n l=true∧0≤idxV (Zb n) from_∧at_≤100000∧1≤weight:=⟨hB,by omega,by omega,by omega⟩
 have hbl:=Zfb hf hl hc weight (idxV (Zb n) from_) at_
 have hfl:=(Ze2 (Zb n) from_).2
 have hav:=fun (k:Nat) (hk:k≤(Zb n).length)=>Zk9 hf hl hc weight hC.2.1 hC.2.2.1 (by omega) k (by omega)
 by_cases ht:idxV (Zb n) to_<0
 ·have e0:Zj (Zar n n closed l weight from_ at_ (Zb n) (idxV (Zb n) to_)) NN (0,([]:List (List Int)))=some (.inr ([],false)):=by
   obtain ⟨N,hN⟩:∃ N,NN=N+1:=⟨NN-1,by unfold NN; omega⟩
   rw [hN]
   have h0:=hav 0 (by omega)
   rw [show ((0:Nat):Int)=0 from rfl] at h0
   unfold Zj Zar
   simp only [decide_eq_true (show (0:Int)≤((Zb n).length:Int) by omega),cond_true,h0,Option.bind_some,decide_eq_true ht]
   cases decide (((Z6 n l closed weight (idxV (Zb n) from_) at_ 0).length:Int)=0) <;> rfl
  have hfb:=ZfR hf hl hc weight at_ hC (k:=(Zb n).length) (Nat.le_refl _)
  refine ⟨([],false),by rw [e0]; rfl,?_⟩
  simp only [hfb,Option.bind_some,decide_eq_true ht,cond_true]
 have e0:Zj (Zar n n closed l weight from_ at_ (Zb n) (idxV (Zb n) to_)) NN (0,([]:List (List Int)))=some (.inl (allV n l closed weight (idxV (Zb n) from_) at_)):=by
  refine ZbW (body:=Zar n n closed l weight from_ at_ (Zb n) (idxV (Zb n) to_)) (fun i:Nat=>((i:Int),(List.range i).map (Z6 n l closed weight (idxV (Zb n) from_) at_))) (n:=(Zb n).length+1) (o:=.inl (allV n l closed weight (idxV (Zb n) from_) at_)) (fun i hi=>?_) ?_ NN (by unfold NN; omega)
  ·have hw:w64 ((i:Int)+1)=((i+1:Nat):Int):=by rw [Zo (by omega)]; omega
   have ha:chk (ZQ (((List.range i).map (Z6 n l closed weight (idxV (Zb n) from_) at_)).length+([Z6 n l closed weight (idxV (Zb n) from_) at_ i]:List (List Int)).length) 24)=some ():=ZcC (by simp only [List.length_map,List.length_range,List.length_cons,List.length_nil]; omega) (by omega)
   unfold Zar
   simp only [decide_eq_true (show (i:Int)≤((Zb n).length:Int) by omega),cond_true,hav i (by omega),Option.bind_some,decide_eq_false (show ¬ (((Z6 n l closed weight (idxV (Zb n) from_) at_ i).length:Int)=0) by rw [hbl]; omega),cond_false,decide_eq_false ht,frz,ha,hw,List.range_succ,List.map_append,List.map_cons,List.map_nil]
  ·unfold Zar
   simp only [decide_eq_false (show ¬ (((Zb n).length+1:Nat):Int)≤((Zb n).length:Int) by omega),cond_false]
   rfl
 have htl:=(Ze2 (Zb n) to_).2
 obtain ⟨due,hdue,_⟩:=Zew (xs:=Z6 n l closed weight (idxV (Zb n) from_) at_ (Zb n).length) (i:=idxV (Zb n) to_) ⟨by omega,by rw [hbl]; exact htl⟩
 rw [e0]
 simp only [Option.bind_some,ZY,ZjM (Nat.le_refl _),hdue,ZfR hf hl hc weight at_ hC (Nat.le_refl _),decide_eq_false ht,cond_false,decide_eq_false (show ¬ (((Z6 n l closed weight (idxV (Zb n) from_) at_ (Zb n).length).length:Int)=0) by rw [hbl]; omega)]
 by_cases hd:due<0
 ·exact ⟨([],false),by simp only [decide_eq_true hd,cond_true]; rfl,by simp only [decide_eq_true hd,cond_true]⟩
 simp only [decide_eq_false hd,cond_false]
 obtain ⟨k,q1,q2,q3,q4,q5⟩:=Zln hf hl hc weight at_ hp hC ⟨by omega,htl⟩ hdue
 obtain ⟨back,b1,b2,b3⟩:=Zrt hf hn hl hc weight at_ hC k to_ (idxV (Zb n) to_) due [] rfl (by omega) q2 (by omega) q3 (by simp only [List.length_nil]; omega) NN (by unfold NN; omega)
 rw [List.reverse_nil] at b1
 refine ⟨(back.reverse,true),?_,?_⟩
 ·simp only [q5,Option.bind_some,b2,ZY,ZuP (show back.length≤1048576 by omega)]
 ·simp only [q4,Option.bind_some,b1]
end
end Go.Proofs.YtmcdjilbkmhfoaaGreat
