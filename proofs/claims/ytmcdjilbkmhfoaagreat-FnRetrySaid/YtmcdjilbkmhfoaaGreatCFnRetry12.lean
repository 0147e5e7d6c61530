/- A part of the proof of the statement in the last file of this claim: texts on the language of the program and on its functions. No condition. -/
import Derived.Test.YtmcdjilbkmhfoaaGreatCFnWorldKeeps4
import Derived.Test.YtmcdjilbkmhfoaaGreatCFnWorldKeeps5
import Derived.Test.YtmcdjilbkmhfoaaGreatCFnRetry9
import Derived.Test.YtmcdjilbkmhfoaaGreatCFnRetry11
import Derived.Test.YtmcdjilbkmhfoaaGreatCFnWorldKeeps6
import Derived.Test.YtmcdjilbkmhfoaaGreatCFnRetry7
import Derived.Test.YtmcdjilbkmhfoaaGreatCFnRetry8
import Derived.Test.YtmcdjilbkmhfoaaGreatCFnRetry10
namespace Go.Proofs.YtmcdjilbkmhfoaaGreat
set_option maxRecDepth 10000
open Go.RowKit
set_option linter.unusedVariables false
set_option maxHeartbeats 16000000
def ZaJ (y2:(List Int)) (s0:Int × Int × Int × Int × Int × (List YLeg) × (List Int) × (List Zf) × (List Zc) × (List Ze) × (List Zk) × (List Int)):Option ((Int × Int × Int × Int × Int × (List YLeg) × (List Int) × (List Zf) × (List Zc) × (List Ze) × (List Zk) × (List Int)) ⊕ (Int × Int × Int × Int × (List YLeg) × (List Int) × (List Zf) × (List Zc) × (List Ze) × (List Zk) × (List Int))):=
 cond (decide (s0.2.1<(y2.length:Int)))
 ((getI y2 s0.2.1).bind fun y3=>
 (rhoM [1,2,3,4,5,6,7,8]).bind fun _=>
 (Zbb (⟨(⟨s0.2.2.2.2.2.1,s0.2.2.2.2.2.2.1,s0.2.2.1⟩:Za),s0.2.2.2.2.2.2.2.1,s0.2.2.2.2.2.2.2.2.1,s0.2.2.2.2.2.2.2.2.2.1,s0.2.2.2.1,s0.2.2.2.2.2.2.2.2.2.2.1,s0.2.2.2.2.2.2.2.2.2.2.2,s0.2.2.2.2.1⟩:Zd) y3).bind fun y4=>
 (getI y4.orders (w64 (y3-1))).bind fun y5=>
 (Zbl y4 y5).bind fun y6=>
 cond (!y6)
 (some (.inl ((w64 (s0.1+1)),(w64 (s0.2.1+1)),y4.network.change,y4.now,y4.made,y4.network.legs,y4.network.off,y4.orders,y4.bookings,y4.closed,y4.scans,y4.skip)))
 (some (.inl (s0.1,(w64 (s0.2.1+1)),y4.network.change,y4.now,y4.made,y4.network.legs,y4.network.off,y4.orders,y4.bookings,y4.closed,y4.scans,y4.skip))))
 (some (.inr (s0.1,s0.2.2.1,s0.2.2.2.1,s0.2.2.2.2.1,s0.2.2.2.2.2.1,s0.2.2.2.2.2.2.1,s0.2.2.2.2.2.2.2.1,s0.2.2.2.2.2.2.2.2.1,s0.2.2.2.2.2.2.2.2.2.1,s0.2.2.2.2.2.2.2.2.2.2.1,s0.2.2.2.2.2.2.2.2.2.2.2)))
instance (y2:(List Int)):ZP (ZaJ y2):=⟨fun s0=>(.un::.un::.be 0 0 0::.un::.be 1 0 0::vi s0.1::(U 5 (.ms 9::vi (y2.length:Int)::vi s0.2.1::(U 19 [])))),fun s0=>[some ⟨41,10,[[.v (.slice none 0 0),.v (.slice none 0 0),vi 0,.v (.slice none 0 0),.v (.slice none 0 0),.v (.slice none 0 0),vi 0,.v (.slice none 0 0),.v (.slice none 0 0),vi 0]]⟩,some ⟨41,10,[[.ms 2,.ms 3,vi s0.2.2.1,.ms 4,.ms 5,.ms 6,vi s0.2.2.2.1,.ms 7,.ms 8,vi s0.2.2.2.2.1]]⟩,some ⟨67,6,s0.2.2.2.2.2.1.map cLeg⟩,some ⟨3,1,s0.2.2.2.2.2.2.1.map cInt⟩,some ⟨62,11,s0.2.2.2.2.2.2.2.1.map Zw⟩,some ⟨135,4,s0.2.2.2.2.2.2.2.2.1.map Zg⟩,some ⟨55,2,s0.2.2.2.2.2.2.2.2.2.1.map Zs⟩,some ⟨130,6,s0.2.2.2.2.2.2.2.2.2.2.1.map ZF⟩,some ⟨3,1,s0.2.2.2.2.2.2.2.2.2.2.2.map cInt⟩,some ⟨3,1,y2.map cInt⟩]⟩
def Zer (w:Zd):Option (Zd × Int):=
 (ZaZ w).bind fun y1=>
 (ZdC w).bind fun y2=>
 (Zj (ZaJ y2) NN (0,0,y1.network.change,y1.now,y1.made,y1.network.legs,y1.network.off,y1.orders,y1.bookings,y1.closed,y1.scans,y1.skip)).bind (fun o0=>
 some ((⟨(⟨o0.2.2.2.2.1,o0.2.2.2.2.2.1,o0.2.1⟩:Za),o0.2.2.2.2.2.2.1,o0.2.2.2.2.2.2.2.1,o0.2.2.2.2.2.2.2.2.1,o0.2.2.1,o0.2.2.2.2.2.2.2.2.2.1,o0.2.2.2.2.2.2.2.2.2.2,o0.2.2.2.1⟩:Zd),o0.1))
instance (w:Zd):CT Tryz.prog (Zer w):=⟨45,[.ag (Zbt w)],[],fun r=>.tu [.ag [.sl (r.1.network.legs.map cLeg),.sl (r.1.network.off.map cInt),vi r.1.network.change,.sl (r.1.orders.map Zw),.sl (r.1.bookings.map Zg),.sl (r.1.closed.map Zs),vi r.1.now,.sl (r.1.scans.map ZF),.sl (r.1.skip.map cInt),vi r.1.made],vi r.2],fun r=>[],fun H=>by replace H:=H0 H; unfold Zer at H; exact Zh Tryz.func45 rfl Tryz.ntmps45 Tryz.results45 fun Q hQ hQn=>wk3⟩
def Zdv (w:Zd) (s0:Int × (List Int)):Option ((Int × (List Int)) ⊕ (List Int)):=
 cond (decide (s0.1<(w.orders.length:Int)))
 ((Zcq w s0.1).bind fun y2=>
 cond y2
 ((chk (ZQ ((s0.2:List Int).length+([(w64 (s0.1+1))]:List Int).length) 8)).bind fun _=>
 some (.inl ((w64 (s0.1+1)),((s0.2:List Int)++[(w64 (s0.1+1))]))))
 (some (.inl ((w64 (s0.1+1)),s0.2))))
 (some (.inr s0.2))
instance (w:Zd):ZP (Zdv w):=⟨fun s0=>(.un::.be 0 0 0::.un::.ms 1::vi s0.1::(U 21 [])),fun s0=>[some ⟨41,10,[[.sl (w.network.legs.map cLeg),.sl (w.network.off.map cInt),vi w.network.change,.sl (w.orders.map Zw),.sl (w.bookings.map Zg),.sl (w.closed.map Zs),vi w.now,.sl (w.scans.map ZF),.sl (w.skip.map cInt),vi w.made]]⟩,some ⟨3,1,s0.2.map cInt⟩]⟩
def ZbU (w:Zd):Option (List Int):=
 (Zbs w).bind fun y1=>
 cond (!y1)
 (some ([]:List Int))
 ((Zj (Zdv w) NN (0,([]:List Int))).bind (fun o0=>
 some o0))
instance (w:Zd):CT Tryz.prog (ZbU w):=⟨129,[.ag (Zbt w)],[],fun r=>.ms 0,fun r=>[some ⟨3,1,r.map cInt⟩],fun H=>by replace H:=H0 H; unfold ZbU at H; exact Zh Tryz.func129 rfl Tryz.ntmps129 Tryz.results129 fun Q hQ hQn=>wk3⟩
def Zax (y2:(List Int)) (s0:Int × Int × Int × Int × (List YLeg) × (List Int) × (List Zf) × (List Zc) × (List Ze) × (List Zk) × (List Int)):Option ((Int × Int × Int × Int × (List YLeg) × (List Int) × (List Zf) × (List Zc) × (List Ze) × (List Zk) × (List Int)) ⊕ (Int × Int × Int × (List YLeg) × (List Int) × (List Zf) × (List Zc) × (List Ze) × (List Zk) × (List Int))):=
 cond (decide (s0.1<(y2.length:Int)))
 ((getI y2 s0.1).bind fun y3=>
 (rhoM [1,2,3,4,5,6,7,8]).bind fun _=>
 (ZaF (⟨(⟨s0.2.2.2.2.1,s0.2.2.2.2.2.1,s0.2.1⟩:Za),s0.2.2.2.2.2.2.1,s0.2.2.2.2.2.2.2.1,s0.2.2.2.2.2.2.2.2.1,s0.2.2.1,s0.2.2.2.2.2.2.2.2.2.1,s0.2.2.2.2.2.2.2.2.2.2,s0.2.2.2.1⟩:Zd) (w64 (y3-1))).bind fun y4=>
 some (.inl ((w64 (s0.1+1)),y4.network.change,y4.now,y4.made,y4.network.legs,y4.network.off,y4.orders,y4.bookings,y4.closed,y4.scans,y4.skip)))
 (some (.inr (s0.2.1,s0.2.2.1,s0.2.2.2.1,s0.2.2.2.2.1,s0.2.2.2.2.2.1,s0.2.2.2.2.2.2.1,s0.2.2.2.2.2.2.2.1,s0.2.2.2.2.2.2.2.2.1,s0.2.2.2.2.2.2.2.2.2.1,s0.2.2.2.2.2.2.2.2.2.2)))
instance (y2:(List Int)):ZP (Zax y2):=⟨fun s0=>(.un::.un::.be 0 0 0::.un::.be 1 0 0::.ms 9::vi s0.1::(U 23 [])),fun s0=>[some ⟨41,10,[[.v (.slice none 0 0),.v (.slice none 0 0),vi 0,.v (.slice none 0 0),.v (.slice none 0 0),.v (.slice none 0 0),vi 0,.v (.slice none 0 0),.v (.slice none 0 0),vi 0]]⟩,some ⟨41,10,[[.ms 2,.ms 3,vi s0.2.1,.ms 4,.ms 5,.ms 6,vi s0.2.2.1,.ms 7,.ms 8,vi s0.2.2.2.1]]⟩,some ⟨67,6,s0.2.2.2.2.1.map cLeg⟩,some ⟨3,1,s0.2.2.2.2.2.1.map cInt⟩,some ⟨62,11,s0.2.2.2.2.2.2.1.map Zw⟩,some ⟨135,4,s0.2.2.2.2.2.2.2.1.map Zg⟩,some ⟨55,2,s0.2.2.2.2.2.2.2.2.1.map Zs⟩,some ⟨130,6,s0.2.2.2.2.2.2.2.2.2.1.map ZF⟩,some ⟨3,1,s0.2.2.2.2.2.2.2.2.2.2.map cInt⟩,some ⟨3,1,y2.map cInt⟩]⟩
def ZaD (w:Zd):Option (Zd × Int):=
 (Zbf w).bind fun y1=>
 (ZbU w).bind fun y2=>
 (Zj (Zax y2) NN (0,y1.network.change,y1.now,y1.made,y1.network.legs,y1.network.off,y1.orders,y1.bookings,y1.closed,y1.scans,y1.skip)).bind (fun o0=>
 (ZbU (⟨(⟨o0.2.2.2.1,o0.2.2.2.2.1,o0.1⟩:Za),o0.2.2.2.2.2.1,o0.2.2.2.2.2.2.1,o0.2.2.2.2.2.2.2.1,o0.2.1,o0.2.2.2.2.2.2.2.2.1,o0.2.2.2.2.2.2.2.2.2,o0.2.2.1⟩:Zd)).bind fun y5=>
 some ((⟨(⟨o0.2.2.2.1,o0.2.2.2.2.1,o0.1⟩:Za),o0.2.2.2.2.2.1,o0.2.2.2.2.2.2.1,o0.2.2.2.2.2.2.2.1,o0.2.1,o0.2.2.2.2.2.2.2.2.1,o0.2.2.2.2.2.2.2.2.2,o0.2.2.1⟩:Zd),(w64 ((y2.length:Int)-(y5.length:Int)))))
instance (w:Zd):CT Tryz.prog (ZaD w):=⟨44,[.ag (Zbt w)],[],fun r=>.tu [.ag [.ms 0,.ms 1,vi r.1.network.change,.ms 2,.ms 3,.ms 4,vi r.1.now,.ms 5,.ms 6,vi r.1.made],vi r.2],fun r=>[some ⟨67,6,r.1.network.legs.map cLeg⟩,some ⟨3,1,r.1.network.off.map cInt⟩,some ⟨62,11,r.1.orders.map Zw⟩,some ⟨135,4,r.1.bookings.map Zg⟩,some ⟨55,2,r.1.closed.map Zs⟩,some ⟨130,6,r.1.scans.map ZF⟩,some ⟨3,1,r.1.skip.map cInt⟩],fun H=>by replace H:=H0 H; unfold ZaD at H; exact Zh Tryz.func44 rfl Tryz.ntmps44 Tryz.results44 fun Q hQ hQn=>wk3⟩
set_option linter.unusedSimpArgs false
set_option linter.unusedSectionVars false
theorem Zll {α:Type} (p:α→Bool):∀ {l:List α} {i:Nat} {o:α} (x:α),l[i]?=some o→(l.set i x).countP p+(if p o=true then 1 else 0)=l.countP p+(if p x=true then 1 else 0)
 | [],_,_,_,h=>by simp at h
 | a::l,0,o,x,h=>by
  obtain rfl:a=o:=by simpa using h
  simp only [List.set_cons_zero,List.countP_cons]; omega
 | a::l,i+1,o,x,h=>by
  have:=Zll p x (l:=l) (i:=i) (o:=o) (by simpa using h)
  simp only [List.set_cons_succ,List.countP_cons]; omega
theorem ZpN (p:Zf→Bool):∀ (os:List Zf) (i:Nat),(Zga p i os).Pairwise (· < ·)
 | [],_=>List.Pairwise.nil
 | o::os,i=>by
  unfold Zga
  refine List.pairwise_append.2 ⟨by cases p o <;> simp,ZpN p os (i+1),fun a ha b hb=>?_⟩
  obtain ⟨j,o',_,_,rfl⟩:=Ziy.1 hb
  cases hp:p o with
  | false=>rw [hp] at ha; simp at ha
  | true=>
   rw [hp,if_pos rfl] at ha
   obtain rfl:=List.mem_singleton.1 ha
   omega
theorem Zmz.same {w w':Zd} (h:Zmz w) (k:ZgT w w'):Zmz w':=by
 refine ⟨by rw [k.closed]; exact h.closed,by rw [k.scans]; exact h.scans,by rw [k.skip]; exact h.skip,by rw [k.scans,k.made]; exact h.made,?_,?_⟩
 ·have:=h.cl
  unfold ZgV at this ⊢
  rw [k.closed,k.network]; exact this
 ·have:=h.sc
  unfold Zk0 at this ⊢
  rw [k.scans,k.network,k.now]; exact this
def Zu9 (n:Za) (closed:List Ze) (now:Int) (bs:List Zc) (i:Nat) (o:Zf):Prop:=(∃ x,Zy n bs closed (Zb8 n o) o.to_ (atR n now o) o.weight=some (x,false))∨
 ∃ way,Zy n bs closed (Zb8 n o) o.to_ (atR n now o) o.weight=some (way,true)∧ZN n bs ((i+1:Nat):Int) o.weight way=some (bs,false)
structure Zrd (w x:Zd) (n:Nat):Prop where
 ok:WOk x
 same:ZgT w x
 num:n+x.orders.countP (ZaW w.network)=w.orders.countP (ZaW w.network)
 ord:∀ (i:Nat) (o:Zf),w.orders[i]?=some o→∃ o',x.orders[i]?=some o'∧Zgf w.network o o'∧(o'=o∨ZaW w.network o=true∧ZaW w.network o'=false)
 none:∀ (i:Nat) (o:Zf),w.orders[i]?=some o→x.orders[i]?=some o→ZaW w.network o=true→∃ bs,(∀ b∈bs,b∈x.bookings)∧ZZ w.network bs=true∧Zu9 w.network w.closed w.now bs i o
theorem ZnM {n:Za} {o:Zf} (h:ZaW n o=true):¬ o.state=3∧Zm o=o.way.length∧¬ Zb8 n o=o.to_∧Zfl o=[]∧ZT o=o.way:=by
 unfold ZaW at h
 simp only [Bool.and_eq_true,Bool.not_eq_true',decide_eq_true_iff,decide_eq_false_iff_not] at h
 refine ⟨h.1.1,h.1.2,h.2,?_,?_⟩
 ·unfold Zfl
  exact List.drop_eq_nil_of_le (by omega)
 ·unfold ZT
  exact List.take_of_length_le (by omega)
theorem ZhU {w:Zd} (h:WOk w):ZbU w=some (Zga (ZaW w.network) 0 w.orders):=by
 have hor:=h.fit.orders
 unfold ZbU
 rw [Zge h.fit,h.ok,Option.bind_some]
 simp only [Bool.not_true,cond_false]
 rw [Zjt hor (p:=ZaW w.network) (fun i out o ho hlen=>?_) (fun out=>by unfold Zdv; simp)]
 ·rfl
 ·have hlt:=(List.getElem?_eq_some_iff.1 ho).1
  have hi:w64 ((i:Int)+1)=((i+1:Nat):Int):=ZR hlt (by omega)
  obtain ⟨b,b1,b2,_⟩:=ZoZ h.fit h.ok ho
  rw [Zmw h ho] at b1
  have hb:Zcq w (i:Int)=some (ZaW w.network o):=by rw [b2,Option.some.inj b1]
  unfold Zdv
  simp only [decide_eq_true (show (i:Int)<w.orders.length by omega),cond_true,hi,hb,Option.bind_some,List.length_cons,List.length_nil,ZlP (show out.length≤1048576 by omega)]
  cases ZaW w.network o <;> simp
theorem ZqR {w:Zd} (h:WOk w):∃ (x:Zd) (n:Nat),Zer w=some (x,(n:Int))∧ZaD w=some (x,(n:Int))∧Zrd w x n:=by
 have hf:=h.fit
 obtain ⟨p1,p2,p3,p4,p5,p6,p7⟩:=h.parts
 let ids:=Zga (ZaW w.network) 0 w.orders
 have hidl:ids.length≤30:=by
  show (Zga _ 0 w.orders).length≤30
  rw [Zgp]; exact Nat.le_trans List.countP_le_length p2
 have hpw:ids.Pairwise (· < ·):=ZpN _ _ _
 unfold Zer ZaD
 rw [Zj3 hf,Zj4 hf,Option.bind_some,Option.bind_some,ZnN h,ZhU h,Option.bind_some,Option.bind_some]
 have key:∃ r r',Zj (ZaJ ids) NN (0,0,tupS w)=some r∧Zj (Zax ids) NN (0,tupS w)=some r'∧∃ (u:Zd) (m:Nat),r=((m:Int),tupS u)∧r'=tupS u∧Zrd w u m:=by
  refine Zws (fun (k:Nat) (s:Int × Int × Int × Int × Int × (List YLeg) × (List Int) × (List Zf) × (List Zc) × (List Ze) × (List Zk) × (List Int)) (s':Int × Int × Int × Int × (List YLeg) × (List Int) × (List Zf) × (List Zc) × (List Ze) × (List Zk) × (List Int))=>
   ∃ (a:Nat) (u:Zd) (m:Nat),s=((m:Int),(a:Int),tupS u)∧s'=((a:Int),tupS u)∧a+k=ids.length∧WOk u∧ZgT w u∧m≤a∧m+u.orders.countP (ZaW w.network)=w.orders.countP (ZaW w.network)∧
   (∀ (i:Nat) (o:Zf),w.orders[i]?=some o→∃ o',u.orders[i]?=some o'∧Zgf w.network o o'∧(o'=o∨ZaW w.network o=true∧ZaW w.network o'=false))∧
   (∀ (i:Nat) (o:Zf),w.orders[i]?=some o→(∀ b,b<a→¬ ids[b]?=some ((i+1:Nat):Int))→u.orders[i]?=some o)∧
   (∀ (i:Nat) (o:Zf),w.orders[i]?=some o→u.orders[i]?=some o→ZaW w.network o=true→(∃ b,b<a∧ids[b]?=some ((i+1:Nat):Int))→∃ bs,(∀ b∈bs,b∈u.bookings)∧ZZ w.network bs=true∧Zu9 w.network w.closed w.now bs i o)) (fun k s s' hs=>?_) NN ids.length _ _
   ⟨0,w,0,rfl,rfl,by omega,h,ZgT.refl w,Nat.le_refl _,Nat.zero_add _,fun i o ho=>⟨o,ho,Or.inl rfl,.inl rfl⟩,fun i o ho _=>ho,fun i o _ _ _ hb=>by obtain ⟨b,hb,_⟩:=hb; omega⟩ (by unfold NN; omega)
  obtain ⟨a,u,m,rfl,rfl,hk,hu,hS,hma,hnum,hold,hrest,hnone⟩:=hs
  have hd0:∀ b,decide ((a:Int)<(ids.length:Int))=b→decide ((a:Int)<(ids.length:Int))=b:=fun _ e=>e
  by_cases hlt:a<ids.length
  ·have hd:decide ((a:Int)<(ids.length:Int))=true:=decide_eq_true (by omega)
   have hwa:w64 ((a:Int)+1)=((a+1:Nat):Int):=by rw [Zo (by omega)]; omega
   have hwm:w64 ((m:Int)+1)=((m+1:Nat):Int):=by rw [Zo (by omega)]; omega
   have hia:ids[a]?=some ids[a]:=List.getElem?_eq_getElem hlt
   have hga:getI ids (a:Int)=some ids[a]:=by rw [Zn]; exact hia
   obtain ⟨i,o,hio,hst,hx⟩:=Ziy.1 (List.getElem_mem hlt)
   rw [Nat.zero_add] at hx
   have hx':ids[a]=((i+1:Nat):Int):=hx
   have hi30:i<30:=by have:=(List.getElem?_eq_some_iff.1 hio).1; omega
   have huo:u.orders[i]?=some o:=hrest i o hio fun b hb e=>by
    have hbl:b<ids.length:=by omega
    rw [List.getElem?_eq_getElem hbl] at e
    have:=List.pairwise_iff_getElem.1 hpw b a hbl hlt hb
    rw [Option.some.inj e,hx'] at this
    omega
   obtain ⟨hU,hRs⟩:=Zcv hu
   obtain ⟨r1,r2,r3,r4,r5⟩:=ZnM hst
   have hnet:u.network=w.network:=hS.network
   obtain ⟨u',e2,e,hR,hU'⟩:=Zk6 hU huo r1 (by rw [hnet]; exact r3)
   obtain ⟨s1,⟨o',o1,o2⟩,s3⟩:=ZpR hU.fit.net hR huo
   rw [hnet] at o2
   have hok':WOk u':=by
    refine Zp9 ?_ (hRs.same s1)
    have ef:(fun j=>if j=i then u.closed else u.closed)=fun _:Nat=>u'.closed:=by
     funext j; rw [s1.closed]; split <;> rfl
    rw [← ef]; exact hU'
   have hleft:Zds u i o=u.bookings:=by unfold Zds; rw [r4]; exact ZrM _ _
   have hsv:=Zmw hok' o1
   have hnet':u'.network=w.network:=s1.network.trans hnet
   rw [hnet'] at hsv
   have hwi:w64 (((i+1:Nat):Int)-1)=(i:Int):=by rw [Zo (by omega)]; omega
   have hgo:getI u'.orders (i:Int)=some o':=by rw [Zn]; exact o1
   have e':Zbb ⟨⟨u.network.legs,u.network.off,u.network.change⟩,u.orders,u.bookings,u.closed,u.now,u.scans,u.skip,u.made⟩ ((i+1:Nat):Int)=some u':=e
   have e2':ZaF ⟨⟨u.network.legs,u.network.off,u.network.change⟩,u.orders,u.bookings,u.closed,u.now,u.scans,u.skip,u.made⟩ (i:Int)=some u':=e2
   have hsp:Zax ids ((a:Int),tupS u)=some (.inl (((a+1:Nat):Int),tupS u')):=by
    unfold Zax
    simp only [tupS,hd,cond_true,hga,Option.bind_some,rhoM,hx',hwi,e2',hwa]
   have him:∀ v,ZaW w.network o'=v→ZaJ ids ((m:Int),(a:Int),tupS u)=some (.inl ((((if v=true then m else m+1):Nat):Int),((a+1:Nat):Int),tupS u')):=fun v hv=>by
    unfold ZaJ
    simp only [tupS,hd,cond_true,hga,Option.bind_some,rhoM,hx',hwi,e',hgo,hwa]
    rw [hsv,hv,Option.bind_some]
    cases v with
    | true=>rfl
    | false=>rw [hwm]; rfl
   rcases hR with ⟨hno,hu'⟩ | ⟨way,bs,hN,hu'⟩
   ·
    have huu:u'=u:=by
     have hset:u.orders.set i o=u.orders:=by
      refine List.ext_getElem? fun j=>?_
      by_cases hj:i=j
      ·subst hj
       rw [List.getElem?_set_self (List.getElem?_eq_some_iff.1 huo).1,huo]
      ·rw [List.getElem?_set_ne hj]
     rw [hu',hleft,r5]
     show (⟨u.network,u.orders.set i o,u.bookings,u.closed,u.now,u.scans,u.skip,u.made⟩:Zd)=u
     rw [hset]
    rw [huu] at o1 hsp him
    rw [huo] at o1
    obtain rfl:=Option.some.inj o1
    refine .inl ⟨_,_,k-1,him _ hst,hsp,by omega,a+1,u,m,by rw [if_pos rfl],rfl,by omega,hu,hS,by omega,hnum,hold,fun j x hj hb=>hrest j x hj fun b hba=>hb b (by omega),fun j x hj hux hsx hb=>?_⟩
    obtain ⟨b,hb1,hb2⟩:=hb
    by_cases hba:b<a
    ·exact hnone j x hj hux hsx ⟨b,hba,hb2⟩
    ·have hbe:b=a:=by omega
     subst hbe
     rw [hia,hx'] at hb2
     have hji:j=i:=by have:=Option.some.inj hb2; omega
     subst hji
     rw [hio] at hj
     obtain rfl:=Option.some.inj hj
     refine ⟨u.bookings,fun b hb=>hb,by rw [← hnet]; exact hU.books,?_⟩
     have hno':=hno
     unfold ZvH at hno'
     rw [hleft,hnet,hS.closed,hS.now] at hno'
     exact hno'
   ·
    have hwne:¬ way=[]:=fun hw=>by
     have hl:=hN.wayR.last
     rw [hw] at hl
     have hl':(some (Zb8 u.network o):Option ByteArray)=some o.to_:=hl
     rw [hnet] at hl'
     exact r3 (Option.some.inj hl')
    have ho':o'=Zbq o (ZT o++way):=by
     rw [hu'] at o1
     have:(u.orders.set i (Zbq o (ZT o++way)))[i]?=some o':=o1
     rw [List.getElem?_set_self (List.getElem?_eq_some_iff.1 huo).1] at this
     exact (Option.some.inj this).symm
    have hfalse:ZaW w.network o'=false:=by
     have hcv:Zm o'=Zm o:=by rw [ho']; rfl
     have hwl:0<way.length:=by cases way with
      | nil=>exact absurd rfl hwne
      | cons a b=>simp
     have hol:o'.way.length=o.way.length+way.length:=by
      rw [ho']
      show (ZT o++way).length=_
      rw [List.length_append,r5]
     unfold ZaW
     rw [decide_eq_false (show ¬ Zm o'=(o'.way.length:Int) by omega)]; simp
    have hbk:u'.bookings=bs:=by rw [hu']; rfl
    have hin:∀ b∈u.bookings,b∈u'.bookings:=fun b hb=>by
     rw [hbk]
     exact hN.perm.mem_iff.2 (List.mem_append_left _ (by rw [hleft]; exact hb))
    have hcnt:=Zll (ZaW w.network) (Zbq o (ZT o++way)) huo
    rw [← ho',hst,hfalse] at hcnt
    have hou:u'.orders=u.orders.set i o':=by rw [hu',ho']; rfl
    simp only [if_true,Bool.false_eq_true,if_false] at hcnt
    refine .inl ⟨_,_,k-1,him _ hfalse,hsp,by omega,a+1,u',m+1,by simp,rfl,by omega,hok',hS.trans s1,by omega,by rw [hou]; omega,fun j x hj=>?_,fun j x hj hb=>?_,fun j x hj hux hsx hb=>?_⟩
    ·by_cases hji:j=i
     ·subst hji
      rw [hio] at hj
      obtain rfl:=Option.some.inj hj
      exact ⟨o',o1,o2,.inr ⟨hst,hfalse⟩⟩
     ·rw [s3 j hji]; exact hold j x hj
    ·have hji:¬ j=i:=fun e=>hb a (by omega) (by rw [hia,hx',e])
     rw [s3 j hji]
     exact hrest j x hj fun b hba=>hb b (by omega)
    ·have hji:¬ j=i:=fun e=>by
      subst e
      rw [o1] at hux
      rw [← Option.some.inj hux,hfalse] at hsx
      cases hsx
     rw [s3 j hji] at hux
     obtain ⟨b,hb1,hb2⟩:=hb
     have hba:b<a:=by
      rcases Nat.lt_or_ge b a with hx1 | hx1
      ·exact hx1
      ·have hbe:b=a:=by omega
       subst hbe
       rw [hia,hx'] at hb2
       exact absurd (by have:=Option.some.inj hb2; omega) hji
     obtain ⟨bs',q1,q2,q3⟩:=hnone j x hj hux hsx ⟨b,hba,hb2⟩
     exact ⟨bs',fun b hb=>hin b (q1 b hb),q2,q3⟩
  ·have hd:decide ((a:Int)<(ids.length:Int))=false:=decide_eq_false (by omega)
   refine .inr ⟨((m:Int),tupS u),tupS u,?_,?_,u,m,rfl,rfl,hu,hS,hnum,hold,fun i o ho huo hst=>hnone i o ho huo hst ?_⟩
   ·unfold ZaJ
    simp only [tupS,hd,cond_false]
   ·unfold Zax
    simp only [tupS,hd,cond_false]
   ·have hm:((0+i+1:Nat):Int)∈ids:=Ziy.2 ⟨i,o,ho,hst,rfl⟩
    rw [Nat.zero_add] at hm
    obtain ⟨b,hb,hbe⟩:=List.getElem_of_mem hm
    exact ⟨b,by omega,by rw [List.getElem?_eq_getElem hb,hbe]⟩
 obtain ⟨r,r',e,e2,u,m,rfl,rfl,hR⟩:=key
 have e':Zj (ZaJ (Zga (ZaW w.network) 0 w.orders)) NN (0,0,w.network.change,w.now,w.made,w.network.legs,w.network.off,w.orders,w.bookings,w.closed,w.scans,w.skip)=some ((m:Int),tupS u):=e
 have e2':Zj (Zax (Zga (ZaW w.network) 0 w.orders)) NN (0,w.network.change,w.now,w.made,w.network.legs,w.network.off,w.orders,w.bookings,w.closed,w.scans,w.skip)=some (tupS u):=e2
 rw [e',e2']
 refine ⟨u,m,rfl,?_,hR⟩
 have hsu:=ZhU hR.ok
 have hsu':ZbU ⟨⟨u.network.legs,u.network.off,u.network.change⟩,u.orders,u.bookings,u.closed,u.now,u.scans,u.skip,u.made⟩=some (Zga (ZaW u.network) 0 u.orders):=hsu
 simp only [tupS,Option.bind_some,hsu']
 have hn:=hR.num
 have hnn:ZaW u.network=ZaW w.network:=by rw [hR.same.network]
 rw [Zgp,Zgp,hnn]
 have hc:w.orders.countP (ZaW w.network)≤30:=Nat.le_trans List.countP_le_length p2
 rw [Zo (by omega),show ((w.orders.countP (ZaW w.network):Nat):Int)-((u.orders.countP (ZaW w.network):Nat):Int)=(m:Int) by omega]
theorem ZDW {w:Zd} (hf:WFit w) (hv:ZcB w=false):Zer w=some (w,0)∧ZaD w=some (w,0):=by
 have h1:ZdC w=some []:=by
  unfold ZdC
  rw [ZeM hf,hv]; rfl
 have h2:ZbU w=some []:=by
  unfold ZbU
  rw [Zge hf,hv]; rfl
 constructor
 ·unfold Zer
  rw [Zj3 hf,Option.bind_some,h1,Option.bind_some]
  rfl
 ·unfold ZaD
  rw [Zj4 hf,Option.bind_some,h2,Option.bind_some]
  show (ZbU w).bind _=_
  rw [h2]; rfl
structure OrdD (n:Za) (o:Zf):Prop where
 gone:0≤o.gone∧o.gone≤100001
 comes:Zm o≤o.way.length
 way:o.way.length≤110000
 leg:∀ (k:Nat) t,(k:Int)<Zm o→o.way[k]?=some t→∃ y,getI n.legs t.leg=some y
def FinE (n:Za) (o:Zf):Prop:=Zm o=o.way.length∨∀ t,o.way.getLast?=some t→ZL n t=o.to_
structure FinO (n:Za) (now:Int) (o:Zf):Prop where
 ends:FinE n o
 started:o.state=2→∃ t,o.way[o.gone.toNat]?=some t∧ZM n t≤now
 gone:0≤o.gone∧o.gone≤100001
structure WD (n:Za) (w:Zd):Prop where
 fit:WFit w
 net:w.network=n
 closed:w.closed.length≤1000
 fin:∀ o∈w.orders,FinO n w.now o
structure AgD (n:Za) (w:Zd):Prop where
 net:w.network=n
 orders:w.orders.length≤30
 bookings:w.bookings.length≤120
 closed:w.closed.length≤21
 scans:w.scans.length≤201
 skip:w.skip.length≤50
 ord:∀ o∈w.orders,OrdD n o
 fin:∀ o∈w.orders,FinO n w.now o
theorem ZnY {n:Za} {o:Zf} (h:ZiK n o):o.way.length≤100001:=by
 have key:∀ (i:Nat) t,o.way[i]?=some t→(i:Int)≤ZM n t:=by
  intro i
  induction i with
  | zero=>intro t ht; exact (h.trip t (List.mem_of_getElem? ht)).1
  | succ i ih=>
   intro t ht
   have hlt:=(List.getElem?_eq_some_iff.1 ht).1
   have h1:o.way[i]?=some o.way[i]:=List.getElem?_eq_getElem (by omega)
   have:=ih _ h1
   have:=h.trip _ (List.getElem_mem (show i<o.way.length by omega))
   have:=h.next i _ _ h1 ht
   omega
 rcases Nat.eq_zero_or_pos o.way.length with h0 | h0
 ·omega
 ·have hlt:o.way.length-1<o.way.length:=by omega
  have h1:=key _ _ (List.getElem?_eq_getElem hlt)
  have h2:=h.trip _ (List.getElem_mem hlt)
  omega
theorem WOk.ag {w:Zd} (h:WOk w) (hfin:∀ o∈w.orders,FinO w.network w.now o):AgD w.network w:=by
 obtain ⟨p1,p2,p3,p4,p5,p6,p7⟩:=h.parts
 refine ⟨rfl,p2,p7,by omega,by omega,p5,fun o ho=>?_,hfin⟩
 obtain ⟨i,hi,rfl⟩:=List.getElem_of_mem ho
 have hi':=List.getElem?_eq_getElem hi
 have hw:=h.way hi'
 have hok:=Zdk h.fit h.ok hi'
 have hs:=ZnY hw
 have hg:=hw.gone
 refine ⟨⟨hg.1,by omega⟩,?_,by omega,fun k t _ ht=>?_⟩
 ·unfold Zm
  split
  ·rename_i h2
   rcases hok.cases with ⟨c,_⟩ | ⟨_,c⟩ | ⟨c,_⟩ <;> omega
  ·exact hg.2
 ·obtain ⟨y,hy,_⟩:=Zah h.fit.net (hok.trip t (List.mem_of_getElem? ht))
  exact ⟨y,hy⟩
theorem AgD.fit {n:Za} (hf:Z0 n) {w:Zd} (h:AgD n w):WFit w:=by
 have h1:=h.orders
 have h2:=h.bookings
 have h3:=h.closed
 have h4:=h.scans
 have h5:=h.skip
 exact ⟨by rw [h.net]; exact hf,by omega,by omega,by omega,by omega,by omega,fun o ho=>by have:=(h.ord o ho).way; omega⟩
theorem OrdD.on {n:Za} {o o':Zf} (h:OrdD n o) (hg:o'.gone=o.gone) (hs:o'.state=o.state) {r:List Ze} (hw:o'.way=subL o.way 0 (Zm o)++r) (hr:r.length≤2000):OrdD n o':=by
 have hcl:=h.comes
 have g:=h.gone
 have hc:Zm o'=Zm o:=by unfold Zm; rw [hg,hs]
 have c0:0≤Zm o∧Zm o≤100002:=by unfold Zm; split <;> omega
 have hsub:subL o.way 0 (Zm o)=o.way.take (Zm o).toNat:=by unfold subL; simp
 have hlen:(subL o.way 0 (Zm o)).length=(Zm o).toNat:=by rw [hsub,List.length_take]; omega
 refine ⟨by rw [hg]; exact g,?_,?_,fun k t hk ht=>?_⟩
 ·rw [hc,hw,List.length_append,hlen]; omega
 ·rw [hw,List.length_append,hlen]; omega
 ·rw [hc] at hk
  rw [hw,List.getElem?_append_left (by rw [hlen]; omega),hsub,List.getElem?_take_of_lt (by omega)] at ht
  exact h.leg k t hk ht
theorem FinO.on {n:Za} {now:Int} {o o':Zf} (h:OrdD n o) (hF:FinO n now o) (hg:o'.gone=o.gone) (hs:o'.state=o.state) (ht:o'.to_=o.to_) {r:List Ze} (hw:o'.way=subL o.way 0 (Zm o)++r) (hr:∀ t,r.getLast?=some t→ZL n t=o.to_):FinO n now o':=by
 have hcl:=h.comes
 have g:=h.gone
 have hc:Zm o'=Zm o:=by unfold Zm; rw [hg,hs]
 have c0:0≤Zm o∧Zm o≤100002:=by unfold Zm; split <;> omega
 have hsub:subL o.way 0 (Zm o)=o.way.take (Zm o).toNat:=by unfold subL; simp
 have hlen:(subL o.way 0 (Zm o)).length=(Zm o).toNat:=by rw [hsub,List.length_take]; omega
 refine ⟨?_,fun h2=>?_,by rw [hg]; exact g⟩
 ·cases r with
  | nil=>exact .inl (by rw [hc,hw,List.append_nil,hlen]; omega)
  | cons a as'=>
   refine .inr fun t hl=>?_
   rw [hw,List.getLast?_append,ht] at *
   refine hr t ?_
   cases hx:(a::as').getLast? with
   | none=>simp at hx
   | some z=>rw [hx] at hl; exact hl
 ·rw [hs] at h2
  obtain ⟨t,k1,k2⟩:=hF.started h2
  refine ⟨t,?_,k2⟩
  have hcv:Zm o=o.gone+1:=by unfold Zm; rw [if_pos h2]
  rw [hg,hw,List.getElem?_append_left (by rw [hlen]; omega),hsub,List.getElem?_take_of_lt (by omega)]
  exact k1
section
variable {n:Za} (hf:Z0 n) (hn:n.legs.length≤20)
include hf hn
end
theorem Zjv:∀ p∈Zik,Zbc p=some true∧p.size=3:=fun p hp=>by
 unfold Zik at hp
 simp only [List.mem_cons,List.not_mem_nil,or_false] at hp
 rcases hp with rfl | rfl | rfl | rfl | rfl | rfl | rfl <;> exact ⟨by decide +kernel,by decide +kernel⟩
def Zbr (c:ZA) (n:Za):Option (ByteArray × ZA):=
 (Z5 n).bind fun y1=>
 (rhoM [0]).bind fun _=>
 (ZU c 9).bind fun y2=>
 cond y2.1
 ((rhoM [0]).bind fun _=>
 (ZbQ y2.2).bind fun y3=>
 some (y3.1,y3.2))
 ((rhoM [0]).bind fun _=>
 (Zl y2.2 (y1.length:Int)).bind fun y4=>
 (getI y1 y4.1).bind fun y5=>
 some (y5,y4.2))
instance (c:ZA) (n:Za):CT Tryz.prog (Zbr c n):=⟨213,[.be 0 0 0,.ag (Zr n)],[some ⟨187,3,[[.sl (c.b.map cB8),vi c.i,vi c.h]]⟩],fun r=>vs r.1,fun r=>[some ⟨187,3,[[.sl (r.2.b.map cB8),vi r.2.i,vi r.2.h]]⟩],fun H=>by replace H:=H0 H; unfold Zbr at H; exact Zh Tryz.func213 rfl Tryz.ntmps213 Tryz.results213 fun Q hQ hQn=>wk3⟩
def Zc6 (c:ZA) (n:Za):Option (Ze × ZA):=
 (rhoM [0]).bind fun _=>
 (Zl c (n.legs.length:Int)).bind fun y1=>
 (rhoM [0]).bind fun _=>
 (Zl y1.2 10).bind fun y2=>
 (ZcF n y1.1 (w64 (y2.1*1440))).bind fun y3=>
 cond (decide (0≤y3))
 ((rhoM [0]).bind fun _=>
 (ZU y2.2 4).bind fun y4=>
 cond (!y4.1)
 (some ((⟨y1.1,y3⟩:Ze),y4.2))
 (some ((⟨y1.1,y2.1⟩:Ze),y4.2)))
 (some ((⟨y1.1,y2.1⟩:Ze),y2.2))
instance (c:ZA) (n:Za):CT Tryz.prog (Zc6 c n):=⟨211,[.be 0 0 0,.ag (Zr n)],[some ⟨187,3,[[.sl (c.b.map cB8),vi c.i,vi c.h]]⟩],fun r=>.ag [vi r.1.leg,vi r.1.day],fun r=>[some ⟨187,3,[[.sl (r.2.b.map cB8),vi r.2.i,vi r.2.h]]⟩],fun H=>by replace H:=H0 H; unfold Zc6 at H; exact Zh Tryz.func211 rfl Tryz.ntmps211 Tryz.results211 fun Q hQ hQn=>wk3⟩
def Zbp (c:ZA) (w:Zd):Option (Ze × ZA):=
 cond (decide (0<(w.bookings.length:Int)))
 ((rhoM [0]).bind fun _=>
 (ZU c 4).bind fun y1=>
 cond (!y1.1)
 ((drwL 8 [6]).bind fun _=>
 (rhoM [0]).bind fun _=>
 (Zl y1.2 (w.bookings.length:Int)).bind fun y2=>
 (getI w.bookings y2.1).bind fun y3=>
 some (y3.trip,y2.2))
 ((rhoM [0]).bind fun _=>
 (Zc6 y1.2 w.network).bind fun y4=>
 some (y4.1,y4.2)))
 ((rhoM [0]).bind fun _=>
 (Zc6 c w.network).bind fun y5=>
 some (y5.1,y5.2))
instance (c:ZA) (w:Zd):CT Tryz.prog (Zbp c w):=⟨147,[.be 0 0 0,.ag (Zbt w)],[some ⟨187,3,[[.sl (c.b.map cB8),vi c.i,vi c.h]]⟩],fun r=>.ag [vi r.1.leg,vi r.1.day],fun r=>[some ⟨187,3,[[.sl (r.2.b.map cB8),vi r.2.i,vi r.2.h]]⟩],fun H=>by replace H:=H0 H; unfold Zbp at H; exact Zh Tryz.func147 rfl Tryz.ntmps147 Tryz.results147 fun Q hQ hQn=>wk3⟩
def Zed (c:ZA) (w:Zd):Option (Zd × ZA):=
 (rhoM [0]).bind fun _=>
 (Zl c 6).bind fun y1=>
 cond (decide (y1.1=0))
 (cond (decide (y1.1=0))
 ((drwL 8 [4,8,10,13]).bind fun _=>
 (rhoM [0]).bind fun _=>
 (Zbr y1.2 w.network).bind fun y2=>
 (rhoM [0]).bind fun _=>
 (Zbr y2.2 w.network).bind fun y3=>
 (rhoM [0]).bind fun _=>
 (Zl y3.2 3).bind fun y4=>
 (rhoM [0]).bind fun _=>
 (Zl y4.2 4000).bind fun y5=>
 (ZaC w y2.1 y3.1 (w64 (1+y4.1)) (w64 (500+y5.1))).bind fun y6=>
 some (y6.1,y5.2))
 (cond (decide (y1.1=3))
 ((drwL 8 [3]).bind fun _=>
 (rhoM [0]).bind fun _=>
 (Zbp y1.2 w).bind fun y7=>
 (Zbn w y7.1).bind fun y8=>
 some (y8.1,y7.2))
 (cond (decide (y1.1=4))
 ((ZaD w).bind fun y9=>
 some (y9.1,y1.2))
 ((drwL 8 [4]).bind fun _=>
 (rhoM [0]).bind fun _=>
 (Zl y1.2 40).bind fun y10=>
 (Za0 w (w64 (w.now+(w64 (30*y10.1))))).bind fun y11=>
 some (y11,y10.2)))))
 (cond (decide (y1.1=1))
 (cond (decide (y1.1=1))
 ((drwL 8 [4,8,10,13]).bind fun _=>
 (rhoM [0]).bind fun _=>
 (Zbr y1.2 w.network).bind fun y12=>
 (rhoM [0]).bind fun _=>
 (Zbr y12.2 w.network).bind fun y13=>
 (rhoM [0]).bind fun _=>
 (Zl y13.2 3).bind fun y14=>
 (rhoM [0]).bind fun _=>
 (Zl y14.2 4000).bind fun y15=>
 (ZaC w y12.1 y13.1 (w64 (1+y14.1)) (w64 (500+y15.1))).bind fun y16=>
 some (y16.1,y15.2))
 (cond (decide (y1.1=3))
 ((drwL 8 [3]).bind fun _=>
 (rhoM [0]).bind fun _=>
 (Zbp y1.2 w).bind fun y17=>
 (Zbn w y17.1).bind fun y18=>
 some (y18.1,y17.2))
 (cond (decide (y1.1=4))
 ((ZaD w).bind fun y19=>
 some (y19.1,y1.2))
 ((drwL 8 [4]).bind fun _=>
 (rhoM [0]).bind fun _=>
 (Zl y1.2 40).bind fun y20=>
 (Za0 w (w64 (w.now+(w64 (30*y20.1))))).bind fun y21=>
 some (y21,y20.2)))))
 (cond (decide (y1.1=2))
 ((drwL 8 [4,8,10,13]).bind fun _=>
 (rhoM [0]).bind fun _=>
 (Zbr y1.2 w.network).bind fun y22=>
 (rhoM [0]).bind fun _=>
 (Zbr y22.2 w.network).bind fun y23=>
 (rhoM [0]).bind fun _=>
 (Zl y23.2 3).bind fun y24=>
 (rhoM [0]).bind fun _=>
 (Zl y24.2 4000).bind fun y25=>
 (ZaC w y22.1 y23.1 (w64 (1+y24.1)) (w64 (500+y25.1))).bind fun y26=>
 some (y26.1,y25.2))
 (cond (decide (y1.1=3))
 ((drwL 8 [3]).bind fun _=>
 (rhoM [0]).bind fun _=>
 (Zbp y1.2 w).bind fun y27=>
 (Zbn w y27.1).bind fun y28=>
 some (y28.1,y27.2))
 (cond (decide (y1.1=4))
 ((ZaD w).bind fun y29=>
 some (y29.1,y1.2))
 ((drwL 8 [4]).bind fun _=>
 (rhoM [0]).bind fun _=>
 (Zl y1.2 40).bind fun y30=>
 (Za0 w (w64 (w.now+(w64 (30*y30.1))))).bind fun y31=>
 some (y31,y30.2))))))
instance (c:ZA) (w:Zd):CT Tryz.prog (Zed c w):=⟨231,[.be 0 0 0,.ag (Zbt w)],[some ⟨187,3,[[.sl (c.b.map cB8),vi c.i,vi c.h]]⟩],fun r=>.ag [.ms 1,.ms 2,vi r.1.network.change,.ms 3,.ms 4,.ms 5,vi r.1.now,.ms 6,.ms 7,vi r.1.made],fun r=>[some ⟨187,3,[[.sl (r.2.b.map cB8),vi r.2.i,vi r.2.h]]⟩,some ⟨67,6,r.1.network.legs.map cLeg⟩,some ⟨3,1,r.1.network.off.map cInt⟩,some ⟨62,11,r.1.orders.map Zw⟩,some ⟨135,4,r.1.bookings.map Zg⟩,some ⟨55,2,r.1.closed.map Zs⟩,some ⟨130,6,r.1.scans.map ZF⟩,some ⟨3,1,r.1.skip.map cInt⟩],fun H=>by replace H:=H0 H; unfold Zed at H; exact Zh Tryz.func231 rfl Tryz.ntmps231 Tryz.results231 fun Q hQ hQn=>wk3⟩
def ZcM (n:Za) (skip:List Int):Option (Zd × Bool):=
 (Zbf (⟨n,[],[],[],0,[],skip,0⟩:Zd)).bind fun y1=>
 (Zbs y1).bind fun y2=>
 cond (!y2)
 (some ((⟨(⟨[],[],0⟩:Za),[],[],[],0,[],[],0⟩:Zd),false))
 (some (y1,true))
theorem Ziw (n:Za) (skip:List Int) {r:Zd × Bool} (H:ZcM n skip=some r):Zev Tryz.prog 57 [.ag (Zr n),.sl (skip.map cInt)] [] (.tu [.ag [.ms 0,.ms 1,vi r.1.network.change,.ms 2,.ms 3,.ms 4,vi r.1.now,.ms 5,.ms 6,vi r.1.made],vb r.2]) [some ⟨67,6,r.1.network.legs.map cLeg⟩,some ⟨3,1,r.1.network.off.map cInt⟩,some ⟨62,11,r.1.orders.map Zw⟩,some ⟨135,4,r.1.bookings.map Zg⟩,some ⟨55,2,r.1.closed.map Zs⟩,some ⟨130,6,r.1.scans.map ZF⟩,some ⟨3,1,r.1.skip.map cInt⟩]:=by
 replace H:=H0 H
 unfold ZcM at H
 refine Zh Tryz.func57 rfl Tryz.ntmps57 Tryz.results57 fun Q hQ hQn=>?_
 exact wk3
instance (n:Za) (skip:List Int):CT Tryz.prog (ZcM n skip):=⟨57,[.ag (Zr n),.sl (skip.map cInt)],[],fun r=>.tu [.ag [.ms 0,.ms 1,vi r.1.network.change,.ms 2,.ms 3,.ms 4,vi r.1.now,.ms 5,.ms 6,vi r.1.made],vb r.2],fun r=>[some ⟨67,6,r.1.network.legs.map cLeg⟩,some ⟨3,1,r.1.network.off.map cInt⟩,some ⟨62,11,r.1.orders.map Zw⟩,some ⟨135,4,r.1.bookings.map Zg⟩,some ⟨55,2,r.1.closed.map Zs⟩,some ⟨130,6,r.1.scans.map ZF⟩,some ⟨3,1,r.1.skip.map cInt⟩],Ziw n skip⟩
def ZeX (most:Int) (y1:Za × ZA) (s0:Int × (List YB8) × Int × Int × (List YLeg)):Option ((Int × (List YB8) × Int × Int × (List YLeg)) ⊕ ((List YB8) × Int × Int × (List YLeg))):=
 cond (decide (s0.1<(s0.2.2.2.2.length:Int)))
 ((rhoM [0]).bind fun _=>
 (ZU (⟨s0.2.1,s0.2.2.1,s0.2.2.2.1⟩:ZA) 2).bind fun y2=>
 cond y2.1
 ((drwL 8 [4]).bind fun _=>
 (rhoM [0]).bind fun _=>
 (Zl y2.2 9).bind fun y3=>
 (getI s0.2.2.2.2 s0.1).bind fun y4=>
 some (.inl ((w64 (s0.1+1)),y3.2.b,y3.2.i,y3.2.h,(s0.2.2.2.2.set (Int.toNat s0.1) (⟨y4.from_,y4.to_,y4.start,y4.takes,y4.days,(w64 (2000+(w64 (1000*y3.1))))⟩:YLeg)))))
 (some (.inl ((w64 (s0.1+1)),y2.2.b,y2.2.i,y2.2.h,s0.2.2.2.2))))
 (some (.inr (s0.2.1,s0.2.2.1,s0.2.2.2.1,s0.2.2.2.2)))
instance (most:Int) (y1:Za × ZA):ZP (ZeX most y1):=⟨fun s0=>(.be 0 0 0::vi most::.un::.un::.be 1 0 0::.be 2 0 0::vi s0.1::(U 55 [])),fun s0=>[some ⟨187,3,[[.sl (s0.2.1.map cB8),vi s0.2.2.1,vi s0.2.2.2.1]]⟩,some ⟨41,10,[[.v (.slice none 0 0),.v (.slice none 0 0),vi 0,.v (.slice none 0 0),.v (.slice none 0 0),.v (.slice none 0 0),vi 0,.v (.slice none 0 0),.v (.slice none 0 0),vi 0]]⟩,some ⟨35,3,[[.ms 3,.ms 4,vi y1.1.change]]⟩,some ⟨67,6,s0.2.2.2.2.map cLeg⟩,some ⟨3,1,y1.1.off.map cInt⟩]⟩
def ZeY (most:Int) (y1:Za × ZA) (o0:(List YB8) × Int × Int × (List YLeg)) (s1:Int × (List YB8) × Int × Int × (List Int)):Option ((Int × (List YB8) × Int × Int × (List Int)) ⊕ ((List YB8) × Int × Int × (List Int))):=
 cond (decide (0<s1.1))
 ((rhoM [0]).bind fun _=>
 (Zl (⟨s1.2.1,s1.2.2.1,s1.2.2.2.1⟩:ZA) 25).bind fun y6=>
 (chk (ZQ ((s1.2.2.2.2:List Int).length+([(w64 (1+y6.1))]:List Int).length) 8)).bind fun _=>
 some (.inl ((w64 (s1.1-1)),y6.2.b,y6.2.i,y6.2.h,((s1.2.2.2.2:List Int)++[(w64 (1+y6.1))]))))
 (some (.inr (s1.2.1,s1.2.2.1,s1.2.2.2.1,s1.2.2.2.2)))
instance (most:Int) (y1:Za × ZA) (o0:(List YB8) × Int × Int × (List YLeg)):ZP (ZeY most y1 o0):=⟨fun s1=>(.be 0 0 0::vi most::.un::.un::.be 1 0 0::.be 2 0 0::.un::.ms 5::vi s1.1::(U 53 [])),fun s1=>[some ⟨187,3,[[.sl (s1.2.1.map cB8),vi s1.2.2.1,vi s1.2.2.2.1]]⟩,some ⟨41,10,[[.v (.slice none 0 0),.v (.slice none 0 0),vi 0,.v (.slice none 0 0),.v (.slice none 0 0),.v (.slice none 0 0),vi 0,.v (.slice none 0 0),.v (.slice none 0 0),vi 0]]⟩,some ⟨35,3,[[.ms 3,.ms 4,vi y1.1.change]]⟩,some ⟨67,6,o0.2.2.2.map cLeg⟩,some ⟨3,1,y1.1.off.map cInt⟩,some ⟨3,1,s1.2.2.2.2.map cInt⟩]⟩
def ZeZ (s2:Int × (List YB8) × Int × Int × Int × Int × Int × (List YLeg) × (List Int) × (List Zf) × (List Zc) × (List Ze) × (List Zk) × (List Int)):Option ((Int × (List YB8) × Int × Int × Int × Int × Int × (List YLeg) × (List Int) × (List Zf) × (List Zc) × (List Ze) × (List Zk) × (List Int)) ⊕ ((List YB8) × Int × Int × Int × Int × Int × (List YLeg) × (List Int) × (List Zf) × (List Zc) × (List Ze) × (List Zk) × (List Int))):=
 cond (decide (0<s2.1))
 ((frz (.be 0 0 0::(U 3 (.be 1 0 0::(U 4 (.be 2 0 0::.un::vi s2.1::(U 50 [])))))) [some ⟨187,3,[[.sl (s2.2.1.map cB8),vi s2.2.2.1,vi s2.2.2.2.1]]⟩,some ⟨41,10,[[.v (.slice none 0 0),.v (.slice none 0 0),vi 0,.v (.slice none 0 0),.v (.slice none 0 0),.v (.slice none 0 0),vi 0,.v (.slice none 0 0),.v (.slice none 0 0),vi 0]]⟩,some ⟨41,10,[[.sl (s2.2.2.2.2.2.2.2.1.map cLeg),.sl (s2.2.2.2.2.2.2.2.2.1.map cInt),vi s2.2.2.2.2.1,.sl (s2.2.2.2.2.2.2.2.2.2.1.map Zw),.sl (s2.2.2.2.2.2.2.2.2.2.2.1.map Zg),.sl (s2.2.2.2.2.2.2.2.2.2.2.2.1.map Zs),vi s2.2.2.2.2.2.1,.sl (s2.2.2.2.2.2.2.2.2.2.2.2.2.1.map ZF),.sl (s2.2.2.2.2.2.2.2.2.2.2.2.2.2.map cInt),vi s2.2.2.2.2.2.2.1]]⟩]).bind fun _=>
 (rhoM [0]).bind fun _=>
 (Zed (⟨s2.2.1,s2.2.2.1,s2.2.2.2.1⟩:ZA) (⟨(⟨s2.2.2.2.2.2.2.2.1,s2.2.2.2.2.2.2.2.2.1,s2.2.2.2.2.1⟩:Za),s2.2.2.2.2.2.2.2.2.2.1,s2.2.2.2.2.2.2.2.2.2.2.1,s2.2.2.2.2.2.2.2.2.2.2.2.1,s2.2.2.2.2.2.1,s2.2.2.2.2.2.2.2.2.2.2.2.2.1,s2.2.2.2.2.2.2.2.2.2.2.2.2.2,s2.2.2.2.2.2.2.1⟩:Zd)).bind fun y9=>
 some (.inl ((w64 (s2.1-1)),y9.2.b,y9.2.i,y9.2.h,y9.1.network.change,y9.1.now,y9.1.made,y9.1.network.legs,y9.1.network.off,y9.1.orders,y9.1.bookings,y9.1.closed,y9.1.scans,y9.1.skip)))
 (some (.inr (s2.2.1,s2.2.2.1,s2.2.2.2.1,s2.2.2.2.2.1,s2.2.2.2.2.2.1,s2.2.2.2.2.2.2.1,s2.2.2.2.2.2.2.2.1,s2.2.2.2.2.2.2.2.2.1,s2.2.2.2.2.2.2.2.2.2.1,s2.2.2.2.2.2.2.2.2.2.2.1,s2.2.2.2.2.2.2.2.2.2.2.2.1,s2.2.2.2.2.2.2.2.2.2.2.2.2.1,s2.2.2.2.2.2.2.2.2.2.2.2.2.2)))
instance:ZP (ZeZ):=⟨fun s2=>(.be 0 0 0::(U 3 (.be 1 0 0::(U 4 (.be 2 0 0::.un::vi s2.1::(U 50 [])))))),fun s2=>[some ⟨187,3,[[.sl (s2.2.1.map cB8),vi s2.2.2.1,vi s2.2.2.2.1]]⟩,some ⟨41,10,[[.v (.slice none 0 0),.v (.slice none 0 0),vi 0,.v (.slice none 0 0),.v (.slice none 0 0),.v (.slice none 0 0),vi 0,.v (.slice none 0 0),.v (.slice none 0 0),vi 0]]⟩,some ⟨41,10,[[.ms 3,.ms 4,vi s2.2.2.2.2.1,.ms 5,.ms 6,.ms 7,vi s2.2.2.2.2.2.1,.ms 8,.ms 9,vi s2.2.2.2.2.2.2.1]]⟩,some ⟨67,6,s2.2.2.2.2.2.2.2.1.map cLeg⟩,some ⟨3,1,s2.2.2.2.2.2.2.2.2.1.map cInt⟩,some ⟨62,11,s2.2.2.2.2.2.2.2.2.2.1.map Zw⟩,some ⟨135,4,s2.2.2.2.2.2.2.2.2.2.2.1.map Zg⟩,some ⟨55,2,s2.2.2.2.2.2.2.2.2.2.2.2.1.map Zs⟩,some ⟨130,6,s2.2.2.2.2.2.2.2.2.2.2.2.2.1.map ZF⟩,some ⟨3,1,s2.2.2.2.2.2.2.2.2.2.2.2.2.2.map cInt⟩]⟩
def ZdH (c:ZA) (most:Int):Option (Zd × ZA):=
 (rhoM [0]).bind fun _=>
 (Zef c 7).bind fun y1=>
 (Zj (ZeX most y1) NN (0,y1.2.b,y1.2.i,y1.2.h,y1.1.legs)).bind (fun o0=>
 (rhoM [0]).bind fun _=>
 (Zl (⟨o0.1,o0.2.1,o0.2.2.1⟩:ZA) 6).bind fun y5=>
 (Zj (ZeY most y1 o0) NN (y5.1,y5.2.b,y5.2.i,y5.2.h,([]:List Int))).bind (fun o1=>
 (frz (.be 0 0 0::vi most::.un::.un::.be 1 0 0::.be 2 0 0::.un::.sl (o1.2.2.2.map cInt)::(U 54 [])) [some ⟨187,3,[[.sl (o1.1.map cB8),vi o1.2.1,vi o1.2.2.1]]⟩,some ⟨41,10,[[.v (.slice none 0 0),.v (.slice none 0 0),vi 0,.v (.slice none 0 0),.v (.slice none 0 0),.v (.slice none 0 0),vi 0,.v (.slice none 0 0),.v (.slice none 0 0),vi 0]]⟩,some ⟨35,3,[[.sl (o0.2.2.2.map cLeg),.sl (y1.1.off.map cInt),vi y1.1.change]]⟩]).bind fun _=>
 (ZcM (⟨o0.2.2.2,y1.1.off,y1.1.change⟩:Za) o1.2.2.2).bind fun y7=>
 (rhoM [0]).bind fun _=>
 (Zl (⟨o1.1,o1.2.1,o1.2.2.1⟩:ZA) most).bind fun y8=>
 (Zj (ZeZ) NN (y8.1,y8.2.b,y8.2.i,y8.2.h,y7.1.network.change,y7.1.now,y7.1.made,y7.1.network.legs,y7.1.network.off,y7.1.orders,y7.1.bookings,y7.1.closed,y7.1.scans,y7.1.skip)).bind (fun o2=>
 some ((⟨(⟨o2.2.2.2.2.2.2.1,o2.2.2.2.2.2.2.2.1,o2.2.2.2.1⟩:Za),o2.2.2.2.2.2.2.2.2.1,o2.2.2.2.2.2.2.2.2.2.1,o2.2.2.2.2.2.2.2.2.2.2.1,o2.2.2.2.2.1,o2.2.2.2.2.2.2.2.2.2.2.2.1,o2.2.2.2.2.2.2.2.2.2.2.2.2,o2.2.2.2.2.2.1⟩:Zd),(⟨o2.1,o2.2.1,o2.2.2.1⟩:ZA)))))
instance (c:ZA) (most:Int):CT Tryz.prog (ZdH c most):=⟨178,[.be 0 0 0,vi most],[some ⟨187,3,[[.sl (c.b.map cB8),vi c.i,vi c.h]]⟩],fun r=>.ag [.ms 1,.ms 2,vi r.1.network.change,.ms 3,.ms 4,.ms 5,vi r.1.now,.ms 6,.ms 7,vi r.1.made],fun r=>[some ⟨187,3,[[.sl (r.2.b.map cB8),vi r.2.i,vi r.2.h]]⟩,some ⟨67,6,r.1.network.legs.map cLeg⟩,some ⟨3,1,r.1.network.off.map cInt⟩,some ⟨62,11,r.1.orders.map Zw⟩,some ⟨135,4,r.1.bookings.map Zg⟩,some ⟨55,2,r.1.closed.map Zs⟩,some ⟨130,6,r.1.scans.map ZF⟩,some ⟨3,1,r.1.skip.map cInt⟩],fun H=>by replace H:=H0 H; unfold ZdH at H; exact Zh Tryz.func178 rfl Tryz.ntmps178 Tryz.results178 fun Q hQ hQn=>wk3⟩
def Zc7 (c:ZA) (n:Za):Option (Ze × ZA × Za):=
 (rhoM [0]).bind fun _=>
 (Zl c (n.legs.length:Int)).bind fun y1=>
 (rhoM [0]).bind fun _=>
 (Zl y1.2 10).bind fun y2=>
 (ZcF n y1.1 (w64 (y2.1*1440))).bind fun y3=>
 cond (decide (0≤y3))
 ((rhoM [0]).bind fun _=>
 (ZU y2.2 4).bind fun y4=>
 cond (!y4.1)
 (some ((⟨y1.1,y3⟩:Ze),y4.2,n))
 (some ((⟨y1.1,y2.1⟩:Ze),y4.2,n)))
 (some ((⟨y1.1,y2.1⟩:Ze),y2.2,n))
instance (c:ZA) (n:Za):CT Tryz.prog (Zc7 c n):=⟨211,[.be 0 0 0,.ag [.ms 1,.ms 2,vi n.change]],[some ⟨187,3,[[.sl (c.b.map cB8),vi c.i,vi c.h]]⟩,some ⟨67,6,n.legs.map cLeg⟩,some ⟨3,1,n.off.map cInt⟩],fun r=>.ag [vi r.1.leg,vi r.1.day],fun r=>[some ⟨187,3,[[.sl (r.2.1.b.map cB8),vi r.2.1.i,vi r.2.1.h]]⟩,some ⟨67,6,r.2.2.legs.map cLeg⟩,some ⟨3,1,r.2.2.off.map cInt⟩],fun H=>by replace H:=H0 H; unfold Zc7 at H; exact Zh Tryz.func211 rfl Tryz.ntmps211 Tryz.results211 fun Q hQ hQn=>wk3⟩
def ZdI (c:ZA) (w:Zd):Option (Ze × ZA × Zd):=
 cond (decide (0<(w.bookings.length:Int)))
 ((rhoM [0]).bind fun _=>
 (ZU c 4).bind fun y1=>
 cond (!y1.1)
 ((drwL 8 [6]).bind fun _=>
 (rhoM [0]).bind fun _=>
 (Zl y1.2 (w.bookings.length:Int)).bind fun y2=>
 (getI w.bookings y2.1).bind fun y3=>
 some (y3.trip,y2.2,w))
 ((rhoM [0,1,2]).bind fun _=>
 (Zc7 y1.2 w.network).bind fun y4=>
 some (y4.1,y4.2.1,(⟨(⟨y4.2.2.legs,y4.2.2.off,w.network.change⟩:Za),w.orders,w.bookings,w.closed,w.now,w.scans,w.skip,w.made⟩:Zd))))
 ((rhoM [0,1,2]).bind fun _=>
 (Zc7 c w.network).bind fun y5=>
 some (y5.1,y5.2.1,(⟨(⟨y5.2.2.legs,y5.2.2.off,w.network.change⟩:Za),w.orders,w.bookings,w.closed,w.now,w.scans,w.skip,w.made⟩:Zd)))
instance (c:ZA) (w:Zd):CT Tryz.prog (ZdI c w):=⟨147,[.be 0 0 0,.ag [.ms 1,.ms 2,vi w.network.change,.ms 3,.ms 4,.ms 5,vi w.now,.ms 6,.ms 7,vi w.made]],[some ⟨187,3,[[.sl (c.b.map cB8),vi c.i,vi c.h]]⟩,some ⟨67,6,w.network.legs.map cLeg⟩,some ⟨3,1,w.network.off.map cInt⟩,some ⟨62,11,w.orders.map Zw⟩,some ⟨135,4,w.bookings.map Zg⟩,some ⟨55,2,w.closed.map Zs⟩,some ⟨130,6,w.scans.map ZF⟩,some ⟨3,1,w.skip.map cInt⟩],fun r=>.ag [vi r.1.leg,vi r.1.day],fun r=>[some ⟨187,3,[[.sl (r.2.1.b.map cB8),vi r.2.1.i,vi r.2.1.h]]⟩,some ⟨67,6,r.2.2.network.legs.map cLeg⟩,some ⟨3,1,r.2.2.network.off.map cInt⟩,some ⟨62,11,r.2.2.orders.map Zw⟩,some ⟨135,4,r.2.2.bookings.map Zg⟩,some ⟨55,2,r.2.2.closed.map Zs⟩,some ⟨130,6,r.2.2.scans.map ZF⟩,some ⟨3,1,r.2.2.skip.map cInt⟩],fun H=>by replace H:=H0 H; unfold ZdI at H; exact Zh Tryz.func147 rfl Tryz.ntmps147 Tryz.results147 fun Q hQ hQn=>wk3⟩
def Zee (c:ZA):Option (Zd × ZA):=
 (rhoM [0]).bind fun _=>
 (ZdH c 9).bind fun y1=>
 (rhoM [0]).bind fun _=>
 (ZU y1.2 2).bind fun y2=>
 cond y2.1
 (some (y1.1,y2.2))
 (cond (decide ((y1.1.orders.length:Int)=0))
 (some (y1.1,y2.2))
 ((rhoM [0]).bind fun _=>
 (Zl y2.2 (y1.1.orders.length:Int)).bind fun y3=>
 (rhoM [0]).bind fun _=>
 (Zl y3.2 13).bind fun y4=>
 cond (decide (y4.1=0))
 ((drwL 8 [4]).bind fun _=>
 (rhoM [0]).bind fun _=>
 (Zl y4.2 5).bind fun y5=>
 (getI y1.1.orders y3.1).bind fun y6=>
 some ((⟨y1.1.network,(y1.1.orders.set (Int.toNat y3.1) (⟨y6.from_,y6.to_,y6.service,y6.weight,y6.at_,y6.due,y6.way,y6.gone,y5.1,y6.place,y6.ended⟩:Zf)),y1.1.bookings,y1.1.closed,y1.1.now,y1.1.scans,y1.1.skip,y1.1.made⟩:Zd),y5.2))
 (cond (decide (y4.1=1))
 ((getI y1.1.orders y3.1).bind fun y7=>
 (getI y1.1.orders y3.1).bind fun y8=>
 some ((⟨y1.1.network,(y1.1.orders.set (Int.toNat y3.1) (⟨y8.from_,y8.to_,y8.service,y8.weight,y8.at_,y8.due,y8.way,(w64 (y7.gone+1)),y8.state,y8.place,y8.ended⟩:Zf)),y1.1.bookings,y1.1.closed,y1.1.now,y1.1.scans,y1.1.skip,y1.1.made⟩:Zd),y4.2))
 (cond (decide (y4.1=2))
 ((drwL 8 [11]).bind fun _=>
 (getI y1.1.orders y3.1).bind fun y9=>
 (rhoM [0,90]).bind fun _=>
 (ZcR y4.2 ([⟨#[]⟩,⟨#[65,77,83]⟩,y9.to_])).bind fun y10=>
 (getI y1.1.orders y3.1).bind fun y11=>
 some ((⟨y1.1.network,(y1.1.orders.set (Int.toNat y3.1) (⟨y11.from_,y11.to_,y11.service,y11.weight,y11.at_,y11.due,y11.way,y11.gone,y11.state,y10.1,y11.ended⟩:Zf)),y1.1.bookings,y1.1.closed,y1.1.now,y1.1.scans,y1.1.skip,y1.1.made⟩:Zd),y10.2.1))
 (cond (decide (y4.1=3))
 ((getI y1.1.orders y3.1).bind fun y12=>
 (getI y1.1.orders y3.1).bind fun y13=>
 some ((⟨y1.1.network,(y1.1.orders.set (Int.toNat y3.1) (⟨y13.from_,y13.to_,y13.service,(w64 (y12.weight+1)),y13.at_,y13.due,y13.way,y13.gone,y13.state,y13.place,y13.ended⟩:Zf)),y1.1.bookings,y1.1.closed,y1.1.now,y1.1.scans,y1.1.skip,y1.1.made⟩:Zd),y4.2))
 (cond (decide (y4.1=4))
 ((drwL 8 [4]).bind fun _=>
 (rhoM [0,34]).bind fun _=>
 (Zbz y4.2 ([1,300,(-1),5000])).bind fun y14=>
 some ((⟨y1.1.network,y1.1.orders,y1.1.bookings,y1.1.closed,(w64 (y1.1.now+y14.1)),y1.1.scans,y1.1.skip,y1.1.made⟩:Zd),y14.2.1))
 (cond (decide (y4.1=5))
 ((drwL 8 [7]).bind fun _=>
 (rhoM [0]).bind fun _=>
 (Zl y4.2 (w64 ((y1.1.bookings.length:Int)+1))).bind fun y15=>
 (chk (slOk 0 y15.1 y1.1.bookings.length)).bind fun _=>
 some ((⟨y1.1.network,y1.1.orders,(subL y1.1.bookings 0 y15.1),y1.1.closed,y1.1.now,y1.1.scans,y1.1.skip,y1.1.made⟩:Zd),y15.2))
 (cond (decide (y4.1=6))
 ((drwL 8 [4]).bind fun _=>
 (rhoM [0,2,3,4,5,6,7,8]).bind fun _=>
 (ZdI y4.2 y1.1).bind fun y16=>
 (chk (ZQ ((y16.2.2.closed:List Ze).length+([y16.1]:List Ze).length) 16)).bind fun _=>
 some ((⟨(⟨y16.2.2.network.legs,y16.2.2.network.off,y1.1.network.change⟩:Za),y16.2.2.orders,y16.2.2.bookings,((y16.2.2.closed:List Ze)++[y16.1]),y1.1.now,y16.2.2.scans,y16.2.2.skip,y1.1.made⟩:Zd),y16.2.1))
 (cond (decide (y4.1=7))
 ((getI y1.1.orders y3.1).bind fun y17=>
 (getI y1.1.orders y3.1).bind fun y18=>
 some ((⟨y1.1.network,(y1.1.orders.set (Int.toNat y3.1) (⟨y18.from_,y18.to_,y18.service,y18.weight,y18.at_,y18.due,y18.way,y18.gone,y18.state,y18.place,(w64 (y17.ended+1))⟩:Zf)),y1.1.bookings,y1.1.closed,y1.1.now,y1.1.scans,y1.1.skip,y1.1.made⟩:Zd),y4.2))
 (cond (decide (y4.1=8))
 ((rhoM [0,10]).bind fun _=>
 (Zbz y4.2 ([0,1000000000,1000000001])).bind fun y19=>
 some ((⟨y1.1.network,y1.1.orders,y1.1.bookings,y1.1.closed,y1.1.now,y1.1.scans,y1.1.skip,y19.1⟩:Zd),y19.2.1))
 (cond (decide (y4.1=9))
 ((drwL 8 [5]).bind fun _=>
 (rhoM [0,42]).bind fun _=>
 (Zbz y4.2 ([0,(-1),200000,200001])).bind fun y20=>
 (getI y1.1.orders y3.1).bind fun y21=>
 some ((⟨y1.1.network,(y1.1.orders.set (Int.toNat y3.1) (⟨y21.from_,y21.to_,y21.service,y21.weight,y21.at_,y20.1,y21.way,y21.gone,y21.state,y21.place,y21.ended⟩:Zf)),y1.1.bookings,y1.1.closed,y1.1.now,y1.1.scans,y1.1.skip,y1.1.made⟩:Zd),y20.2.1))
 (some (y1.1,y4.2)))))))))))))
instance (c:ZA):CT Tryz.prog (Zee c):=⟨103,[.be 0 0 0],[some ⟨187,3,[[.sl (c.b.map cB8),vi c.i,vi c.h]]⟩],fun r=>.ag [.sl (r.1.network.legs.map cLeg),.sl (r.1.network.off.map cInt),vi r.1.network.change,.sl (r.1.orders.map Zw),.sl (r.1.bookings.map Zg),.sl (r.1.closed.map Zs),vi r.1.now,.sl (r.1.scans.map ZF),.sl (r.1.skip.map cInt),vi r.1.made],fun r=>[some ⟨187,3,[[.sl (r.2.b.map cB8),vi r.2.i,vi r.2.h]]⟩],fun H=>by replace H:=H0 H; unfold Zee at H; exact Zh Tryz.func103 rfl Tryz.ntmps103 Tryz.results103 fun Q hQ hQn=>wk3⟩
theorem LegD.fit {l:YLeg} (h:LegD l):Zna l:=⟨by rw [(Zjv _ h.from_).2]; decide,by rw [(Zjv _ h.to_).2]; decide⟩
theorem LegD.ok {l:YLeg} (h:LegD l):Za3 l=some true:=by
 have h1:=h.start
 have h2:=h.takes
 have h3:=h.days
 have h4:=h.room
 unfold Za3
 rw [(Zjv _ h.from_).1,(Zjv _ h.to_).1]
 simp only [Option.bind_some,cond_true,decide_eq_false h.ne,Bool.not_false,ZbH,decide_eq_true h1.1,decide_eq_true h1.2,decide_eq_true h2.1,decide_eq_true h2.2,decide_eq_true h3.1,decide_eq_true h3.2,decide_eq_true h4.1,decide_eq_true h4.2,Bool.and_self]
theorem NetD.fit {n:Za} (h:NetD n):Z0 n:=⟨by have:=h.len; omega,by rcases h.off with e | ⟨a,b,e,_⟩ <;> rw [e] <;> simp,fun l hl=>(h.leg l hl).fit⟩
theorem NetD.ok {n:Za} (h:NetD n):Zi n=some true:=by
 have hlen:=h.len
 have hch:=h.change
 have e0:Tot (Zj (ZD n) NN 0) fun r=>r=.inl ():=by
  refine Tot.loop (fun (k:Nat) (s:Int)=>∃ i:Nat,s=(i:Int)∧i+k=n.legs.length) (fun k s hs=>?_) NN n.legs.length _ ⟨0,rfl,by omega⟩ (by unfold NN; omega)
  obtain ⟨i,rfl,hk⟩:=hs
  unfold ZD
  refine Tot.cond (fun hd=>?_) fun hd=>Tot.ret rfl
  have hlt:=of_decide_eq_true hd
  have hwi:w64 ((i:Int)+1)=((i+1:Nat):Int):=by rw [Zo (by omega)]; omega
  obtain ⟨x,hx,hm⟩:=Zew (xs:=n.legs) (i:=(i:Int)) ⟨by omega,hlt⟩
  rw [hx,Option.bind_some,(h.leg x hm).ok,Option.bind_some,hwi]
  exact Tot.cond (fun e=>by cases e) fun _=>Tot.ret ⟨k-1,by omega,i+1,rfl,by omega⟩
 have e1:Tot (Zj (ZE n) NN 0) fun r=>r=.inl ():=by
  rcases h.off with e | ⟨a,b,e,g1,g2,g3⟩
  ·refine Tot.loop (fun (k:Nat) (s:Int)=>s=0) (fun k s hs=>?_) NN 0 _ rfl (by unfold NN; omega)
   subst hs
   unfold ZE
   rw [e]
   exact Tot.cond (fun hd=>by simp at hd) fun hd=>Tot.ret rfl
  ·refine Tot.loop (fun (k:Nat) (s:Int)=>(s=0∧k=2)∨(s=1∧k=1)∨(s=2∧k=0)) (fun k s hs=>?_) NN 2 _ (.inl ⟨rfl,rfl⟩) (by unfold NN; omega)
   unfold ZE
   rw [e]
   have x0:getI [a,b] 0=some a:=rfl
   have x1:getI [a,b] 1=some b:=rfl
   have w1:w64 (0+1)=1:=by decide
   have w2:w64 (1+1)=2:=by decide
   have w0:w64 (1-1)=0:=by decide
   rcases hs with ⟨rfl,rfl⟩ | ⟨rfl,rfl⟩ | ⟨rfl,rfl⟩
   ·refine Tot.cond (fun _=>?_) fun hd=>by simp at hd
    rw [x0,Option.bind_some,ZbH,Option.bind_some,decide_eq_true g1,decide_eq_true (show a≤60 by omega),w1]
    exact Tot.cond (fun e=>by cases e) fun _=>Tot.cond (fun e=>by simp at e) fun _=>Tot.ret ⟨1,by omega,.inr (.inl ⟨rfl,rfl⟩)⟩
   ·refine Tot.cond (fun _=>?_) fun hd=>by simp at hd
    rw [x1,Option.bind_some,ZbH,Option.bind_some,decide_eq_true (show 0≤b by omega),decide_eq_true g3,w2,w0,x0,Option.bind_some,Option.bind_some]
    exact Tot.cond (fun e=>by cases e) fun _=>Tot.cond (fun _=>Tot.cond (fun e=>by have:=of_decide_eq_true e; omega) fun _=>Tot.ret ⟨0,by omega,.inr (.inr ⟨rfl,rfl⟩)⟩) fun e=>by simp at e
   ·exact Tot.cond (fun hd=>by simp at hd) fun hd=>Tot.ret rfl
 obtain ⟨_,r0,rfl⟩:=e0
 obtain ⟨_,r1,rfl⟩:=e1
 unfold Zi
 rw [r0,Option.bind_some]
 simp only [ZY]
 rw [r1,Option.bind_some]
 simp only [ZY]
 have ho:(n.off.length:Int)≤10:=by rcases h.off with e | ⟨a,b,e,_⟩ <;> rw [e] <;> simp
 rw [decide_eq_true (show (n.legs.length:Int)≤20 by omega),decide_eq_true ho,ZbH,decide_eq_true hch.1,decide_eq_true hch.2]
 rfl
theorem Zso {n:Za} (h:NetD n) {skip:List Int} (hs:skip.length≤50):ZcM n skip=some ((⟨n,[],[],[],0,[],skip,0⟩:Zd),true):=by
 have hf:WFit (⟨n,[],[],[],0,[],skip,0⟩:Zd):=⟨h.fit,by simp,by simp,by simp,by simp,by simp only; omega,fun o ho=>by cases ho⟩
 have hv:ZcB (⟨n,[],[],[],0,[],skip,0⟩:Zd)=true:=by
  unfold ZcB ZZ Zjg
  simp only [h.ok,Option.getD_some]
  simp [allI]
  omega
 unfold ZcM
 rw [Zj4 hf,Option.bind_some,Zge hf,hv]
 rfl
section
variable {n:Za} (hn:NetD n)
include hn
theorem Zp7 {c:ZA} (h:Zc0 c):Tot (Zc6 c n) fun r=>Zc0 r.2:=by
 have hl:=hn.len
 unfold Zc6
 refine Tot.rho (Tot.bind (Zaa h _) fun y1 h1=>Tot.rho (Tot.bind (Zaa h1.2 10) fun y2 h2=>?_))
 obtain ⟨y,hy,_⟩:=Zew (xs:=n.legs) (i:=y1.1) ⟨h1.1.1,h1.1.2.1 (by omega)⟩
 refine Tot.bind (Zly hn.fit hy _) fun y3 _=>Tot.cond (fun _=>Tot.rho (Tot.bind (Zfg h2.2 4) fun y4 h4=>Tot.cond (fun _=>Tot.ret h4) fun _=>Tot.ret h4)) fun _=>Tot.ret h2.2
theorem ZnT {c:ZA} (h:Zc0 c):Tot (Zc7 c n) fun r=>Zc0 r.2.1∧r.2.2=n:=by
 have hl:=hn.len
 unfold Zc7
 refine Tot.rho (Tot.bind (Zaa h _) fun y1 h1=>Tot.rho (Tot.bind (Zaa h1.2 10) fun y2 h2=>?_))
 obtain ⟨y,hy,_⟩:=Zew (xs:=n.legs) (i:=y1.1) ⟨h1.1.1,h1.1.2.1 (by omega)⟩
 refine Tot.bind (Zly hn.fit hy _) fun y3 _=>Tot.cond (fun _=>Tot.rho (Tot.bind (Zfg h2.2 4) fun y4 h4=>Tot.cond (fun _=>Tot.ret ⟨h4,rfl⟩) fun _=>Tot.ret ⟨h4,rfl⟩)) fun _=>Tot.ret ⟨h2.2,rfl⟩
theorem Zn2 {c:ZA} (h:Zc0 c) {w:Zd} (hw:w.network=n):Tot (Zbp c w) fun r=>Zc0 r.2:=by
 unfold Zbp
 rw [hw]
 refine Tot.cond (fun hd=>Tot.rho (Tot.bind (Zfg h 4) fun y1 h1=>Tot.cond (fun _=>Tot.drw (Tot.rho (Tot.bind (Zaa h1 _) fun y2 h2=>Tot.get h2.1.1 (h2.1.2.1 (of_decide_eq_true hd)) fun x _ _=>Tot.ret h2.2))) fun _=>Tot.rho (Tot.bind (Zp7 hn h1) fun y4 h4=>Tot.ret h4))) fun _=>Tot.rho (Tot.bind (Zp7 hn h) fun y4 h4=>Tot.ret h4)
theorem Zq6 {c:ZA} (h:Zc0 c) {w:Zd} (hw:w.network=n):Tot (ZdI c w) fun r=>Zc0 r.2.1∧r.2.2=w:=by
 subst hw
 unfold ZdI
 refine Tot.cond (fun hd=>Tot.rho (Tot.bind (Zfg h 4) fun y1 h1=>Tot.cond (fun _=>Tot.drw (Tot.rho (Tot.bind (Zaa h1 _) fun y2 h2=>Tot.get h2.1.1 (h2.1.2.1 (of_decide_eq_true hd)) fun x _ _=>Tot.ret ⟨h2.2,rfl⟩))) fun _=>Tot.rho (Tot.bind (ZnT hn h1) fun y4 h4=>Tot.ret ⟨h4.1,?_⟩))) fun _=>Tot.rho (Tot.bind (ZnT hn h) fun y4 h4=>Tot.ret ⟨h4.1,?_⟩)
 ·simp only [h4.2]
 ·simp only [h4.2]
theorem Zvt {c:ZA} (h:Zc0 c):Tot (Zbr c n) fun r=>Zc0 r.2:=by
 have hl:=hn.len
 have hp:0<(Zb n).length:=by
  have:=(Zf0 (n:=n) (List.getElem_mem (show 0<n.legs.length by omega))).1
  exact List.length_pos_of_mem this
 unfold Zbr
 rw [(Zac hn.fit).2,Option.bind_some]
 refine Tot.rho (Tot.bind (Zfg h 9) fun y2 h2=>Tot.cond (fun _=>Tot.rho (Tot.bind (ZkB h2) fun y3 h3=>Tot.ret h3.2)) fun _=>Tot.rho (Tot.bind (Zaa h2 _) fun y4 h4=>Tot.get h4.1.1 (h4.1.2.1 (by omega)) fun x _ _=>Tot.ret h4.2))
end
theorem WFit.set {w:Zd} (h:WFit w) {i:Nat} {x:Zf} {o:Zf} (ho:o∈w.orders) (hx:x.way=o.way):∀ y∈w.orders.set i x,y.way.length≤1048576:=fun y hy=>by
 rcases List.mem_or_eq_of_mem_set hy with hy | rfl
 ·exact h.way y hy
 ·rw [hx]; exact h.way o ho
def ZDL (code:List YB8):Option Zd:=
 (Ze8 code).bind fun y1=>
 (rhoM [1]).bind fun _=>
 (Zee y1).bind fun y2=>
 some y2.1
instance (code:List YB8):CT Tryz.prog (ZDL code):=⟨54,[.sl (code.map cB8)],[],fun r=>.ag [.sl (r.network.legs.map cLeg),.sl (r.network.off.map cInt),vi r.network.change,.sl (r.orders.map Zw),.sl (r.bookings.map Zg),.sl (r.closed.map Zs),vi r.now,.sl (r.scans.map ZF),.sl (r.skip.map cInt),vi r.made],fun r=>[],fun H=>by replace H:=H0 H; unfold ZDL at H; exact Zh Tryz.func54 rfl Tryz.ntmps54 Tryz.results54 fun Q hQ hQn=>wk3⟩
def CntW (K:Nat) (w:Zd):Prop:=∃ u s:Nat,w.orders.length+u+s≤K∧∀ o∈w.orders,o.way.length≤6*(1+min u s)∧Zm o≤((6*min u (s+1):Nat):Int)
structure WDS (n:Za) (K:Nat) (w:Zd):Prop where
 ok:WOk w
 net:w.network=n
 story:Zfn w
 cnt:CntW K w
theorem ZoH {n:Za} (h:NetD n):(Zb n).length≤7:=by
 have:=ZgM (xs:=Zb n) (ys:=Zik) (Zje n) fun p hp=>by
  have hp':p∈(ZdQ n).foldl insS []:=hp
  rcases Zhk.1 hp' with hp | hp
  ·unfold ZdQ at hp
   obtain ⟨l,hl,hpl⟩:=List.mem_flatMap.1 hp
   have:=h.leg l hl
   rcases List.mem_cons.1 hpl with rfl | hpl
   ·exact this.from_
   ·rw [List.mem_singleton.1 hpl]; exact this.to_
  ·cases hp
 exact this
theorem CntW.mono {K:Nat} {w:Zd} (h:CntW K w):CntW (K+1) w:=by
 obtain ⟨u,s,h1,h2⟩:=h
 exact ⟨u,s,by omega,h2⟩
theorem WDS.mono {n:Za} {K:Nat} {w:Zd} (h:WDS n K w):WDS n (K+1) w:=⟨h.ok,h.net,h.story,h.cnt.mono⟩
theorem ZmQ {n:Za} (h7:(Zb n).length≤7) {K:Nat} {w x:Zd} (hw:WOk w) (hn:w.network=n) (h:CntW K w) (hl:x.orders.length=w.orders.length) (hr:∀ (i:Nat) (o:Zf),w.orders[i]?=some o→∃ o',x.orders[i]?=some o'∧Zgf w.network o o'):CntW (K+1) x:=by
 obtain ⟨hP,_⟩:=Zcv hw
 obtain ⟨u,s,h1,h2⟩:=h
 refine ⟨u,s+1,by omega,fun o' ho'=>?_⟩
 obtain ⟨i,hi,rfl⟩:=List.getElem_of_mem ho'
 have hiw:i<w.orders.length:=by omega
 have ho:=List.getElem?_eq_getElem hiw
 obtain ⟨o2,e,hR⟩:=hr i _ ho
 rw [List.getElem?_eq_getElem hi] at e
 have e:=Option.some.inj e
 obtain ⟨b1,b2⟩:=h2 _ (List.getElem_mem hiw)
 have hc:=ZcO hP ho
 rw [e]
 rcases hR with rfl | ⟨more,hm,rfl⟩
 ·exact ⟨by omega,by omega⟩
 ·rw [hn] at hm
  refine ⟨?_,?_⟩
  ·show (ZT w.orders[i]++more).length≤_
   rw [List.length_append,hc.2.2.1]; omega
  ·show Zm w.orders[i]≤_
   omega
theorem ZvV {K:Nat} {w:Zd} (hw:WOk w) (h:CntW K w) {t:Int} (hu:w.now≤t) (hm:t≤100000):CntW (K+1) (advV w t):=by
 obtain ⟨a,b,_⟩:=Zrn hw hu hm
 obtain ⟨hP,_⟩:=Zcv a
 obtain ⟨u,s,h1,h2⟩:=h
 refine ⟨u+1,s,by have:=b.len; omega,fun o' ho'=>?_⟩
 obtain ⟨i,hi,rfl⟩:=List.getElem_of_mem ho'
 have hi':=List.getElem?_eq_getElem hi
 have hiw:i<w.orders.length:=by rw [← b.len]; exact hi
 have hs:=b.ord i _ _ (List.getElem?_eq_getElem hiw) hi'
 obtain ⟨b1,b2⟩:=h2 _ (List.getElem_mem hiw)
 have hc:=ZcO hP hi'
 rw [hs.way] at *
 exact ⟨by omega,by omega⟩
/-! What a change of a world can not be. -/
theorem Zr4 {n:Za} {o x:Zf} (h1:x.way=o.way) (h2:x.gone=o.gone) (h3:x.from_=o.from_):ZfY n x=ZfY n o:=by unfold ZfY; rw [h1,h2,h3]
theorem Zsm {n:Za} {now:Int} {o x:Zf} (ho:Zfi n o now) (hx:Zfi n x now) (h1:x.way=o.way) (h2:x.gone=o.gone) (h3:x.from_=o.from_) (h4:x.to_=o.to_):x.state=o.state:=by
 have hh:=Zr4 (n:=n) h1 h2 h3
 rcases ho.cases with ⟨a1,_,a3,_,a5⟩ | ⟨a1,_,_,t,b1,b2,b3⟩ | ⟨a1,_,a3,a4,_,_⟩ <;> rcases hx.cases with ⟨c1,_,c3,_,c5⟩ | ⟨c1,_,_,t',d1,d2,d3⟩ | ⟨c1,_,c3,c4,_,_⟩
 ·rw [a1,c1]
 ·rw [h1,h2] at d1; have:=a5 t' d1; omega
 ·rw [hh,h4] at c3; exact absurd c3 a3
 ·have:=c5 t (by rw [h1,h2]; exact b1); omega
 ·rw [a1,c1]
 ·have:=(List.getElem?_eq_some_iff.1 b1).1; rw [h1,h2] at c4; omega
 ·rw [hh,h4] at c3; exact absurd a3 c3
 ·rw [h1,h2] at d1; have:=(List.getElem?_eq_some_iff.1 d1).1; omega
 ·rw [a1,c1]
theorem Zuu {n:Za} {now:Int} {o x:Zf} (hw:ZiK n o) (ho:Zfi n o now) (hx:Zfi n x now) (h1:x.way=o.way) (h2:x.gone=w64 (o.gone+1)) (h3:x.gone≤x.way.length):False:=by
 have hg:=hw.gone
 have hl:=ZnY hw
 rw [h2,h1,Zo (by omega)] at h3
 have hlt:o.gone.toNat<o.way.length:=by omega
 have hgo:=List.getElem?_eq_getElem hlt
 have hp:=hx.past _ (by rw [h2,Zo (by omega)]; omega) (by rw [h2,Zo (by omega),h1,show (o.gone+1-1).toNat=o.gone.toNat by omega]; exact hgo)
 have ht:=hw.trip _ (List.getElem_mem hlt)
 rcases ho.cases with ⟨_,_,_,_,a5⟩ | ⟨_,_,_,t,b1,_,b3⟩ | ⟨_,_,_,a4,_,_⟩
 ·have:=a5 _ hgo; omega
 ·rw [hgo] at b1; rw [Option.some.inj b1] at hp; omega
 ·omega
theorem Zsl {n:Za} {now:Int} {o x:Zf} (hw:ZiK n o) (ho:Zfi n o now) (hx:Zfi n x now) (h1:x.way=o.way) (h2:x.gone=o.gone) (h3:x.state=o.state) (h4:x.ended=w64 (o.ended+1)):False:=by
 have hg:=hw.gone
 rcases ho.cases with ⟨a1,_,_,a4,_⟩ | ⟨a1,_,a4,_⟩ | ⟨a1,_,_,a4,a5,a6⟩
 ·rcases hx.cases with ⟨_,_,_,c4,_⟩ | ⟨c1,_⟩ | ⟨c1,_⟩
  ·rw [h4,a4,Zo (by omega)] at c4; omega
  ·omega
  ·omega
 ·rcases hx.cases with ⟨c1,_⟩ | ⟨_,_,c4,_⟩ | ⟨c1,_⟩
  ·omega
  ·rw [h4,a4,Zo (by omega)] at c4; omega
  ·omega
 ·rcases hx.cases with ⟨c1,_⟩ | ⟨c1,_⟩ | ⟨_,_,_,_,c5,c6⟩
  ·omega
  ·omega
  ·have hlt:(o.gone-1).toNat<o.way.length:=by omega
   have hgo:=List.getElem?_eq_getElem hlt
   have e1:=a6 _ hgo
   have e2:=c6 _ (by rw [h1,h2]; exact hgo)
   have ht:=hw.trip _ (List.getElem_mem hlt)
   rw [h4,Zo (by omega)] at e2
   omega
theorem Ztc {w:Zd} {K k:Nat} {o x:Zf} (hs:Zfn w) (hc:CntW K w) (ho:w.orders[k]?=some o) (h1:x.way=o.way) (h2:x.from_=o.from_∧x.to_=o.to_∧x.at_=o.at_) (h3:x.state=o.state∧x.gone=o.gone∧x.ended=o.ended):
 Zfn (⟨w.network,w.orders.set k x,w.bookings,w.closed,w.now,w.scans,w.skip,w.made⟩:Zd)∧CntW K (⟨w.network,w.orders.set k x,w.bookings,w.closed,w.now,w.scans,w.skip,w.made⟩:Zd):=by
 have hkl:=(List.getElem?_eq_some_iff.1 ho).1
 refine ⟨⟨fun s hm=>by simp only [List.length_set]; exact hs.thing s hm,fun i y hy=>?_⟩,?_⟩
 ·have hy':(w.orders.set k x)[i]?=some y:=hy
  show (ofT _ w.scans).Sublist (Zdr w.network i y)
  by_cases hik:k=i
  ·subst hik
   rw [List.getElem?_set_self hkl] at hy'
   obtain rfl:=Option.some.inj hy'
   have e:Zdr w.network k x=Zdr w.network k o:=by
    unfold Zdr
    rw [h1,h2.1,h2.2.1,h2.2.2,h3.1,h3.2.1,h3.2.2]
   rw [e]; exact hs.sub k o ho
  ·rw [List.getElem?_set_ne hik] at hy'
   exact hs.sub i y hy'
 ·obtain ⟨u,s,c1,c2⟩:=hc
  refine ⟨u,s,by simp only [List.length_set]; exact c1,fun y hy=>?_⟩
  rcases List.mem_or_eq_of_mem_set hy with hy | rfl
  ·exact c2 y hy
  ·have:=c2 o (List.mem_of_getElem? ho)
   have e:Zm y=Zm o:=by unfold Zm; rw [h3.1,h3.2.1]
   rw [h1,e]; exact this
section
variable {n:Za} (hn:NetD n)
include hn
theorem Zn6 {K:Nat} {w:Zd} (hw:WDS n K w) (from_ to_:ByteArray) (service weight:Int):Tot (ZaC w from_ to_ service weight) fun r=>WDS n (K+1) r.1:=by
 obtain ⟨r,_,e,hr⟩:=Zn7 hw.ok from_ to_ service weight
 refine Tot.of e ?_
 rcases hr with ⟨rfl,_⟩ | ⟨way,ys,due,hT⟩
 ·exact hw.mono
 ·rw [hT.res]
  have hnet:=hw.net
  have h7:=ZoH hn
  have hR:=ZfW hw.ok.fit.net hw.ok.fit.bookings hw.ok.fit.closed hT.room
  have hfew:=ZtG hw.ok.fit.net hR
  rw [hnet] at hfew
  refine ⟨hT.ok,hw.net,Zrk hw.story ys,?_⟩
  obtain ⟨u,s,h1,h2⟩:=hw.cnt
  refine ⟨u,s,?_,fun o ho=>?_⟩
  ·show (w.orders++[newO w from_ to_ service weight due way]).length+u+s≤K+1
   rw [List.length_append]; simp only [List.length_cons,List.length_nil]; omega
  ·have ho':o∈w.orders++[newO w from_ to_ service weight due way]:=ho
   rcases List.mem_append.1 ho' with ho' | ho'
   ·exact h2 o ho'
   ·obtain rfl:=List.mem_singleton.1 ho'
    refine ⟨?_,?_⟩
    ·show way.length≤_; omega
    ·show (if (1:Int)=2 then (0:Int)+1 else 0)≤_
     rw [if_neg (by omega)]; omega
theorem Ztg {K:Nat} {w:Zd} (hw:WDS n K w) (t:Ze):Tot (Zbn w t) fun r=>WDS n (K+1) r.1:=by
 obtain ⟨r,_,e,hr⟩:=ZkI hw.ok t
 refine Tot.of e ?_
 rcases hr with rfl | ⟨x,rfl,hS⟩
 ·exact hw.mono
 ·have hr:∀ (i:Nat) (o:Zf),w.orders[i]?=some o→∃ o',x.orders[i]?=some o'∧Zgf w.network o o':=fun i o ho=>by
   obtain ⟨o',a,_,c⟩:=hS.ord i o ho
   exact ⟨o',a,c⟩
  exact ⟨hS.ok,hS.same.network.trans hw.net,Zg4 hw.ok hw.story hS.same.network hS.same.scans hS.same.len hr,ZmQ (ZoH hn) hw.ok hw.net hw.cnt hS.same.len hr⟩
theorem ZqQ {K:Nat} {w:Zd} (hw:WDS n K w):Tot (ZaD w) fun r=>WDS n (K+1) r.1:=by
 obtain ⟨x,m,_,e,hR⟩:=ZqR hw.ok
 refine Tot.of e ?_
 have hr:∀ (i:Nat) (o:Zf),w.orders[i]?=some o→∃ o',x.orders[i]?=some o'∧Zgf w.network o o':=fun i o ho=>by
  obtain ⟨o',a,c,_⟩:=hR.ord i o ho
  exact ⟨o',a,c⟩
 exact ⟨hR.ok,hR.same.network.trans hw.net,Zg4 hw.ok hw.story hR.same.network hR.same.scans hR.same.len hr,ZmQ (ZoH hn) hw.ok hw.net hw.cnt hR.same.len hr⟩
theorem ZtO {K:Nat} {w:Zd} (hw:WDS n K w) (u:Int):Tot (Za0 w u) (WDS n (K+1)):=by
 refine Tot.of (Zrp hw.ok.fit u) ?_
 split
 ·rename_i h
  obtain ⟨a,b,_⟩:=Zrn hw.ok h.2.1 h.2.2
  exact ⟨a,b.network.trans hw.net,ZmB hw.ok hw.story h.2.2,ZvV hw.ok hw.cnt h.2.1 h.2.2⟩
 ·exact hw.mono
theorem ZtL {c:ZA} (h:Zc0 c) {K:Nat} {w:Zd} (hw:WDS n K w):Tot (Zed c w) fun r=>WDS n (K+1) r.1∧Zc0 r.2:=by
 have hnet:=hw.net
 unfold Zed
 refine Tot.rho (Tot.bind (Zaa h 6) fun y1 h1=>?_)
 rw [hnet]
 have hc:=h1.2
 refine Tot.cond (fun _=>Tot.cond (fun _=>?_) fun _=>Tot.cond (fun _=>?_) fun _=>Tot.cond (fun _=>?_) fun _=>?_) fun _=>Tot.cond (fun _=>Tot.cond (fun _=>?_) fun _=>Tot.cond (fun _=>?_) fun _=>Tot.cond (fun _=>?_) fun _=>?_) fun _=>Tot.cond (fun _=>?_) fun _=>Tot.cond (fun _=>?_) fun _=>Tot.cond (fun _=>?_) fun _=>?_
 any_goals exact Tot.drw (Tot.rho (Tot.bind (Zvt hn hc) fun y2 h2=>Tot.rho (Tot.bind (Zvt hn h2) fun y3 h3=>Tot.rho (Tot.bind (Zaa h3 3) fun y4 h4=>Tot.rho (Tot.bind (Zaa h4.2 4000) fun y5 h5=>Tot.bind (Zn6 hn hw _ _ _ _) fun y6 h6=>Tot.ret ⟨h6,h5.2⟩)))))
 any_goals exact Tot.drw (Tot.rho (Tot.bind (Zn2 hn hc hnet) fun y7 h7=>Tot.bind (Ztg hn hw _) fun y8 h8=>Tot.ret ⟨h8,h7⟩))
 any_goals exact Tot.bind (ZqQ hn hw) fun y9 h9=>Tot.ret ⟨h9,hc⟩
 all_goals exact Tot.drw (Tot.rho (Tot.bind (Zaa hc 40) fun y10 h10=>Tot.bind (ZtO hn hw _) fun y11 h11=>Tot.ret ⟨h11,h10.2⟩))
theorem newS {skip:List Int} (hs:skip.length≤50) (K:Nat):WDS n K (⟨n,[],[],[],0,[],skip,0⟩:Zd):=by
 have hf:WFit (⟨n,[],[],[],0,[],skip,0⟩:Zd):=⟨hn.fit,by simp,by simp,by simp,by simp,by simp only; omega,fun o ho=>by cases ho⟩
 have hv:ZcB (⟨n,[],[],[],0,[],skip,0⟩:Zd)=true:=by
  unfold ZcB ZZ Zjg
  simp only [hn.ok,Option.getD_some]
  simp [allI]
  omega
 exact ⟨⟨hf,hv⟩,rfl,⟨fun s hm=>(by cases hm),fun i o ho=>(by have ho':([]:List Zf)[i]?=some o:=ho; simp at ho')⟩,0,0,by simp,fun o ho=>by cases ho⟩
end
theorem ZrK {c:ZA} (h:Zc0 c) (most:Int) (hm:most≤9):Tot (ZdH c most) fun r=>∃ n,NetD n∧WDS n 8 r.1∧Zc0 r.2:=by
 unfold ZdH
 refine Tot.rho (Tot.bind (Zwx h) fun y1 h1=>?_)
 obtain ⟨h1,hc1⟩:=h1
 refine Tot.bind (P:=fun o=>Zc0 ⟨o.1,o.2.1,o.2.2.1⟩∧NetD ⟨o.2.2.2,y1.1.off,y1.1.change⟩) ?_ fun o0 ho0=>?_
 ·have hlen:=h1.len
  refine Tot.loop (fun (k:Nat) (s:Int × (List YB8) × Int × Int × (List YLeg))=>∃ i:Nat,s.1=(i:Int)∧i+k=s.2.2.2.2.length∧Zc0 ⟨s.2.1,s.2.2.1,s.2.2.2.1⟩∧NetD ⟨s.2.2.2.2,y1.1.off,y1.1.change⟩) (fun k s hs=>?_) NN y1.1.legs.length _ ⟨0,rfl,by simp,hc1,h1⟩ (by unfold NN; omega)
  obtain ⟨i,hi,hk,hc,hd⟩:=hs
  have hl2:=hd.len
  simp only at hl2
  unfold ZeX
  rw [hi]
  refine Tot.cond (fun hlt=>?_) fun _=>Tot.ret ⟨hc,hd⟩
  have hlt:=of_decide_eq_true hlt
  have hwi:w64 ((i:Int)+1)=((i+1:Nat):Int):=by rw [Zo (by omega)]; omega
  rw [hwi]
  refine Tot.rho (Tot.bind (Zfg hc 2) fun y2 h2=>Tot.cond (fun _=>Tot.drw (Tot.rho (Tot.bind (Zaa h2 9) fun y3 h3=>?_))) fun _=>Tot.ret ⟨k-1,by omega,i+1,rfl,by simp only; omega,h2,hd⟩)
  refine Tot.get (by omega) hlt fun x hx _=>Tot.ret ⟨k-1,by omega,i+1,rfl,by simp only [List.length_set]; omega,h3.2,?_⟩
  have b3:=h3.1.2.1 (by omega)
  have b0:=h3.1.1
  have hr:w64 (2000+w64 (1000*y3.1))=2000+1000*y3.1:=by rw [Zo (n:=1000*y3.1) (by omega),Zo (by omega)]
  refine ⟨by simp only [List.length_set]; exact hl2,fun l hl=>?_,hd.off,hd.change⟩
  rcases List.mem_or_eq_of_mem_set hl with hl | rfl
  ·exact hd.leg l hl
  ·obtain ⟨a1,a2,a3,a4,a5,a6,a7⟩:=hd.leg x hx
   exact ⟨a1,a2,a3,a4,a5,a6,by simp only [hr]; omega⟩
 ·refine Tot.rho (Tot.bind (Zaa ho0.1 6) fun y5 h5=>?_)
  have b5:=h5.1.2.1 (by omega)
  have b5':=h5.1.1
  refine Tot.bind (P:=fun o=>Zc0 ⟨o.1,o.2.1,o.2.2.1⟩∧o.2.2.2.length≤50) ?_ fun o1 ho1=>?_
  ·refine Tot.loop (fun (k:Nat) (s:Int × (List YB8) × Int × Int × (List Int))=>s.1=(k:Int)∧s.2.2.2.2.length+k≤6∧Zc0 ⟨s.2.1,s.2.2.1,s.2.2.2.1⟩) (fun k s hs=>?_) NN y5.1.toNat _ ⟨by simp only; omega,by simp only [List.length_nil]; omega,h5.2⟩ (by unfold NN; omega)
   obtain ⟨hk,hl,hc⟩:=hs
   unfold ZeY
   refine Tot.cond (fun hd=>?_) fun _=>Tot.ret ⟨hc,by simp only; omega⟩
   have hd:=of_decide_eq_true hd
   have hwi:w64 (s.1-1)=((k-1:Nat):Int):=by rw [Zo (by omega)]; omega
   exact Tot.rho (Tot.bind (Zaa hc 25) fun y6 h6=>Tot.chk (Zfo (by simp only [List.length_cons,List.length_nil]; omega) (by omega)) (Tot.ret ⟨k-1,by omega,hwi,by simp only [List.length_append,List.length_cons,List.length_nil]; omega,h6.2⟩))
  ·refine Tot.frz ?_
   rw [Zso ho0.2 ho1.2,Option.bind_some]
   refine Tot.rho (Tot.bind (Zaa ho1.1 most) fun y8 h8=>?_)
   have b8:=h8.1
   have b8':y8.1≤8:=by
    rcases Int.lt_or_le 0 most with hp | hp
    ·have:=b8.2.1 hp; omega
    ·have:=b8.2.2 hp; omega
   refine Tot.bind (P:=fun o=>Zc0 ⟨o.1,o.2.1,o.2.2.1⟩∧WDS ⟨o0.2.2.2,y1.1.off,y1.1.change⟩ 8 (⟨(⟨o.2.2.2.2.2.2.1,o.2.2.2.2.2.2.2.1,o.2.2.2.1⟩:Za),o.2.2.2.2.2.2.2.2.1,o.2.2.2.2.2.2.2.2.2.1,o.2.2.2.2.2.2.2.2.2.2.1,o.2.2.2.2.1,o.2.2.2.2.2.2.2.2.2.2.2.1,o.2.2.2.2.2.2.2.2.2.2.2.2,o.2.2.2.2.2.1⟩:Zd)) ?_ fun o2 ho2=>Tot.ret ⟨_,ho0.2,ho2.2,ho2.1⟩
   refine Tot.loop (fun (k:Nat) (s2:Int × (List YB8) × Int × Int × Int × Int × Int × (List YLeg) × (List Int) × (List Zf) × (List Zc) × (List Ze) × (List Zk) × (List Int))=>s2.1=(k:Int)∧k≤8∧Zc0 ⟨s2.2.1,s2.2.2.1,s2.2.2.2.1⟩∧WDS ⟨o0.2.2.2,y1.1.off,y1.1.change⟩ (8-k) (⟨(⟨s2.2.2.2.2.2.2.2.1,s2.2.2.2.2.2.2.2.2.1,s2.2.2.2.2.1⟩:Za),s2.2.2.2.2.2.2.2.2.2.1,s2.2.2.2.2.2.2.2.2.2.2.1,s2.2.2.2.2.2.2.2.2.2.2.2.1,s2.2.2.2.2.2.1,s2.2.2.2.2.2.2.2.2.2.2.2.2.1,s2.2.2.2.2.2.2.2.2.2.2.2.2.2,s2.2.2.2.2.2.2.1⟩:Zd)) (fun k s hs=>?_) NN y8.1.toNat _ ⟨by simp only; omega,?_,h8.2,?_⟩ (by unfold NN; omega)
   ·obtain ⟨hk,hkl,hc,hw⟩:=hs
    unfold ZeZ
    refine Tot.cond (fun hd=>?_) fun hd=>Tot.ret ⟨hc,?_⟩
    ·have hd:=of_decide_eq_true hd
     have hwi:w64 (s.1-1)=((k-1:Nat):Int):=by rw [Zo (by omega)]; omega
     refine Tot.frz (Tot.rho (Tot.bind (ZtL ho0.2 hc hw) fun y9 h9=>Tot.ret ⟨k-1,by omega,hwi,by omega,h9.2,?_⟩))
     have:=h9.1
     rw [show 8-k+1=8-(k-1) by omega] at this
     exact this
    ·have hd:=of_decide_eq_false hd
     have hk0:k=0:=by omega
     rw [hk0] at hw
     exact hw
   ·omega
   ·exact newS ho0.2 ho1.2 _
theorem ZtP {c:ZA} (h:Zc0 c):Tot (Zee c) fun r=>(NetD r.1.network∧WFit r.1∧(ZcB r.1=true→Zfn r.1∧CntW 8 r.1))∧Zc0 r.2:=by
 unfold Zee
 refine Tot.rho (Tot.bind (ZrK h 9 (by omega)) fun y1 h1=>?_)
 obtain ⟨n,hn,hw,hc⟩:=h1
 have hf:=hw.ok.fit
 have hcl:=hw.ok.parts.2.2.1
 have hnd:NetD y1.1.network:=by rw [hw.net]; exact hn
 have hfe:Zfn y1.1∧CntW 8 y1.1:=⟨hw.story,hw.cnt⟩
 refine Tot.rho (Tot.bind (Zfg hc 2) fun y2 h2=>Tot.cond (fun _=>Tot.ret ⟨⟨hnd,hf,fun _=>⟨⟨hfe.1.thing,hfe.1.sub⟩,hfe.2⟩⟩,h2⟩) fun _=>Tot.cond (fun _=>Tot.ret ⟨⟨hnd,hf,fun _=>⟨⟨hfe.1.thing,hfe.1.sub⟩,hfe.2⟩⟩,h2⟩) fun hz=>?_)
 have hz:=of_decide_eq_false hz
 refine Tot.rho (Tot.bind (Zaa h2 _) fun y3 h3=>Tot.rho (Tot.bind (Zaa h3.2 13) fun y4 h4=>?_))
 have b3:=h3.1.2.1 (by omega)
 obtain ⟨o,ho,hm⟩:=Zew (xs:=y1.1.orders) (i:=y3.1) ⟨h3.1.1,b3⟩
 have hc4:=h4.2
 rw [ho]
 simp only [Option.bind_some]
 have hoi:=(Zdb ho).2
 have set:∀ (x:Zf),x.way=o.way→WFit (⟨y1.1.network,(y1.1.orders.set (Int.toNat y3.1) x),y1.1.bookings,y1.1.closed,y1.1.now,y1.1.scans,y1.1.skip,y1.1.made⟩:Zd):=fun x hx=>⟨hf.net,by simp only [List.length_set]; exact hf.orders,hf.bookings,hf.closed,hf.scans,hf.skip,hf.set hm hx⟩
 have hnat:getI y1.1.orders y3.1=some o:=ho
 have hSt:=hw.ok.state hoi
 have hWy:=hw.ok.way hoi
 have setF:∀ (x:Zf),x.way=o.way→(x.from_=o.from_∧x.to_=o.to_∧x.at_=o.at_)→(Zfi y1.1.network x y1.1.now→0≤x.gone→x.gone≤x.way.length→x.state=o.state∧x.gone=o.gone∧x.ended=o.ended)→(ZcB (⟨y1.1.network,(y1.1.orders.set (Int.toNat y3.1) x),y1.1.bookings,y1.1.closed,y1.1.now,y1.1.scans,y1.1.skip,y1.1.made⟩:Zd)=true→Zfn (⟨y1.1.network,(y1.1.orders.set (Int.toNat y3.1) x),y1.1.bookings,y1.1.closed,y1.1.now,y1.1.scans,y1.1.skip,y1.1.made⟩:Zd)∧CntW 8 (⟨y1.1.network,(y1.1.orders.set (Int.toNat y3.1) x),y1.1.bookings,y1.1.closed,y1.1.now,y1.1.scans,y1.1.skip,y1.1.made⟩:Zd)):=fun x hx hx2 hk hv=>by
  have hok:WOk (⟨y1.1.network,(y1.1.orders.set (Int.toNat y3.1) x),y1.1.bookings,y1.1.closed,y1.1.now,y1.1.scans,y1.1.skip,y1.1.made⟩:Zd):=⟨set x hx,hv⟩
  have hzi:(y1.1.orders.set (Int.toNat y3.1) x)[(Int.toNat y3.1)]?=some x:=by
   rw [List.getElem?_set_self (List.getElem?_eq_some_iff.1 hoi).1]
  obtain ⟨k1,k2,k3⟩:=hk (hok.state hzi) (hok.way hzi).gone.1 (hok.way hzi).gone.2
  exact Ztc hfe.1 hfe.2 hoi hx hx2 ⟨k1,k2,k3⟩
 have keep:∀ (a b:Int),WFit (⟨y1.1.network,y1.1.orders,y1.1.bookings,y1.1.closed,a,y1.1.scans,y1.1.skip,b⟩:Zd):=fun a b=>⟨hf.net,hf.orders,hf.bookings,hf.closed,hf.scans,hf.skip,hf.way⟩
 refine Tot.cond (fun _=>Tot.drw (Tot.rho (Tot.bind (Zaa hc4 5) fun y5 h5=>Tot.ret ⟨⟨hnd,set _ rfl,setF _ rfl ⟨rfl,rfl,rfl⟩ (fun h1 _ _=>⟨Zsm hSt h1 rfl rfl rfl rfl,rfl,rfl⟩)⟩,h5.2⟩))) fun _=>?_
 refine Tot.cond (fun _=>Tot.ret ⟨⟨hnd,set _ rfl,setF _ rfl ⟨rfl,rfl,rfl⟩ (fun h1 h2 h3=>(Zuu hWy hSt h1 rfl rfl h3).elim)⟩,hc4⟩) fun _=>?_
 refine Tot.cond (fun _=>Tot.drw (Tot.rho (Tot.bind (ZoY hc4 (by simp)) fun y10 h10=>Tot.ret ⟨⟨hnd,set _ rfl,setF _ rfl ⟨rfl,rfl,rfl⟩ (fun _ _ _=>⟨rfl,rfl,rfl⟩)⟩,h10.2⟩))) fun _=>?_
 refine Tot.cond (fun _=>Tot.ret ⟨⟨hnd,set _ rfl,setF _ rfl ⟨rfl,rfl,rfl⟩ (fun _ _ _=>⟨rfl,rfl,rfl⟩)⟩,hc4⟩) fun _=>?_
 refine Tot.cond (fun _=>Tot.drw (Tot.rho (Tot.bind (Zkm hc4 (by simp)) fun y14 h14=>Tot.ret ⟨⟨hnd,keep _ _,fun _=>⟨⟨hfe.1.thing,hfe.1.sub⟩,hfe.2⟩⟩,h14.2⟩))) fun _=>?_
 refine Tot.cond (fun _=>Tot.drw (Tot.rho (Tot.bind (Zaa hc4 _) fun y15 h15=>?_))) fun _=>?_
 ·have hb:=hf.bookings
  have hw1:w64 ((y1.1.bookings.length:Int)+1)=(y1.1.bookings.length:Int)+1:=Zo (by omega)
  have b15:=h15.1.2.1 (by rw [hw1]; omega)
  rw [hw1] at b15
  have b0:=h15.1.1
  refine Tot.chk (by unfold slOk; exact decide_eq_true (by omega)) (Tot.ret ⟨⟨hnd,⟨hf.net,hf.orders,?_,hf.closed,hf.scans,hf.skip,hf.way⟩,fun _=>⟨⟨hfe.1.thing,hfe.1.sub⟩,hfe.2⟩⟩,h15.2⟩)
  simp only [subL,List.length_take,List.length_drop]; omega
 refine Tot.cond (fun _=>Tot.drw (Tot.rho (Tot.bind (Zq6 hn hc4 hw.net) fun y16 h16=>?_))) fun _=>?_
 ·have e:=h16.2
  rw [e]
  refine Tot.chk (Zfo (by simp only [List.length_cons,List.length_nil]; omega) (by omega)) (Tot.ret ⟨⟨hnd,⟨hf.net,hf.orders,hf.bookings,?_,hf.scans,hf.skip,hf.way⟩,fun _=>⟨⟨hfe.1.thing,hfe.1.sub⟩,hfe.2⟩⟩,h16.1⟩)
  simp only [List.length_append,List.length_cons,List.length_nil]; omega
 refine Tot.cond (fun _=>Tot.ret ⟨⟨hnd,set _ rfl,setF _ rfl ⟨rfl,rfl,rfl⟩ (fun h1 _ _=>(Zsl hWy hSt h1 rfl rfl rfl rfl).elim)⟩,hc4⟩) fun _=>?_
 refine Tot.cond (fun _=>Tot.rho (Tot.bind (Zkm hc4 (by simp)) fun y19 h19=>Tot.ret ⟨⟨hnd,keep _ _,fun _=>⟨⟨hfe.1.thing,hfe.1.sub⟩,hfe.2⟩⟩,h19.2⟩)) fun _=>?_
 exact Tot.cond (fun _=>Tot.drw (Tot.rho (Tot.bind (Zkm hc4 (by simp)) fun y20 h20=>Tot.ret ⟨⟨hnd,set _ rfl,setF _ rfl ⟨rfl,rfl,rfl⟩ (fun _ _ _=>⟨rfl,rfl,rfl⟩)⟩,h20.2⟩))) fun _=>Tot.ret ⟨⟨hnd,hf,fun _=>⟨⟨hfe.1.thing,hfe.1.sub⟩,hfe.2⟩⟩,hc4⟩
theorem ZDT {code:List YB8} (hl:code.length≤4096) (hb:∀ x∈code,0≤x.v∧x.v≤255):Tot (ZDL code) fun r=>NetD r.network∧WFit r∧(ZcB r=true→Zfn r∧CntW 8 r):=by
 unfold ZDL
 exact Tot.bind (Zwy hl hb) fun y1 h1=>Tot.rho (Tot.bind (ZtP h1) fun y2 h2=>Tot.ret h2.1)
section
variable {n:Za} (hf:Z0 n) (hn:Zi n=some true) {l:List Zc} (hl:l.length≤1000) (hw:∀ b∈l,1≤b.weight∧b.weight≤1000000) {closed:List Ze} (hc:closed.length≤1048576) (weight:Int)
def AdmT (n:Za) (l:List Zc) (closed:List Ze) (weight:Int) (t:Ze):Prop:=Z2 closed t=false∧∀ y,getI n.legs t.leg=some y→weight≤y.room-ZhO l t
include hf hn hl hw hc
theorem ZD7 {leg d0 z:Int} (ht:ZbJ n ⟨leg,d0⟩=true) (hz:z≤ZM n ⟨leg,d0⟩) (ha:AdmT n l closed weight ⟨leg,d0⟩):∃ d,Z1 n l closed leg z weight=some d∧0≤d∧d≤d0∧ZbJ n ⟨leg,d⟩=true:=by
 obtain ⟨d1,d2⟩:=ZiH ht
 simp only at d1 d2
 obtain ⟨y,hy,hym⟩:=Zah hf ht
 have hlo:=(Zkv hf hn y hym).room
 have hw':∀ t,w64 (y.room-ZhO l t)=y.room-ZhO l t:=fun t=>by
  have:=Zov hw t
  exact Zo (by omega)
 have hcl:∀ t,Zaq closed t=some (Z2 closed t):=fun t=>by
  rw [Zcs,Zb1 hc]; rfl
 have hstep:∀ s:Int,0≤s→s≤60→ZV n l closed leg z weight s=some (if ZbJ n ⟨leg,s⟩=true∧z≤ZM n ⟨leg,s⟩∧Z2 closed ⟨leg,s⟩=false∧weight≤y.room-ZhO l ⟨leg,s⟩ then .inr (.inr s) else .inl (s+1)):=fun s s0 s1=>by
  have hws:w64 (s+1)=s+1:=Zo (by omega)
  have hr:=ZgB hf ⟨leg,s⟩
  simp only at hr
  unfold ZV
  rw [decide_eq_true s1,cond_true,hr,Option.bind_some,hws]
  cases hb:ZbJ n ⟨leg,s⟩ with
  | false=>simp
  | true=>
  obtain ⟨t1,_⟩:=ZI hf hn hb
  simp only [cond_true,t1,Option.bind_some,hcl,hy,Zvr hl hw,hw',true_and]
  by_cases h:z≤ZM n ⟨leg,s⟩
  case neg=>rw [decide_eq_false h,if_neg fun x=>h x.1]; rfl
  rw [decide_eq_true h]
  cases hcb:Z2 closed ⟨leg,s⟩ with
  | true=>rw [if_neg fun x=>by cases x.2.1]; rfl
  | false=>
  by_cases h2:weight≤y.room-ZhO l ⟨leg,s⟩
  ·rw [decide_eq_true h2,if_pos ⟨h,rfl,h2⟩]; rfl
  ·rw [decide_eq_false h2,if_neg fun x=>h2 x.2.2]; rfl
 have key:∀ (k:Nat) (s:Int),0≤s→s+(k:Int)=d0→∀ N,k<N→∃ d,Zj (ZV n l closed leg z weight) N s=some (.inr d)∧s≤d∧d≤d0∧ZbJ n ⟨leg,d⟩=true:=by
  intro k
  induction k with
  | zero=>
   intro s s0 hs N hN
   obtain ⟨N,rfl⟩:∃ M,N=M+1:=⟨N-1,by omega⟩
   obtain rfl:s=d0:=by omega
   refine ⟨s,?_,Int.le_refl _,Int.le_refl _,ht⟩
   unfold Zj
   rw [hstep s s0 d2,if_pos ⟨ht,hz,ha.1,ha.2 y hy⟩]
   rfl
  | succ k ih=>
   intro s s0 hs N hN
   obtain ⟨N,rfl⟩:∃ M,N=M+1:=⟨N-1,by omega⟩
   unfold Zj
   rw [hstep s s0 (by omega)]
   by_cases h:ZbJ n ⟨leg,s⟩=true∧z≤ZM n ⟨leg,s⟩∧Z2 closed ⟨leg,s⟩=false∧weight≤y.room-ZhO l ⟨leg,s⟩
   ·rw [if_pos h]
    exact ⟨s,rfl,Int.le_refl _,by omega,h.1⟩
   ·rw [if_neg h]
    obtain ⟨d,e1,e2,e3,e4⟩:=ih (s+1) (by omega) (by omega) N (by omega)
    exact ⟨d,e1,by omega,e3,e4⟩
 obtain ⟨d,e1,e2,e3,e4⟩:=key d0.toNat 0 (by omega) (by omega) NN (by unfold NN; omega)
 refine ⟨d,?_,e2,e3,e4⟩
 unfold Z1
 rw [e1]
 rfl
theorem ZD8 {f at_:Int} {k:Nat} {u:Int} {t:Ze} (ht:ZbJ n t=true) (ha:AdmT n l closed weight t) (hle:LeAt (Z6 n l closed weight f at_ k) (idxV (Zb n) (ZbL n t)) u) (hu:(if idxV (Zb n) (ZbL n t)=f then u else u+n.change)≤ZM n t):
 LeAt (Z6 n l closed weight f at_ (k+1)) (idxV (Zb n) (ZL n t)) (Z7 n t):=by
 obtain ⟨y,hy,hym⟩:=Zah hf ht
 have f1:ZbL n t=y.from_:=by unfold ZbL; rw [hy]; rfl
 have f2:ZL n t=y.to_:=by unfold ZL; rw [hy]; rfl
 obtain ⟨n0,n1⟩:=ZbB hn
 obtain ⟨_,_,_,t4,t5⟩:=ZI hf hn ht
 rw [f1] at hle hu
 rw [f2]
 obtain ⟨v,v1,v2,v3⟩:=hle
 have hus:u≤ZM n t:=by split at hu <;> omega
 obtain ⟨i0,hi⟩:=Zdb hy
 have hz:Zag n v (decide (idxV (Zb n) y.from_=f))=some (if idxV (Zb n) y.from_=f then v else v+n.change):=by
  unfold Zag
  by_cases h:idxV (Zb n) y.from_=f
  ·rw [decide_eq_true h,if_pos h]; rfl
  ·rw [decide_eq_false h,if_neg h,cond_false,Zo (by omega)]
 have hzl:(if idxV (Zb n) y.from_=f then v else v+n.change)≤ZM n ⟨t.leg,t.day⟩:=by
  show _≤ZM n t
  split at hu <;> split <;> omega
 obtain ⟨d,e1,e2,e3,e4⟩:=ZD7 hf hn hl hw hc weight (leg:=t.leg) (d0:=t.day) ht hzl ha
 obtain ⟨_,q2,_⟩:=ZI hf hn e4
 have hlt:t.leg=((t.leg.toNat:Nat):Int):=by omega
 have hcand:Cand n l closed weight f (Z6 n l closed weight f at_ k) (idxV (Zb n) y.to_) (Z7 n ⟨t.leg,d⟩):=by
  refine ⟨t.leg.toNat,y,d,v,_,hi,rfl,v1,by omega,hz,?_,by omega,?_⟩
  ·rw [← hlt]; exact e1
  ·rw [← hlt]; exact q2
 obtain ⟨x,x1,x2,x3⟩:=(ZiM hf hn (l:=l) (by omega) (closed:=closed) hc weight f at_ k).2 _ _ hcand
 refine ⟨x,x1,x2,?_⟩
 have g1:=(ZnU hf hn ht hy).2
 have g2:=(ZnU hf hn e4 hy).2
 simp only at g2
 omega
theorem ZDV {f at_:Int}:∀ (way:List Ze) (p:ByteArray) (z u:Int) (k:Nat),ZbG n p z way→(∀ t∈way,AdmT n l closed weight t)→LeAt (Z6 n l closed weight f at_ k) (idxV (Zb n) p) u→(if idxV (Zb n) p=f then u else u+n.change)≤z→
 ∀ t,way.getLast?=some t→LeAt (Z6 n l closed weight f at_ (k+way.length)) (idxV (Zb n) (ZL n t)) (Z7 n t)
 | [],p,z,u,k,_,_,_,_,t,ht=>by simp at ht
 | x::way,p,z,u,k,hch,ha,hle,hu,t,ht=>by
  obtain ⟨c1,c2,c3,c4⟩:=hch
  obtain ⟨n0,n1⟩:=ZbB hn
  subst c2
  have h1:=ZD8 hf hn hl hw hc weight (t:=x) c1 (ha x (by simp)) hle (by omega)
  cases way with
  | nil=>
   obtain rfl:x=t:=by simpa using ht
   exact h1
  | cons y way=>
   rw [List.getLast?_cons_cons] at ht
   have:=ZDV (y::way) (ZL n x) (Z7 n x+n.change) (Z7 n x) (k+1) c4 (fun t ht=>ha t (List.mem_cons_of_mem _ ht)) h1 (by split <;> omega) t ht
   rw [show k+(x::y::way).length=k+1+(y::way).length by simp only [List.length_cons]; omega]
   exact this
theorem ZD6 {from_ to_:ByteArray} {at_:Int} {way:List Ze} (hC:ZZ n l=true∧0≤idxV (Zb n) from_∧at_≤100000∧1≤weight) (hto:0≤idxV (Zb n) to_) (hnd:(from_::way.map (ZL n)).Nodup) (hlast:(from_::way.map (ZL n)).getLast?=some to_)
 (hch:ZbG n from_ (if 0 > at_ then 0 else at_) way) (ha:∀ t∈way,AdmT n l closed weight t):∃ way',Zy n l closed from_ to_ at_ weight=some (way',true):=by
 have hl2:l.length≤1048576:=by omega
 obtain ⟨q1,q2,q3,q4⟩:=hC
 have hC':ZZ n l=true∧0≤idxV (Zb n) from_∧at_≤100000∧1≤weight:=⟨q1,q2,q3,q4⟩
 have hlg:=Zff hn
 have hp:(Zb n).length≤40:=by have:=Zaz n; omega
 have hlt:=(Ze2 (Zb n) from_).2
 obtain ⟨n0,n1⟩:=ZbB hn
 have hb0:getI (Z6 n l closed weight (idxV (Zb n) from_) at_ 0) (idxV (Zb n) from_)=some (if 0 > at_ then 0 else at_):=by
  unfold Z6
  rw [Zl1 hf (by omega) _ ⟨q2,hlt⟩]
  exact Zf6 q2 (by rw [List.length_replicate]; omega)
 have h0:LeAt (Z6 n l closed weight (idxV (Zb n) from_) at_ 0) (idxV (Zb n) from_) (if 0 > at_ then 0 else at_):=⟨_,hb0,by split <;> omega,Int.le_refl _⟩
 have hfin:∃ e,LeAt (Z6 n l closed weight (idxV (Zb n) from_) at_ (Zb n).length) (idxV (Zb n) to_) e:=by
  cases hwl:way.getLast? with
  | none=>
   obtain rfl:way=[]:=List.getLast?_eq_none_iff.1 hwl
   obtain rfl:from_=to_:=by simpa using hlast
   have:=Zhd hf hn (l:=l) hl2 (closed:=closed) hc weight at_ (idxV (Zb n) from_) hb0 (by split <;> omega) (Zb n).length
   rw [Nat.zero_add] at this
   exact ⟨_,this⟩
  | some t=>
   have hto':ZL n t=to_:=by
    cases way with
    | nil=>simp at hwl
    | cons x xs=>
     rw [List.map_cons,List.getLast?_cons_cons,← List.map_cons,List.getLast?_map,hwl] at hlast
     exact Option.some.inj hlast
   have h1:=ZDV hf hn hl hw hc weight way from_ _ _ 0 hch ha h0 (by rw [if_pos rfl]; exact Int.le_refl _) t hwl
   have hwp:=ZlK hf hn q2 hnd hch
   rw [Nat.zero_add,hto'] at h1
   obtain ⟨v,v1,v2,v3⟩:=h1
   obtain ⟨v',w1,w2,w3⟩:=Zhd hf hn (l:=l) hl2 (closed:=closed) hc weight at_ (idxV (Zb n) from_) v1 v2 ((Zb n).length-way.length)
   rw [show way.length+((Zb n).length-way.length)=(Zb n).length by omega] at w1
   exact ⟨v',v',w1,w2,Int.le_refl _⟩
 obtain ⟨r,_,e⟩:=Zf5 hf hl2 hc from_ to_ at_ weight
 obtain ⟨way',b⟩:=r
 cases b with
 | true=>exact ⟨way',e⟩
 | false=>
 exfalso
 have h:=e
 obtain ⟨e0,v,v1,v2,v3⟩:=hfin
 have hbl:=Zfb hf hl2 hc weight (idxV (Zb n) from_) at_
 have htl:=(Ze2 (Zb n) to_).2
 unfold Zy at h
 rw [(Zac hf).2] at h
 simp only [Option.bind_some,Zgk hf] at h
 rw [ZfR hf hl2 hc weight at_ hC' (Nat.le_refl _)] at h
 simp only [Option.bind_some,decide_eq_false (show ¬ idxV (Zb n) to_<0 by omega),cond_false,decide_eq_false (show ¬ (((Z6 n l closed weight (idxV (Zb n) from_) at_ (Zb n).length).length:Int)=0) by rw [hbl]; omega),v1,decide_eq_false (show ¬ v<0 by omega)] at h
 obtain ⟨k,z1,z2,z3,z4,z5⟩:=Zln hf hl2 hc weight at_ hp hC' ⟨by omega,htl⟩ v1
 obtain ⟨wy,p1,p2⟩:=ZwM hf hn hl2 hc weight at_ hC' k to_ v [] (by omega) z2 (by omega) z3 (by simp only [List.length_nil]; omega) NN (by unfold NN; omega)
 rw [List.append_nil] at p1
 simp only [z4,Option.bind_some,p1,Option.some.injEq,Prod.mk.injEq] at h
 cases h.2
end
theorem ZDU {n:Za} {l:List Zc} (hb:ZZ n l=true) {b:Zc} (hm:b∈l):((ZX n b.trip.leg b.trip.day).getD false=true∧(1≤b.thing∧b.thing≤9999))∧1≤b.weight∧b.weight≤1000000:=by
 obtain ⟨i,hi,rfl⟩:=List.getElem_of_mem hm
 have h1:=(Zjr hb hi).1
 unfold bk1 at h1
 rw [List.getElem?_eq_getElem hi] at h1
 simp only [Bool.and_eq_true,decide_eq_true_iff] at h1
 exact h1.1
theorem ZDP {n:Za} {l:List Zc} (hb:ZZ n l=true):∀ b∈l,1≤b.weight∧b.weight≤1000000:=fun b hm=>(ZDU hb hm).2
theorem ZD0 {n:Za} {l:List Zc} (hb:ZZ n l=true) {b:Zc} (hm:b∈l):∃ g,getI n.legs b.trip.leg=some g∧ZhO l b.trip≤g.room:=by
 have hl:=(Zav hb).2
 obtain ⟨i,hi,rfl⟩:=List.getElem_of_mem hm
 have h2:=(Zjr hb hi).2
 unfold bk2 at h2
 rw [List.getElem?_eq_getElem hi] at h2
 simp only [Zvr (show l.length≤1000 by omega) (ZDP hb)] at h2
 cases hg:getI n.legs l[i].trip.leg with
 | none=>rw [hg] at h2; cases h2
 | some g=>
  rw [hg] at h2
  simp only [Bool.not_eq_true',decide_eq_false_iff_not] at h2
  exact ⟨g,rfl,by omega⟩
theorem ZD5 (a b:List Zc) (t:Ze):ZhO (a++b) t=ZhO a t+ZhO b t:=by
 unfold ZhO
 rw [List.map_append,List.sum_append]
theorem ZDX (t:Ze):∀ {bs l:List Zc},bs.Nodup→(∀ b∈bs,b∈l)→(∀ b∈l,1≤b.weight∧b.weight≤1000000)→ZhO bs t≤ZhO l t
 | [],l,_,_,hw=>by have:=(Zov hw t).1; simpa [ZhO] using this
 | x::bs,l,hn,hs,hw=>by
  obtain ⟨h1,h2⟩:=List.nodup_cons.1 hn
  have hx:=hs x (by simp)
  have ih:=ZDX t (bs:=bs) (l:=l.erase x) h2 (fun y hy=>(List.mem_erase_of_ne (fun e:y=x=>h1 (e ▸ hy))).2 (hs y (by simp [hy]))) fun b hb=>hw b (List.mem_of_mem_erase hb)
  have e:=ZDS (List.perm_cons_erase hx) t
  unfold ZhO at *
  rw [e]
  simp only [List.map_cons,List.sum_cons]
  omega
theorem ZD3 {n:Za} (hf:Z0 n) {bs:List Zc} (hb:ZZ n bs=true) {thing weight:Int} (hth:1≤thing∧thing≤9999) (hwt:1≤weight∧weight≤1000000) {way:List Ze} (hnd:way.Nodup) (hlen:bs.length+way.length≤120) (hl20:way.length≤20)
 (ht:∀ t∈way,ZbJ n t=true) (hroom:∀ t∈way,∀ y,getI n.legs t.leg=some y→weight≤y.room-ZhO bs t) (hnew:∀ t∈way,∀ b∈bs,¬ (b.thing=thing∧b.trip=t)):∃ d,ZN n bs thing weight way=some (d,true):=by
 have hn:=(Zav hb).1
 have hnl:(ZdR thing weight way).length=way.length:=by unfold ZdR; rw [List.length_map]
 obtain ⟨d,hp,hs⟩:=Zp1 (bs++ZdR thing weight way) (by rw [List.length_append,hnl]; omega)
 have hdl:d.length=bs.length+way.length:=by rw [hp.length_eq,List.length_append,hnl]
 have hsp:=Zhe hf (l:=bs) (by omega) thing weight (way:=way) (d:=d) hp hs
 have hmem:∀ b∈d,b∈bs∨∃ t∈way,b=⟨thing,t,weight⟩:=fun b hm=>by
  rcases List.mem_append.1 (hp.mem_iff.1 hm) with h | h
  ·exact .inl h
  ·unfold ZdR at h
   obtain ⟨t,h1,h2⟩:=List.mem_map.1 h
   exact .inr ⟨t,h1,h2.symm⟩
 have hkey:d.Pairwise fun a b:Zc=>¬ (a.thing=b.thing∧a.trip=b.trip):=by
  refine hp.symm.pairwise ?_ (fun {x y} h e=>h ⟨e.1.symm,e.2.symm⟩)
  refine List.pairwise_append.2 ⟨?_,?_,fun a ha b hb' e=>?_⟩
  ·refine List.pairwise_iff_getElem.2 fun i j hi hj hij e=>?_
   have:=ZgU hb j i hj hij
   rw [ZlQ e.1 e.2] at this
   cases this
  ·unfold ZdR
   rw [List.pairwise_map]
   exact List.Pairwise.imp (fun h e=>h e.2) hnd
  ·unfold ZdR at hb'
   obtain ⟨t,h1,rfl⟩:=List.mem_map.1 hb'
   exact hnew t h1 a ha e
 have hdw:∀ b∈d,1≤b.weight∧b.weight≤1000000:=fun b hm=>by
  rcases hmem b hm with h | ⟨t,_,rfl⟩
  ·exact ZDP hb b h
  ·exact hwt
 have hload:∀ t,Zap d t=some (ZhO bs t+if t∈way then weight else 0):=fun t=>by
  rw [Zvr (by omega) hdw,ZDS hp,ZD5,ZDR _ _ _ _ hnd]
 have hd:ZZ n d=true:=by
  unfold ZZ
  rw [hn]
  simp only [Option.getD_some,Bool.true_and,Bool.and_eq_true,decide_eq_true_iff,List.all_eq_true,List.mem_range]
  refine ⟨by omega,fun i hi=>⟨?_,?_⟩⟩
  ·have hone:((ZX n d[i].trip.leg d[i].trip.day).getD false=true∧(1≤d[i].thing∧d[i].thing≤9999))∧1≤d[i].weight∧d[i].weight≤1000000:=by
    rcases hmem _ (List.getElem_mem hi) with h | ⟨t,h1,h2⟩
    ·exact ZDU hb h
    ·rw [h2]
     exact ⟨⟨ht t h1,hth⟩,hwt⟩
   unfold bk1
   rw [List.getElem?_eq_getElem hi]
   simp only [Bool.and_eq_true,decide_eq_true_iff]
   refine ⟨hone,?_⟩
   by_cases hi0:i=0
   ·rw [decide_eq_true hi0]; rfl
   ·have h3:i-1<d.length:=by omega
    rw [List.getElem?_eq_getElem h3,decide_eq_false hi0,Bool.false_or]
    simp only
    cases hbf:befB d[i-1] d[i] with
    | true=>rfl
    | false=>
     exfalso
     have h4:befB d[i] d[i-1]=false:=List.pairwise_iff_getElem.1 hs (i-1) i h3 hi (by omega)
     have h5:=List.pairwise_iff_getElem.1 hkey (i-1) i h3 hi (by omega)
     have g1:=(ZlS _ _).1 hbf
     have g2:=(ZlS _ _).1 h4
     apply h5
     generalize d[i-1]=A at *
     generalize d[i]=B at *
     obtain ⟨a1,⟨a2,a3⟩,a4⟩:=A
     obtain ⟨b1,⟨b2,b3⟩,b4⟩:=B
     simp only at g1 g2 ⊢
     have e1:a3=b3:=by omega
     have e2:a2=b2:=by omega
     exact ⟨by omega,by rw [e1,e2]⟩
  ·unfold bk2
   rw [List.getElem?_eq_getElem hi]
   simp only [hload]
   rcases hmem _ (List.getElem_mem hi) with h | ⟨t,h1,h2⟩
   ·obtain ⟨g,hg,hgl⟩:=ZD0 hb h
    simp only [hg,Bool.not_eq_true',decide_eq_false_iff_not]
    by_cases hw:d[i].trip∈way
    ·have:=hroom _ hw g hg
     rw [if_pos hw]; omega
    ·rw [if_neg hw]; omega
   ·obtain ⟨y,hy,hym⟩:=Zah hf (ht t h1)
    have:=hroom t h1 y hy
    simp only [h2,hy,Bool.not_eq_true',decide_eq_false_iff_not]
    rw [if_pos h1]; omega
 rw [if_pos ⟨hb,hl20,hd⟩] at hsp
 exact ⟨d,hsp⟩
theorem ZD1 {x:Zd} {c:Nat→List Ze} (hP:ZjJ x c) (hcl:x.closed.length≤1048576) (hfew:x.bookings.length≤100) {i:Nat} {o:Zf} (ho:x.orders[i]?=some o) (hst:ZaW x.network o=true) {bs:List Zc} (hs:∀ b∈bs,b∈x.bookings) (hb:ZZ x.network bs=true) (hno:Zu9 x.network x.closed x.now bs i o):
 Zu9 x.network x.closed x.now x.bookings i o:=by
 have hf:=hP.fit.net
 have hn:=(Zav hP.books).1
 have hO:=ZaV hP ho
 obtain ⟨r1,r2,r3,r4,r5⟩:=ZnM hst
 obtain ⟨e1,e2,e3⟩:=ZrN hP ho
 have hil:i<30:=by have:=(List.getElem?_eq_some_iff.1 ho).1; have:=hP.olen; omega
 obtain ⟨⟨way,b⟩,_,e⟩:=Zf5 hf (l:=x.bookings) (by omega) (closed:=x.closed) hcl (Zb8 x.network o) o.to_ (atR x.network x.now o) o.weight
 cases b with
 | false=>exact .inl ⟨way,e⟩
 | true=>
 exfalso
 have hR:=ZfW hf (l:=x.bookings) (by omega) hcl e
 have hbl:bs.length≤x.bookings.length:=ZgM (Zoe hb) hs
 have hwx:=ZDP hP.books
 have adm:∀ {l:List Zc} (hl:l.length≤1000) (hw:∀ b∈l,1≤b.weight∧b.weight≤1000000) {wy:List Ze},WayR x.network l x.closed o.weight (Zb8 x.network o) o.to_ (atR x.network x.now o) wy→∀ t∈wy,AdmT x.network l x.closed o.weight t:=fun {l} hl hw {wy} hW t ht=>by
  obtain ⟨f1,y,q,f2,f3,f4⟩:=hW.found t ht
  rw [Zcs,Zb1 hcl] at f1
  rw [Zvr hl hw] at f3
  obtain rfl:=Option.some.inj f3
  refine ⟨Option.some.inj f1,fun y' hy'=>?_⟩
  rw [f2] at hy'
  obtain rfl:=Option.some.inj hy'
  have hrm:=(Zkv hf hn y (ZgX f2)).room
  have:=Zov hw t
  rw [Zo (by omega)] at f4
  exact f4
 have ha:∀ t∈way,AdmT x.network bs x.closed o.weight t:=fun t ht=>by
  obtain ⟨a1,a2⟩:=adm (by omega) hwx hR t ht
  refine ⟨a1,fun y hy=>?_⟩
  have:=a2 y hy
  have:=ZDX t (Zoe hb) hs hwx
  omega
 obtain ⟨way',e'⟩:=ZD6 hf hn (l:=bs) (by omega) (ZDP hb) hcl o.weight ⟨hb,hR.hC.2⟩ hR.hto hR.nodup hR.last hR.chain ha
 rcases hno with ⟨z,hz⟩ | ⟨w0,h1,h2⟩
 ·rw [hz] at e'; cases e'
 ·have hR0:=ZfW hf (l:=bs) (by omega) hcl h1
  have hl0:=hR0.len
  have hch0:=hR0.chain
  rw [if_neg (by omega)] at hch0
  have hch:ZbG x.network o.from_ (o.at_+1) (ZT o++w0):=by
   refine (Zhf _).2 ⟨by rw [r5]; exact hO.chain,?_⟩
   rw [Zj7 hP ho r1]
   exact Zi7 hch0 e1
  have hnd:=Zh1 hf hn hch
  obtain ⟨_,hndw,hdis⟩:=List.pairwise_append.1 hnd
  have hwt:o.weight≤1000000:=by
   cases w0 with
   | nil=>
    have:=hR0.last
    exact absurd (by simpa using this) r3
   | cons t ts=>
    obtain ⟨y,hy,hym⟩:=Zah hf (Zek hch0 t (by simp))
    have h1:=(adm (by omega) (ZDP hb) hR0 t (by simp)).2 y hy
    have h2:=(Zkv hf hn y hym).room
    have h3:=Zov (ZDP hb) t
    omega
  obtain ⟨d,hd⟩:=ZD3 hf hb (thing:=((i+1:Nat):Int)) (weight:=o.weight) ⟨by omega,by omega⟩ ⟨hR.hC.2.2.2,hwt⟩ (way:=w0) hndw (by omega) (by omega) (Zek hch0)
   (fun t ht=>(adm (by omega) (ZDP hb) hR0 t ht).2) (fun t ht b hm hbt=>by
    obtain ⟨j,o',t',q1,q2,rfl⟩:=Zle hP (hs b hm)
    obtain ⟨hb1,hb2⟩:=hbt
    have hji:j=i:=by simp only at hb1; omega
    subst hji
    rw [ho] at q1
    obtain rfl:=Option.some.inj q1
    obtain rfl:t'=t:=hb2
    rw [← r5] at q2
    exact hdis t' q2 t' ht rfl)
  rw [hd] at h2
  cases h2
theorem ZD2 {w:Zd} (h:WOk w) (hno:∀ (i:Nat) (o:Zf),w.orders[i]?=some o→ZaW w.network o=true→Zu9 w.network w.closed w.now w.bookings i o):∃ r,Zer w=some (r,0):=by
 have hf:=h.fit
 obtain ⟨p1,p2,p3,p4,p5,p6,p7⟩:=h.parts
 obtain ⟨hP,hRs⟩:=Zcv h
 let ids:=Zga (ZaW w.network) 0 w.orders
 have hidl:ids.length≤30:=by
  show (Zga _ 0 w.orders).length≤30
  rw [Zgp]; exact Nat.le_trans List.countP_le_length p2
 unfold Zer
 rw [Zj3 hf,Option.bind_some,ZnN h,Option.bind_some]
 have key:Zj (ZaJ ids) NN (0,0,tupS w)=some (0,tupS w):=by
  refine ZbW (body:=ZaJ ids) (fun a:Nat=>((0:Int),(a:Int),tupS w)) (n:=ids.length) (o:=(0,tupS w)) (fun a hlt=>?_) ?_ NN (by unfold NN; omega)
  ·have hd:decide ((a:Int)<(ids.length:Int))=true:=decide_eq_true (by omega)
   have hwa:w64 ((a:Int)+1)=((a+1:Nat):Int):=by rw [Zo (by omega)]; omega
   have hia:ids[a]?=some ids[a]:=List.getElem?_eq_getElem hlt
   have hga:getI ids (a:Int)=some ids[a]:=by rw [Zn]; exact hia
   obtain ⟨i,o,hio,hst,hx⟩:=Ziy.1 (List.getElem_mem hlt)
   rw [Nat.zero_add] at hx
   have hx':ids[a]=((i+1:Nat):Int):=hx
   have hi30:i<30:=by have:=(List.getElem?_eq_some_iff.1 hio).1; omega
   obtain ⟨r1,r2,r3,r4,r5⟩:=ZnM hst
   obtain ⟨u',_,e,hR,_⟩:=Zk6 hP hio r1 r3
   have hleft:Zds w i o=w.bookings:=by unfold Zds; rw [r4]; exact ZrM _ _
   have hset:w.orders.set i o=w.orders:=by
    refine List.ext_getElem? fun j=>?_
    by_cases hj:i=j
    ·subst hj
     rw [List.getElem?_set_self (List.getElem?_eq_some_iff.1 hio).1,hio]
    ·rw [List.getElem?_set_ne hj]
   have huu:u'=w:=by
    rcases hR with ⟨_,hu'⟩ | ⟨way,bs,hN,hu'⟩
    ·rw [hu',hleft,r5]
     show (⟨w.network,w.orders.set i o,w.bookings,w.closed,w.now,w.scans,w.skip,w.made⟩:Zd)=w
     rw [hset]
    ·exfalso
     have h1:=hN.room
     have h2:=hN.book
     rw [hleft] at h1 h2
     rcases hno i o hio hst with ⟨z,hz⟩ | ⟨w0,g1,g2⟩
     ·rw [hz] at h1; cases h1
     ·rw [g1] at h1
      obtain rfl:w0=way:=congrArg Prod.fst (Option.some.inj h1)
      rw [g2] at h2
      cases h2
   rw [huu] at e
   have hsv:=Zmw h hio
   rw [hst] at hsv
   have hwi:w64 (((i+1:Nat):Int)-1)=(i:Int):=by rw [Zo (by omega)]; omega
   have hgo:getI w.orders (i:Int)=some o:=by rw [Zn]; exact hio
   have e':Zbb ⟨⟨w.network.legs,w.network.off,w.network.change⟩,w.orders,w.bookings,w.closed,w.now,w.scans,w.skip,w.made⟩ ((i+1:Nat):Int)=some w:=e
   unfold ZaJ
   simp only [tupS,hd,cond_true,hga,Option.bind_some,rhoM,hx',hwi,e',hgo,hwa]
   rw [hsv,Option.bind_some]
   rfl
  ·have hd:decide ((ids.length:Int)<(ids.length:Int))=false:=decide_eq_false (by omega)
   unfold ZaJ
   simp only [tupS,hd,cond_false]
 have key':Zj (ZaJ (Zga (ZaW w.network) 0 w.orders)) NN (0,0,w.network.change,w.now,w.made,w.network.legs,w.network.off,w.orders,w.bookings,w.closed,w.scans,w.skip)=some (0,tupS w):=key
 rw [key']
 exact ⟨_,rfl⟩
def ZhH (code:List YB8):Option Bool:=
 some (decide (4096<(code.length:Int)))
instance (code:List YB8):CT Tryz.prog (ZhH code):=⟨22,[.sl (code.map cB8)],[],fun r=>vb r,fun r=>[],fun H=>by replace H:=H0 H; unfold ZhH at H; exact Zh Tryz.func22 rfl Tryz.ntmps22 Tryz.results22 fun Q hQ hQn=>wk3⟩
def ZDQ (l:List Int) (x:Int) (s0:Int):Option (Int ⊕ (Unit ⊕ Bool)):=
 cond (decide (s0<(l.length:Int)))
 ((getI l s0).bind fun y1=>
 cond (decide (y1=x))
 (some (.inr (.inr true)))
 (some (.inl (w64 (s0+1)))))
 (some (.inr (.inl ())))
instance (l:List Int) (x:Int):ZP (ZDQ l x):=⟨fun s0=>(.sl (l.map cInt)::vi x::(U 3 (vi s0::(U 12 [])))),fun s0=>[]⟩
def ZDO (l:List Int) (x:Int):Option Bool:=
 (Zj (ZDQ l x) NN 0).bind (ZY (fun o0=>
 some false) (fun r=>some r))
instance (l:List Int) (x:Int):CT Tryz.prog (ZDO l x):=⟨33,[.sl (l.map cInt),vi x],[],fun r=>vb r,fun r=>[],fun H=>by replace H:=H0 H; unfold ZDO at H; exact Zh Tryz.func33 rfl Tryz.ntmps33 Tryz.results33 fun Q hQ hQn=>wk3⟩
def Zgn (a:List Ze) (b:List Ze) (s0:Int):Option (Int ⊕ (Unit ⊕ Bool)):=
 cond (decide (s0<(a.length:Int)))
 ((getI a s0).bind fun y1=>
 (getI b s0).bind fun y2=>
 cond (!decide (y1=y2))
 (some (.inr (.inr false)))
 (some (.inl (w64 (s0+1)))))
 (some (.inr (.inl ())))
instance (a:List Ze) (b:List Ze):ZP (Zgn a b):=⟨fun s0=>(.sl (a.map Zs)::.sl (b.map Zs)::(U 3 (vi s0::(U 20 [])))),fun s0=>[]⟩
def ZfV (a:List Ze) (b:List Ze):Option Bool:=
 cond (!decide ((a.length:Int)=(b.length:Int)))
 (some false)
 ((Zj (Zgn a b) NN 0).bind (ZY (fun o0=>
 some true) (fun r=>some r)))
instance (a:List Ze) (b:List Ze):CT Tryz.prog (ZfV a b):=⟨53,[.sl (a.map Zs),.sl (b.map Zs)],[],fun r=>vb r,fun r=>[],fun H=>by replace H:=H0 H; unfold ZfV at H; exact Zh Tryz.func53 rfl Tryz.ntmps53 Tryz.results53 fun Q hQ hQn=>wk3⟩
def ZDM (y2:Zd) (y3:Zd × Int) (y4:(List Int)) (y5:(List Int)) (s0:Int):Option (Int ⊕ (Unit ⊕ Bool)):=
 cond (decide (s0<(y5.length:Int)))
 ((getI y5 s0).bind fun y6=>
 (ZDO y4 y6).bind fun y7=>
 cond (!y7)
 (some (.inr (.inr false)))
 (some (.inl (w64 (s0+1)))))
 (some (.inr (.inl ())))
instance (y2:Zd) (y3:Zd × Int) (y4:(List Int)) (y5:(List Int)):ZP (ZDM y2 y3 y4 y5):=⟨fun s0=>(U 3 (.be 0 0 0::.be 1 0 0::vi y3.2::.ms 2::.ms 3::vi s0::(U 84 []))),fun s0=>[some ⟨41,10,[[.sl (y2.network.legs.map cLeg),.sl (y2.network.off.map cInt),vi y2.network.change,.sl (y2.orders.map Zw),.sl (y2.bookings.map Zg),.sl (y2.closed.map Zs),vi y2.now,.sl (y2.scans.map ZF),.sl (y2.skip.map cInt),vi y2.made]]⟩,some ⟨41,10,[[.sl (y3.1.network.legs.map cLeg),.sl (y3.1.network.off.map cInt),vi y3.1.network.change,.sl (y3.1.orders.map Zw),.sl (y3.1.bookings.map Zg),.sl (y3.1.closed.map Zs),vi y3.1.now,.sl (y3.1.scans.map ZF),.sl (y3.1.skip.map cInt),vi y3.1.made]]⟩,some ⟨3,1,y4.map cInt⟩,some ⟨3,1,y5.map cInt⟩]⟩
def ZDK (y2:Zd) (y3:Zd × Int) (y4:(List Int)) (y5:(List Int)) (s1:Int):Option (Int ⊕ (Unit ⊕ Bool)):=
 cond (decide (s1<(y2.orders.length:Int)))
 ((ZDO y4 (w64 (s1+1))).bind fun y8=>
 cond (!y8)
 ((getI y3.1.orders s1).bind fun y9=>
 (getI y2.orders s1).bind fun y10=>
 (ZfV y9.way y10.way).bind fun y11=>
 cond (!y11)
 (some (.inr (.inr false)))
 (some (.inl (w64 (s1+1)))))
 (some (.inl (w64 (s1+1)))))
 (some (.inr (.inl ())))
instance (y2:Zd) (y3:Zd × Int) (y4:(List Int)) (y5:(List Int)):ZP (ZDK y2 y3 y4 y5):=⟨fun s1=>(U 3 (.be 0 0 0::.be 1 0 0::vi y3.2::.ms 2::.ms 3::.un::vi s1::(U 83 []))),fun s1=>[some ⟨41,10,[[.sl (y2.network.legs.map cLeg),.sl (y2.network.off.map cInt),vi y2.network.change,.sl (y2.orders.map Zw),.sl (y2.bookings.map Zg),.sl (y2.closed.map Zs),vi y2.now,.sl (y2.scans.map ZF),.sl (y2.skip.map cInt),vi y2.made]]⟩,some ⟨41,10,[[.sl (y3.1.network.legs.map cLeg),.sl (y3.1.network.off.map cInt),vi y3.1.network.change,.sl (y3.1.orders.map Zw),.sl (y3.1.bookings.map Zg),.sl (y3.1.closed.map Zs),vi y3.1.now,.sl (y3.1.scans.map ZF),.sl (y3.1.skip.map cInt),vi y3.1.made]]⟩,some ⟨3,1,y4.map cInt⟩,some ⟨3,1,y5.map cInt⟩]⟩
def ZDN (code:List YB8):Option Bool:=
 (ZhH code).bind fun y1=>
 cond y1
 (some true)
 ((ZDL code).bind fun y2=>
 (Zer y2).bind fun y3=>
 (ZdC y2).bind fun y4=>
 (ZdC y3.1).bind fun y5=>
 (Zj (ZDM y2 y3 y4 y5) NN 0).bind (ZY (fun o0=>
 (Zj (ZDK y2 y3 y4 y5) NN 0).bind (ZY (fun o1=>
 (Zer y3.1).bind fun y12=>
 cond (decide (y3.2=(w64 ((y4.length:Int)-(y5.length:Int)))))
 (cond (decide (0≤y3.2))
 (cond (decide (y12.2=0))
 ((Za8 y3.1).bind fun y13=>
 (Zbs y2).bind fun y14=>
 some (y13 == y14))
 (some false))
 (some false))
 (some false)) (fun r=>some r))) (fun r=>some r)))
theorem ok_laws_FnRetry (code:List YB8) {r:Bool} (H:ZDN code=some r):Zev Tryz.prog 12 [.sl (code.map cB8)] [] (vb r) []:=by
 replace H:=H0 H
 unfold ZDN at H
 refine Zh Tryz.func12 rfl Tryz.ntmps12 Tryz.results12 fun Q hQ hQn=>?_
 exact wk3
instance (code:List YB8):CT Tryz.prog (ZDN code):=⟨12,[.sl (code.map cB8)],[],fun r=>vb r,fun r=>[],ok_laws_FnRetry code⟩
theorem ZDZ {l:List Ze} (hl:l.length≤1048576):ZfV l l=some true:=ZlH (F:=ZfV) (B:=Zgn) (fun _ _=>rfl) (fun _ _ _=>rfl) hl
theorem ZD9:@ZDO=@ZdX:=rfl
theorem ZDY {α:Type} (f:α→Nat) (K:Nat):∀ (l:List α),(∀ x∈l,f x≤K)→(l.map f).sum≤l.length*K
 | [],_=>by simp
 | a::l,h=>by
  have h1:=h a (by simp)
  have h2:=ZDY f K l fun x hx=>h x (by simp [hx])
  simp only [List.map_cons,List.sum_cons,List.length_cons,Nat.succ_mul]
  omega
theorem ZD4 {w:Zd} {c:Nat→List Ze} (hP:ZjJ w c) (h:CntW 9 w):w.bookings.length≤100:=by
 obtain ⟨u,s,h1,h2⟩:=h
 have hs:=ZDY (fun o:Zf=>o.way.length) (6*(1+min u s)) w.orders fun o ho=>(h2 o ho).1
 rw [hP.sum] at hs
 have hm:w.orders.length+2*min u s≤9:=by omega
 generalize min u s=m at *
 generalize w.orders.length=a at *
 have:m=0∨m=1∨m=2∨m=3∨m=4:=by omega
 rcases this with rfl | rfl | rfl | rfl | rfl <;> omega
theorem retry (code:List YB8) (hb:∀ x∈code,0≤x.v∧x.v≤255):ZDN code=some true:=by
 unfold ZDN ZhH
 rw [Option.bind_some]
 by_cases hbig:4096<(code.length:Int)
 ·rw [decide_eq_true hbig]; rfl
 rw [decide_eq_false hbig,cond_false]
 obtain ⟨w,e,hD,hf,hst⟩:=ZDT (code:=code) (by omega) hb
 rw [e,Option.bind_some]
 cases hv:ZcB w with
 | false=>
  have hs0:ZdC w=some []:=by
   unfold ZdC
   rw [ZeM hf,hv]; rfl
  have h0:Zj (ZDM w (w,0) [] []) NN 0=some (.inl ()):=by
   refine Zjy (xs:=([]:List Int)) (fun i o ho=>by simp at ho) ?_ (by simp)
   unfold ZDM; simp
  have h1:Zj (ZDK w (w,0) [] []) NN 0=some (.inl ()):=by
   refine Zjy (xs:=w.orders) (fun i o ho=>?_) ?_ hf.orders
   ·have hlt:=(List.getElem?_eq_some_iff.1 ho).1
    have hg:getI w.orders (i:Int)=some o:=by rw [Zn]; exact ho
    unfold ZDK
    simp only [decide_eq_true (show (i:Int)<w.orders.length by omega),cond_true,ZD9,Zou (l:=[]) (by simp),List.any_nil,Option.bind_some,Bool.not_false,hg,ZDZ (hf.way o (List.mem_of_getElem? ho)),Bool.not_true,cond_false]
   ·unfold ZDK; simp
  rw [(ZDW hf hv).1,Option.bind_some]
  simp only [hs0,Option.bind_some,h0,h1,ZY,(ZDW hf hv).1,List.length_nil,ZeM hf,Zge hf,hv]
  rfl
 | true=>
 obtain ⟨_,hC⟩:=hst hv
 have hok:WOk w:=⟨hf,hv⟩
 obtain ⟨p1,p2,p3,p4,p5,p6,p7⟩:=hok.parts
 obtain ⟨x,m,ex,_,hR⟩:=ZqR hok
 have hx:=hR.ok
 have hnet:x.network=w.network:=hR.same.network
 have hlen:x.orders.length=w.orders.length:=hR.same.len
 obtain ⟨hPx,_⟩:=Zcv hx
 have hCx:CntW 9 x:=ZmQ (ZoH hD) hok rfl hC hR.same.len fun i o ho=>by
  obtain ⟨o',a,b,_⟩:=hR.ord i o ho
  exact ⟨o',a,b⟩
 have hfew:=ZD4 hPx hCx
 have hboth:∀ (i:Nat) (o:Zf),x.orders[i]?=some o→ZaW w.network o=true→w.orders[i]?=some o:=fun i o ho hs=>by
  have hi:=(List.getElem?_eq_some_iff.1 ho).1
  have hiw:=List.getElem?_eq_getElem (show i<w.orders.length by omega)
  obtain ⟨o',a,_,c⟩:=hR.ord i _ hiw
  rw [ho] at a
  obtain rfl:=Option.some.inj a
  rcases c with c | ⟨_,c⟩
  ·rw [hiw,← c]
  ·rw [hs] at c; cases c
 obtain ⟨r2,e2⟩:=ZD2 hx fun i o ho hs=>by
  have hs':ZaW w.network o=true:=by rw [← hnet]; exact hs
  have hw:=hboth i o ho hs'
  obtain ⟨bs,b1,b2,b3⟩:=hR.none i o hw ho hs'
  refine ZD1 hPx hx.fit.closed hfew ho hs b1 (by rw [hnet]; exact b2) ?_
  rw [hnet,hR.same.closed,hR.same.now]; exact b3
 have hsw:=ZnN hok
 have hsx:=ZnN hx
 rw [hnet] at hsx
 have hol:=hf.orders
 have hwl:(Zga (ZaW w.network) 0 w.orders).length≤30:=by rw [Zgp]; exact Nat.le_trans List.countP_le_length p2
 have hxl:(Zga (ZaW w.network) 0 x.orders).length≤30:=by rw [Zgp]; exact Nat.le_trans List.countP_le_length (by omega)
 have hhas:∀ y,ZDO (Zga (ZaW w.network) 0 w.orders) y=some ((Zga (ZaW w.network) 0 w.orders).any fun z=>decide (z=y)):=fun y=>by rw [ZD9,Zou (by omega)]
 have h0:Zj (ZDM w (x,(m:Int)) (Zga (ZaW w.network) 0 w.orders) (Zga (ZaW w.network) 0 x.orders)) NN 0=some (.inl ()):=by
  refine Zjy (xs:=Zga (ZaW w.network) 0 x.orders) (fun i y hy=>?_) ?_ (by omega)
  ·have hlt:=(List.getElem?_eq_some_iff.1 hy).1
   have hg:getI (Zga (ZaW w.network) 0 x.orders) (i:Int)=some y:=by rw [Zn]; exact hy
   have hin:((Zga (ZaW w.network) 0 w.orders).any fun z=>decide (z=y))=true:=by
    obtain ⟨j,o,q1,q2,q3⟩:=Ziy.1 (List.mem_of_getElem? hy)
    exact List.any_eq_true.2 ⟨y,Ziy.2 ⟨j,o,hboth j o q1 q2,q2,q3⟩,by simp⟩
   unfold ZDM
   simp only [decide_eq_true (show (i:Int)<(Zga (ZaW w.network) 0 x.orders).length by omega),cond_true,hg,Option.bind_some,hhas,hin,Bool.not_true,cond_false]
  ·unfold ZDM; simp
 have h1:Zj (ZDK w (x,(m:Int)) (Zga (ZaW w.network) 0 w.orders) (Zga (ZaW w.network) 0 x.orders)) NN 0=some (.inl ()):=by
  refine Zjy (xs:=w.orders) (fun i o ho=>?_) ?_ hf.orders
  ·have hlt:=(List.getElem?_eq_some_iff.1 ho).1
   have hg:getI w.orders (i:Int)=some o:=by rw [Zn]; exact ho
   obtain ⟨o',ho',_,hs⟩:=hR.ord i o ho
   have hg':getI x.orders (i:Int)=some o':=by rw [Zn]; exact ho'
   have hwi:w64 ((i:Int)+1)=((i+1:Nat):Int):=by rw [Zo (by omega)]; omega
   unfold ZDK
   simp only [decide_eq_true (show (i:Int)<w.orders.length by omega),cond_true,hhas,Option.bind_some,hg,hg']
   cases hc:(Zga (ZaW w.network) 0 w.orders).any fun z=>decide (z=w64 ((i:Int)+1)) with
   | true=>rfl
   | false=>
    have hne:o'=o:=by
     rcases hs with hs | ⟨hs,_⟩
     ·exact hs
     ·exfalso
      have:=List.any_eq_false.1 hc ((i+1:Nat):Int) (Ziy.2 ⟨i,o,ho,hs,by rw [Nat.zero_add]⟩)
      rw [hwi] at this
      simp at this
    rw [hne]
    simp only [Bool.not_false,cond_true,ZDZ (hf.way o (List.mem_of_getElem? ho)),Option.bind_some,Bool.not_true,cond_false]
  ·unfold ZDK; simp
 have hnum:decide ((m:Int)=w64 (((Zga (ZaW w.network) 0 w.orders).length:Int)-((Zga (ZaW w.network) 0 x.orders).length:Int)))=true:=by
  have hn:=hR.num
  rw [Zo (by omega)]
  rw [Zgp,Zgp]
  exact decide_eq_true (by omega)
 rw [ex,Option.bind_some]
 simp only [hsw,hsx,Option.bind_some,h0,h1,ZY,e2,hnum,decide_eq_true (show (0:Int)≤(m:Int) by omega),cond_true,decide_true,ZeM hx.fit,hx.ok,Zge hf,hv]
 rfl
end Go.Proofs.YtmcdjilbkmhfoaaGreat
