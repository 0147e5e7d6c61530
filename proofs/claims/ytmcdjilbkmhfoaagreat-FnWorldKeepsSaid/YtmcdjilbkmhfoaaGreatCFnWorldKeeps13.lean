/- A part of the proof of the statement in the last file of this claim: texts on the language of the program and on its functions. No condition. -/
import Derived.Test.YtmcdjilbkmhfoaaGreatCFnWorldKeeps4
import Derived.Test.YtmcdjilbkmhfoaaGreatCFnWorldKeeps5
import Derived.Test.YtmcdjilbkmhfoaaGreatCFnWorldKeeps12
import Derived.Test.YtmcdjilbkmhfoaaGreatCFnWorldKeeps11
import Derived.Test.YtmcdjilbkmhfoaaGreatCFnWorldKeeps9
import Derived.Test.YtmcdjilbkmhfoaaGreatCFnWorldKeeps8
import Derived.Test.YtmcdjilbkmhfoaaGreatCFnWorldKeeps10
import Derived.Test.YtmcdjilbkmhfoaaGreatCFnWorldKeeps7
import Derived.Test.YtmcdjilbkmhfoaaGreatCFnWorldKeeps6
namespace Go.Proofs.YtmcdjilbkmhfoaaGreat
set_option maxRecDepth 10000
open Go.RowKit
set_option linter.unusedVariables false
set_option maxHeartbeats 16000000
def Zee (c:ZA):Option (Zd × ZA):=
 (rhoM [0]).bind fun _=>
 (ZdH c 9).bind fun y1=>
 (rhoM [0]).bind fun _=>
 (ZU y1.2 2).bind fun y2=>
 cond y2.1
 (some (y1.1,y2.2))
 (cond (decide ((y1.1.orders.length:Int)=0))
 (some (y1.1,y2.2))
 ((rhoM [0]).bind fun _=>
 (Zl y2.2 (y1.1.orders.length:Int)).bind fun y3=>
 (rhoM [0]).bind fun _=>
 (Zl y3.2 13).bind fun y4=>
 cond (decide (y4.1=0))
 ((drwL 8 [4]).bind fun _=>
 (rhoM [0]).bind fun _=>
 (Zl y4.2 5).bind fun y5=>
 (getI y1.1.orders y3.1).bind fun y6=>
 some ((⟨y1.1.network,(y1.1.orders.set (Int.toNat y3.1) (⟨y6.from_,y6.to_,y6.service,y6.weight,y6.at_,y6.due,y6.way,y6.gone,y5.1,y6.place,y6.ended⟩:Zf)),y1.1.bookings,y1.1.closed,y1.1.now,y1.1.scans,y1.1.skip,y1.1.made⟩:Zd),y5.2))
 (cond (decide (y4.1=1))
 ((getI y1.1.orders y3.1).bind fun y7=>
 (getI y1.1.orders y3.1).bind fun y8=>
 some ((⟨y1.1.network,(y1.1.orders.set (Int.toNat y3.1) (⟨y8.from_,y8.to_,y8.service,y8.weight,y8.at_,y8.due,y8.way,(w64 (y7.gone+1)),y8.state,y8.place,y8.ended⟩:Zf)),y1.1.bookings,y1.1.closed,y1.1.now,y1.1.scans,y1.1.skip,y1.1.made⟩:Zd),y4.2))
 (cond (decide (y4.1=2))
 ((drwL 8 [11]).bind fun _=>
 (getI y1.1.orders y3.1).bind fun y9=>
 (rhoM [0,90]).bind fun _=>
 (ZcR y4.2 ([⟨#[]⟩,⟨#[65,77,83]⟩,y9.to_])).bind fun y10=>
 (getI y1.1.orders y3.1).bind fun y11=>
 some ((⟨y1.1.network,(y1.1.orders.set (Int.toNat y3.1) (⟨y11.from_,y11.to_,y11.service,y11.weight,y11.at_,y11.due,y11.way,y11.gone,y11.state,y10.1,y11.ended⟩:Zf)),y1.1.bookings,y1.1.closed,y1.1.now,y1.1.scans,y1.1.skip,y1.1.made⟩:Zd),y10.2.1))
 (cond (decide (y4.1=3))
 ((getI y1.1.orders y3.1).bind fun y12=>
 (getI y1.1.orders y3.1).bind fun y13=>
 some ((⟨y1.1.network,(y1.1.orders.set (Int.toNat y3.1) (⟨y13.from_,y13.to_,y13.service,(w64 (y12.weight+1)),y13.at_,y13.due,y13.way,y13.gone,y13.state,y13.place,y13.ended⟩:Zf)),y1.1.bookings,y1.1.closed,y1.1.now,y1.1.scans,y1.1.skip,y1.1.made⟩:Zd),y4.2))
 (cond (decide (y4.1=4))
 ((drwL 8 [4]).bind fun _=>
 (rhoM [0,34]).bind fun _=>
 (Zbz y4.2 ([1,300,(-1),5000])).bind fun y14=>
 some ((⟨y1.1.network,y1.1.orders,y1.1.bookings,y1.1.closed,(w64 (y1.1.now+y14.1)),y1.1.scans,y1.1.skip,y1.1.made⟩:Zd),y14.2.1))
 (cond (decide (y4.1=5))
 ((drwL 8 [7]).bind fun _=>
 (rhoM [0]).bind fun _=>
 (Zl y4.2 (w64 ((y1.1.bookings.length:Int)+1))).bind fun y15=>
 (chk (slOk 0 y15.1 y1.1.bookings.length)).bind fun _=>
 some ((⟨y1.1.network,y1.1.orders,(subL y1.1.bookings 0 y15.1),y1.1.closed,y1.1.now,y1.1.scans,y1.1.skip,y1.1.made⟩:Zd),y15.2))
 (cond (decide (y4.1=6))
 ((drwL 8 [4]).bind fun _=>
 (rhoM [0,2,3,4,5,6,7,8]).bind fun _=>
 (ZdI y4.2 y1.1).bind fun y16=>
 (chk (ZQ ((y16.2.2.closed:List Ze).length+([y16.1]:List Ze).length) 16)).bind fun _=>
 some ((⟨(⟨y16.2.2.network.legs,y16.2.2.network.off,y1.1.network.change⟩:Za),y16.2.2.orders,y16.2.2.bookings,((y16.2.2.closed:List Ze)++[y16.1]),y1.1.now,y16.2.2.scans,y16.2.2.skip,y1.1.made⟩:Zd),y16.2.1))
 (cond (decide (y4.1=7))
 ((getI y1.1.orders y3.1).bind fun y17=>
 (getI y1.1.orders y3.1).bind fun y18=>
 some ((⟨y1.1.network,(y1.1.orders.set (Int.toNat y3.1) (⟨y18.from_,y18.to_,y18.service,y18.weight,y18.at_,y18.due,y18.way,y18.gone,y18.state,y18.place,(w64 (y17.ended+1))⟩:Zf)),y1.1.bookings,y1.1.closed,y1.1.now,y1.1.scans,y1.1.skip,y1.1.made⟩:Zd),y4.2))
 (cond (decide (y4.1=8))
 ((rhoM [0,10]).bind fun _=>
 (Zbz y4.2 ([0,1000000000,1000000001])).bind fun y19=>
 some ((⟨y1.1.network,y1.1.orders,y1.1.bookings,y1.1.closed,y1.1.now,y1.1.scans,y1.1.skip,y19.1⟩:Zd),y19.2.1))
 (cond (decide (y4.1=9))
 ((drwL 8 [5]).bind fun _=>
 (rhoM [0,42]).bind fun _=>
 (Zbz y4.2 ([0,(-1),200000,200001])).bind fun y20=>
 (getI y1.1.orders y3.1).bind fun y21=>
 some ((⟨y1.1.network,(y1.1.orders.set (Int.toNat y3.1) (⟨y21.from_,y21.to_,y21.service,y21.weight,y21.at_,y20.1,y21.way,y21.gone,y21.state,y21.place,y21.ended⟩:Zf)),y1.1.bookings,y1.1.closed,y1.1.now,y1.1.scans,y1.1.skip,y1.1.made⟩:Zd),y20.2.1))
 (some (y1.1,y4.2)))))))))))))
instance (c:ZA):CT Tryz.prog (Zee c):=⟨103,[.be 0 0 0],[some ⟨187,3,[[.sl (c.b.map cB8),vi c.i,vi c.h]]⟩],fun r=>.ag [.sl (r.1.network.legs.map cLeg),.sl (r.1.network.off.map cInt),vi r.1.network.change,.sl (r.1.orders.map Zw),.sl (r.1.bookings.map Zg),.sl (r.1.closed.map Zs),vi r.1.now,.sl (r.1.scans.map ZF),.sl (r.1.skip.map cInt),vi r.1.made],fun r=>[some ⟨187,3,[[.sl (r.2.b.map cB8),vi r.2.i,vi r.2.h]]⟩],fun H=>by replace H:=H0 H; unfold Zee at H; exact Zh Tryz.func103 rfl Tryz.ntmps103 Tryz.results103 fun Q hQ hQn=>wk3⟩
def ZDF (code:List YB8):Option (Zd × Int):=
 (Ze8 code).bind fun y1=>
 (rhoM [1]).bind fun _=>
 (Zee y1).bind fun y2=>
 (rhoM [1]).bind fun _=>
 (ZU y2.2 9).bind fun y3=>
 cond y3.1
 ((drwL 8 [6]).bind fun _=>
 (rhoM [1,43]).bind fun _=>
 (Zbz y3.2 ([(-1),100000,100001,(w64 (y2.1.now-1))])).bind fun y4=>
 some (y2.1,y4.1))
 ((drwL 8 [4]).bind fun _=>
 (rhoM [1]).bind fun _=>
 (Zl y3.2 200).bind fun y5=>
 some (y2.1,(w64 (y2.1.now+(w64 (30*y5.1))))))
instance (code:List YB8):CT Tryz.prog (ZDF code):=⟨23,[.sl (code.map cB8)],[],fun r=>.tu [.ag [.sl (r.1.network.legs.map cLeg),.sl (r.1.network.off.map cInt),vi r.1.network.change,.sl (r.1.orders.map Zw),.sl (r.1.bookings.map Zg),.sl (r.1.closed.map Zs),vi r.1.now,.sl (r.1.scans.map ZF),.sl (r.1.skip.map cInt),vi r.1.made],vi r.2],fun r=>[],fun H=>by replace H:=H0 H; unfold ZDF at H; exact Zh Tryz.func23 rfl Tryz.ntmps23 Tryz.results23 fun Q hQ hQn=>wk3⟩
set_option linter.unusedSimpArgs false
set_option linter.unusedSectionVars false
theorem LegD.fit {l:YLeg} (h:LegD l):Zna l:=⟨by rw [(Zjv _ h.from_).2]; decide,by rw [(Zjv _ h.to_).2]; decide⟩
theorem LegD.ok {l:YLeg} (h:LegD l):Za3 l=some true:=by
 have h1:=h.start
 have h2:=h.takes
 have h3:=h.days
 have h4:=h.room
 unfold Za3
 rw [(Zjv _ h.from_).1,(Zjv _ h.to_).1]
 simp only [Option.bind_some,cond_true,decide_eq_false h.ne,Bool.not_false,ZbH,decide_eq_true h1.1,decide_eq_true h1.2,decide_eq_true h2.1,decide_eq_true h2.2,decide_eq_true h3.1,decide_eq_true h3.2,decide_eq_true h4.1,decide_eq_true h4.2,Bool.and_self]
theorem NetD.fit {n:Za} (h:NetD n):Z0 n:=⟨by have:=h.len; omega,by rcases h.off with e | ⟨a,b,e,_⟩ <;> rw [e] <;> simp,fun l hl=>(h.leg l hl).fit⟩
theorem NetD.ok {n:Za} (h:NetD n):Zi n=some true:=by
 have hlen:=h.len
 have hch:=h.change
 have e0:Tot (Zj (ZD n) NN 0) fun r=>r=.inl ():=by
  refine Tot.loop (fun (k:Nat) (s:Int)=>∃ i:Nat,s=(i:Int)∧i+k=n.legs.length) (fun k s hs=>?_) NN n.legs.length _ ⟨0,rfl,by omega⟩ (by unfold NN; omega)
  obtain ⟨i,rfl,hk⟩:=hs
  unfold ZD
  refine Tot.cond (fun hd=>?_) fun hd=>Tot.ret rfl
  have hlt:=of_decide_eq_true hd
  have hwi:w64 ((i:Int)+1)=((i+1:Nat):Int):=by rw [Zo (by omega)]; omega
  obtain ⟨x,hx,hm⟩:=Zew (xs:=n.legs) (i:=(i:Int)) ⟨by omega,hlt⟩
  rw [hx,Option.bind_some,(h.leg x hm).ok,Option.bind_some,hwi]
  exact Tot.cond (fun e=>by cases e) fun _=>Tot.ret ⟨k-1,by omega,i+1,rfl,by omega⟩
 have e1:Tot (Zj (ZE n) NN 0) fun r=>r=.inl ():=by
  rcases h.off with e | ⟨a,b,e,g1,g2,g3⟩
  ·refine Tot.loop (fun (k:Nat) (s:Int)=>s=0) (fun k s hs=>?_) NN 0 _ rfl (by unfold NN; omega)
   subst hs
   unfold ZE
   rw [e]
   exact Tot.cond (fun hd=>by simp at hd) fun hd=>Tot.ret rfl
  ·refine Tot.loop (fun (k:Nat) (s:Int)=>(s=0∧k=2)∨(s=1∧k=1)∨(s=2∧k=0)) (fun k s hs=>?_) NN 2 _ (.inl ⟨rfl,rfl⟩) (by unfold NN; omega)
   unfold ZE
   rw [e]
   have x0:getI [a,b] 0=some a:=rfl
   have x1:getI [a,b] 1=some b:=rfl
   have w1:w64 (0+1)=1:=by decide
   have w2:w64 (1+1)=2:=by decide
   have w0:w64 (1-1)=0:=by decide
   rcases hs with ⟨rfl,rfl⟩ | ⟨rfl,rfl⟩ | ⟨rfl,rfl⟩
   ·refine Tot.cond (fun _=>?_) fun hd=>by simp at hd
    rw [x0,Option.bind_some,ZbH,Option.bind_some,decide_eq_true g1,decide_eq_true (show a≤60 by omega),w1]
    exact Tot.cond (fun e=>by cases e) fun _=>Tot.cond (fun e=>by simp at e) fun _=>Tot.ret ⟨1,by omega,.inr (.inl ⟨rfl,rfl⟩)⟩
   ·refine Tot.cond (fun _=>?_) fun hd=>by simp at hd
    rw [x1,Option.bind_some,ZbH,Option.bind_some,decide_eq_true (show 0≤b by omega),decide_eq_true g3,w2,w0,x0,Option.bind_some,Option.bind_some]
    exact Tot.cond (fun e=>by cases e) fun _=>Tot.cond (fun _=>Tot.cond (fun e=>by have:=of_decide_eq_true e; omega) fun _=>Tot.ret ⟨0,by omega,.inr (.inr ⟨rfl,rfl⟩)⟩) fun e=>by simp at e
   ·exact Tot.cond (fun hd=>by simp at hd) fun hd=>Tot.ret rfl
 obtain ⟨_,r0,rfl⟩:=e0
 obtain ⟨_,r1,rfl⟩:=e1
 unfold Zi
 rw [r0,Option.bind_some]
 simp only [ZY]
 rw [r1,Option.bind_some]
 simp only [ZY]
 have ho:(n.off.length:Int)≤10:=by rcases h.off with e | ⟨a,b,e,_⟩ <;> rw [e] <;> simp
 rw [decide_eq_true (show (n.legs.length:Int)≤20 by omega),decide_eq_true ho,ZbH,decide_eq_true hch.1,decide_eq_true hch.2]
 rfl
theorem Zso {n:Za} (h:NetD n) {skip:List Int} (hs:skip.length≤50):ZcM n skip=some ((⟨n,[],[],[],0,[],skip,0⟩:Zd),true):=by
 have hf:WFit (⟨n,[],[],[],0,[],skip,0⟩:Zd):=⟨h.fit,by simp,by simp,by simp,by simp,by simp only; omega,fun o ho=>by cases ho⟩
 have hv:ZcB (⟨n,[],[],[],0,[],skip,0⟩:Zd)=true:=by
  unfold ZcB ZZ Zjg
  simp only [h.ok,Option.getD_some]
  simp [allI]
  omega
 unfold ZcM
 rw [Zj4 hf,Option.bind_some,Zge hf,hv]
 rfl
section
variable {n:Za} (hn:NetD n)
include hn
theorem Zp7 {c:ZA} (h:Zc0 c):Tot (Zc6 c n) fun r=>Zc0 r.2:=by
 have hl:=hn.len
 unfold Zc6
 refine Tot.rho (Tot.bind (Zaa h _) fun y1 h1=>Tot.rho (Tot.bind (Zaa h1.2 10) fun y2 h2=>?_))
 obtain ⟨y,hy,_⟩:=Zew (xs:=n.legs) (i:=y1.1) ⟨h1.1.1,h1.1.2.1 (by omega)⟩
 refine Tot.bind (Zly hn.fit hy _) fun y3 _=>Tot.cond (fun _=>Tot.rho (Tot.bind (Zfg h2.2 4) fun y4 h4=>Tot.cond (fun _=>Tot.ret h4) fun _=>Tot.ret h4)) fun _=>Tot.ret h2.2
theorem ZnT {c:ZA} (h:Zc0 c):Tot (Zc7 c n) fun r=>Zc0 r.2.1∧r.2.2=n:=by
 have hl:=hn.len
 unfold Zc7
 refine Tot.rho (Tot.bind (Zaa h _) fun y1 h1=>Tot.rho (Tot.bind (Zaa h1.2 10) fun y2 h2=>?_))
 obtain ⟨y,hy,_⟩:=Zew (xs:=n.legs) (i:=y1.1) ⟨h1.1.1,h1.1.2.1 (by omega)⟩
 refine Tot.bind (Zly hn.fit hy _) fun y3 _=>Tot.cond (fun _=>Tot.rho (Tot.bind (Zfg h2.2 4) fun y4 h4=>Tot.cond (fun _=>Tot.ret ⟨h4,rfl⟩) fun _=>Tot.ret ⟨h4,rfl⟩)) fun _=>Tot.ret ⟨h2.2,rfl⟩
theorem Zn2 {c:ZA} (h:Zc0 c) {w:Zd} (hw:w.network=n):Tot (Zbp c w) fun r=>Zc0 r.2:=by
 unfold Zbp
 rw [hw]
 refine Tot.cond (fun hd=>Tot.rho (Tot.bind (Zfg h 4) fun y1 h1=>Tot.cond (fun _=>Tot.drw (Tot.rho (Tot.bind (Zaa h1 _) fun y2 h2=>Tot.get h2.1.1 (h2.1.2.1 (of_decide_eq_true hd)) fun x _ _=>Tot.ret h2.2))) fun _=>Tot.rho (Tot.bind (Zp7 hn h1) fun y4 h4=>Tot.ret h4))) fun _=>Tot.rho (Tot.bind (Zp7 hn h) fun y4 h4=>Tot.ret h4)
theorem Zq6 {c:ZA} (h:Zc0 c) {w:Zd} (hw:w.network=n):Tot (ZdI c w) fun r=>Zc0 r.2.1∧r.2.2=w:=by
 subst hw
 unfold ZdI
 refine Tot.cond (fun hd=>Tot.rho (Tot.bind (Zfg h 4) fun y1 h1=>Tot.cond (fun _=>Tot.drw (Tot.rho (Tot.bind (Zaa h1 _) fun y2 h2=>Tot.get h2.1.1 (h2.1.2.1 (of_decide_eq_true hd)) fun x _ _=>Tot.ret ⟨h2.2,rfl⟩))) fun _=>Tot.rho (Tot.bind (ZnT hn h1) fun y4 h4=>Tot.ret ⟨h4.1,?_⟩))) fun _=>Tot.rho (Tot.bind (ZnT hn h) fun y4 h4=>Tot.ret ⟨h4.1,?_⟩)
 ·simp only [h4.2]
 ·simp only [h4.2]
theorem Zvt {c:ZA} (h:Zc0 c):Tot (Zbr c n) fun r=>Zc0 r.2:=by
 have hl:=hn.len
 have hp:0<(Zb n).length:=by
  have:=(Zf0 (n:=n) (List.getElem_mem (show 0<n.legs.length by omega))).1
  exact List.length_pos_of_mem this
 unfold Zbr
 rw [(Zac hn.fit).2,Option.bind_some]
 refine Tot.rho (Tot.bind (Zfg h 9) fun y2 h2=>Tot.cond (fun _=>Tot.rho (Tot.bind (ZkB h2) fun y3 h3=>Tot.ret h3.2)) fun _=>Tot.rho (Tot.bind (Zaa h2 _) fun y4 h4=>Tot.get h4.1.1 (h4.1.2.1 (by omega)) fun x _ _=>Tot.ret h4.2))
end
theorem WFit.set {w:Zd} (h:WFit w) {i:Nat} {x:Zf} {o:Zf} (ho:o∈w.orders) (hx:x.way=o.way):∀ y∈w.orders.set i x,y.way.length≤1048576:=fun y hy=>by
 rcases List.mem_or_eq_of_mem_set hy with hy | rfl
 ·exact h.way y hy
 ·rw [hx]; exact h.way o ho
def CntW (K:Nat) (w:Zd):Prop:=∃ u s:Nat,w.orders.length+u+s≤K∧∀ o∈w.orders,o.way.length≤6*(1+min u s)∧Zm o≤((6*min u (s+1):Nat):Int)
structure WDS (n:Za) (K:Nat) (w:Zd):Prop where
 ok:WOk w
 net:w.network=n
 story:Zfn w
 cnt:CntW K w
theorem ZoH {n:Za} (h:NetD n):(Zb n).length≤7:=by
 have:=ZgM (xs:=Zb n) (ys:=Zik) (Zje n) fun p hp=>by
  have hp':p∈(ZdQ n).foldl insS []:=hp
  rcases Zhk.1 hp' with hp | hp
  ·unfold ZdQ at hp
   obtain ⟨l,hl,hpl⟩:=List.mem_flatMap.1 hp
   have:=h.leg l hl
   rcases List.mem_cons.1 hpl with rfl | hpl
   ·exact this.from_
   ·rw [List.mem_singleton.1 hpl]; exact this.to_
  ·cases hp
 exact this
theorem CntW.mono {K:Nat} {w:Zd} (h:CntW K w):CntW (K+1) w:=by
 obtain ⟨u,s,h1,h2⟩:=h
 exact ⟨u,s,by omega,h2⟩
theorem WDS.mono {n:Za} {K:Nat} {w:Zd} (h:WDS n K w):WDS n (K+1) w:=⟨h.ok,h.net,h.story,h.cnt.mono⟩
theorem ZmQ {n:Za} (h7:(Zb n).length≤7) {K:Nat} {w x:Zd} (hw:WOk w) (hn:w.network=n) (h:CntW K w) (hl:x.orders.length=w.orders.length) (hr:∀ (i:Nat) (o:Zf),w.orders[i]?=some o→∃ o',x.orders[i]?=some o'∧Zgf w.network o o'):CntW (K+1) x:=by
 obtain ⟨hP,_⟩:=Zcv hw
 obtain ⟨u,s,h1,h2⟩:=h
 refine ⟨u,s+1,by omega,fun o' ho'=>?_⟩
 obtain ⟨i,hi,rfl⟩:=List.getElem_of_mem ho'
 have hiw:i<w.orders.length:=by omega
 have ho:=List.getElem?_eq_getElem hiw
 obtain ⟨o2,e,hR⟩:=hr i _ ho
 rw [List.getElem?_eq_getElem hi] at e
 have e:=Option.some.inj e
 obtain ⟨b1,b2⟩:=h2 _ (List.getElem_mem hiw)
 have hc:=ZcO hP ho
 rw [e]
 rcases hR with rfl | ⟨more,hm,rfl⟩
 ·exact ⟨by omega,by omega⟩
 ·rw [hn] at hm
  refine ⟨?_,?_⟩
  ·show (ZT w.orders[i]++more).length≤_
   rw [List.length_append,hc.2.2.1]; omega
  ·show Zm w.orders[i]≤_
   omega
theorem ZvV {K:Nat} {w:Zd} (hw:WOk w) (h:CntW K w) {t:Int} (hu:w.now≤t) (hm:t≤100000):CntW (K+1) (advV w t):=by
 obtain ⟨a,b,_⟩:=Zrn hw hu hm
 obtain ⟨hP,_⟩:=Zcv a
 obtain ⟨u,s,h1,h2⟩:=h
 refine ⟨u+1,s,by have:=b.len; omega,fun o' ho'=>?_⟩
 obtain ⟨i,hi,rfl⟩:=List.getElem_of_mem ho'
 have hi':=List.getElem?_eq_getElem hi
 have hiw:i<w.orders.length:=by rw [← b.len]; exact hi
 have hs:=b.ord i _ _ (List.getElem?_eq_getElem hiw) hi'
 obtain ⟨b1,b2⟩:=h2 _ (List.getElem_mem hiw)
 have hc:=ZcO hP hi'
 rw [hs.way] at *
 exact ⟨by omega,by omega⟩
/-! What a change of a world can not be. -/
theorem Zr4 {n:Za} {o x:Zf} (h1:x.way=o.way) (h2:x.gone=o.gone) (h3:x.from_=o.from_):ZfY n x=ZfY n o:=by unfold ZfY; rw [h1,h2,h3]
theorem Zsm {n:Za} {now:Int} {o x:Zf} (ho:Zfi n o now) (hx:Zfi n x now) (h1:x.way=o.way) (h2:x.gone=o.gone) (h3:x.from_=o.from_) (h4:x.to_=o.to_):x.state=o.state:=by
 have hh:=Zr4 (n:=n) h1 h2 h3
 rcases ho.cases with ⟨a1,_,a3,_,a5⟩ | ⟨a1,_,_,t,b1,b2,b3⟩ | ⟨a1,_,a3,a4,_,_⟩ <;> rcases hx.cases with ⟨c1,_,c3,_,c5⟩ | ⟨c1,_,_,t',d1,d2,d3⟩ | ⟨c1,_,c3,c4,_,_⟩
 ·rw [a1,c1]
 ·rw [h1,h2] at d1; have:=a5 t' d1; omega
 ·rw [hh,h4] at c3; exact absurd c3 a3
 ·have:=c5 t (by rw [h1,h2]; exact b1); omega
 ·rw [a1,c1]
 ·have:=(List.getElem?_eq_some_iff.1 b1).1; rw [h1,h2] at c4; omega
 ·rw [hh,h4] at c3; exact absurd a3 c3
 ·rw [h1,h2] at d1; have:=(List.getElem?_eq_some_iff.1 d1).1; omega
 ·rw [a1,c1]
theorem Zuu {n:Za} {now:Int} {o x:Zf} (hw:ZiK n o) (ho:Zfi n o now) (hx:Zfi n x now) (h1:x.way=o.way) (h2:x.gone=w64 (o.gone+1)) (h3:x.gone≤x.way.length):False:=by
 have hg:=hw.gone
 have hl:=ZnY hw
 rw [h2,h1,Zo (by omega)] at h3
 have hlt:o.gone.toNat<o.way.length:=by omega
 have hgo:=List.getElem?_eq_getElem hlt
 have hp:=hx.past _ (by rw [h2,Zo (by omega)]; omega) (by rw [h2,Zo (by omega),h1,show (o.gone+1-1).toNat=o.gone.toNat by omega]; exact hgo)
 have ht:=hw.trip _ (List.getElem_mem hlt)
 rcases ho.cases with ⟨_,_,_,_,a5⟩ | ⟨_,_,_,t,b1,_,b3⟩ | ⟨_,_,_,a4,_,_⟩
 ·have:=a5 _ hgo; omega
 ·rw [hgo] at b1; rw [Option.some.inj b1] at hp; omega
 ·omega
theorem Zsl {n:Za} {now:Int} {o x:Zf} (hw:ZiK n o) (ho:Zfi n o now) (hx:Zfi n x now) (h1:x.way=o.way) (h2:x.gone=o.gone) (h3:x.state=o.state) (h4:x.ended=w64 (o.ended+1)):False:=by
 have hg:=hw.gone
 rcases ho.cases with ⟨a1,_,_,a4,_⟩ | ⟨a1,_,a4,_⟩ | ⟨a1,_,_,a4,a5,a6⟩
 ·rcases hx.cases with ⟨_,_,_,c4,_⟩ | ⟨c1,_⟩ | ⟨c1,_⟩
  ·rw [h4,a4,Zo (by omega)] at c4; omega
  ·omega
  ·omega
 ·rcases hx.cases with ⟨c1,_⟩ | ⟨_,_,c4,_⟩ | ⟨c1,_⟩
  ·omega
  ·rw [h4,a4,Zo (by omega)] at c4; omega
  ·omega
 ·rcases hx.cases with ⟨c1,_⟩ | ⟨c1,_⟩ | ⟨_,_,_,_,c5,c6⟩
  ·omega
  ·omega
  ·have hlt:(o.gone-1).toNat<o.way.length:=by omega
   have hgo:=List.getElem?_eq_getElem hlt
   have e1:=a6 _ hgo
   have e2:=c6 _ (by rw [h1,h2]; exact hgo)
   have ht:=hw.trip _ (List.getElem_mem hlt)
   rw [h4,Zo (by omega)] at e2
   omega
theorem Ztc {w:Zd} {K k:Nat} {o x:Zf} (hs:Zfn w) (hc:CntW K w) (ho:w.orders[k]?=some o) (h1:x.way=o.way) (h2:x.from_=o.from_∧x.to_=o.to_∧x.at_=o.at_) (h3:x.state=o.state∧x.gone=o.gone∧x.ended=o.ended):
 Zfn (⟨w.network,w.orders.set k x,w.bookings,w.closed,w.now,w.scans,w.skip,w.made⟩:Zd)∧CntW K (⟨w.network,w.orders.set k x,w.bookings,w.closed,w.now,w.scans,w.skip,w.made⟩:Zd):=by
 have hkl:=(List.getElem?_eq_some_iff.1 ho).1
 refine ⟨⟨fun s hm=>by simp only [List.length_set]; exact hs.thing s hm,fun i y hy=>?_⟩,?_⟩
 ·have hy':(w.orders.set k x)[i]?=some y:=hy
  show (ofT _ w.scans).Sublist (Zdr w.network i y)
  by_cases hik:k=i
  ·subst hik
   rw [List.getElem?_set_self hkl] at hy'
   obtain rfl:=Option.some.inj hy'
   have e:Zdr w.network k x=Zdr w.network k o:=by
    unfold Zdr
    rw [h1,h2.1,h2.2.1,h2.2.2,h3.1,h3.2.1,h3.2.2]
   rw [e]; exact hs.sub k o ho
  ·rw [List.getElem?_set_ne hik] at hy'
   exact hs.sub i y hy'
 ·obtain ⟨u,s,c1,c2⟩:=hc
  refine ⟨u,s,by simp only [List.length_set]; exact c1,fun y hy=>?_⟩
  rcases List.mem_or_eq_of_mem_set hy with hy | rfl
  ·exact c2 y hy
  ·have:=c2 o (List.mem_of_getElem? ho)
   have e:Zm y=Zm o:=by unfold Zm; rw [h3.1,h3.2.1]
   rw [h1,e]; exact this
section
variable {n:Za} (hn:NetD n)
include hn
theorem Zn6 {K:Nat} {w:Zd} (hw:WDS n K w) (from_ to_:ByteArray) (service weight:Int):Tot (ZaC w from_ to_ service weight) fun r=>WDS n (K+1) r.1:=by
 obtain ⟨r,_,e,hr⟩:=Zn7 hw.ok from_ to_ service weight
 refine Tot.of e ?_
 rcases hr with ⟨rfl,_⟩ | ⟨way,ys,due,hT⟩
 ·exact hw.mono
 ·rw [hT.res]
  have hnet:=hw.net
  have h7:=ZoH hn
  have hR:=ZfW hw.ok.fit.net hw.ok.fit.bookings hw.ok.fit.closed hT.room
  have hfew:=ZtG hw.ok.fit.net hR
  rw [hnet] at hfew
  refine ⟨hT.ok,hw.net,Zrk hw.story ys,?_⟩
  obtain ⟨u,s,h1,h2⟩:=hw.cnt
  refine ⟨u,s,?_,fun o ho=>?_⟩
  ·show (w.orders++[newO w from_ to_ service weight due way]).length+u+s≤K+1
   rw [List.length_append]; simp only [List.length_cons,List.length_nil]; omega
  ·have ho':o∈w.orders++[newO w from_ to_ service weight due way]:=ho
   rcases List.mem_append.1 ho' with ho' | ho'
   ·exact h2 o ho'
   ·obtain rfl:=List.mem_singleton.1 ho'
    refine ⟨?_,?_⟩
    ·show way.length≤_; omega
    ·show (if (1:Int)=2 then (0:Int)+1 else 0)≤_
     rw [if_neg (by omega)]; omega
theorem Ztg {K:Nat} {w:Zd} (hw:WDS n K w) (t:Ze):Tot (Zbn w t) fun r=>WDS n (K+1) r.1:=by
 obtain ⟨r,_,e,hr⟩:=ZkI hw.ok t
 refine Tot.of e ?_
 rcases hr with rfl | ⟨x,rfl,hS⟩
 ·exact hw.mono
 ·have hr:∀ (i:Nat) (o:Zf),w.orders[i]?=some o→∃ o',x.orders[i]?=some o'∧Zgf w.network o o':=fun i o ho=>by
   obtain ⟨o',a,_,c⟩:=hS.ord i o ho
   exact ⟨o',a,c⟩
  exact ⟨hS.ok,hS.same.network.trans hw.net,Zg4 hw.ok hw.story hS.same.network hS.same.scans hS.same.len hr,ZmQ (ZoH hn) hw.ok hw.net hw.cnt hS.same.len hr⟩
theorem ZqQ {K:Nat} {w:Zd} (hw:WDS n K w):Tot (ZaD w) fun r=>WDS n (K+1) r.1:=by
 obtain ⟨x,m,_,e,hR⟩:=ZqR hw.ok
 refine Tot.of e ?_
 have hr:∀ (i:Nat) (o:Zf),w.orders[i]?=some o→∃ o',x.orders[i]?=some o'∧Zgf w.network o o':=fun i o ho=>by
  obtain ⟨o',a,c,_⟩:=hR.ord i o ho
  exact ⟨o',a,c⟩
 exact ⟨hR.ok,hR.same.network.trans hw.net,Zg4 hw.ok hw.story hR.same.network hR.same.scans hR.same.len hr,ZmQ (ZoH hn) hw.ok hw.net hw.cnt hR.same.len hr⟩
theorem ZtO {K:Nat} {w:Zd} (hw:WDS n K w) (u:Int):Tot (Za0 w u) (WDS n (K+1)):=by
 refine Tot.of (Zrp hw.ok.fit u) ?_
 split
 ·rename_i h
  obtain ⟨a,b,_⟩:=Zrn hw.ok h.2.1 h.2.2
  exact ⟨a,b.network.trans hw.net,ZmB hw.ok hw.story h.2.2,ZvV hw.ok hw.cnt h.2.1 h.2.2⟩
 ·exact hw.mono
theorem ZtL {c:ZA} (h:Zc0 c) {K:Nat} {w:Zd} (hw:WDS n K w):Tot (Zed c w) fun r=>WDS n (K+1) r.1∧Zc0 r.2:=by
 have hnet:=hw.net
 unfold Zed
 refine Tot.rho (Tot.bind (Zaa h 6) fun y1 h1=>?_)
 rw [hnet]
 have hc:=h1.2
 refine Tot.cond (fun _=>Tot.cond (fun _=>?_) fun _=>Tot.cond (fun _=>?_) fun _=>Tot.cond (fun _=>?_) fun _=>?_) fun _=>Tot.cond (fun _=>Tot.cond (fun _=>?_) fun _=>Tot.cond (fun _=>?_) fun _=>Tot.cond (fun _=>?_) fun _=>?_) fun _=>Tot.cond (fun _=>?_) fun _=>Tot.cond (fun _=>?_) fun _=>Tot.cond (fun _=>?_) fun _=>?_
 any_goals exact Tot.drw (Tot.rho (Tot.bind (Zvt hn hc) fun y2 h2=>Tot.rho (Tot.bind (Zvt hn h2) fun y3 h3=>Tot.rho (Tot.bind (Zaa h3 3) fun y4 h4=>Tot.rho (Tot.bind (Zaa h4.2 4000) fun y5 h5=>Tot.bind (Zn6 hn hw _ _ _ _) fun y6 h6=>Tot.ret ⟨h6,h5.2⟩)))))
 any_goals exact Tot.drw (Tot.rho (Tot.bind (Zn2 hn hc hnet) fun y7 h7=>Tot.bind (Ztg hn hw _) fun y8 h8=>Tot.ret ⟨h8,h7⟩))
 any_goals exact Tot.bind (ZqQ hn hw) fun y9 h9=>Tot.ret ⟨h9,hc⟩
 all_goals exact Tot.drw (Tot.rho (Tot.bind (Zaa hc 40) fun y10 h10=>Tot.bind (ZtO hn hw _) fun y11 h11=>Tot.ret ⟨h11,h10.2⟩))
theorem newS {skip:List Int} (hs:skip.length≤50) (K:Nat):WDS n K (⟨n,[],[],[],0,[],skip,0⟩:Zd):=by
 have hf:WFit (⟨n,[],[],[],0,[],skip,0⟩:Zd):=⟨hn.fit,by simp,by simp,by simp,by simp,by simp only; omega,fun o ho=>by cases ho⟩
 have hv:ZcB (⟨n,[],[],[],0,[],skip,0⟩:Zd)=true:=by
  unfold ZcB ZZ Zjg
  simp only [hn.ok,Option.getD_some]
  simp [allI]
  omega
 exact ⟨⟨hf,hv⟩,rfl,⟨fun s hm=>(by cases hm),fun i o ho=>(by have ho':([]:List Zf)[i]?=some o:=ho; simp at ho')⟩,0,0,by simp,fun o ho=>by cases ho⟩
end
theorem ZrK {c:ZA} (h:Zc0 c) (most:Int) (hm:most≤9):Tot (ZdH c most) fun r=>∃ n,NetD n∧WDS n 8 r.1∧Zc0 r.2:=by
 unfold ZdH
 refine Tot.rho (Tot.bind (Zwx h) fun y1 h1=>?_)
 obtain ⟨h1,hc1⟩:=h1
 refine Tot.bind (P:=fun o=>Zc0 ⟨o.1,o.2.1,o.2.2.1⟩∧NetD ⟨o.2.2.2,y1.1.off,y1.1.change⟩) ?_ fun o0 ho0=>?_
 ·have hlen:=h1.len
  refine Tot.loop (fun (k:Nat) (s:Int × (List YB8) × Int × Int × (List YLeg))=>∃ i:Nat,s.1=(i:Int)∧i+k=s.2.2.2.2.length∧Zc0 ⟨s.2.1,s.2.2.1,s.2.2.2.1⟩∧NetD ⟨s.2.2.2.2,y1.1.off,y1.1.change⟩) (fun k s hs=>?_) NN y1.1.legs.length _ ⟨0,rfl,by simp,hc1,h1⟩ (by unfold NN; omega)
  obtain ⟨i,hi,hk,hc,hd⟩:=hs
  have hl2:=hd.len
  simp only at hl2
  unfold ZeX
  rw [hi]
  refine Tot.cond (fun hlt=>?_) fun _=>Tot.ret ⟨hc,hd⟩
  have hlt:=of_decide_eq_true hlt
  have hwi:w64 ((i:Int)+1)=((i+1:Nat):Int):=by rw [Zo (by omega)]; omega
  rw [hwi]
  refine Tot.rho (Tot.bind (Zfg hc 2) fun y2 h2=>Tot.cond (fun _=>Tot.drw (Tot.rho (Tot.bind (Zaa h2 9) fun y3 h3=>?_))) fun _=>Tot.ret ⟨k-1,by omega,i+1,rfl,by simp only; omega,h2,hd⟩)
  refine Tot.get (by omega) hlt fun x hx _=>Tot.ret ⟨k-1,by omega,i+1,rfl,by simp only [List.length_set]; omega,h3.2,?_⟩
  have b3:=h3.1.2.1 (by omega)
  have b0:=h3.1.1
  have hr:w64 (2000+w64 (1000*y3.1))=2000+1000*y3.1:=by rw [Zo (n:=1000*y3.1) (by omega),Zo (by omega)]
  refine ⟨by simp only [List.length_set]; exact hl2,fun l hl=>?_,hd.off,hd.change⟩
  rcases List.mem_or_eq_of_mem_set hl with hl | rfl
  ·exact hd.leg l hl
  ·obtain ⟨a1,a2,a3,a4,a5,a6,a7⟩:=hd.leg x hx
   exact ⟨a1,a2,a3,a4,a5,a6,by simp only [hr]; omega⟩
 ·refine Tot.rho (Tot.bind (Zaa ho0.1 6) fun y5 h5=>?_)
  have b5:=h5.1.2.1 (by omega)
  have b5':=h5.1.1
  refine Tot.bind (P:=fun o=>Zc0 ⟨o.1,o.2.1,o.2.2.1⟩∧o.2.2.2.length≤50) ?_ fun o1 ho1=>?_
  ·refine Tot.loop (fun (k:Nat) (s:Int × (List YB8) × Int × Int × (List Int))=>s.1=(k:Int)∧s.2.2.2.2.length+k≤6∧Zc0 ⟨s.2.1,s.2.2.1,s.2.2.2.1⟩) (fun k s hs=>?_) NN y5.1.toNat _ ⟨by simp only; omega,by simp only [List.length_nil]; omega,h5.2⟩ (by unfold NN; omega)
   obtain ⟨hk,hl,hc⟩:=hs
   unfold ZeY
   refine Tot.cond (fun hd=>?_) fun _=>Tot.ret ⟨hc,by simp only; omega⟩
   have hd:=of_decide_eq_true hd
   have hwi:w64 (s.1-1)=((k-1:Nat):Int):=by rw [Zo (by omega)]; omega
   exact Tot.rho (Tot.bind (Zaa hc 25) fun y6 h6=>Tot.chk (Zfo (by simp only [List.length_cons,List.length_nil]; omega) (by omega)) (Tot.ret ⟨k-1,by omega,hwi,by simp only [List.length_append,List.length_cons,List.length_nil]; omega,h6.2⟩))
  ·refine Tot.frz ?_
   rw [Zso ho0.2 ho1.2,Option.bind_some]
   refine Tot.rho (Tot.bind (Zaa ho1.1 most) fun y8 h8=>?_)
   have b8:=h8.1
   have b8':y8.1≤8:=by
    rcases Int.lt_or_le 0 most with hp | hp
    ·have:=b8.2.1 hp; omega
    ·have:=b8.2.2 hp; omega
   refine Tot.bind (P:=fun o=>Zc0 ⟨o.1,o.2.1,o.2.2.1⟩∧WDS ⟨o0.2.2.2,y1.1.off,y1.1.change⟩ 8 (⟨(⟨o.2.2.2.2.2.2.1,o.2.2.2.2.2.2.2.1,o.2.2.2.1⟩:Za),o.2.2.2.2.2.2.2.2.1,o.2.2.2.2.2.2.2.2.2.1,o.2.2.2.2.2.2.2.2.2.2.1,o.2.2.2.2.1,o.2.2.2.2.2.2.2.2.2.2.2.1,o.2.2.2.2.2.2.2.2.2.2.2.2,o.2.2.2.2.2.1⟩:Zd)) ?_ fun o2 ho2=>Tot.ret ⟨_,ho0.2,ho2.2,ho2.1⟩
   refine Tot.loop (fun (k:Nat) (s2:Int × (List YB8) × Int × Int × Int × Int × Int × (List YLeg) × (List Int) × (List Zf) × (List Zc) × (List Ze) × (List Zk) × (List Int))=>s2.1=(k:Int)∧k≤8∧Zc0 ⟨s2.2.1,s2.2.2.1,s2.2.2.2.1⟩∧WDS ⟨o0.2.2.2,y1.1.off,y1.1.change⟩ (8-k) (⟨(⟨s2.2.2.2.2.2.2.2.1,s2.2.2.2.2.2.2.2.2.1,s2.2.2.2.2.1⟩:Za),s2.2.2.2.2.2.2.2.2.2.1,s2.2.2.2.2.2.2.2.2.2.2.1,s2.2.2.2.2.2.2.2.2.2.2.2.1,s2.2.2.2.2.2.1,s2.2.2.2.2.2.2.2.2.2.2.2.2.1,s2.2.2.2.2.2.2.2.2.2.2.2.2.2,s2.2.2.2.2.2.2.1⟩:Zd)) (fun k s hs=>?_) NN y8.1.toNat _ ⟨by simp only; omega,?_,h8.2,?_⟩ (by unfold NN; omega)
   ·obtain ⟨hk,hkl,hc,hw⟩:=hs
    unfold ZeZ
    refine Tot.cond (fun hd=>?_) fun hd=>Tot.ret ⟨hc,?_⟩
    ·have hd:=of_decide_eq_true hd
     have hwi:w64 (s.1-1)=((k-1:Nat):Int):=by rw [Zo (by omega)]; omega
     refine Tot.frz (Tot.rho (Tot.bind (ZtL ho0.2 hc hw) fun y9 h9=>Tot.ret ⟨k-1,by omega,hwi,by omega,h9.2,?_⟩))
     have:=h9.1
     rw [show 8-k+1=8-(k-1) by omega] at this
     exact this
    ·have hd:=of_decide_eq_false hd
     have hk0:k=0:=by omega
     rw [hk0] at hw
     exact hw
   ·omega
   ·exact newS ho0.2 ho1.2 _
theorem ZtP {c:ZA} (h:Zc0 c):Tot (Zee c) fun r=>(NetD r.1.network∧WFit r.1∧(ZcB r.1=true→Zfn r.1∧CntW 8 r.1))∧Zc0 r.2:=by
 unfold Zee
 refine Tot.rho (Tot.bind (ZrK h 9 (by omega)) fun y1 h1=>?_)
 obtain ⟨n,hn,hw,hc⟩:=h1
 have hf:=hw.ok.fit
 have hcl:=hw.ok.parts.2.2.1
 have hnd:NetD y1.1.network:=by rw [hw.net]; exact hn
 have hfe:Zfn y1.1∧CntW 8 y1.1:=⟨hw.story,hw.cnt⟩
 refine Tot.rho (Tot.bind (Zfg hc 2) fun y2 h2=>Tot.cond (fun _=>Tot.ret ⟨⟨hnd,hf,fun _=>⟨⟨hfe.1.thing,hfe.1.sub⟩,hfe.2⟩⟩,h2⟩) fun _=>Tot.cond (fun _=>Tot.ret ⟨⟨hnd,hf,fun _=>⟨⟨hfe.1.thing,hfe.1.sub⟩,hfe.2⟩⟩,h2⟩) fun hz=>?_)
 have hz:=of_decide_eq_false hz
 refine Tot.rho (Tot.bind (Zaa h2 _) fun y3 h3=>Tot.rho (Tot.bind (Zaa h3.2 13) fun y4 h4=>?_))
 have b3:=h3.1.2.1 (by omega)
 obtain ⟨o,ho,hm⟩:=Zew (xs:=y1.1.orders) (i:=y3.1) ⟨h3.1.1,b3⟩
 have hc4:=h4.2
 rw [ho]
 simp only [Option.bind_some]
 have hoi:=(Zdb ho).2
 have set:∀ (x:Zf),x.way=o.way→WFit (⟨y1.1.network,(y1.1.orders.set (Int.toNat y3.1) x),y1.1.bookings,y1.1.closed,y1.1.now,y1.1.scans,y1.1.skip,y1.1.made⟩:Zd):=fun x hx=>⟨hf.net,by simp only [List.length_set]; exact hf.orders,hf.bookings,hf.closed,hf.scans,hf.skip,hf.set hm hx⟩
 have hnat:getI y1.1.orders y3.1=some o:=ho
 have hSt:=hw.ok.state hoi
 have hWy:=hw.ok.way hoi
 have setF:∀ (x:Zf),x.way=o.way→(x.from_=o.from_∧x.to_=o.to_∧x.at_=o.at_)→(Zfi y1.1.network x y1.1.now→0≤x.gone→x.gone≤x.way.length→x.state=o.state∧x.gone=o.gone∧x.ended=o.ended)→(ZcB (⟨y1.1.network,(y1.1.orders.set (Int.toNat y3.1) x),y1.1.bookings,y1.1.closed,y1.1.now,y1.1.scans,y1.1.skip,y1.1.made⟩:Zd)=true→Zfn (⟨y1.1.network,(y1.1.orders.set (Int.toNat y3.1) x),y1.1.bookings,y1.1.closed,y1.1.now,y1.1.scans,y1.1.skip,y1.1.made⟩:Zd)∧CntW 8 (⟨y1.1.network,(y1.1.orders.set (Int.toNat y3.1) x),y1.1.bookings,y1.1.closed,y1.1.now,y1.1.scans,y1.1.skip,y1.1.made⟩:Zd)):=fun x hx hx2 hk hv=>by
  have hok:WOk (⟨y1.1.network,(y1.1.orders.set (Int.toNat y3.1) x),y1.1.bookings,y1.1.closed,y1.1.now,y1.1.scans,y1.1.skip,y1.1.made⟩:Zd):=⟨set x hx,hv⟩
  have hzi:(y1.1.orders.set (Int.toNat y3.1) x)[(Int.toNat y3.1)]?=some x:=by
   rw [List.getElem?_set_self (List.getElem?_eq_some_iff.1 hoi).1]
  obtain ⟨k1,k2,k3⟩:=hk (hok.state hzi) (hok.way hzi).gone.1 (hok.way hzi).gone.2
  exact Ztc hfe.1 hfe.2 hoi hx hx2 ⟨k1,k2,k3⟩
 have keep:∀ (a b:Int),WFit (⟨y1.1.network,y1.1.orders,y1.1.bookings,y1.1.closed,a,y1.1.scans,y1.1.skip,b⟩:Zd):=fun a b=>⟨hf.net,hf.orders,hf.bookings,hf.closed,hf.scans,hf.skip,hf.way⟩
 refine Tot.cond (fun _=>Tot.drw (Tot.rho (Tot.bind (Zaa hc4 5) fun y5 h5=>Tot.ret ⟨⟨hnd,set _ rfl,setF _ rfl ⟨rfl,rfl,rfl⟩ (fun h1 _ _=>⟨Zsm hSt h1 rfl rfl rfl rfl,rfl,rfl⟩)⟩,h5.2⟩))) fun _=>?_
 refine Tot.cond (fun _=>Tot.ret ⟨⟨hnd,set _ rfl,setF _ rfl ⟨rfl,rfl,rfl⟩ (fun h1 h2 h3=>(Zuu hWy hSt h1 rfl rfl h3).elim)⟩,hc4⟩) fun _=>?_
 refine Tot.cond (fun _=>Tot.drw (Tot.rho (Tot.bind (ZoY hc4 (by simp)) fun y10 h10=>Tot.ret ⟨⟨hnd,set _ rfl,setF _ rfl ⟨rfl,rfl,rfl⟩ (fun _ _ _=>⟨rfl,rfl,rfl⟩)⟩,h10.2⟩))) fun _=>?_
 refine Tot.cond (fun _=>Tot.ret ⟨⟨hnd,set _ rfl,setF _ rfl ⟨rfl,rfl,rfl⟩ (fun _ _ _=>⟨rfl,rfl,rfl⟩)⟩,hc4⟩) fun _=>?_
 refine Tot.cond (fun _=>Tot.drw (Tot.rho (Tot.bind (Zkm hc4 (by simp)) fun y14 h14=>Tot.ret ⟨⟨hnd,keep _ _,fun _=>⟨⟨hfe.1.thing,hfe.1.sub⟩,hfe.2⟩⟩,h14.2⟩))) fun _=>?_
 refine Tot.cond (fun _=>Tot.drw (Tot.rho (Tot.bind (Zaa hc4 _) fun y15 h15=>?_))) fun _=>?_
 ·have hb:=hf.bookings
  have hw1:w64 ((y1.1.bookings.length:Int)+1)=(y1.1.bookings.length:Int)+1:=Zo (by omega)
  have b15:=h15.1.2.1 (by rw [hw1]; omega)
  rw [hw1] at b15
  have b0:=h15.1.1
  refine Tot.chk (by unfold slOk; exact decide_eq_true (by omega)) (Tot.ret ⟨⟨hnd,⟨hf.net,hf.orders,?_,hf.closed,hf.scans,hf.skip,hf.way⟩,fun _=>⟨⟨hfe.1.thing,hfe.1.sub⟩,hfe.2⟩⟩,h15.2⟩)
  simp only [subL,List.length_take,List.length_drop]; omega
 refine Tot.cond (fun _=>Tot.drw (Tot.rho (Tot.bind (Zq6 hn hc4 hw.net) fun y16 h16=>?_))) fun _=>?_
 ·have e:=h16.2
  rw [e]
  refine Tot.chk (Zfo (by simp only [List.length_cons,List.length_nil]; omega) (by omega)) (Tot.ret ⟨⟨hnd,⟨hf.net,hf.orders,hf.bookings,?_,hf.scans,hf.skip,hf.way⟩,fun _=>⟨⟨hfe.1.thing,hfe.1.sub⟩,hfe.2⟩⟩,h16.1⟩)
  simp only [List.length_append,List.length_cons,List.length_nil]; omega
 refine Tot.cond (fun _=>Tot.ret ⟨⟨hnd,set _ rfl,setF _ rfl ⟨rfl,rfl,rfl⟩ (fun h1 _ _=>(Zsl hWy hSt h1 rfl rfl rfl rfl).elim)⟩,hc4⟩) fun _=>?_
 refine Tot.cond (fun _=>Tot.rho (Tot.bind (Zkm hc4 (by simp)) fun y19 h19=>Tot.ret ⟨⟨hnd,keep _ _,fun _=>⟨⟨hfe.1.thing,hfe.1.sub⟩,hfe.2⟩⟩,h19.2⟩)) fun _=>?_
 exact Tot.cond (fun _=>Tot.drw (Tot.rho (Tot.bind (Zkm hc4 (by simp)) fun y20 h20=>Tot.ret ⟨⟨hnd,set _ rfl,setF _ rfl ⟨rfl,rfl,rfl⟩ (fun _ _ _=>⟨rfl,rfl,rfl⟩)⟩,h20.2⟩))) fun _=>Tot.ret ⟨⟨hnd,hf,fun _=>⟨⟨hfe.1.thing,hfe.1.sub⟩,hfe.2⟩⟩,hc4⟩
theorem ZDI {code:List YB8} (hl:code.length≤4096) (hb:∀ x∈code,0≤x.v∧x.v≤255):Tot (ZDF code) fun r=>NetD r.1.network∧WFit r.1∧(ZcB r.1=true→Zfn r.1∧CntW 8 r.1):=by
 unfold ZDF
 exact Tot.bind (Zwy hl hb) fun y1 h1=>Tot.rho (Tot.bind (ZtP h1) fun y2 h2=>Tot.rho (Tot.bind (Zfg h2.2 9) fun y3 h3=>Tot.cond (fun _=>Tot.drw (Tot.rho (Tot.bind (Zkm h3 (by simp)) fun y4 _=>Tot.ret h2.1))) fun _=>Tot.drw (Tot.rho (Tot.bind (Zaa h3 200) fun y5 _=>Tot.ret h2.1))))
def Zdp (a:List Ze) (b:List Ze) (s0:Int):Option (Int ⊕ (Unit ⊕ Bool)):=
 cond (decide (s0<(a.length:Int)))
 ((getI a s0).bind fun y1=>
 (getI b s0).bind fun y2=>
 cond (!decide (y1=y2))
 (some (.inr (.inr false)))
 (some (.inl (w64 (s0+1)))))
 (some (.inr (.inl ())))
instance (a:List Ze) (b:List Ze):ZP (Zdp a b):=⟨fun s0=>(.sl (a.map Zs)::.sl (b.map Zs)::(U 10 (vi (a.length:Int)::vi s0::(U 12 [])))),fun s0=>[]⟩
def Za5 (a:List Ze) (b:List Ze):Option Bool:=
 cond (!decide ((a.length:Int)=(b.length:Int)))
 (some false)
 ((Zj (Zdp a b) NN 0).bind (ZY (fun o0=>
 some true) (fun r=>some r)))
instance (a:List Ze) (b:List Ze):CT Tryz.prog (Za5 a b):=⟨116,[.sl (a.map Zs),.sl (b.map Zs)],[],fun r=>vb r,fun r=>[],fun H=>by replace H:=H0 H; unfold Za5 at H; exact Zh Tryz.func116 rfl Tryz.ntmps116 Tryz.results116 fun Q hQ hQn=>wk3⟩
def ZdF (a:Zf) (b:Zf):Option Bool:=
 cond (decide (a.from_=b.from_))
 (cond (decide (a.to_=b.to_))
 (cond (decide (a.service=b.service))
 (cond (decide (a.weight=b.weight))
 (cond (decide (a.at_=b.at_))
 (cond (decide (a.due=b.due))
 ((Za5 a.way b.way).bind fun y1=>
 cond y1
 (cond (decide (a.gone=b.gone))
 (cond (decide (a.state=b.state))
 (cond (decide (a.place=b.place))
 (some (decide (a.ended=b.ended)))
 (some false))
 (some false))
 (some false))
 (some false))
 (some false))
 (some false))
 (some false))
 (some false))
 (some false))
 (some false)
instance (a:Zf) (b:Zf):CT Tryz.prog (ZdF a b):=⟨112,[.ag (Zw a),.ag (Zw b)],[],fun r=>vb r,fun r=>[],fun H=>by replace H:=H0 H; unfold ZdF at H; exact Zh Tryz.func112 rfl Tryz.ntmps112 Tryz.results112 fun Q hQ hQn=>wk3⟩
def ZdG (a:List YLeg) (b:List YLeg) (s0:Int):Option (Int ⊕ (Unit ⊕ Bool)):=
 cond (decide (s0<(a.length:Int)))
 ((getI a s0).bind fun y1=>
 (getI b s0).bind fun y2=>
 cond (!decide (y1=y2))
 (some (.inr (.inr false)))
 (some (.inl (w64 (s0+1)))))
 (some (.inr (.inl ())))
instance (a:List YLeg) (b:List YLeg):ZP (ZdG a b):=⟨fun s0=>(.sl (a.map cLeg)::.sl (b.map cLeg)::(U 10 (vi (a.length:Int)::vi s0::(U 12 [])))),fun s0=>[]⟩
def Zb5 (a:List YLeg) (b:List YLeg):Option Bool:=
 cond (!decide ((a.length:Int)=(b.length:Int)))
 (some false)
 ((Zj (ZdG a b) NN 0).bind (ZY (fun o0=>
 some true) (fun r=>some r)))
instance (a:List YLeg) (b:List YLeg):CT Tryz.prog (Zb5 a b):=⟨113,[.sl (a.map cLeg),.sl (b.map cLeg)],[],fun r=>vb r,fun r=>[],fun H=>by replace H:=H0 H; unfold Zb5 at H; exact Zh Tryz.func113 rfl Tryz.ntmps113 Tryz.results113 fun Q hQ hQn=>wk3⟩
def Zfk (a:List Int) (b:List Int) (s0:Int):Option (Int ⊕ (Unit ⊕ Bool)):=
 cond (decide (s0<(a.length:Int)))
 ((getI a s0).bind fun y1=>
 (getI b s0).bind fun y2=>
 cond (!decide (y1=y2))
 (some (.inr (.inr false)))
 (some (.inl (w64 (s0+1)))))
 (some (.inr (.inl ())))
instance (a:List Int) (b:List Int):ZP (Zfk a b):=⟨fun s0=>(.sl (a.map cInt)::.sl (b.map cInt)::(U 10 (vi (a.length:Int)::vi s0::(U 12 [])))),fun s0=>[]⟩
def Zc5 (a:List Int) (b:List Int):Option Bool:=
 cond (!decide ((a.length:Int)=(b.length:Int)))
 (some false)
 ((Zj (Zfk a b) NN 0).bind (ZY (fun o0=>
 some true) (fun r=>some r)))
instance (a:List Int) (b:List Int):CT Tryz.prog (Zc5 a b):=⟨114,[.sl (a.map cInt),.sl (b.map cInt)],[],fun r=>vb r,fun r=>[],fun H=>by replace H:=H0 H; unfold Zc5 at H; exact Zh Tryz.func114 rfl Tryz.ntmps114 Tryz.results114 fun Q hQ hQn=>wk3⟩
def ZcE (a:List Zc) (b:List Zc) (s0:Int):Option (Int ⊕ (Unit ⊕ Bool)):=
 cond (decide (s0<(a.length:Int)))
 ((getI a s0).bind fun y1=>
 (getI b s0).bind fun y2=>
 cond (!decide (y1=y2))
 (some (.inr (.inr false)))
 (some (.inl (w64 (s0+1)))))
 (some (.inr (.inl ())))
instance (a:List Zc) (b:List Zc):ZP (ZcE a b):=⟨fun s0=>(.sl (a.map Zg)::.sl (b.map Zg)::(U 10 (vi (a.length:Int)::vi s0::(U 12 [])))),fun s0=>[]⟩
def Zba (a:List Zc) (b:List Zc):Option Bool:=
 cond (!decide ((a.length:Int)=(b.length:Int)))
 (some false)
 ((Zj (ZcE a b) NN 0).bind (ZY (fun o0=>
 some true) (fun r=>some r)))
instance (a:List Zc) (b:List Zc):CT Tryz.prog (Zba a b):=⟨115,[.sl (a.map Zg),.sl (b.map Zg)],[],fun r=>vb r,fun r=>[],fun H=>by replace H:=H0 H; unfold Zba at H; exact Zh Tryz.func115 rfl Tryz.ntmps115 Tryz.results115 fun Q hQ hQn=>wk3⟩
def Zdo (a:List Zk) (b:List Zk) (s0:Int):Option (Int ⊕ (Unit ⊕ Bool)):=
 cond (decide (s0<(a.length:Int)))
 ((getI a s0).bind fun y1=>
 (getI b s0).bind fun y2=>
 cond (!decide (y1=y2))
 (some (.inr (.inr false)))
 (some (.inl (w64 (s0+1)))))
 (some (.inr (.inl ())))
instance (a:List Zk) (b:List Zk):ZP (Zdo a b):=⟨fun s0=>(.sl (a.map ZF)::.sl (b.map ZF)::(U 10 (vi (a.length:Int)::vi s0::(U 12 [])))),fun s0=>[]⟩
def ZbI (a:List Zk) (b:List Zk):Option Bool:=
 cond (!decide ((a.length:Int)=(b.length:Int)))
 (some false)
 ((Zj (Zdo a b) NN 0).bind (ZY (fun o0=>
 some true) (fun r=>some r)))
instance (a:List Zk) (b:List Zk):CT Tryz.prog (ZbI a b):=⟨117,[.sl (a.map ZF),.sl (b.map ZF)],[],fun r=>vb r,fun r=>[],fun H=>by replace H:=H0 H; unfold ZbI at H; exact Zh Tryz.func117 rfl Tryz.ntmps117 Tryz.results117 fun Q hQ hQn=>wk3⟩
def Zcx (a:Zd) (b:Zd) (s0:Int):Option (Int ⊕ (Unit ⊕ Bool)):=
 cond (decide (s0<(a.orders.length:Int)))
 ((getI a.orders s0).bind fun y1=>
 (getI b.orders s0).bind fun y2=>
 (ZdF y1 y2).bind fun y3=>
 cond (!y3)
 (some (.inr (.inr false)))
 (some (.inl (w64 (s0+1)))))
 (some (.inr (.inl ())))
instance (a:Zd) (b:Zd):ZP (Zcx a b):=⟨fun s0=>(.un::.un::.be 0 0 0::.be 1 0 0::(U 11 (vi (a.orders.length:Int)::vi s0::(U 82 [])))),fun s0=>[some ⟨41,10,[[.sl (a.network.legs.map cLeg),.sl (a.network.off.map cInt),vi a.network.change,.sl (a.orders.map Zw),.sl (a.bookings.map Zg),.sl (a.closed.map Zs),vi a.now,.sl (a.scans.map ZF),.sl (a.skip.map cInt),vi a.made]]⟩,some ⟨41,10,[[.sl (b.network.legs.map cLeg),.sl (b.network.off.map cInt),vi b.network.change,.sl (b.orders.map Zw),.sl (b.bookings.map Zg),.sl (b.closed.map Zs),vi b.now,.sl (b.scans.map ZF),.sl (b.skip.map cInt),vi b.made]]⟩]⟩
def ZdB (a:Zd) (b:Zd):Option Bool:=
 cond (!decide ((a.orders.length:Int)=(b.orders.length:Int)))
 (some false)
 ((Zj (Zcx a b) NN 0).bind (ZY (fun o0=>
 (Zb5 a.network.legs b.network.legs).bind fun y4=>
 cond y4
 ((Zc5 a.network.off b.network.off).bind fun y5=>
 cond y5
 (cond (decide (a.network.change=b.network.change))
 ((Zba a.bookings b.bookings).bind fun y6=>
 cond y6
 ((Za5 a.closed b.closed).bind fun y7=>
 cond y7
 (cond (decide (a.now=b.now))
 ((ZbI a.scans b.scans).bind fun y8=>
 cond y8
 ((Zc5 a.skip b.skip).bind fun y9=>
 cond y9
 (some (decide (a.made=b.made)))
 (some false))
 (some false))
 (some false))
 (some false))
 (some false))
 (some false))
 (some false))
 (some false)) (fun r=>some r)))
instance (a:Zd) (b:Zd):CT Tryz.prog (ZdB a b):=⟨26,[.ag (Zbt a),.ag (Zbt b)],[],fun r=>vb r,fun r=>[],fun H=>by replace H:=H0 H; unfold ZdB at H; exact Zh Tryz.func26 rfl Tryz.ntmps26 Tryz.results26 fun Q hQ hQn=>wk3⟩
theorem Zs6 {l:List Ze} (hl:l.length≤1048576):Za5 l l=some true:=ZlH (F:=Za5) (B:=Zdp) (fun _ _=>rfl) (fun _ _ _=>rfl) hl
theorem Zw8 {l:List Zc} (hl:l.length≤1048576):Zba l l=some true:=ZlH (F:=Zba) (B:=ZcE) (fun _ _=>rfl) (fun _ _ _=>rfl) hl
theorem Zw9 {l:List YLeg} (hl:l.length≤1048576):Zb5 l l=some true:=ZlH (F:=Zb5) (B:=ZdG) (fun _ _=>rfl) (fun _ _ _=>rfl) hl
theorem Zxb {l:List Zk} (hl:l.length≤1048576):ZbI l l=some true:=ZlH (F:=ZbI) (B:=Zdo) (fun _ _=>rfl) (fun _ _ _=>rfl) hl
theorem Zs5 {l:List Int} (hl:l.length≤1048576):Zc5 l l=some true:=ZlH (F:=Zc5) (B:=Zfk) (fun _ _=>rfl) (fun _ _ _=>rfl) hl
theorem Zxa {o:Zf} (h:o.way.length≤1048576):ZdF o o=some true:=by
 unfold ZdF
 simp only [decide_true,cond_true,Zs6 h,Option.bind_some]
theorem Zs7 {w:Zd} (h:WFit w):ZdB w w=some true:=by
 unfold ZdB
 have e:Zj (Zcx w w) NN 0=some (.inl ()):=by
  refine Zjy (xs:=w.orders) (fun i x hx=>?_) ?_ h.orders
  ·have hlt:=(List.getElem?_eq_some_iff.1 hx).1
   have hg:getI w.orders (i:Int)=some x:=by rw [Zn]; exact hx
   unfold Zcx
   rw [decide_eq_true (show (i:Int)<w.orders.length by omega),hg]
   simp only [Option.bind_some,Zxa (h.way x (List.mem_of_getElem? hx)),cond_true,Bool.not_true,cond_false]
  ·unfold Zcx; simp
 rw [e]
 simp only [decide_true,Bool.not_true,cond_false,Option.bind_some,ZY,Zw9 h.net.legs,Zs5 h.net.off,Zw8 h.bookings,Zs6 h.closed,Zxb h.scans,Zs5 h.skip,cond_true]
def ZDH (code:List YB8) (i:Int):Option Int:=
 cond (decide ((code.length:Int)≤i))
 (some 0)
 ((getI code i).bind fun y1=>
 some (IntKind.i64.wrap y1.v))
instance (code:List YB8) (i:Int):CT Tryz.prog (ZDH code i):=⟨25,[.sl (code.map cB8),vi i],[],fun r=>vi r,fun r=>[],fun H=>by replace H:=H0 H; unfold ZDH at H; exact Zh Tryz.func25 rfl Tryz.ntmps25 Tryz.results25 fun Q hQ hQn=>wk3⟩
def ZhH (code:List YB8):Option Bool:=
 some (decide (4096<(code.length:Int)))
instance (code:List YB8):CT Tryz.prog (ZhH code):=⟨22,[.sl (code.map cB8)],[],fun r=>vb r,fun r=>[],fun H=>by replace H:=H0 H; unfold ZhH at H; exact Zh Tryz.func22 rfl Tryz.ntmps22 Tryz.results22 fun Q hQ hQn=>wk3⟩
def ZDG (code:List YB8):Option Bool:=
 (ZhH code).bind fun y1=>
 cond y1
 (some true)
 ((ZDF code).bind fun y2=>
 (Zbs y2.1).bind fun y3=>
 cond (!y3)
 ((Zd9 y2.1 y2.2).bind fun y4=>
 (ZdB y4 y2.1).bind fun y5=>
 cond y5
 ((Za8 y2.1).bind fun y6=>
 some (!y6))
 (some false))
 ((Zd9 y2.1 y2.2).bind fun y7=>
 (Z5 y2.1.network).bind fun y8=>
 (drwL 8 []).bind fun _=>
 (ZDH code 1).bind fun y9=>
 (chk (decide ((y8.length:Int)≠0))).bind fun _=>
 (getI y8 (Int.tmod y9 (y8.length:Int))).bind fun y10=>
 (ZDH code 2).bind fun y11=>
 (chk (decide ((y8.length:Int)≠0))).bind fun _=>
 (getI y8 (Int.tmod y11 (y8.length:Int))).bind fun y12=>
 (ZDH code 3).bind fun y13=>
 (ZDH code 4).bind fun y14=>
 (Zcz y7 y10 y12 (w64 (1+(Int.tmod y13 3))) (w64 (1+(w64 (10*y14))))).bind fun y15=>
 (frz (U 5 (.be 0 0 0::.un::.be 1 0 0::vi y15.2.1::vb y15.2.2::(U 115 []))) [some ⟨41,10,[[.sl (y7.network.legs.map cLeg),.sl (y7.network.off.map cInt),vi y7.network.change,.sl (y7.orders.map Zw),.sl (y7.bookings.map Zg),.sl (y7.closed.map Zs),vi y7.now,.sl (y7.scans.map ZF),.sl (y7.skip.map cInt),vi y7.made]]⟩,some ⟨41,10,[[.sl (y15.1.network.legs.map cLeg),.sl (y15.1.network.off.map cInt),vi y15.1.network.change,.sl (y15.1.orders.map Zw),.sl (y15.1.bookings.map Zg),.sl (y15.1.closed.map Zs),vi y15.1.now,.sl (y15.1.scans.map ZF),.sl (y15.1.skip.map cInt),vi y15.1.made]]⟩]).bind fun _=>
 (Zer y15.1).bind fun y16=>
 (Za8 y7).bind fun y17=>
 cond (!y17)
 (some false)
 ((Za8 y15.1).bind fun y18=>
 cond (!y18)
 (some false)
 ((Za8 y16.1).bind fun y19=>
 cond (!y19)
 (some false)
 (cond y15.2.2
 (cond (!decide (y15.2.1=(w64 ((y7.orders.length:Int)+1))))
 (some false)
 (cond (!y15.2.2)
 ((ZdB y7 y15.1).bind fun y20=>
 cond (!y20)
 (some false)
 ((Zeb y7).bind fun y21=>
 cond y21
 ((Zeb y15.1).bind fun y22=>
 cond y22
 ((Zeb y16.1).bind fun y23=>
 cond y23
 ((ZeB y7).bind fun y24=>
 cond y24
 ((ZeB y16.1).bind fun y25=>
 some y25)
 (some false))
 (some false))
 (some false))
 (some false)))
 ((Zeb y7).bind fun y26=>
 cond y26
 ((Zeb y15.1).bind fun y27=>
 cond y27
 ((Zeb y16.1).bind fun y28=>
 cond y28
 ((ZeB y7).bind fun y29=>
 cond y29
 ((ZeB y16.1).bind fun y30=>
 some y30)
 (some false))
 (some false))
 (some false))
 (some false))))
 (cond (!y15.2.2)
 ((ZdB y7 y15.1).bind fun y31=>
 cond (!y31)
 (some false)
 ((Zeb y7).bind fun y32=>
 cond y32
 ((Zeb y15.1).bind fun y33=>
 cond y33
 ((Zeb y16.1).bind fun y34=>
 cond y34
 ((ZeB y7).bind fun y35=>
 cond y35
 ((ZeB y16.1).bind fun y36=>
 some y36)
 (some false))
 (some false))
 (some false))
 (some false)))
 ((Zeb y7).bind fun y37=>
 cond y37
 ((Zeb y15.1).bind fun y38=>
 cond y38
 ((Zeb y16.1).bind fun y39=>
 cond y39
 ((ZeB y7).bind fun y40=>
 cond y40
 ((ZeB y16.1).bind fun y41=>
 some y41)
 (some false))
 (some false))
 (some false))
 (some false))))))))
theorem ok_laws_FnWorldKeeps (code:List YB8) {r:Bool} (H:ZDG code=some r):Zev Tryz.prog 10 [.sl (code.map cB8)] [] (vb r) []:=by
 replace H:=H0 H
 unfold ZDG at H
 refine Zh Tryz.func10 rfl Tryz.ntmps10 Tryz.results10 fun Q hQ hQn=>?_
 exact wk3
instance (code:List YB8):CT Tryz.prog (ZDG code):=⟨10,[.sl (code.map cB8)],[],fun r=>vb r,fun r=>[],ok_laws_FnWorldKeeps code⟩
theorem at_k {code:List YB8} (hb:∀ x∈code,0≤x.v∧x.v≤255) {i:Int} (hi:0≤i):∃ y,ZDH code i=some y∧0≤y∧y≤255:=by
 unfold ZDH
 by_cases h:(code.length:Int)≤i
 ·exact ⟨0,by rw [decide_eq_true h]; rfl,by omega,by omega⟩
 ·rw [decide_eq_false h]
  obtain ⟨x,hx,hm⟩:=Zew (xs:=code) (i:=i) ⟨by omega,by omega⟩
  have:=hb x hm
  refine ⟨x.v,?_,this⟩
  rw [cond_false,hx,Option.bind_some]
  exact congrArg some (Zo (by omega))
theorem ZDJ {α:Type} {l:List α} (h:0<l.length) {y:Int} (hy:0≤y):∃ x,getI l (Int.tmod y (l.length:Int))=some x:=by
 obtain ⟨x,hx,_⟩:=Zew (xs:=l) (i:=Int.tmod y (l.length:Int)) ⟨Int.tmod_nonneg _ hy,Int.tmod_lt_of_pos y (by omega)⟩
 exact ⟨x,hx⟩
theorem worldKeeps (code:List YB8) (hb:∀ x∈code,0≤x.v∧x.v≤255):ZDG code=some true:=by
 unfold ZDG ZhH
 rw [Option.bind_some]
 by_cases hbig:4096<(code.length:Int)
 ·rw [decide_eq_true hbig]; rfl
 rw [decide_eq_false hbig,cond_false]
 obtain ⟨⟨w,u⟩,e,hD,hf,hst⟩:=ZDI (code:=code) (by omega) hb
 simp only at hD hf hst
 rw [e,Option.bind_some]
 simp only
 rw [Zge hf,Option.bind_some]
 have ha:=Zro hf u
 cases hv:ZcB w with
 | false=>
  rw [if_neg (fun h=>by have:=h.1; rw [hv] at this; cases this)] at ha
  simp only [Bool.not_false,cond_true,ha,Option.bind_some,Zs7 hf,ZeM hf,hv]
 | true=>
 obtain ⟨hS,_⟩:=hst hv
 have hok:WOk w:=⟨hf,hv⟩
 obtain ⟨x,ex,hx,hxS⟩:∃ x,Zd9 w u=some x∧WOk x∧Zfn x:=by
  refine ⟨_,ha,?_⟩
  split
  ·rename_i h
   exact ⟨(Zrn hok h.2.1 h.2.2).1,ZmB hok hS h.2.2⟩
  ·exact ⟨hok,hS⟩
 have hxf:=hx.fit
 have hpl:0<(Zb w.network).length:=by
  have h1:=hD.len.1
  have:=(Zf0 (List.getElem_mem (show 0<w.network.legs.length by omega))).1
  exact List.length_pos_of_mem this
 obtain ⟨y9,e9,y90,_⟩:=at_k hb (i:=1) (by omega)
 obtain ⟨y11,e11,y110,_⟩:=at_k hb (i:=2) (by omega)
 obtain ⟨y13,e13,_⟩:=at_k hb (i:=3) (by omega)
 obtain ⟨y14,e14,_⟩:=at_k hb (i:=4) (by omega)
 obtain ⟨p,ep⟩:=ZDJ hpl y90
 obtain ⟨q,eq⟩:=ZDJ hpl y110
 have hchk:chk (decide (((Zb w.network).length:Int)≠0))=some ():=Zjh (decide_eq_true (by omega))
 obtain ⟨r,er,_,hr⟩:=Zn7 hx p q (w64 (1+Int.tmod y13 3)) (w64 (1+w64 (10*y14)))
 have hrk:WOk r.1∧Zfn r.1:=by
  rcases hr with ⟨rfl,_⟩ | ⟨way,ys,due,hT⟩
  ·exact ⟨hx,hxS⟩
  ·rw [hT.res]
   exact ⟨hT.ok,Zrk hxS ys⟩
 obtain ⟨z,n,ez,_,hz⟩:=ZqR hrk.1
 have hzS:Zfn z:=Zg4 hrk.1 hrk.2 hz.same.network hz.same.scans hz.same.len fun i o ho=>by
  obtain ⟨o',a,c,_⟩:=hz.ord i o ho
  exact ⟨o',a,c⟩
 have hid:w64 ((x.orders.length:Int)+1)=(x.orders.length:Int)+1:=by
  have:=hxf.orders
  exact Zo (by omega)
 simp only [Bool.not_true,cond_false,ex,Option.bind_some,(Zac hf.net).2,drwL,e9,hchk,ep,e11,eq,e13,e14,er,frz,ez,ZeM hxf,hx.ok,ZeM hrk.1.fit,hrk.1.ok,ZeM hz.ok.fit,hz.ok.ok,ZoE hx,ZoE hrk.1,ZoE hz.ok,Zk2 hx hxS,Zk2 hz.ok hzS,cond_true,hid]
 rcases hr with ⟨rfl,_⟩ | ⟨way,ys,due,hT⟩
 ·simp only [cond_false,Bool.not_false,cond_true,Zs7 hxf,Option.bind_some,Bool.not_true]
 ·have h1:r.2.2=true:=by rw [hT.res]
  have h2:r.2.1=(x.orders.length:Int)+1:=by rw [hT.res]
  simp only [h1,h2,decide_true,Bool.not_true,cond_false,cond_true]
end Go.Proofs.YtmcdjilbkmhfoaaGreat
