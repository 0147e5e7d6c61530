/- A part of the proof of the statement in the last file of this claim: texts on the language of the program and on its functions. No condition. -/
import Derived.Test.YtmcdjilbkmhfoaaGreatCFnSeenAll5
import Derived.Test.YtmcdjilbkmhfoaaGreatCFnSeenAll6
import Derived.Test.YtmcdjilbkmhfoaaGreatCFnSeenAll10
import Derived.Test.YtmcdjilbkmhfoaaGreatCFnSeenAll11
import Derived.Test.YtmcdjilbkmhfoaaGreatCFnSeenAll8
import Derived.Test.YtmcdjilbkmhfoaaGreatCFnSeenAll9
namespace Go.Proofs.YtmcdjilbkmhfoaaGreat
set_option maxRecDepth 10000
open Go.RowKit
set_option linter.unusedVariables false
set_option maxHeartbeats 16000000
def ZaK (w:Zd) (from1_:ByteArray) (to_:ByteArray) (service:Int) (weight:Int):Option (Zd × Int × Bool):=
 (ZbP w).bind fun y1=>
 (Zb5 w).bind fun y2=>
 cond (!y2)
 (some (y1,0,false))
 (cond (decide (30≤(w.orders.length:Int)))
 (some (y1,0,false))
 (cond (decide (from1_=to_))
 (some (y1,0,false))
 ((Zt service 1 3).bind fun y3=>
 cond (!y3)
 (some (y1,0,false))
 ((Zt weight 1 30000).bind fun y4=>
 cond (!y4)
 (some (y1,0,false))
 ((ZdR w.network w.bookings w.closed from1_ to_ (w64 (w.now+1)) weight).bind fun y5=>
 cond (!y5.2)
 (some (y1,0,false))
 ((Zdz w.network w.bookings (w64 ((w.orders.length:Int)+1)) weight y5.1).bind fun y6=>
 cond (!y6.2)
 (some (y1,0,false))
 ((frz (.un::vs from1_::vs to_::vi service::vi weight::.be 0 0 0::(U 4 (.be 1 0 0::.un::.un::.be 2 0 0::vi (w64 ((w.orders.length:Int)+1))::.sl (y5.1.map Zr)::(U 101 [])))) [some ⟨41,10,[[.sl (w.network.legs.map cLeg),.sl (w.network.off.map cInt),vi w.network.change,.sl (w.orders.map Zv),.sl (w.bookings.map Zg),.sl (w.closed.map Zr),vi w.now,.sl (w.scans.map ZF),.sl (w.skip.map cInt),vi w.made]]⟩,some ⟨41,10,[[.v (.slice none 0 0),.v (.slice none 0 0),vi 0,.v (.slice none 0 0),.v (.slice none 0 0),.v (.slice none 0 0),vi 0,.v (.slice none 0 0),.v (.slice none 0 0),vi 0]]⟩,some ⟨41,10,[[.ms 3,.ms 4,vi y1.network.change,.ms 5,.ms 6,.ms 7,vi y1.now,.ms 8,.ms 9,vi y1.made]]⟩,some ⟨67,6,y1.network.legs.map cLeg⟩,some ⟨3,1,y1.network.off.map cInt⟩,some ⟨62,11,y1.orders.map Zv⟩,some ⟨135,4,y6.1.map Zg⟩,some ⟨55,2,y1.closed.map Zr⟩,some ⟨130,6,y1.scans.map ZF⟩,some ⟨3,1,y1.skip.map cInt⟩]).bind fun _=>
 (Zbc w.network service from1_ to_ (w64 (w.now+1))).bind fun y7=>
 (Zcd y5.1).bind fun y8=>
 (chk (Z1 ((y1.orders:List Zf).length+([(⟨from1_,to_,service,weight,w.now,y7,y8,0,1,from1_,0⟩:Zf)]:List Zf).length) 128)).bind fun _=>
 (rhoM [2,3,4,98,6,7,8,9]).bind fun _=>
 (ZaO (⟨y1.network,((y1.orders:List Zf)++[(⟨from1_,to_,service,weight,w.now,y7,y8,0,1,from1_,0⟩:Zf)]),y6.1,y1.closed,y1.now,y1.scans,y1.skip,y1.made⟩:Zd) (⟨(w64 ((w.orders.length:Int)+1)),w.now,1,from1_,(⟨0,0⟩:Ze)⟩:Zj)).bind fun y9=>
 some (y9,(w64 ((w.orders.length:Int)+1)),true))))))))
instance (w:Zd) (from1_:ByteArray) (to_:ByteArray) (service:Int) (weight:Int):CT Tryz.prog (ZaK w from1_ to_ service weight):=⟨47,[.ag (ZbD w),vs from1_,vs to_,vi service,vi weight],[],fun r=>.tu [.ag [.ms 0,.ms 1,vi r.1.network.change,.ms 2,.ms 3,.ms 4,vi r.1.now,.ms 5,.ms 6,vi r.1.made],vi r.2.1,vb r.2.2],fun r=>[some ⟨67,6,r.1.network.legs.map cLeg⟩,some ⟨3,1,r.1.network.off.map cInt⟩,some ⟨62,11,r.1.orders.map Zv⟩,some ⟨135,4,r.1.bookings.map Zg⟩,some ⟨55,2,r.1.closed.map Zr⟩,some ⟨130,6,r.1.scans.map ZF⟩,some ⟨3,1,r.1.skip.map cInt⟩],fun H=>by replace H:=H0 H; unfold ZaK at H; exact Zh Tryz.func47 rfl Tryz.ntmps47 Tryz.results47 fun Q hQ hQn=>wk3⟩
end Go.Proofs.YtmcdjilbkmhfoaaGreat
namespace Go.Proofs.YtmcdjilbkmhfoaaGreat
set_option maxRecDepth 10000
open Go.RowKit
set_option linter.unusedVariables false
set_option linter.unusedSimpArgs false
def ZtX (w:Zd) (from_ to_:ByteArray) (service weight:Int):Prop:=
 30≤w.orders.length∨from_=to_∨¬ (1≤service∧service≤3)∨¬ (1≤weight∧weight≤30000)∨(∃ x,ZO w.network w.bookings w.closed from_ to_ (w.now+1) weight=some (x,false))∨
  ∃ way l,ZO w.network w.bookings w.closed from_ to_ (w.now+1) weight=some (way,true)∧ZW w.network w.bookings ((w.orders.length:Int)+1) weight way=some (l,false)
structure ZwD (w:Zd) (from_ to_:ByteArray) (service weight:Int) (r:Zd × Int × Bool) (way:List Ze) (ys:List Zc) (due:Int):Prop where
 room:ZO w.network w.bookings w.closed from_ to_ (w.now+1) weight=some (way,true)
 book:ZW w.network w.bookings ((w.orders.length:Int)+1) weight way=some (ys,true)
 prom:Zbc w.network service from_ to_ (w.now+1)=some due
 res:r=(accV w (newO w from_ to_ service weight due way) ys,(w.orders.length:Int)+1,true)
 ne:¬ from_=to_
 ok:WOk (accV w (newO w from_ to_ service weight due way) ys)
theorem Zsj {w:Zd} (h:WOk w) (from_ to_:ByteArray) (service weight:Int) (hpr:∀ way,ZO w.network w.bookings w.closed from_ to_ (w.now+1) weight=some (way,true)→1≤service∧service≤3→∃ d,Zbc w.network service from_ to_ (w.now+1)=some d∧0≤d∧d≤200000):
 ∃ r,ZaK w from_ to_ service weight=some r∧(r=(w,0,false)∧ZtX w from_ to_ service weight∨∃ way ys due,ZwD w from_ to_ service weight r way ys due):=by
 have hf:=h.fit
 obtain ⟨p1,p2,p3,p4,p5,p6,p7⟩:=h.parts
 have hw1:w64 (w.now+1)=w.now+1:=Zp (by omega)
 have hw2:w64 ((w.orders.length:Int)+1)=(w.orders.length:Int)+1:=Zp (by omega)
 unfold ZaK
 rw [Zqv hf,Option.bind_some,Zir hf,h.ok,Option.bind_some,Zdy,hw1,hw2]
 simp only [Bool.not_true,cond_false,Zbb,Option.bind_some]
 by_cases c1:30≤w.orders.length
 ·exact ⟨_,by rw [decide_eq_true (show (30:Int)≤(w.orders.length:Int) by omega)]; rfl,.inl ⟨rfl,.inl c1⟩⟩
 rw [decide_eq_false (show ¬ (30:Int)≤(w.orders.length:Int) by omega),cond_false]
 by_cases c2:from_=to_
 ·exact ⟨_,by rw [decide_eq_true c2]; rfl,.inl ⟨rfl,.inr (.inl c2)⟩⟩
 rw [decide_eq_false c2,cond_false]
 by_cases c3:1≤service∧service≤3
 case neg=>
  refine ⟨(w,0,false),?_,.inl ⟨rfl,.inr (.inr (.inl c3))⟩⟩
  have:(decide (1≤service) && decide (service≤3))=false:=by rw [← Bool.decide_and]; exact decide_eq_false c3
  rw [this]; rfl
 rw [decide_eq_true c3.1,decide_eq_true c3.2]
 by_cases c4:1≤weight∧weight≤30000
 case neg=>
  refine ⟨(w,0,false),?_,.inl ⟨rfl,.inr (.inr (.inr (.inl c4)))⟩⟩
  have:(decide (1≤weight) && decide (weight≤30000))=false:=by rw [← Bool.decide_and]; exact decide_eq_false c4
  rw [this]; rfl
 rw [decide_eq_true c4.1,decide_eq_true c4.2]
 simp only [Bool.and_self,Bool.not_true,cond_false]
 obtain ⟨⟨way,b⟩,e1,e2⟩:=Zle hf.net hf.bookings hf.closed from_ to_ (w.now+1) weight
 rw [e1,Option.bind_some]
 cases b with
 | false=>exact ⟨(w,0,false),rfl,.inl ⟨rfl,.inr (.inr (.inr (.inr (.inl ⟨way,e2⟩))))⟩⟩
 | true=>
 have hR:=Zkc hf.net hf.bookings hf.closed e2
 have hlen:=hR.len
 simp only [Bool.not_true,cond_false]
 have hnl:(Zft ((w.orders.length:Int)+1) weight way).length=way.length:=by unfold Zft; rw [List.length_map]
 obtain ⟨d,d1,d2⟩:=ZtR (w.bookings++Zft ((w.orders.length:Int)+1) weight way) (by rw [List.length_append,hnl]; omega)
 have hbk:Zdz w.network w.bookings ((w.orders.length:Int)+1) weight way=ZW w.network w.bookings ((w.orders.length:Int)+1) weight way:=by
  unfold Zdz
  rw [if_pos ⟨Zjj.2 hf.net,by omega,by omega⟩]
 have hsp:=ZlS hf.net (show w.bookings.length≤1048000 by omega) ((w.orders.length:Int)+1) weight d1 d2
 rw [hbk]
 by_cases hbd:Z6 w.network d=true
 case neg=>
  rw [if_neg (fun hx=>hbd hx.2.2)] at hsp
  refine ⟨(w,0,false),?_,.inl ⟨rfl,.inr (.inr (.inr (.inr (.inr ⟨way,w.bookings,e2,hsp⟩))))⟩⟩
  rw [hsp]; rfl
 rw [if_pos ⟨hR.hC.1,hlen,hbd⟩] at hsp
 obtain ⟨due,q1,q2,q3⟩:=hpr way e2 c3
 have hacc:=ZvB h (by omega) c2 c3 c4 ⟨q2,q3⟩ hR d1 hbd
 have ha:chk (Z1 (w.orders.length+([newO w from_ to_ service weight due way]:List Zf).length) 128)=some ():=ZeD (by simp only [List.length_cons,List.length_nil]; omega) (by omega)
 have hct:Zcd way=some way:=by
  unfold Zcd
  exact ZhE (by omega)
 have hsi:=ZoS (w:=⟨w.network,w.orders++[newO w from_ to_ service weight due way],d,w.closed,w.now,w.scans,w.skip,w.made⟩) ⟨by simp only; omega,p4,by simp only; omega⟩ ⟨(w.orders.length:Int)+1,w.now,1,from_,⟨0,0⟩⟩
 refine ⟨(accV w (newO w from_ to_ service weight due way) d,(w.orders.length:Int)+1,true),?_,.inr ⟨way,d,due,e2,hsp,q1,rfl,c2,hacc⟩⟩
 rw [hsp]
 simp only [Option.bind_some,Bool.not_true,cond_false,frz,q1,hct,rhoM]
 unfold newO at ha hsi ⊢
 rw [ha]
 simp only [Option.bind_some]
 rw [hsi]
 rfl
end Go.Proofs.YtmcdjilbkmhfoaaGreat
namespace Go.Proofs.YtmcdjilbkmhfoaaGreat
set_option maxRecDepth 10000
open Go.RowKit
set_option linter.unusedVariables false
set_option linter.unusedSimpArgs false
theorem Zoz {α:Type} {body:Int→Option (Int ⊕ (Unit ⊕ Bool))} {xs:List α} (h1:∀ (i:Nat) x,xs[i]?=some x→body (i:Int)=some (.inl (w64 ((i:Int)+1)))) (h2:body (xs.length:Int)=some (.inr (.inl ()))) (hl:xs.length≤1048576):Zl body NN 0=some (.inl ()):=by
 exact ZdJ (body:=body) (fun i:Nat=>(i:Int)) (n:=xs.length) (o:=.inl ()) (fun i hi=>by rw [h1 i _ (List.getElem?_eq_getElem hi),Z9 hi (by omega)]) h2 NN (by unfold NN; omega)
end Go.Proofs.YtmcdjilbkmhfoaaGreat
namespace Go.Proofs.YtmcdjilbkmhfoaaGreat
set_option maxRecDepth 10000
open Go.RowKit
set_option linter.unusedVariables false
set_option maxHeartbeats 16000000
def Za2 (n:Za) (skip:List Int):Option (Zd × Bool):=
 (Za9 n).bind fun y1=>
 (chk (Z1 ((([]:List Int):List Int).length+(skip:List Int).length) 8)).bind fun _=>
 (Zb5 (⟨y1,[],[],[],0,[],((([]:List Int):List Int)++skip),0⟩:Zd)).bind fun y2=>
 cond (!y2)
 (some ((⟨(⟨[],[],0⟩:Za),[],[],[],0,[],[],0⟩:Zd),false))
 (some ((⟨y1,[],[],[],0,[],((([]:List Int):List Int)++skip),0⟩:Zd),true))
theorem Zf3 (n:Za) (skip:List Int) {r:Zd × Bool} (H:Za2 n skip=some r):Zdo Tryz.prog 56 [.ag (Zm n),.sl (skip.map cInt)] [] (.tu [.ag [.ms 0,.ms 1,vi r.1.network.change,.v (.slice none 0 0),.v (.slice none 0 0),.v (.slice none 0 0),vi r.1.now,.v (.slice none 0 0),.ms 2,vi r.1.made],vb r.2]) [some ⟨67,6,r.1.network.legs.map cLeg⟩,some ⟨3,1,r.1.network.off.map cInt⟩,some ⟨3,1,r.1.skip.map cInt⟩]:=by
 replace H:=H0 H
 unfold Za2 at H
 refine Zh Tryz.func56 rfl Tryz.ntmps56 Tryz.results56 fun Q hQ hQn=>?_
 exact wk3
instance (n:Za) (skip:List Int):CT Tryz.prog (Za2 n skip):=⟨56,[.ag (Zm n),.sl (skip.map cInt)],[],fun r=>.tu [.ag [.ms 0,.ms 1,vi r.1.network.change,.v (.slice none 0 0),.v (.slice none 0 0),.v (.slice none 0 0),vi r.1.now,.v (.slice none 0 0),.ms 2,vi r.1.made],vb r.2],fun r=>[some ⟨67,6,r.1.network.legs.map cLeg⟩,some ⟨3,1,r.1.network.off.map cInt⟩,some ⟨3,1,r.1.skip.map cInt⟩],Zf3 n skip⟩
def Zal (n:Za) (skip:List Int):Option (Zd × Bool):=
 (ZaI (⟨n,[],[],[],0,[],skip,0⟩:Zd)).bind fun y1=>
 (Za5 y1).bind fun y2=>
 cond (!y2)
 (some ((⟨(⟨[],[],0⟩:Za),[],[],[],0,[],[],0⟩:Zd),false))
 (some (y1,true))
theorem Zf4 (n:Za) (skip:List Int) {r:Zd × Bool} (H:Zal n skip=some r):Zdo Tryz.prog 57 [.ag (Zm n),.sl (skip.map cInt)] [] (.tu [.ag [.ms 0,.ms 1,vi r.1.network.change,.ms 2,.ms 3,.ms 4,vi r.1.now,.ms 5,.ms 6,vi r.1.made],vb r.2]) [some ⟨67,6,r.1.network.legs.map cLeg⟩,some ⟨3,1,r.1.network.off.map cInt⟩,some ⟨62,11,r.1.orders.map Zv⟩,some ⟨135,4,r.1.bookings.map Zg⟩,some ⟨55,2,r.1.closed.map Zr⟩,some ⟨130,6,r.1.scans.map ZF⟩,some ⟨3,1,r.1.skip.map cInt⟩]:=by
 replace H:=H0 H
 unfold Zal at H
 refine Zh Tryz.func57 rfl Tryz.ntmps57 Tryz.results57 fun Q hQ hQn=>?_
 exact wk3
instance (n:Za) (skip:List Int):CT Tryz.prog (Zal n skip):=⟨57,[.ag (Zm n),.sl (skip.map cInt)],[],fun r=>.tu [.ag [.ms 0,.ms 1,vi r.1.network.change,.ms 2,.ms 3,.ms 4,vi r.1.now,.ms 5,.ms 6,vi r.1.made],vb r.2],fun r=>[some ⟨67,6,r.1.network.legs.map cLeg⟩,some ⟨3,1,r.1.network.off.map cInt⟩,some ⟨62,11,r.1.orders.map Zv⟩,some ⟨135,4,r.1.bookings.map Zg⟩,some ⟨55,2,r.1.closed.map Zr⟩,some ⟨130,6,r.1.scans.map ZF⟩,some ⟨3,1,r.1.skip.map cInt⟩],Zf4 n skip⟩
end Go.Proofs.YtmcdjilbkmhfoaaGreat
namespace Go.Proofs.YtmcdjilbkmhfoaaGreat
set_option maxRecDepth 10000
open Go.RowKit
set_option linter.unusedVariables false
theorem Zh7 (n:Za) {r:Zd × Bool} (H:Za2 n []=some r):Zdo Tryz.prog 56 [.ag (Zm n),.v (.slice none 0 0)] [] (.tu [.ag [.ms 0,.ms 1,vi r.1.network.change,.v (.slice none 0 0),.v (.slice none 0 0),.v (.slice none 0 0),vi r.1.now,.v (.slice none 0 0),.ms 2,vi r.1.made],vb r.2]) [some ⟨67,6,r.1.network.legs.map cLeg⟩,some ⟨3,1,r.1.network.off.map cInt⟩,some ⟨3,1,r.1.skip.map cInt⟩]:=
 (Zf3 n [] H).weak (SubA.c (SubV.c (SubC.r _)) (SubA.c (SubV.c (SubC.nil _)) SubA.n))
instance (n:Za):CT Tryz.prog (Za2 n []):=⟨56,[.ag (Zm n),.v (.slice none 0 0)],[],fun r=>.tu [.ag [.ms 0,.ms 1,vi r.1.network.change,.v (.slice none 0 0),.v (.slice none 0 0),.v (.slice none 0 0),vi r.1.now,.v (.slice none 0 0),.ms 2,vi r.1.made],vb r.2],fun r=>[some ⟨67,6,r.1.network.legs.map cLeg⟩,some ⟨3,1,r.1.network.off.map cInt⟩,some ⟨3,1,r.1.skip.map cInt⟩],Zh7 n⟩
theorem Zh8 (n:Za) {r:Zd × Bool} (H:Zal n []=some r):Zdo Tryz.prog 57 [.ag (Zm n),.v (.slice none 0 0)] [] (.tu [.ag [.ms 0,.ms 1,vi r.1.network.change,.ms 2,.ms 3,.ms 4,vi r.1.now,.ms 5,.ms 6,vi r.1.made],vb r.2]) [some ⟨67,6,r.1.network.legs.map cLeg⟩,some ⟨3,1,r.1.network.off.map cInt⟩,some ⟨62,11,r.1.orders.map Zv⟩,some ⟨135,4,r.1.bookings.map Zg⟩,some ⟨55,2,r.1.closed.map Zr⟩,some ⟨130,6,r.1.scans.map ZF⟩,some ⟨3,1,r.1.skip.map cInt⟩]:=
 (Zf4 n [] H).weak (SubA.c (SubV.c (SubC.r _)) (SubA.c (SubV.c (SubC.nil _)) SubA.n))
instance (n:Za):CT Tryz.prog (Zal n []):=⟨57,[.ag (Zm n),.v (.slice none 0 0)],[],fun r=>.tu [.ag [.ms 0,.ms 1,vi r.1.network.change,.ms 2,.ms 3,.ms 4,vi r.1.now,.ms 5,.ms 6,vi r.1.made],vb r.2],fun r=>[some ⟨67,6,r.1.network.legs.map cLeg⟩,some ⟨3,1,r.1.network.off.map cInt⟩,some ⟨62,11,r.1.orders.map Zv⟩,some ⟨135,4,r.1.bookings.map Zg⟩,some ⟨55,2,r.1.closed.map Zr⟩,some ⟨130,6,r.1.scans.map ZF⟩,some ⟨3,1,r.1.skip.map cInt⟩],Zh8 n⟩
end Go.Proofs.YtmcdjilbkmhfoaaGreat
namespace Go.Proofs.YtmcdjilbkmhfoaaGreat
set_option maxRecDepth 10000
open Go.RowKit
set_option linter.unusedVariables false
set_option maxHeartbeats 16000000
def Za4 (c:Zx) (n:Za):Option (ByteArray × Zx):=
 (ZS n).bind fun y1=>
 (rhoM [0]).bind fun _=>
 (ZM c 9).bind fun y2=>
 cond y2.1
 ((rhoM [0]).bind fun _=>
 (Zbt y2.2).bind fun y3=>
 some (y3.1,y3.2))
 ((rhoM [0]).bind fun _=>
 (Zk y2.2 (y1.length:Int)).bind fun y4=>
 (getI y1 y4.1).bind fun y5=>
 some (y5,y4.2))
instance (c:Zx) (n:Za):CT Tryz.prog (Za4 c n):=⟨213,[.be 0 0 0,.ag (Zm n)],[some ⟨187,3,[[.sl (c.b.map cB8),vi c.i,vi c.h]]⟩],fun r=>vs r.1,fun r=>[some ⟨187,3,[[.sl (r.2.b.map cB8),vi r.2.i,vi r.2.h]]⟩],fun H=>by replace H:=H0 H; unfold Za4 at H; exact Zh Tryz.func213 rfl Tryz.ntmps213 Tryz.results213 fun Q hQ hQn=>wk3⟩
def Zct (c:Zx) (n:Za):Option (Ze × Zx):=
 (rhoM [0]).bind fun _=>
 (Zk c (n.legs.length:Int)).bind fun y1=>
 (rhoM [0]).bind fun _=>
 (Zk y1.2 10).bind fun y2=>
 (Zdn n y1.1 (w64 (y2.1*1440))).bind fun y3=>
 cond (decide (0≤y3))
 ((rhoM [0]).bind fun _=>
 (ZM y2.2 4).bind fun y4=>
 cond (!y4.1)
 (some ((⟨y1.1,y3⟩:Ze),y4.2))
 (some ((⟨y1.1,y2.1⟩:Ze),y4.2)))
 (some ((⟨y1.1,y2.1⟩:Ze),y2.2))
instance (c:Zx) (n:Za):CT Tryz.prog (Zct c n):=⟨211,[.be 0 0 0,.ag (Zm n)],[some ⟨187,3,[[.sl (c.b.map cB8),vi c.i,vi c.h]]⟩],fun r=>.ag [vi r.1.leg,vi r.1.day],fun r=>[some ⟨187,3,[[.sl (r.2.b.map cB8),vi r.2.i,vi r.2.h]]⟩],fun H=>by replace H:=H0 H; unfold Zct at H; exact Zh Tryz.func211 rfl Tryz.ntmps211 Tryz.results211 fun Q hQ hQn=>wk3⟩
def Zbs (c:Zx) (w:Zd):Option (Ze × Zx):=
 cond (decide (0<(w.bookings.length:Int)))
 ((rhoM [0]).bind fun _=>
 (ZM c 4).bind fun y1=>
 cond (!y1.1)
 ((drwL 8 [6]).bind fun _=>
 (rhoM [0]).bind fun _=>
 (Zk y1.2 (w.bookings.length:Int)).bind fun y2=>
 (getI w.bookings y2.1).bind fun y3=>
 some (y3.trip,y2.2))
 ((rhoM [0]).bind fun _=>
 (Zct y1.2 w.network).bind fun y4=>
 some (y4.1,y4.2)))
 ((rhoM [0]).bind fun _=>
 (Zct c w.network).bind fun y5=>
 some (y5.1,y5.2))
instance (c:Zx) (w:Zd):CT Tryz.prog (Zbs c w):=⟨147,[.be 0 0 0,.ag (ZbD w)],[some ⟨187,3,[[.sl (c.b.map cB8),vi c.i,vi c.h]]⟩],fun r=>.ag [vi r.1.leg,vi r.1.day],fun r=>[some ⟨187,3,[[.sl (r.2.b.map cB8),vi r.2.i,vi r.2.h]]⟩],fun H=>by replace H:=H0 H; unfold Zbs at H; exact Zh Tryz.func147 rfl Tryz.ntmps147 Tryz.results147 fun Q hQ hQn=>wk3⟩
def ZaL (w:Zd) (from1_:ByteArray) (to_:ByteArray) (service:Int) (weight:Int):Option (Zd × Int × Bool):=
 (ZaI w).bind fun y1=>
 (Za5 w).bind fun y2=>
 cond (!y2)
 (some (y1,0,false))
 (cond (decide (30≤(w.orders.length:Int)))
 (some (y1,0,false))
 (cond (decide (from1_=to_))
 (some (y1,0,false))
 ((ZG service 1 3).bind fun y3=>
 cond (!y3)
 (some (y1,0,false))
 ((ZG weight 1 30000).bind fun y4=>
 cond (!y4)
 (some (y1,0,false))
 ((ZO w.network w.bookings w.closed from1_ to_ (w64 (w.now+1)) weight).bind fun y5=>
 (ZW w.network w.bookings (w64 ((w.orders.length:Int)+1)) weight y5.1).bind fun y6=>
 cond (!y5.2)
 (some (y1,0,false))
 (cond (!y6.2)
 (some (y1,0,false))
 ((Zdw w.network service from1_ to_ (w64 (w.now+1))).bind fun y7=>
 (frz (.un::vs from1_::(U 3 (.be 0 0 0::(U 4 (.be 1 0 0::.un::.un::.be 2 0 0::.un::.un::vi (w64 ((w.orders.length:Int)+1))::.un::.un::.be 10 0 0::(U 99 [])))))) [some ⟨41,10,[[.sl (w.network.legs.map cLeg),.sl (w.network.off.map cInt),vi w.network.change,.sl (w.orders.map Zv),.sl (w.bookings.map Zg),.sl (w.closed.map Zr),vi w.now,.sl (w.scans.map ZF),.sl (w.skip.map cInt),vi w.made]]⟩,some ⟨41,10,[[.v (.slice none 0 0),.v (.slice none 0 0),vi 0,.v (.slice none 0 0),.v (.slice none 0 0),.v (.slice none 0 0),vi 0,.v (.slice none 0 0),.v (.slice none 0 0),vi 0]]⟩,some ⟨41,10,[[.ms 3,.ms 4,vi y1.network.change,.ms 5,.ms 6,.ms 7,vi y1.now,.ms 8,.ms 9,vi y1.made]]⟩,some ⟨67,6,y1.network.legs.map cLeg⟩,some ⟨3,1,y1.network.off.map cInt⟩,some ⟨62,11,y1.orders.map Zv⟩,some ⟨135,4,y6.1.map Zg⟩,some ⟨55,2,y1.closed.map Zr⟩,some ⟨130,6,y1.scans.map ZF⟩,some ⟨3,1,y1.skip.map cInt⟩,some ⟨62,11,[[vs from1_,vs to_,vi service,vi weight,vi w.now,vi y7,.sl (y5.1.map Zr),vi 0,vi 1,vs from1_,vi 0]]⟩]).bind fun _=>
 (chk (Z1 ((y1.orders:List Zf).length+([(⟨from1_,to_,service,weight,w.now,y7,y5.1,0,1,from1_,0⟩:Zf)]:List Zf).length) 128)).bind fun _=>
 (rhoM [2,3,4,12,6,7,8,9]).bind fun _=>
 (Zat (⟨y1.network,((y1.orders:List Zf)++[(⟨from1_,to_,service,weight,w.now,y7,y5.1,0,1,from1_,0⟩:Zf)]),y6.1,y1.closed,y1.now,y1.scans,y1.skip,y1.made⟩:Zd) (⟨(w64 ((w.orders.length:Int)+1)),w.now,1,from1_,(⟨0,0⟩:Ze)⟩:Zj)).bind fun y8=>
 some (y8,(w64 ((w.orders.length:Int)+1)),true))))))))
instance (w:Zd) (from1_:ByteArray) (to_:ByteArray) (service:Int) (weight:Int):CT Tryz.prog (ZaL w from1_ to_ service weight):=⟨46,[.ag (ZbD w),vs from1_,vs to_,vi service,vi weight],[],fun r=>.tu [.ag [.ms 0,.ms 1,vi r.1.network.change,.ms 2,.ms 3,.ms 4,vi r.1.now,.ms 5,.ms 6,vi r.1.made],vi r.2.1,vb r.2.2],fun r=>[some ⟨67,6,r.1.network.legs.map cLeg⟩,some ⟨3,1,r.1.network.off.map cInt⟩,some ⟨62,11,r.1.orders.map Zv⟩,some ⟨135,4,r.1.bookings.map Zg⟩,some ⟨55,2,r.1.closed.map Zr⟩,some ⟨130,6,r.1.scans.map ZF⟩,some ⟨3,1,r.1.skip.map cInt⟩],fun H=>by replace H:=H0 H; unfold ZaL at H; exact Zh Tryz.func46 rfl Tryz.ntmps46 Tryz.results46 fun Q hQ hQn=>wk3⟩
def ZbQ (w:Zd) (i:Int):Option Zd:=
 (getI w.orders i).bind fun y1=>
 (Zbh y1).bind fun y2=>
 cond (decide (0<y2))
 ((getI y1.way (w64 (y2-1))).bind fun y3=>
 (Zn w.network y3).bind fun y4=>
 (ZeI (w64 (w.now+1)) (w64 (y4+w.network.change))).bind fun y5=>
 (Zc2 w.network w.bookings (w64 (i+1)) (w64 (w.now+1))).bind fun y6=>
 (Zau w.network y1).bind fun y7=>
 (ZO w.network y6 w.closed y7 y1.to_ y5 y1.weight).bind fun y8=>
 (ZW w.network y6 (w64 (i+1)) y1.weight y8.1).bind fun y9=>
 (chk (slOk 0 y2 y1.way.length)).bind fun _=>
 (chk (Z1 ((([]:List Ze):List Ze).length+((subL y1.way 0 y2):List Ze).length) 16)).bind fun _=>
 (getI w.orders i).bind fun y10=>
 cond y9.2
 ((getI w.orders i).bind fun y11=>
 (chk (Z1 ((((([]:List Ze):List Ze)++(subL y1.way 0 y2)):List Ze).length+(y8.1:List Ze).length) 16)).bind fun _=>
 (getI w.orders i).bind fun y12=>
 some (⟨w.network,(w.orders.set (Int.toNat i) (⟨y10.from_,y10.to_,y10.service,y10.weight,y10.at_,y10.due,((((([]:List Ze):List Ze)++(subL y1.way 0 y2)):List Ze)++y8.1),y10.gone,y10.state,y10.place,y10.ended⟩:Zf)),y9.1,w.closed,w.now,w.scans,w.skip,w.made⟩:Zd))
 (some (⟨w.network,(w.orders.set (Int.toNat i) (⟨y10.from_,y10.to_,y10.service,y10.weight,y10.at_,y10.due,((([]:List Ze):List Ze)++(subL y1.way 0 y2)),y10.gone,y10.state,y10.place,y10.ended⟩:Zf)),y6,w.closed,w.now,w.scans,w.skip,w.made⟩:Zd)))
 ((Zc2 w.network w.bookings (w64 (i+1)) (w64 (w.now+1))).bind fun y13=>
 (Zau w.network y1).bind fun y14=>
 (ZO w.network y13 w.closed y14 y1.to_ (w64 (w.now+1)) y1.weight).bind fun y15=>
 (ZW w.network y13 (w64 (i+1)) y1.weight y15.1).bind fun y16=>
 (chk (slOk 0 y2 y1.way.length)).bind fun _=>
 (chk (Z1 ((([]:List Ze):List Ze).length+((subL y1.way 0 y2):List Ze).length) 16)).bind fun _=>
 (getI w.orders i).bind fun y17=>
 cond y16.2
 ((getI w.orders i).bind fun y18=>
 (chk (Z1 ((((([]:List Ze):List Ze)++(subL y1.way 0 y2)):List Ze).length+(y15.1:List Ze).length) 16)).bind fun _=>
 (getI w.orders i).bind fun y19=>
 some (⟨w.network,(w.orders.set (Int.toNat i) (⟨y17.from_,y17.to_,y17.service,y17.weight,y17.at_,y17.due,((((([]:List Ze):List Ze)++(subL y1.way 0 y2)):List Ze)++y15.1),y17.gone,y17.state,y17.place,y17.ended⟩:Zf)),y16.1,w.closed,w.now,w.scans,w.skip,w.made⟩:Zd))
 (some (⟨w.network,(w.orders.set (Int.toNat i) (⟨y17.from_,y17.to_,y17.service,y17.weight,y17.at_,y17.due,((([]:List Ze):List Ze)++(subL y1.way 0 y2)),y17.gone,y17.state,y17.place,y17.ended⟩:Zf)),y13,w.closed,w.now,w.scans,w.skip,w.made⟩:Zd)))
instance (w:Zd) (i:Int):CT Tryz.prog (ZbQ w i):=⟨123,[.be 0 0 0,vi i],[some ⟨41,10,[[.ms 1,.ms 2,vi w.network.change,.ms 3,.ms 4,.ms 5,vi w.now,.ms 6,.ms 7,vi w.made]]⟩,some ⟨67,6,w.network.legs.map cLeg⟩,some ⟨3,1,w.network.off.map cInt⟩,some ⟨62,11,w.orders.map Zv⟩,some ⟨135,4,w.bookings.map Zg⟩,some ⟨55,2,w.closed.map Zr⟩,some ⟨130,6,w.scans.map ZF⟩,some ⟨3,1,w.skip.map cInt⟩],fun r=>.tu [],fun r=>[some ⟨41,10,[[.ms 1,.ms 2,vi r.network.change,.ms 3,.ms 8,.ms 5,vi r.now,.ms 6,.ms 7,vi r.made]]⟩,some ⟨67,6,r.network.legs.map cLeg⟩,some ⟨3,1,r.network.off.map cInt⟩,some ⟨62,11,r.orders.map Zv⟩,none,some ⟨55,2,r.closed.map Zr⟩,some ⟨130,6,r.scans.map ZF⟩,some ⟨3,1,r.skip.map cInt⟩,some ⟨135,4,r.bookings.map Zg⟩],fun H=>by replace H:=H0 H; unfold ZbQ at H; exact Zh Tryz.func123 rfl Tryz.ntmps123 Tryz.results123 fun Q hQ hQn=>wk3⟩
def Zej (t:Ze) (s0:Int × Int × Int × Int × (List YLeg) × (List Int) × (List Zf) × (List Zc) × (List Ze) × (List Zj) × (List Int)):Option ((Int × Int × Int × Int × (List YLeg) × (List Int) × (List Zf) × (List Zc) × (List Ze) × (List Zj) × (List Int)) ⊕ (Int × Int × Int × (List YLeg) × (List Int) × (List Zf) × (List Zc) × (List Ze) × (List Zj) × (List Int))):=
 cond (decide (s0.1<(s0.2.2.2.2.2.2.1.length:Int)))
 ((getI s0.2.2.2.2.2.2.1 s0.1).bind fun y6=>
 (Zbh y6).bind fun y7=>
 (chk (slOk y7 (y6.way.length:Int) y6.way.length)).bind fun _=>
 (Zam (subL y6.way y7 (y6.way.length:Int)) t).bind fun y8=>
 cond y8
 ((rhoM [2,3,4,5,6,7,8,9]).bind fun _=>
 (ZbQ (⟨(⟨s0.2.2.2.2.1,s0.2.2.2.2.2.1,s0.2.1⟩:Za),s0.2.2.2.2.2.2.1,s0.2.2.2.2.2.2.2.1,s0.2.2.2.2.2.2.2.2.1,s0.2.2.1,s0.2.2.2.2.2.2.2.2.2.1,s0.2.2.2.2.2.2.2.2.2.2,s0.2.2.2.1⟩:Zd) s0.1).bind fun y9=>
 some (.inl ((w64 (s0.1+1)),y9.network.change,y9.now,y9.made,y9.network.legs,y9.network.off,y9.orders,y9.bookings,y9.closed,y9.scans,y9.skip)))
 (some (.inl ((w64 (s0.1+1)),s0.2.1,s0.2.2.1,s0.2.2.2.1,s0.2.2.2.2.1,s0.2.2.2.2.2.1,s0.2.2.2.2.2.2.1,s0.2.2.2.2.2.2.2.1,s0.2.2.2.2.2.2.2.2.1,s0.2.2.2.2.2.2.2.2.2.1,s0.2.2.2.2.2.2.2.2.2.2))))
 (some (.inr (s0.2.1,s0.2.2.1,s0.2.2.2.1,s0.2.2.2.2.1,s0.2.2.2.2.2.1,s0.2.2.2.2.2.2.1,s0.2.2.2.2.2.2.2.1,s0.2.2.2.2.2.2.2.2.1,s0.2.2.2.2.2.2.2.2.2.1,s0.2.2.2.2.2.2.2.2.2.2)))
instance (t:Ze):ZU (Zej t):=⟨fun s0=>(U 3 (.be 0 0 0::.be 1 0 0::.un::.be 2 0 0::vi s0.1::(U 63 []))),fun s0=>[some ⟨55,2,[[vi t.leg,vi t.day]]⟩,some ⟨41,10,[[.v (.slice none 0 0),.v (.slice none 0 0),vi 0,.v (.slice none 0 0),.v (.slice none 0 0),.v (.slice none 0 0),vi 0,.v (.slice none 0 0),.v (.slice none 0 0),vi 0]]⟩,some ⟨41,10,[[.ms 3,.ms 4,vi s0.2.1,.ms 5,.ms 6,.ms 7,vi s0.2.2.1,.ms 8,.ms 9,vi s0.2.2.2.1]]⟩,some ⟨67,6,s0.2.2.2.2.1.map cLeg⟩,some ⟨3,1,s0.2.2.2.2.2.1.map cInt⟩,some ⟨62,11,s0.2.2.2.2.2.2.1.map Zv⟩,some ⟨135,4,s0.2.2.2.2.2.2.2.1.map Zg⟩,some ⟨55,2,s0.2.2.2.2.2.2.2.2.1.map Zr⟩,some ⟨130,6,s0.2.2.2.2.2.2.2.2.2.1.map ZF⟩,some ⟨3,1,s0.2.2.2.2.2.2.2.2.2.2.map cInt⟩]⟩
def Zbo (w:Zd) (t:Ze):Option (Zd × Bool):=
 (ZaI w).bind fun y1=>
 (Za5 w).bind fun y2=>
 cond (!y2)
 (some (y1,false))
 ((Zaj w.network t).bind fun y3=>
 cond (!y3)
 (some (y1,false))
 ((Zo w.network t).bind fun y4=>
 cond (decide (y4≤w.now))
 (some (y1,false))
 ((Zam w.closed t).bind fun y5=>
 cond y5
 (some (y1,false))
 (cond (decide (20≤(w.closed.length:Int)))
 (some (y1,false))
 ((chk (Z1 ((y1.closed:List Ze).length+([t]:List Ze).length) 16)).bind fun _=>
 (Zl (Zej t) NN (0,y1.network.change,y1.now,y1.made,y1.network.legs,y1.network.off,y1.orders,y1.bookings,((y1.closed:List Ze)++[t]),y1.scans,y1.skip)).bind (fun o0=>
 some ((⟨(⟨o0.2.2.2.1,o0.2.2.2.2.1,o0.1⟩:Za),o0.2.2.2.2.2.1,o0.2.2.2.2.2.2.1,o0.2.2.2.2.2.2.2.1,o0.2.1,o0.2.2.2.2.2.2.2.2.1,o0.2.2.2.2.2.2.2.2.2,o0.2.2.1⟩:Zd),true)))))))
instance (w:Zd) (t:Ze):CT Tryz.prog (Zbo w t):=⟨41,[.ag (ZbD w),.ag (Zr t)],[],fun r=>.tu [.ag [.ms 0,.ms 1,vi r.1.network.change,.ms 2,.ms 3,.ms 4,vi r.1.now,.ms 5,.ms 6,vi r.1.made],vb r.2],fun r=>[some ⟨67,6,r.1.network.legs.map cLeg⟩,some ⟨3,1,r.1.network.off.map cInt⟩,some ⟨62,11,r.1.orders.map Zv⟩,some ⟨135,4,r.1.bookings.map Zg⟩,some ⟨55,2,r.1.closed.map Zr⟩,some ⟨130,6,r.1.scans.map ZF⟩,some ⟨3,1,r.1.skip.map cInt⟩],fun H=>by replace H:=H0 H; unfold Zbo at H; exact Zh Tryz.func41 rfl Tryz.ntmps41 Tryz.results41 fun Q hQ hQn=>wk3⟩
def Zen (w:Zd) (s0:Int × (List Int)):Option ((Int × (List Int)) ⊕ (List Int)):=
 cond (decide (s0.1<(w.orders.length:Int)))
 ((ZcF w s0.1).bind fun y2=>
 cond y2
 ((chk (Z1 ((s0.2:List Int).length+([(w64 (s0.1+1))]:List Int).length) 8)).bind fun _=>
 some (.inl ((w64 (s0.1+1)),((s0.2:List Int)++[(w64 (s0.1+1))]))))
 (some (.inl ((w64 (s0.1+1)),s0.2))))
 (some (.inr s0.2))
instance (w:Zd):ZU (Zen w):=⟨fun s0=>(.un::.be 0 0 0::.un::.ms 1::vi s0.1::(U 21 [])),fun s0=>[some ⟨41,10,[[.sl (w.network.legs.map cLeg),.sl (w.network.off.map cInt),vi w.network.change,.sl (w.orders.map Zv),.sl (w.bookings.map Zg),.sl (w.closed.map Zr),vi w.now,.sl (w.scans.map ZF),.sl (w.skip.map cInt),vi w.made]]⟩,some ⟨3,1,s0.2.map cInt⟩]⟩
def Zca (w:Zd):Option (List Int):=
 (Za5 w).bind fun y1=>
 cond (!y1)
 (some ([]:List Int))
 ((Zl (Zen w) NN (0,([]:List Int))).bind (fun o0=>
 some o0))
instance (w:Zd):CT Tryz.prog (Zca w):=⟨129,[.ag (ZbD w)],[],fun r=>.ms 0,fun r=>[some ⟨3,1,r.map cInt⟩],fun H=>by replace H:=H0 H; unfold Zca at H; exact Zh Tryz.func129 rfl Tryz.ntmps129 Tryz.results129 fun Q hQ hQn=>wk3⟩
def Zb1 (y2:(List Int)) (s0:Int × Int × Int × Int × (List YLeg) × (List Int) × (List Zf) × (List Zc) × (List Ze) × (List Zj) × (List Int)):Option ((Int × Int × Int × Int × (List YLeg) × (List Int) × (List Zf) × (List Zc) × (List Ze) × (List Zj) × (List Int)) ⊕ (Int × Int × Int × (List YLeg) × (List Int) × (List Zf) × (List Zc) × (List Ze) × (List Zj) × (List Int))):=
 cond (decide (s0.1<(y2.length:Int)))
 ((getI y2 s0.1).bind fun y3=>
 (rhoM [1,2,3,4,5,6,7,8]).bind fun _=>
 (ZbQ (⟨(⟨s0.2.2.2.2.1,s0.2.2.2.2.2.1,s0.2.1⟩:Za),s0.2.2.2.2.2.2.1,s0.2.2.2.2.2.2.2.1,s0.2.2.2.2.2.2.2.2.1,s0.2.2.1,s0.2.2.2.2.2.2.2.2.2.1,s0.2.2.2.2.2.2.2.2.2.2,s0.2.2.2.1⟩:Zd) (w64 (y3-1))).bind fun y4=>
 some (.inl ((w64 (s0.1+1)),y4.network.change,y4.now,y4.made,y4.network.legs,y4.network.off,y4.orders,y4.bookings,y4.closed,y4.scans,y4.skip)))
 (some (.inr (s0.2.1,s0.2.2.1,s0.2.2.2.1,s0.2.2.2.2.1,s0.2.2.2.2.2.1,s0.2.2.2.2.2.2.1,s0.2.2.2.2.2.2.2.1,s0.2.2.2.2.2.2.2.2.1,s0.2.2.2.2.2.2.2.2.2.1,s0.2.2.2.2.2.2.2.2.2.2)))
instance (y2:(List Int)):ZU (Zb1 y2):=⟨fun s0=>(.un::.un::.be 0 0 0::.un::.be 1 0 0::.ms 9::vi s0.1::(U 23 [])),fun s0=>[some ⟨41,10,[[.v (.slice none 0 0),.v (.slice none 0 0),vi 0,.v (.slice none 0 0),.v (.slice none 0 0),.v (.slice none 0 0),vi 0,.v (.slice none 0 0),.v (.slice none 0 0),vi 0]]⟩,some ⟨41,10,[[.ms 2,.ms 3,vi s0.2.1,.ms 4,.ms 5,.ms 6,vi s0.2.2.1,.ms 7,.ms 8,vi s0.2.2.2.1]]⟩,some ⟨67,6,s0.2.2.2.2.1.map cLeg⟩,some ⟨3,1,s0.2.2.2.2.2.1.map cInt⟩,some ⟨62,11,s0.2.2.2.2.2.2.1.map Zv⟩,some ⟨135,4,s0.2.2.2.2.2.2.2.1.map Zg⟩,some ⟨55,2,s0.2.2.2.2.2.2.2.2.1.map Zr⟩,some ⟨130,6,s0.2.2.2.2.2.2.2.2.2.1.map ZF⟩,some ⟨3,1,s0.2.2.2.2.2.2.2.2.2.2.map cInt⟩,some ⟨3,1,y2.map cInt⟩]⟩
def ZaM (w:Zd):Option (Zd × Int):=
 (ZaI w).bind fun y1=>
 (Zca w).bind fun y2=>
 (Zl (Zb1 y2) NN (0,y1.network.change,y1.now,y1.made,y1.network.legs,y1.network.off,y1.orders,y1.bookings,y1.closed,y1.scans,y1.skip)).bind (fun o0=>
 (Zca (⟨(⟨o0.2.2.2.1,o0.2.2.2.2.1,o0.1⟩:Za),o0.2.2.2.2.2.1,o0.2.2.2.2.2.2.1,o0.2.2.2.2.2.2.2.1,o0.2.1,o0.2.2.2.2.2.2.2.2.1,o0.2.2.2.2.2.2.2.2.2,o0.2.2.1⟩:Zd)).bind fun y5=>
 some ((⟨(⟨o0.2.2.2.1,o0.2.2.2.2.1,o0.1⟩:Za),o0.2.2.2.2.2.1,o0.2.2.2.2.2.2.1,o0.2.2.2.2.2.2.2.1,o0.2.1,o0.2.2.2.2.2.2.2.2.1,o0.2.2.2.2.2.2.2.2.2,o0.2.2.1⟩:Zd),(w64 ((y2.length:Int)-(y5.length:Int)))))
instance (w:Zd):CT Tryz.prog (ZaM w):=⟨44,[.ag (ZbD w)],[],fun r=>.tu [.ag [.ms 0,.ms 1,vi r.1.network.change,.ms 2,.ms 3,.ms 4,vi r.1.now,.ms 5,.ms 6,vi r.1.made],vi r.2],fun r=>[some ⟨67,6,r.1.network.legs.map cLeg⟩,some ⟨3,1,r.1.network.off.map cInt⟩,some ⟨62,11,r.1.orders.map Zv⟩,some ⟨135,4,r.1.bookings.map Zg⟩,some ⟨55,2,r.1.closed.map Zr⟩,some ⟨130,6,r.1.scans.map ZF⟩,some ⟨3,1,r.1.skip.map cInt⟩],fun H=>by replace H:=H0 H; unfold ZaM at H; exact Zh Tryz.func44 rfl Tryz.ntmps44 Tryz.results44 fun Q hQ hQn=>wk3⟩
def Zds (c:Zx) (w:Zd):Option (Zd × Zx):=
 (rhoM [0]).bind fun _=>
 (Zk c 6).bind fun y1=>
 cond (decide (y1.1=0))
 (cond (decide (y1.1=0))
 ((drwL 8 [4,8,10,13]).bind fun _=>
 (rhoM [0]).bind fun _=>
 (Za4 y1.2 w.network).bind fun y2=>
 (rhoM [0]).bind fun _=>
 (Za4 y2.2 w.network).bind fun y3=>
 (rhoM [0]).bind fun _=>
 (Zk y3.2 3).bind fun y4=>
 (rhoM [0]).bind fun _=>
 (Zk y4.2 4000).bind fun y5=>
 (ZaL w y2.1 y3.1 (w64 (1+y4.1)) (w64 (500+y5.1))).bind fun y6=>
 some (y6.1,y5.2))
 (cond (decide (y1.1=3))
 ((drwL 8 [3]).bind fun _=>
 (rhoM [0]).bind fun _=>
 (Zbs y1.2 w).bind fun y7=>
 (Zbo w y7.1).bind fun y8=>
 some (y8.1,y7.2))
 (cond (decide (y1.1=4))
 ((ZaM w).bind fun y9=>
 some (y9.1,y1.2))
 ((drwL 8 [4]).bind fun _=>
 (rhoM [0]).bind fun _=>
 (Zk y1.2 40).bind fun y10=>
 (ZaN w (w64 (w.now+(w64 (30*y10.1))))).bind fun y11=>
 some (y11,y10.2)))))
 (cond (decide (y1.1=1))
 (cond (decide (y1.1=1))
 ((drwL 8 [4,8,10,13]).bind fun _=>
 (rhoM [0]).bind fun _=>
 (Za4 y1.2 w.network).bind fun y12=>
 (rhoM [0]).bind fun _=>
 (Za4 y12.2 w.network).bind fun y13=>
 (rhoM [0]).bind fun _=>
 (Zk y13.2 3).bind fun y14=>
 (rhoM [0]).bind fun _=>
 (Zk y14.2 4000).bind fun y15=>
 (ZaL w y12.1 y13.1 (w64 (1+y14.1)) (w64 (500+y15.1))).bind fun y16=>
 some (y16.1,y15.2))
 (cond (decide (y1.1=3))
 ((drwL 8 [3]).bind fun _=>
 (rhoM [0]).bind fun _=>
 (Zbs y1.2 w).bind fun y17=>
 (Zbo w y17.1).bind fun y18=>
 some (y18.1,y17.2))
 (cond (decide (y1.1=4))
 ((ZaM w).bind fun y19=>
 some (y19.1,y1.2))
 ((drwL 8 [4]).bind fun _=>
 (rhoM [0]).bind fun _=>
 (Zk y1.2 40).bind fun y20=>
 (ZaN w (w64 (w.now+(w64 (30*y20.1))))).bind fun y21=>
 some (y21,y20.2)))))
 (cond (decide (y1.1=2))
 ((drwL 8 [4,8,10,13]).bind fun _=>
 (rhoM [0]).bind fun _=>
 (Za4 y1.2 w.network).bind fun y22=>
 (rhoM [0]).bind fun _=>
 (Za4 y22.2 w.network).bind fun y23=>
 (rhoM [0]).bind fun _=>
 (Zk y23.2 3).bind fun y24=>
 (rhoM [0]).bind fun _=>
 (Zk y24.2 4000).bind fun y25=>
 (ZaL w y22.1 y23.1 (w64 (1+y24.1)) (w64 (500+y25.1))).bind fun y26=>
 some (y26.1,y25.2))
 (cond (decide (y1.1=3))
 ((drwL 8 [3]).bind fun _=>
 (rhoM [0]).bind fun _=>
 (Zbs y1.2 w).bind fun y27=>
 (Zbo w y27.1).bind fun y28=>
 some (y28.1,y27.2))
 (cond (decide (y1.1=4))
 ((ZaM w).bind fun y29=>
 some (y29.1,y1.2))
 ((drwL 8 [4]).bind fun _=>
 (rhoM [0]).bind fun _=>
 (Zk y1.2 40).bind fun y30=>
 (ZaN w (w64 (w.now+(w64 (30*y30.1))))).bind fun y31=>
 some (y31,y30.2))))))
instance (c:Zx) (w:Zd):CT Tryz.prog (Zds c w):=⟨231,[.be 0 0 0,.ag (ZbD w)],[some ⟨187,3,[[.sl (c.b.map cB8),vi c.i,vi c.h]]⟩],fun r=>.ag [.ms 1,.ms 2,vi r.1.network.change,.ms 3,.ms 4,.ms 5,vi r.1.now,.ms 6,.ms 7,vi r.1.made],fun r=>[some ⟨187,3,[[.sl (r.2.b.map cB8),vi r.2.i,vi r.2.h]]⟩,some ⟨67,6,r.1.network.legs.map cLeg⟩,some ⟨3,1,r.1.network.off.map cInt⟩,some ⟨62,11,r.1.orders.map Zv⟩,some ⟨135,4,r.1.bookings.map Zg⟩,some ⟨55,2,r.1.closed.map Zr⟩,some ⟨130,6,r.1.scans.map ZF⟩,some ⟨3,1,r.1.skip.map cInt⟩],fun H=>by replace H:=H0 H; unfold Zds at H; exact Zh Tryz.func231 rfl Tryz.ntmps231 Tryz.results231 fun Q hQ hQn=>wk3⟩
def Zek (most:Int) (y1:Za × Zx) (s0:Int × (List YB8) × Int × Int × (List YLeg)):Option ((Int × (List YB8) × Int × Int × (List YLeg)) ⊕ ((List YB8) × Int × Int × (List YLeg))):=
 cond (decide (s0.1<(s0.2.2.2.2.length:Int)))
 ((rhoM [0]).bind fun _=>
 (ZM (⟨s0.2.1,s0.2.2.1,s0.2.2.2.1⟩:Zx) 2).bind fun y2=>
 cond y2.1
 ((drwL 8 [4]).bind fun _=>
 (rhoM [0]).bind fun _=>
 (Zk y2.2 9).bind fun y3=>
 (getI s0.2.2.2.2 s0.1).bind fun y4=>
 some (.inl ((w64 (s0.1+1)),y3.2.b,y3.2.i,y3.2.h,(s0.2.2.2.2.set (Int.toNat s0.1) (⟨y4.from_,y4.to_,y4.start,y4.takes,y4.days,(w64 (2000+(w64 (1000*y3.1))))⟩:YLeg)))))
 (some (.inl ((w64 (s0.1+1)),y2.2.b,y2.2.i,y2.2.h,s0.2.2.2.2))))
 (some (.inr (s0.2.1,s0.2.2.1,s0.2.2.2.1,s0.2.2.2.2)))
instance (most:Int) (y1:Za × Zx):ZU (Zek most y1):=⟨fun s0=>(.be 0 0 0::vi most::.un::.un::.be 1 0 0::.be 2 0 0::vi s0.1::(U 55 [])),fun s0=>[some ⟨187,3,[[.sl (s0.2.1.map cB8),vi s0.2.2.1,vi s0.2.2.2.1]]⟩,some ⟨41,10,[[.v (.slice none 0 0),.v (.slice none 0 0),vi 0,.v (.slice none 0 0),.v (.slice none 0 0),.v (.slice none 0 0),vi 0,.v (.slice none 0 0),.v (.slice none 0 0),vi 0]]⟩,some ⟨35,3,[[.ms 3,.ms 4,vi y1.1.change]]⟩,some ⟨67,6,s0.2.2.2.2.map cLeg⟩,some ⟨3,1,y1.1.off.map cInt⟩]⟩
def Zel (most:Int) (y1:Za × Zx) (o0:(List YB8) × Int × Int × (List YLeg)) (s1:Int × (List YB8) × Int × Int × (List Int)):Option ((Int × (List YB8) × Int × Int × (List Int)) ⊕ ((List YB8) × Int × Int × (List Int))):=
 cond (decide (0<s1.1))
 ((rhoM [0]).bind fun _=>
 (Zk (⟨s1.2.1,s1.2.2.1,s1.2.2.2.1⟩:Zx) 25).bind fun y6=>
 (chk (Z1 ((s1.2.2.2.2:List Int).length+([(w64 (1+y6.1))]:List Int).length) 8)).bind fun _=>
 some (.inl ((w64 (s1.1-1)),y6.2.b,y6.2.i,y6.2.h,((s1.2.2.2.2:List Int)++[(w64 (1+y6.1))]))))
 (some (.inr (s1.2.1,s1.2.2.1,s1.2.2.2.1,s1.2.2.2.2)))
instance (most:Int) (y1:Za × Zx) (o0:(List YB8) × Int × Int × (List YLeg)):ZU (Zel most y1 o0):=⟨fun s1=>(.be 0 0 0::vi most::.un::.un::.be 1 0 0::.be 2 0 0::.un::.ms 5::vi s1.1::(U 53 [])),fun s1=>[some ⟨187,3,[[.sl (s1.2.1.map cB8),vi s1.2.2.1,vi s1.2.2.2.1]]⟩,some ⟨41,10,[[.v (.slice none 0 0),.v (.slice none 0 0),vi 0,.v (.slice none 0 0),.v (.slice none 0 0),.v (.slice none 0 0),vi 0,.v (.slice none 0 0),.v (.slice none 0 0),vi 0]]⟩,some ⟨35,3,[[.ms 3,.ms 4,vi y1.1.change]]⟩,some ⟨67,6,o0.2.2.2.map cLeg⟩,some ⟨3,1,y1.1.off.map cInt⟩,some ⟨3,1,s1.2.2.2.2.map cInt⟩]⟩
def Zem (s2:Int × (List YB8) × Int × Int × Int × Int × Int × (List YLeg) × (List Int) × (List Zf) × (List Zc) × (List Ze) × (List Zj) × (List Int)):Option ((Int × (List YB8) × Int × Int × Int × Int × Int × (List YLeg) × (List Int) × (List Zf) × (List Zc) × (List Ze) × (List Zj) × (List Int)) ⊕ ((List YB8) × Int × Int × Int × Int × Int × (List YLeg) × (List Int) × (List Zf) × (List Zc) × (List Ze) × (List Zj) × (List Int))):=
 cond (decide (0<s2.1))
 ((frz (.be 0 0 0::(U 3 (.be 1 0 0::(U 4 (.be 2 0 0::.un::vi s2.1::(U 50 [])))))) [some ⟨187,3,[[.sl (s2.2.1.map cB8),vi s2.2.2.1,vi s2.2.2.2.1]]⟩,some ⟨41,10,[[.v (.slice none 0 0),.v (.slice none 0 0),vi 0,.v (.slice none 0 0),.v (.slice none 0 0),.v (.slice none 0 0),vi 0,.v (.slice none 0 0),.v (.slice none 0 0),vi 0]]⟩,some ⟨41,10,[[.sl (s2.2.2.2.2.2.2.2.1.map cLeg),.sl (s2.2.2.2.2.2.2.2.2.1.map cInt),vi s2.2.2.2.2.1,.sl (s2.2.2.2.2.2.2.2.2.2.1.map Zv),.sl (s2.2.2.2.2.2.2.2.2.2.2.1.map Zg),.sl (s2.2.2.2.2.2.2.2.2.2.2.2.1.map Zr),vi s2.2.2.2.2.2.1,.sl (s2.2.2.2.2.2.2.2.2.2.2.2.2.1.map ZF),.sl (s2.2.2.2.2.2.2.2.2.2.2.2.2.2.map cInt),vi s2.2.2.2.2.2.2.1]]⟩]).bind fun _=>
 (rhoM [0]).bind fun _=>
 (Zds (⟨s2.2.1,s2.2.2.1,s2.2.2.2.1⟩:Zx) (⟨(⟨s2.2.2.2.2.2.2.2.1,s2.2.2.2.2.2.2.2.2.1,s2.2.2.2.2.1⟩:Za),s2.2.2.2.2.2.2.2.2.2.1,s2.2.2.2.2.2.2.2.2.2.2.1,s2.2.2.2.2.2.2.2.2.2.2.2.1,s2.2.2.2.2.2.1,s2.2.2.2.2.2.2.2.2.2.2.2.2.1,s2.2.2.2.2.2.2.2.2.2.2.2.2.2,s2.2.2.2.2.2.2.1⟩:Zd)).bind fun y9=>
 some (.inl ((w64 (s2.1-1)),y9.2.b,y9.2.i,y9.2.h,y9.1.network.change,y9.1.now,y9.1.made,y9.1.network.legs,y9.1.network.off,y9.1.orders,y9.1.bookings,y9.1.closed,y9.1.scans,y9.1.skip)))
 (some (.inr (s2.2.1,s2.2.2.1,s2.2.2.2.1,s2.2.2.2.2.1,s2.2.2.2.2.2.1,s2.2.2.2.2.2.2.1,s2.2.2.2.2.2.2.2.1,s2.2.2.2.2.2.2.2.2.1,s2.2.2.2.2.2.2.2.2.2.1,s2.2.2.2.2.2.2.2.2.2.2.1,s2.2.2.2.2.2.2.2.2.2.2.2.1,s2.2.2.2.2.2.2.2.2.2.2.2.2.1,s2.2.2.2.2.2.2.2.2.2.2.2.2.2)))
instance:ZU (Zem):=⟨fun s2=>(.be 0 0 0::(U 3 (.be 1 0 0::(U 4 (.be 2 0 0::.un::vi s2.1::(U 50 [])))))),fun s2=>[some ⟨187,3,[[.sl (s2.2.1.map cB8),vi s2.2.2.1,vi s2.2.2.2.1]]⟩,some ⟨41,10,[[.v (.slice none 0 0),.v (.slice none 0 0),vi 0,.v (.slice none 0 0),.v (.slice none 0 0),.v (.slice none 0 0),vi 0,.v (.slice none 0 0),.v (.slice none 0 0),vi 0]]⟩,some ⟨41,10,[[.ms 3,.ms 4,vi s2.2.2.2.2.1,.ms 5,.ms 6,.ms 7,vi s2.2.2.2.2.2.1,.ms 8,.ms 9,vi s2.2.2.2.2.2.2.1]]⟩,some ⟨67,6,s2.2.2.2.2.2.2.2.1.map cLeg⟩,some ⟨3,1,s2.2.2.2.2.2.2.2.2.1.map cInt⟩,some ⟨62,11,s2.2.2.2.2.2.2.2.2.2.1.map Zv⟩,some ⟨135,4,s2.2.2.2.2.2.2.2.2.2.2.1.map Zg⟩,some ⟨55,2,s2.2.2.2.2.2.2.2.2.2.2.2.1.map Zr⟩,some ⟨130,6,s2.2.2.2.2.2.2.2.2.2.2.2.2.1.map ZF⟩,some ⟨3,1,s2.2.2.2.2.2.2.2.2.2.2.2.2.2.map cInt⟩]⟩
def ZcZ (c:Zx) (most:Int):Option (Zd × Zx):=
 (rhoM [0]).bind fun _=>
 (Zdu c 7).bind fun y1=>
 (Zl (Zek most y1) NN (0,y1.2.b,y1.2.i,y1.2.h,y1.1.legs)).bind (fun o0=>
 (rhoM [0]).bind fun _=>
 (Zk (⟨o0.1,o0.2.1,o0.2.2.1⟩:Zx) 6).bind fun y5=>
 (Zl (Zel most y1 o0) NN (y5.1,y5.2.b,y5.2.i,y5.2.h,([]:List Int))).bind (fun o1=>
 (frz (.be 0 0 0::vi most::.un::.un::.be 1 0 0::.be 2 0 0::.un::.sl (o1.2.2.2.map cInt)::(U 54 [])) [some ⟨187,3,[[.sl (o1.1.map cB8),vi o1.2.1,vi o1.2.2.1]]⟩,some ⟨41,10,[[.v (.slice none 0 0),.v (.slice none 0 0),vi 0,.v (.slice none 0 0),.v (.slice none 0 0),.v (.slice none 0 0),vi 0,.v (.slice none 0 0),.v (.slice none 0 0),vi 0]]⟩,some ⟨35,3,[[.sl (o0.2.2.2.map cLeg),.sl (y1.1.off.map cInt),vi y1.1.change]]⟩]).bind fun _=>
 (Zal (⟨o0.2.2.2,y1.1.off,y1.1.change⟩:Za) o1.2.2.2).bind fun y7=>
 (rhoM [0]).bind fun _=>
 (Zk (⟨o1.1,o1.2.1,o1.2.2.1⟩:Zx) most).bind fun y8=>
 (Zl (Zem) NN (y8.1,y8.2.b,y8.2.i,y8.2.h,y7.1.network.change,y7.1.now,y7.1.made,y7.1.network.legs,y7.1.network.off,y7.1.orders,y7.1.bookings,y7.1.closed,y7.1.scans,y7.1.skip)).bind (fun o2=>
 some ((⟨(⟨o2.2.2.2.2.2.2.1,o2.2.2.2.2.2.2.2.1,o2.2.2.2.1⟩:Za),o2.2.2.2.2.2.2.2.2.1,o2.2.2.2.2.2.2.2.2.2.1,o2.2.2.2.2.2.2.2.2.2.2.1,o2.2.2.2.2.1,o2.2.2.2.2.2.2.2.2.2.2.2.1,o2.2.2.2.2.2.2.2.2.2.2.2.2,o2.2.2.2.2.2.1⟩:Zd),(⟨o2.1,o2.2.1,o2.2.2.1⟩:Zx)))))
instance (c:Zx) (most:Int):CT Tryz.prog (ZcZ c most):=⟨178,[.be 0 0 0,vi most],[some ⟨187,3,[[.sl (c.b.map cB8),vi c.i,vi c.h]]⟩],fun r=>.ag [.ms 1,.ms 2,vi r.1.network.change,.ms 3,.ms 4,.ms 5,vi r.1.now,.ms 6,.ms 7,vi r.1.made],fun r=>[some ⟨187,3,[[.sl (r.2.b.map cB8),vi r.2.i,vi r.2.h]]⟩,some ⟨67,6,r.1.network.legs.map cLeg⟩,some ⟨3,1,r.1.network.off.map cInt⟩,some ⟨62,11,r.1.orders.map Zv⟩,some ⟨135,4,r.1.bookings.map Zg⟩,some ⟨55,2,r.1.closed.map Zr⟩,some ⟨130,6,r.1.scans.map ZF⟩,some ⟨3,1,r.1.skip.map cInt⟩],fun H=>by replace H:=H0 H; unfold ZcZ at H; exact Zh Tryz.func178 rfl Tryz.ntmps178 Tryz.results178 fun Q hQ hQn=>wk3⟩
def Zcu (c:Zx) (n:Za):Option (Ze × Zx × Za):=
 (rhoM [0]).bind fun _=>
 (Zk c (n.legs.length:Int)).bind fun y1=>
 (rhoM [0]).bind fun _=>
 (Zk y1.2 10).bind fun y2=>
 (Zdn n y1.1 (w64 (y2.1*1440))).bind fun y3=>
 cond (decide (0≤y3))
 ((rhoM [0]).bind fun _=>
 (ZM y2.2 4).bind fun y4=>
 cond (!y4.1)
 (some ((⟨y1.1,y3⟩:Ze),y4.2,n))
 (some ((⟨y1.1,y2.1⟩:Ze),y4.2,n)))
 (some ((⟨y1.1,y2.1⟩:Ze),y2.2,n))
instance (c:Zx) (n:Za):CT Tryz.prog (Zcu c n):=⟨211,[.be 0 0 0,.ag [.ms 1,.ms 2,vi n.change]],[some ⟨187,3,[[.sl (c.b.map cB8),vi c.i,vi c.h]]⟩,some ⟨67,6,n.legs.map cLeg⟩,some ⟨3,1,n.off.map cInt⟩],fun r=>.ag [vi r.1.leg,vi r.1.day],fun r=>[some ⟨187,3,[[.sl (r.2.1.b.map cB8),vi r.2.1.i,vi r.2.1.h]]⟩,some ⟨67,6,r.2.2.legs.map cLeg⟩,some ⟨3,1,r.2.2.off.map cInt⟩],fun H=>by replace H:=H0 H; unfold Zcu at H; exact Zh Tryz.func211 rfl Tryz.ntmps211 Tryz.results211 fun Q hQ hQn=>wk3⟩
def Zc0 (c:Zx) (w:Zd):Option (Ze × Zx × Zd):=
 cond (decide (0<(w.bookings.length:Int)))
 ((rhoM [0]).bind fun _=>
 (ZM c 4).bind fun y1=>
 cond (!y1.1)
 ((drwL 8 [6]).bind fun _=>
 (rhoM [0]).bind fun _=>
 (Zk y1.2 (w.bookings.length:Int)).bind fun y2=>
 (getI w.bookings y2.1).bind fun y3=>
 some (y3.trip,y2.2,w))
 ((rhoM [0,1,2]).bind fun _=>
 (Zcu y1.2 w.network).bind fun y4=>
 some (y4.1,y4.2.1,(⟨(⟨y4.2.2.legs,y4.2.2.off,w.network.change⟩:Za),w.orders,w.bookings,w.closed,w.now,w.scans,w.skip,w.made⟩:Zd))))
 ((rhoM [0,1,2]).bind fun _=>
 (Zcu c w.network).bind fun y5=>
 some (y5.1,y5.2.1,(⟨(⟨y5.2.2.legs,y5.2.2.off,w.network.change⟩:Za),w.orders,w.bookings,w.closed,w.now,w.scans,w.skip,w.made⟩:Zd)))
instance (c:Zx) (w:Zd):CT Tryz.prog (Zc0 c w):=⟨147,[.be 0 0 0,.ag [.ms 1,.ms 2,vi w.network.change,.ms 3,.ms 4,.ms 5,vi w.now,.ms 6,.ms 7,vi w.made]],[some ⟨187,3,[[.sl (c.b.map cB8),vi c.i,vi c.h]]⟩,some ⟨67,6,w.network.legs.map cLeg⟩,some ⟨3,1,w.network.off.map cInt⟩,some ⟨62,11,w.orders.map Zv⟩,some ⟨135,4,w.bookings.map Zg⟩,some ⟨55,2,w.closed.map Zr⟩,some ⟨130,6,w.scans.map ZF⟩,some ⟨3,1,w.skip.map cInt⟩],fun r=>.ag [vi r.1.leg,vi r.1.day],fun r=>[some ⟨187,3,[[.sl (r.2.1.b.map cB8),vi r.2.1.i,vi r.2.1.h]]⟩,some ⟨67,6,r.2.2.network.legs.map cLeg⟩,some ⟨3,1,r.2.2.network.off.map cInt⟩,some ⟨62,11,r.2.2.orders.map Zv⟩,some ⟨135,4,r.2.2.bookings.map Zg⟩,some ⟨55,2,r.2.2.closed.map Zr⟩,some ⟨130,6,r.2.2.scans.map ZF⟩,some ⟨3,1,r.2.2.skip.map cInt⟩],fun H=>by replace H:=H0 H; unfold Zc0 at H; exact Zh Tryz.func147 rfl Tryz.ntmps147 Tryz.results147 fun Q hQ hQn=>wk3⟩
def Zdt (c:Zx):Option (Zd × Zx):=
 (rhoM [0]).bind fun _=>
 (ZcZ c 9).bind fun y1=>
 (rhoM [0]).bind fun _=>
 (ZM y1.2 2).bind fun y2=>
 cond y2.1
 (some (y1.1,y2.2))
 (cond (decide ((y1.1.orders.length:Int)=0))
 (some (y1.1,y2.2))
 ((rhoM [0]).bind fun _=>
 (Zk y2.2 (y1.1.orders.length:Int)).bind fun y3=>
 (rhoM [0]).bind fun _=>
 (Zk y3.2 13).bind fun y4=>
 cond (decide (y4.1=0))
 ((drwL 8 [4]).bind fun _=>
 (rhoM [0]).bind fun _=>
 (Zk y4.2 5).bind fun y5=>
 (getI y1.1.orders y3.1).bind fun y6=>
 some ((⟨y1.1.network,(y1.1.orders.set (Int.toNat y3.1) (⟨y6.from_,y6.to_,y6.service,y6.weight,y6.at_,y6.due,y6.way,y6.gone,y5.1,y6.place,y6.ended⟩:Zf)),y1.1.bookings,y1.1.closed,y1.1.now,y1.1.scans,y1.1.skip,y1.1.made⟩:Zd),y5.2))
 (cond (decide (y4.1=1))
 ((getI y1.1.orders y3.1).bind fun y7=>
 (getI y1.1.orders y3.1).bind fun y8=>
 some ((⟨y1.1.network,(y1.1.orders.set (Int.toNat y3.1) (⟨y8.from_,y8.to_,y8.service,y8.weight,y8.at_,y8.due,y8.way,(w64 (y7.gone+1)),y8.state,y8.place,y8.ended⟩:Zf)),y1.1.bookings,y1.1.closed,y1.1.now,y1.1.scans,y1.1.skip,y1.1.made⟩:Zd),y4.2))
 (cond (decide (y4.1=2))
 ((drwL 8 [11]).bind fun _=>
 (getI y1.1.orders y3.1).bind fun y9=>
 (rhoM [0,90]).bind fun _=>
 (Zcg y4.2 ([⟨#[]⟩,⟨#[65,77,83]⟩,y9.to_])).bind fun y10=>
 (getI y1.1.orders y3.1).bind fun y11=>
 some ((⟨y1.1.network,(y1.1.orders.set (Int.toNat y3.1) (⟨y11.from_,y11.to_,y11.service,y11.weight,y11.at_,y11.due,y11.way,y11.gone,y11.state,y10.1,y11.ended⟩:Zf)),y1.1.bookings,y1.1.closed,y1.1.now,y1.1.scans,y1.1.skip,y1.1.made⟩:Zd),y10.2.1))
 (cond (decide (y4.1=3))
 ((getI y1.1.orders y3.1).bind fun y12=>
 (getI y1.1.orders y3.1).bind fun y13=>
 some ((⟨y1.1.network,(y1.1.orders.set (Int.toNat y3.1) (⟨y13.from_,y13.to_,y13.service,(w64 (y12.weight+1)),y13.at_,y13.due,y13.way,y13.gone,y13.state,y13.place,y13.ended⟩:Zf)),y1.1.bookings,y1.1.closed,y1.1.now,y1.1.scans,y1.1.skip,y1.1.made⟩:Zd),y4.2))
 (cond (decide (y4.1=4))
 ((drwL 8 [4]).bind fun _=>
 (rhoM [0,34]).bind fun _=>
 (Za7 y4.2 ([1,300,(-1),5000])).bind fun y14=>
 some ((⟨y1.1.network,y1.1.orders,y1.1.bookings,y1.1.closed,(w64 (y1.1.now+y14.1)),y1.1.scans,y1.1.skip,y1.1.made⟩:Zd),y14.2.1))
 (cond (decide (y4.1=5))
 ((drwL 8 [7]).bind fun _=>
 (rhoM [0]).bind fun _=>
 (Zk y4.2 (w64 ((y1.1.bookings.length:Int)+1))).bind fun y15=>
 (chk (slOk 0 y15.1 y1.1.bookings.length)).bind fun _=>
 some ((⟨y1.1.network,y1.1.orders,(subL y1.1.bookings 0 y15.1),y1.1.closed,y1.1.now,y1.1.scans,y1.1.skip,y1.1.made⟩:Zd),y15.2))
 (cond (decide (y4.1=6))
 ((drwL 8 [4]).bind fun _=>
 (rhoM [0,2,3,4,5,6,7,8]).bind fun _=>
 (Zc0 y4.2 y1.1).bind fun y16=>
 (chk (Z1 ((y16.2.2.closed:List Ze).length+([y16.1]:List Ze).length) 16)).bind fun _=>
 some ((⟨(⟨y16.2.2.network.legs,y16.2.2.network.off,y1.1.network.change⟩:Za),y16.2.2.orders,y16.2.2.bookings,((y16.2.2.closed:List Ze)++[y16.1]),y1.1.now,y16.2.2.scans,y16.2.2.skip,y1.1.made⟩:Zd),y16.2.1))
 (cond (decide (y4.1=7))
 ((getI y1.1.orders y3.1).bind fun y17=>
 (getI y1.1.orders y3.1).bind fun y18=>
 some ((⟨y1.1.network,(y1.1.orders.set (Int.toNat y3.1) (⟨y18.from_,y18.to_,y18.service,y18.weight,y18.at_,y18.due,y18.way,y18.gone,y18.state,y18.place,(w64 (y17.ended+1))⟩:Zf)),y1.1.bookings,y1.1.closed,y1.1.now,y1.1.scans,y1.1.skip,y1.1.made⟩:Zd),y4.2))
 (cond (decide (y4.1=8))
 ((rhoM [0,10]).bind fun _=>
 (Za7 y4.2 ([0,1000000000,1000000001])).bind fun y19=>
 some ((⟨y1.1.network,y1.1.orders,y1.1.bookings,y1.1.closed,y1.1.now,y1.1.scans,y1.1.skip,y19.1⟩:Zd),y19.2.1))
 (cond (decide (y4.1=9))
 ((drwL 8 [5]).bind fun _=>
 (rhoM [0,42]).bind fun _=>
 (Za7 y4.2 ([0,(-1),200000,200001])).bind fun y20=>
 (getI y1.1.orders y3.1).bind fun y21=>
 some ((⟨y1.1.network,(y1.1.orders.set (Int.toNat y3.1) (⟨y21.from_,y21.to_,y21.service,y21.weight,y21.at_,y20.1,y21.way,y21.gone,y21.state,y21.place,y21.ended⟩:Zf)),y1.1.bookings,y1.1.closed,y1.1.now,y1.1.scans,y1.1.skip,y1.1.made⟩:Zd),y20.2.1))
 (some (y1.1,y4.2)))))))))))))
instance (c:Zx):CT Tryz.prog (Zdt c):=⟨103,[.be 0 0 0],[some ⟨187,3,[[.sl (c.b.map cB8),vi c.i,vi c.h]]⟩],fun r=>.ag [.sl (r.1.network.legs.map cLeg),.sl (r.1.network.off.map cInt),vi r.1.network.change,.sl (r.1.orders.map Zv),.sl (r.1.bookings.map Zg),.sl (r.1.closed.map Zr),vi r.1.now,.sl (r.1.scans.map ZF),.sl (r.1.skip.map cInt),vi r.1.made],fun r=>[some ⟨187,3,[[.sl (r.2.b.map cB8),vi r.2.i,vi r.2.h]]⟩],fun H=>by replace H:=H0 H; unfold Zdt at H; exact Zh Tryz.func103 rfl Tryz.ntmps103 Tryz.results103 fun Q hQ hQn=>wk3⟩
def ZcC (code:List YB8):Option Zd:=
 (Zeu code).bind fun y1=>
 (rhoM [1]).bind fun _=>
 (Zdt y1).bind fun y2=>
 some y2.1
instance (code:List YB8):CT Tryz.prog (ZcC code):=⟨60,[.sl (code.map cB8)],[],fun r=>.ag [.sl (r.network.legs.map cLeg),.sl (r.network.off.map cInt),vi r.network.change,.sl (r.orders.map Zv),.sl (r.bookings.map Zg),.sl (r.closed.map Zr),vi r.now,.sl (r.scans.map ZF),.sl (r.skip.map cInt),vi r.made],fun r=>[],fun H=>by replace H:=H0 H; unfold ZcC at H; exact Zh Tryz.func60 rfl Tryz.ntmps60 Tryz.results60 fun Q hQ hQn=>wk3⟩
def Zcw (b:Zhx):Option Int:=
 some (w64 ((b.places.length:Int)+(b.rides.length:Int)))
instance (b:Zhx):CT Tryz.prog (Zcw b):=⟨63,[.ag (Ze5 b)],[],fun r=>vi r,fun r=>[],fun H=>by replace H:=H0 H; unfold Zcw at H; exact Zh Tryz.func63 rfl Tryz.ntmps63 Tryz.results63 fun Q hQ hQn=>wk3⟩
def Zdq (code:List YB8) (i:Int):Option Int:=
 cond (decide ((code.length:Int)≤i))
 (some 0)
 ((getI code i).bind fun y1=>
 some (IntKind.i64.wrap y1.v))
instance (code:List YB8) (i:Int):CT Tryz.prog (Zdq code i):=⟨25,[.sl (code.map cB8),vi i],[],fun r=>vi r,fun r=>[],fun H=>by replace H:=H0 H; unfold Zdq at H; exact Zh Tryz.func25 rfl Tryz.ntmps25 Tryz.results25 fun Q hQ hQn=>wk3⟩
def Zcz (w:Zd) (s0:Int):Option (Int ⊕ (Unit ⊕ Bool)):=
 cond (decide (s0<(w.orders.length:Int)))
 ((getI w.orders s0).bind fun y1=>
 (Zce w.network w.scans (w64 (s0+1)) w.now).bind fun y2=>
 cond (!y2.2)
 (some (.inl (w64 (s0+1))))
 (cond (decide (y1.state=3))
 (some (.inl (w64 (s0+1))))
 (cond (decide (y1.state=1))
 ((ZdB w.network w.scans (w64 (s0+1)) w.now y1.place).bind fun y3=>
 cond (!y3)
 (some (.inr (.inr false)))
 (cond (decide (y1.state=2))
 ((getI y1.way y1.gone).bind fun y4=>
 (ZcK w.network w.scans (w64 (s0+1)) w.now y4).bind fun y5=>
 cond (!y5)
 (some (.inr (.inr false)))
 (some (.inl (w64 (s0+1)))))
 (some (.inl (w64 (s0+1))))))
 (cond (decide (y1.state=2))
 ((getI y1.way y1.gone).bind fun y6=>
 (ZcK w.network w.scans (w64 (s0+1)) w.now y6).bind fun y7=>
 cond (!y7)
 (some (.inr (.inr false)))
 (some (.inl (w64 (s0+1)))))
 (some (.inl (w64 (s0+1))))))))
 (some (.inr (.inl ())))
instance (w:Zd):ZU (Zcz w):=⟨fun s0=>(.un::.be 0 0 0::.un::vi s0::(U 72 [])),fun s0=>[some ⟨41,10,[[.sl (w.network.legs.map cLeg),.sl (w.network.off.map cInt),vi w.network.change,.sl (w.orders.map Zv),.sl (w.bookings.map Zg),.sl (w.closed.map Zr),vi w.now,.sl (w.scans.map ZF),.sl (w.skip.map cInt),vi w.made]]⟩]⟩
def ZcY (w:Zd):Option Bool:=
 (Zl (Zcz w) NN 0).bind (ZX (fun o0=>
 some true) (fun r=>some r))
instance (w:Zd):CT Tryz.prog (ZcY w):=⟨51,[.ag (ZbD w)],[],fun r=>vb r,fun r=>[],fun H=>by replace H:=H0 H; unfold ZcY at H; exact Zh Tryz.func51 rfl Tryz.ntmps51 Tryz.results51 fun Q hQ hQn=>wk3⟩
def Zhk (code:List YB8):Option Bool:=
 some (decide (4096<(code.length:Int)))
instance (code:List YB8):CT Tryz.prog (Zhk code):=⟨22,[.sl (code.map cB8)],[],fun r=>vb r,fun r=>[],fun H=>by replace H:=H0 H; unfold Zhk at H; exact Zh Tryz.func22 rfl Tryz.ntmps22 Tryz.results22 fun Q hQ hQn=>wk3⟩
def Zbn (code:List YB8) (y5:(List ByteArray)) (s0:Int × (List YLeg) × (List Int) × Int × (List Zf) × (List Zc) × (List Ze) × Int × (List Zj) × (List Int) × Int):Option ((Int × (List YLeg) × (List Int) × Int × (List Zf) × (List Zc) × (List Ze) × Int × (List Zj) × (List Int) × Int) ⊕ ((List YLeg) × (List Int) × Int × (List Zf) × (List Zc) × (List Ze) × Int × (List Zj) × (List Int) × Int)):=
 cond (decide (s0.1<4))
 ((drwL 8 []).bind fun _=>
 (Zdq code s0.1).bind fun y6=>
 (chk (decide ((y5.length:Int)≠0))).bind fun _=>
 (getI y5 (Int.tmod y6 (y5.length:Int))).bind fun y7=>
 (Zdq code (w64 (s0.1+4))).bind fun y8=>
 (chk (decide ((y5.length:Int)≠0))).bind fun _=>
 (getI y5 (Int.tmod y8 (y5.length:Int))).bind fun y9=>
 (Zdq code (w64 (s0.1+8))).bind fun y10=>
 (ZaK (⟨(⟨s0.2.1,s0.2.2.1,s0.2.2.2.1⟩:Za),s0.2.2.2.2.1,s0.2.2.2.2.2.1,s0.2.2.2.2.2.2.1,s0.2.2.2.2.2.2.2.1,s0.2.2.2.2.2.2.2.2.1,s0.2.2.2.2.2.2.2.2.2.1,s0.2.2.2.2.2.2.2.2.2.2⟩:Zd) y7 y9 (w64 (1+(Int.tmod s0.1 3))) (w64 (1+y10))).bind fun y11=>
 (frz (.sl (code.map cB8)::(U 3 (.be 0 0 0::(U 3 (.ms 1::vi s0.1::.be 2 0 0::(U 156 [])))))) [some ⟨41,10,[[.sl (s0.2.1.map cLeg),.sl (s0.2.2.1.map cInt),vi s0.2.2.2.1,.sl (s0.2.2.2.2.1.map Zv),.sl (s0.2.2.2.2.2.1.map Zg),.sl (s0.2.2.2.2.2.2.1.map Zr),vi s0.2.2.2.2.2.2.2.1,.sl (s0.2.2.2.2.2.2.2.2.1.map ZF),.sl (s0.2.2.2.2.2.2.2.2.2.1.map cInt),vi s0.2.2.2.2.2.2.2.2.2.2]]⟩,some ⟨9,1,y5.map cStr⟩,some ⟨41,10,[[.sl (y11.1.network.legs.map cLeg),.sl (y11.1.network.off.map cInt),vi y11.1.network.change,.sl (y11.1.orders.map Zv),.sl (y11.1.bookings.map Zg),.sl (y11.1.closed.map Zr),vi y11.1.now,.sl (y11.1.scans.map ZF),.sl (y11.1.skip.map cInt),vi y11.1.made]]⟩]).bind fun _=>
 (Zdq code (w64 (s0.1+12))).bind fun y12=>
 (Zcr y11.1 (w64 (y11.1.now+(w64 (20*y12))))).bind fun y13=>
 some (.inl ((w64 (s0.1+1)),y13.network.legs,y13.network.off,y13.network.change,y13.orders,y13.bookings,y13.closed,y13.now,y13.scans,y13.skip,y13.made)))
 (some (.inr (s0.2.1,s0.2.2.1,s0.2.2.2.1,s0.2.2.2.2.1,s0.2.2.2.2.2.1,s0.2.2.2.2.2.2.1,s0.2.2.2.2.2.2.2.1,s0.2.2.2.2.2.2.2.2.1,s0.2.2.2.2.2.2.2.2.2.1,s0.2.2.2.2.2.2.2.2.2.2)))
instance (code:List YB8) (y5:(List ByteArray)):ZU (Zbn code y5):=⟨fun s0=>(.sl (code.map cB8)::(U 3 (.be 0 0 0::(U 3 (.ms 1::vi s0.1::(U 157 [])))))),fun s0=>[some ⟨41,10,[[.sl (s0.2.1.map cLeg),.sl (s0.2.2.1.map cInt),vi s0.2.2.2.1,.sl (s0.2.2.2.2.1.map Zv),.sl (s0.2.2.2.2.2.1.map Zg),.sl (s0.2.2.2.2.2.2.1.map Zr),vi s0.2.2.2.2.2.2.2.1,.sl (s0.2.2.2.2.2.2.2.2.1.map ZF),.sl (s0.2.2.2.2.2.2.2.2.2.1.map cInt),vi s0.2.2.2.2.2.2.2.2.2.2]]⟩,some ⟨9,1,y5.map cStr⟩]⟩
def Zcf (o0:(List YLeg) × (List Int) × Int × (List Zf) × (List Zc) × (List Ze) × Int × (List Zj) × (List Int) × Int) (s1:Int):Option (Int ⊕ (Unit ⊕ Bool)):=
 cond (decide (s1<(o0.2.2.2.1.length:Int)))
 ((getI o0.2.2.2.1 s1).bind fun y14=>
 (ZcJ (⟨o0.1,o0.2.1,o0.2.2.1⟩:Za) o0.2.2.2.2.2.2.2.1 (w64 (s1+1))).bind fun y15=>
 cond (decide (0<(y15.length:Int)))
 (some (.inr (.inr false)))
 (cond (decide (y14.state=2))
 ((Zak (⟨o0.1,o0.2.1,o0.2.2.1⟩:Za) o0.2.2.2.2.2.2.2.1 (w64 (s1+1)) o0.2.2.2.2.2.2.1).bind fun y16=>
 (Zcw y16).bind fun y17=>
 cond (!decide (y17=1))
 (some (.inr (.inr false)))
 (cond (!decide ((y16.rides.length:Int)=1))
 (some (.inr (.inr false)))
 ((getI y16.rides 0).bind fun y18=>
 (getI y14.way y14.gone).bind fun y19=>
 cond (!decide (y18=y19))
 (some (.inr (.inr false)))
 (cond (decide (y14.state=3))
 ((Zak (⟨o0.1,o0.2.1,o0.2.2.1⟩:Za) o0.2.2.2.2.2.2.2.1 (w64 (s1+1)) o0.2.2.2.2.2.2.1).bind fun y20=>
 (Zcw y20).bind fun y21=>
 cond (!decide (y21=0))
 (some (.inr (.inr false)))
 (some (.inl (w64 (s1+1)))))
 (some (.inl (w64 (s1+1))))))))
 (cond (decide (y14.state=3))
 ((Zak (⟨o0.1,o0.2.1,o0.2.2.1⟩:Za) o0.2.2.2.2.2.2.2.1 (w64 (s1+1)) o0.2.2.2.2.2.2.1).bind fun y22=>
 (Zcw y22).bind fun y23=>
 cond (!decide (y23=0))
 (some (.inr (.inr false)))
 (some (.inl (w64 (s1+1)))))
 (some (.inl (w64 (s1+1)))))))
 (some (.inr (.inl ())))
instance (o0:(List YLeg) × (List Int) × Int × (List Zf) × (List Zc) × (List Ze) × Int × (List Zj) × (List Int) × Int):ZU (Zcf o0):=⟨fun s1=>(U 4 (.be 0 0 0::(U 8 (vi s1::(U 153 []))))),fun s1=>[some ⟨41,10,[[.sl (o0.1.map cLeg),.sl (o0.2.1.map cInt),vi o0.2.2.1,.sl (o0.2.2.2.1.map Zv),.sl (o0.2.2.2.2.1.map Zg),.sl (o0.2.2.2.2.2.1.map Zr),vi o0.2.2.2.2.2.2.1,.sl (o0.2.2.2.2.2.2.2.1.map ZF),.sl (o0.2.2.2.2.2.2.2.2.1.map cInt),vi o0.2.2.2.2.2.2.2.2.2]]⟩]⟩
def Zdp (code:List YB8):Option Bool:=
 (Zhk code).bind fun y1=>
 cond y1
 (some true)
 ((ZcC code).bind fun y2=>
 (Za2 y2.network ([])).bind fun y3=>
 cond (!y3.2)
 ((Zal y2.network ([])).bind fun y4=>
 some (!y4.2))
 ((ZS y2.network).bind fun y5=>
 (Zl (Zbn code y5) NN (0,(y3.1.network.legs:List YLeg),(y3.1.network.off:List Int),y3.1.network.change,[],[],[],y3.1.now,[],(y3.1.skip:List Int),y3.1.made)).bind (fun o0=>
 (Zl (Zcf o0) NN 0).bind (ZX (fun o1=>
 cond (decide (o0.2.2.2.2.2.2.2.2.2=(o0.2.2.2.2.2.2.2.1.length:Int)))
 ((ZcY (⟨(⟨o0.1,o0.2.1,o0.2.2.1⟩:Za),o0.2.2.2.1,o0.2.2.2.2.1,o0.2.2.2.2.2.1,o0.2.2.2.2.2.2.1,o0.2.2.2.2.2.2.2.1,o0.2.2.2.2.2.2.2.2.1,o0.2.2.2.2.2.2.2.2.2⟩:Zd)).bind fun y24=>
 some y24)
 (some false)) (fun r=>some r)))))
theorem ok_laws_FnSeenAll (code:List YB8) {r:Bool} (H:Zdp code=some r):Zdo Tryz.prog 14 [.sl (code.map cB8)] [] (vb r) []:=by
 replace H:=H0 H
 unfold Zdp at H
 refine Zh Tryz.func14 rfl Tryz.ntmps14 Tryz.results14 fun Q hQ hQn=>?_
 exact wk3
instance (code:List YB8):CT Tryz.prog (Zdp code):=⟨14,[.sl (code.map cB8)],[],fun r=>vb r,fun r=>[],ok_laws_FnSeenAll code⟩
end Go.Proofs.YtmcdjilbkmhfoaaGreat
namespace Go.Proofs.YtmcdjilbkmhfoaaGreat
set_option maxRecDepth 10000
open Go.RowKit
set_option linter.unusedVariables false
set_option linter.unusedSimpArgs false
set_option linter.unusedSectionVars false
theorem Zlo {w:Zd} (h:WOk w):w.orders.length≤1048576:=h.fit.orders
theorem Zpa {w:Zd} (h:WOk w) (hs:Zga w):ZcY w=some true:=by
 have e:Zl (Zcz w) NN 0=some (.inl ()):=by
  refine Zoz (xs:=w.orders) (fun i o ho=>?_) ?_ (Zlo h)
  ·have hlt:=(List.getElem?_eq_some_iff.1 ho).1
   have hol:=Zlo h
   have hw:w64 ((i:Int)+1)=((i+1:Nat):Int):=Z9 hlt (by omega)
   have hg:getI w.orders (i:Int)=some o:=by rw [Zq]; exact ho
   have hT:=ZkS h hs ho
   obtain ⟨s,hl⟩:=hT.last
   unfold Zcz
   rw [decide_eq_true (show (i:Int)<w.orders.length by omega),cond_true,hg,Option.bind_some,hw,hl,Option.bind_some]
   rcases hT.state with k | k | k
   ·rw [decide_eq_false (show ¬ o.state=3 by omega),decide_eq_true k,decide_eq_false (show ¬ o.state=2 by omega),hT.wait k]
    rfl
   ·obtain ⟨t,t1,_,t3⟩:=hT.ride k
    rw [decide_eq_false (show ¬ o.state=3 by omega),decide_eq_true k,decide_eq_false (show ¬ o.state=1 by omega),t1]
    simp only [Option.bind_some,t3]
    rfl
   ·rw [decide_eq_true k]
    rfl
  ·unfold Zcz
   simp
 unfold ZcY
 rw [e]
 rfl
def tupW (w:Zd):(List YLeg) × (List Int) × Int × (List Zf) × (List Zc) × (List Ze) × Int × (List Zj) × (List Int) × Int:=(w.network.legs,w.network.off,w.network.change,w.orders,w.bookings,w.closed,w.now,w.scans,w.skip,w.made)
theorem Zuc {w:Zd} (h:WOk w) (hs:Zga w):Zl (Zcf (tupW w)) NN 0=some (.inl ()):=by
 refine Zoz (xs:=w.orders) (fun i o ho=>?_) ?_ (Zlo h)
 ·have hlt:=(List.getElem?_eq_some_iff.1 ho).1
  have hol:=Zlo h
  have hw:w64 ((i:Int)+1)=((i+1:Nat):Int):=Z9 hlt (by omega)
  have hg:getI w.orders (i:Int)=some o:=by rw [Zq]; exact ho
  have hT:=ZkS h hs ho
  have h1:(w64 (((([]:List ByteArray).length:Nat):Int)+((([]:List Ze).length:Nat):Int)))=0:=by decide +kernel
  unfold Zcf tupW
  simp only
  rw [decide_eq_true (show (i:Int)<w.orders.length by omega),cond_true,hg,Option.bind_some,hw]
  show (ZcJ w.network w.scans ((i+1:Nat):Int)).bind _=_
  rw [hT.clash,Option.bind_some]
  rcases hT.state with k | k | k
  ·rw [decide_eq_false (show ¬ o.state=2 by omega),decide_eq_false (show ¬ o.state=3 by omega)]
   rfl
  ·obtain ⟨t,t1,t2,_⟩:=hT.ride k
   rw [decide_eq_true k,decide_eq_false (show ¬ o.state=3 by omega)]
   show (Zak w.network w.scans ((i+1:Nat):Int) w.now).bind _=_
   rw [t2,t1]
   have h2:Zcw ⟨[],[t]⟩=some 1:=by
    unfold Zcw
    exact congrArg some (Zp (by simp))
   have h3:getI [t] 0=some t:=rfl
   simp only [Option.bind_some,h2,h3,decide_true]
   rfl
  ·rw [decide_eq_true k,decide_eq_false (show ¬ o.state=2 by omega)]
   have h2:Zcw ⟨[],[]⟩=some 0:=by
    unfold Zcw
    exact congrArg some (Zp (by simp))
   show (Zak w.network w.scans ((i+1:Nat):Int) w.now).bind _=_
   rw [hT.done k]
   simp only [Option.bind_some,h2,decide_true]
   rfl
 ·unfold Zcf tupW
  simp
theorem at_i {code:List YB8} (hb:∀ x∈code,0≤x.v∧x.v≤255) {i:Int} (hi:0≤i):∃ y,Zdq code i=some y∧0≤y∧y≤255:=by
 unfold Zdq
 by_cases h:(code.length:Int)≤i
 ·exact ⟨0,by rw [decide_eq_true h]; rfl,by omega,by omega⟩
 ·rw [decide_eq_false h]
  obtain ⟨x,hx,hm⟩:=ZaS (xs:=code) (i:=i) ⟨by omega,by omega⟩
  have:=hb x hm
  refine ⟨x.v,?_,this⟩
  rw [cond_false,hx,Option.bind_some]
  exact congrArg some (Zp (by omega))
theorem ZpO {w:Zd} (h:WOk w) (hs:Zga w) (h3:w.orders.length≤3) {from_ to_:ByteArray} {service weight:Int}:
 ∃ r,ZaK w from_ to_ service weight=some r∧WOk r.1∧Zga r.1∧r.1.orders.length≤w.orders.length+1:=by
 obtain ⟨r,e,hr⟩:=Zsj h from_ to_ service weight fun way hw hsv=>ZnL h.fit.net h.net h.fit.bookings h.fit.closed hsv hw
 refine ⟨r,e,?_⟩
 rcases hr with ⟨rfl,_⟩ | ⟨way,ys,due,hT⟩
 ·exact ⟨h,hs,by simp only; omega⟩
 ·have hok:=hT.ok
  have hR:=Zkc h.fit.net h.fit.bookings h.fit.closed hT.room
  have hsum:sumI (fun j o=>(ZbW w.network j o).length) 0 w.orders≤42*w.orders.length:=ZnX 0 fun o ho j=>by
   obtain ⟨i,hi,rfl⟩:=List.getElem_of_mem ho
   have:=ZoU (n:=w.network) (i:=j) (h.way (List.getElem?_eq_getElem hi)).gone
   have:=hs.way _ (List.getElem_mem hi)
   omega
  have hlen:=hs.len
  have hsn:=Zqb h hs h3 (from_:=from_) (to_:=to_) (service:=service) (weight:=weight) (due:=due) hR.len (by omega) ys
  rw [hT.res]
  refine ⟨hok,hsn,?_⟩
  show (w.orders++[newO w from_ to_ service weight due way]).length≤_
  rw [List.length_append]
  simp
theorem Zsa {w:Zd} (h:WOk w) (hs:Zga w) (u:Int):∃ r,Zcr w u=some r∧WOk r∧Zga r∧r.orders.length=w.orders.length:=by
 refine ⟨_,Zqh h.fit u,?_⟩
 by_cases hc:Zbk w=true∧w.now≤u∧u≤100000
 ·rw [if_pos hc]
  obtain ⟨a1,a2,_⟩:=Zqf h hc.2.1 hc.2.2
  exact ⟨a1,Zqg h hs hc.2.2,a2.len⟩
 ·rw [if_neg hc]
  exact ⟨h,hs,rfl⟩
theorem Ztf {code:List YB8} (hb:∀ x∈code,0≤x.v∧x.v≤255) {places:List ByteArray} (hp:0<places.length) {w:Zd} (h:WOk w) (hs:Zga w) (h0:w.orders=[]):∃ w',Zl (Zbn code places) NN (0,tupW w)=some (tupW w')∧WOk w'∧Zga w':=by
 have hl:Tot (Zl (Zbn code places) NN (0,tupW w)) fun o=>∃ w',o=tupW w'∧WOk w'∧Zga w':=by
  refine Tot.loop (fun k s=>∃ (i:Nat) (w':Zd),s=((i:Int),tupW w')∧i+k=4∧WOk w'∧Zga w'∧w'.orders.length≤i) (fun k s hk=>?_) NN 4 _ ⟨0,w,rfl,rfl,h,hs,by rw [h0]; simp⟩ (by unfold NN; omega)
  obtain ⟨i,w',rfl,hik,a1,a2,a3⟩:=hk
  unfold Zbn
  refine Tot.cond (fun hc=>?_) fun hc=>Tot.ret ⟨w',rfl,a1,a2⟩
  have hi4:=of_decide_eq_true hc
  simp only at hi4
  have hge:∀ y:Int,0≤y→∃ p,getI places (Int.tmod y (places.length:Int))=some p:=fun y hy=>by
   have g1:=Int.tmod_nonneg (places.length:Int) hy
   have g2:=Int.tmod_lt_of_pos y (show (0:Int)<(places.length:Int) by omega)
   obtain ⟨p,hp,_⟩:=ZaS (xs:=places) (i:=Int.tmod y (places.length:Int)) ⟨g1,g2⟩
   exact ⟨p,hp⟩
  have hne:decide ((places.length:Int)≠0)=true:=decide_eq_true (by omega)
  have w4:w64 ((i:Int)+4)=(i:Int)+4:=Zp (by omega)
  have w8:w64 ((i:Int)+8)=(i:Int)+8:=Zp (by omega)
  have w12:w64 ((i:Int)+12)=(i:Int)+12:=Zp (by omega)
  have w1:w64 ((i:Int)+1)=((i+1:Nat):Int):=by rw [Zp (by omega)]; omega
  obtain ⟨y6,e6,b6,_⟩:=at_i hb (i:=(i:Int)) (by omega)
  obtain ⟨y8,e8,b8,_⟩:=at_i hb (i:=(i:Int)+4) (by omega)
  obtain ⟨y10,e10,_⟩:=at_i hb (i:=(i:Int)+8) (by omega)
  obtain ⟨y12,e12,_⟩:=at_i hb (i:=(i:Int)+12) (by omega)
  obtain ⟨y7,e7⟩:=hge y6 b6
  obtain ⟨y9,e9⟩:=hge y8 b8
  refine Tot.drw ?_
  show Tot ((Zdq code (i:Int)).bind _) _
  rw [e6,Option.bind_some]
  refine Tot.chk hne ?_
  rw [e7,Option.bind_some]
  show Tot ((Zdq code (w64 ((i:Int)+4))).bind _) _
  rw [w4,e8,Option.bind_some]
  refine Tot.chk hne ?_
  rw [e9,Option.bind_some]
  show Tot ((Zdq code (w64 ((i:Int)+8))).bind _) _
  rw [w8,e10,Option.bind_some]
  obtain ⟨y11,e11,b1,b2,b3⟩:=ZpO a1 a2 (by omega) (from_:=y7) (to_:=y9) (service:=w64 (1+Int.tmod (i:Int) 3)) (weight:=w64 (1+y10))
  show Tot ((ZaK w' y7 y9 (w64 (1+Int.tmod (i:Int) 3)) (w64 (1+y10))).bind _) _
  rw [e11,Option.bind_some]
  refine Tot.frz ?_
  show Tot ((Zdq code (w64 ((i:Int)+12))).bind _) _
  rw [w12,e12,Option.bind_some]
  obtain ⟨y13,e13,d1,d2,d3⟩:=Zsa b1 b2 (w64 (y11.1.now+w64 (20*y12)))
  rw [e13,Option.bind_some]
  refine Tot.ret ⟨k-1,by omega,i+1,y13,?_,by omega,d1,d2,by omega⟩
  show (w64 ((i:Int)+1),tupW y13)=_
  rw [w1]
 obtain ⟨o,e,w',rfl,g1,g2⟩:=hl
 exact ⟨w',e,g1,g2⟩
end Go.Proofs.YtmcdjilbkmhfoaaGreat
namespace Go.Proofs.YtmcdjilbkmhfoaaGreat
set_option maxRecDepth 10000
open Go.RowKit
set_option linter.unusedVariables false
set_option linter.unusedSimpArgs false
set_option linter.unusedSectionVars false
structure OrdD (n:Za) (o:Zf):Prop where
 gone:0≤o.gone∧o.gone≤100001
 comes:Zw o≤o.way.length
 way:o.way.length≤110000
 leg:∀ (k:Nat) t,(k:Int)<Zw o→o.way[k]?=some t→∃ y,getI n.legs t.leg=some y
def FinE (n:Za) (o:Zf):Prop:=Zw o=o.way.length∨∀ t,o.way.getLast?=some t→Zag n t=o.to_
structure FinO (n:Za) (now:Int) (o:Zf):Prop where
 ends:FinE n o
 started:o.state=2→∃ t,o.way[o.gone.toNat]?=some t∧Zaf n t≤now
 gone:0≤o.gone∧o.gone≤100001
structure WD (n:Za) (w:Zd):Prop where
 fit:WFit w
 net:w.network=n
 closed:w.closed.length≤1000
 fin:∀ o∈w.orders,FinO n w.now o
structure AgD (n:Za) (w:Zd):Prop where
 net:w.network=n
 orders:w.orders.length≤30
 bookings:w.bookings.length≤120
 closed:w.closed.length≤21
 scans:w.scans.length≤201
 skip:w.skip.length≤50
 ord:∀ o∈w.orders,OrdD n o
 fin:∀ o∈w.orders,FinO n w.now o
theorem Zm3 {n:Za} {o:Zf} (h:Zjw n o):o.way.length≤100001:=by
 have key:∀ (i:Nat) t,o.way[i]?=some t→(i:Int)≤Zaf n t:=by
  intro i
  induction i with
  | zero=>intro t ht; exact (h.trip t (List.mem_of_getElem? ht)).1
  | succ i ih=>
   intro t ht
   have hlt:=(List.getElem?_eq_some_iff.1 ht).1
   have h1:o.way[i]?=some o.way[i]:=List.getElem?_eq_getElem (by omega)
   have:=ih _ h1
   have:=h.trip _ (List.getElem_mem (show i<o.way.length by omega))
   have:=h.next i _ _ h1 ht
   omega
 rcases Nat.eq_zero_or_pos o.way.length with h0 | h0
 ·omega
 ·have hlt:o.way.length-1<o.way.length:=by omega
  have h1:=key _ _ (List.getElem?_eq_getElem hlt)
  have h2:=h.trip _ (List.getElem_mem hlt)
  omega
theorem WOk.ag {w:Zd} (h:WOk w) (hfin:∀ o∈w.orders,FinO w.network w.now o):AgD w.network w:=by
 obtain ⟨p1,p2,p3,p4,p5,p6,p7⟩:=h.parts
 refine ⟨rfl,p2,p7,by omega,by omega,p5,fun o ho=>?_,hfin⟩
 obtain ⟨i,hi,rfl⟩:=List.getElem_of_mem ho
 have hi':=List.getElem?_eq_getElem hi
 have hw:=h.way hi'
 have hok:=ZcP h.fit h.ok hi'
 have hs:=Zm3 hw
 have hg:=hw.gone
 refine ⟨⟨hg.1,by omega⟩,?_,by omega,fun k t _ ht=>?_⟩
 ·unfold Zw
  split
  ·rename_i h2
   rcases hok.cases with ⟨c,_⟩ | ⟨_,c⟩ | ⟨c,_⟩ <;> omega
  ·exact hg.2
 ·obtain ⟨y,hy,_⟩:=Zaz h.fit.net (hok.trip t (List.mem_of_getElem? ht))
  exact ⟨y,hy⟩
theorem AgD.fit {n:Za} (hf:ZV n) {w:Zd} (h:AgD n w):WFit w:=by
 have h1:=h.orders
 have h2:=h.bookings
 have h3:=h.closed
 have h4:=h.scans
 have h5:=h.skip
 exact ⟨by rw [h.net]; exact hf,by omega,by omega,by omega,by omega,by omega,fun o ho=>by have:=(h.ord o ho).way; omega⟩
theorem ZsG {n:Za} {o:Zf} (h:OrdD n o):Tot (Zau n o) fun _=>True:=by
 unfold Zau
 refine Tot.cond (fun h2=>?_) fun _=>Tot.ret trivial
 have hs:=of_decide_eq_true h2
 have hc:Zw o=o.gone+1:=by unfold Zw; rw [if_pos hs]
 have hg:=h.gone
 have hcl:=h.comes
 have hlt:o.gone.toNat<o.way.length:=by omega
 have hget:getI o.way o.gone=some o.way[o.gone.toNat]:=by unfold getI; rw [if_pos hg.1]; exact List.getElem?_eq_getElem hlt
 obtain ⟨y,hy⟩:=h.leg o.gone.toNat _ (by omega) (List.getElem?_eq_getElem hlt)
 rw [hget,Option.bind_some,hy,Option.bind_some]
 exact Tot.ret trivial
theorem OrdD.on {n:Za} {o o':Zf} (h:OrdD n o) (hg:o'.gone=o.gone) (hs:o'.state=o.state) {r:List Ze} (hw:o'.way=subL o.way 0 (Zw o)++r) (hr:r.length≤2000):OrdD n o':=by
 have hcl:=h.comes
 have g:=h.gone
 have hc:Zw o'=Zw o:=by unfold Zw; rw [hg,hs]
 have c0:0≤Zw o∧Zw o≤100002:=by unfold Zw; split <;> omega
 have hsub:subL o.way 0 (Zw o)=o.way.take (Zw o).toNat:=by unfold subL; simp
 have hlen:(subL o.way 0 (Zw o)).length=(Zw o).toNat:=by rw [hsub,List.length_take]; omega
 refine ⟨by rw [hg]; exact g,?_,?_,fun k t hk ht=>?_⟩
 ·rw [hc,hw,List.length_append,hlen]; omega
 ·rw [hw,List.length_append,hlen]; omega
 ·rw [hc] at hk
  rw [hw,List.getElem?_append_left (by rw [hlen]; omega),hsub,List.getElem?_take_of_lt (by omega)] at ht
  exact h.leg k t hk ht
theorem FinO.on {n:Za} {now:Int} {o o':Zf} (h:OrdD n o) (hF:FinO n now o) (hg:o'.gone=o.gone) (hs:o'.state=o.state) (ht:o'.to_=o.to_) {r:List Ze} (hw:o'.way=subL o.way 0 (Zw o)++r) (hr:∀ t,r.getLast?=some t→Zag n t=o.to_):FinO n now o':=by
 have hcl:=h.comes
 have g:=h.gone
 have hc:Zw o'=Zw o:=by unfold Zw; rw [hg,hs]
 have c0:0≤Zw o∧Zw o≤100002:=by unfold Zw; split <;> omega
 have hsub:subL o.way 0 (Zw o)=o.way.take (Zw o).toNat:=by unfold subL; simp
 have hlen:(subL o.way 0 (Zw o)).length=(Zw o).toNat:=by rw [hsub,List.length_take]; omega
 refine ⟨?_,fun h2=>?_,by rw [hg]; exact g⟩
 ·cases r with
  | nil=>exact .inl (by rw [hc,hw,List.append_nil,hlen]; omega)
  | cons a as'=>
   refine .inr fun t hl=>?_
   rw [hw,List.getLast?_append,ht] at *
   refine hr t ?_
   cases hx:(a::as').getLast? with
   | none=>simp at hx
   | some z=>rw [hx] at hl; exact hl
 ·rw [hs] at h2
  obtain ⟨t,k1,k2⟩:=hF.started h2
  refine ⟨t,?_,k2⟩
  have hcv:Zw o=o.gone+1:=by unfold Zw; rw [if_pos h2]
  rw [hg,hw,List.getElem?_append_left (by rw [hlen]; omega),hsub,List.getElem?_take_of_lt (by omega)]
  exact k1
section
variable {n:Za} (hf:ZV n) (hn:n.legs.length≤20)
include hf hn
theorem ZtL:(Zb n).length≤40:=by have:=Zar n; omega
theorem ZrT {w:Zd} (h:AgD n w) {i:Nat} {x:Zf} (hx:OrdD n x):∀ o∈w.orders.set i x,OrdD n o:=fun o ho=>by
 rcases List.mem_or_eq_of_mem_set ho with ho | rfl
 ·exact h.ord o ho
 ·exact hx
theorem ZrS {w:Zd} (h:AgD n w) {i:Nat} {x:Zf} (hx:FinO n w.now x):∀ o∈w.orders.set i x,FinO n w.now o:=fun o ho=>by
 rcases List.mem_or_eq_of_mem_set ho with ho | rfl
 ·exact h.fin o ho
 ·exact hx
theorem ZlM {w:Zd} (h:AgD n w) {i:Nat} (hi:i<w.orders.length):Tot (ZbQ w (i:Int)) fun w'=>AgD n w'∧w'.orders.length=w.orders.length:=by
 obtain ⟨o,ho⟩:∃ o,w.orders[i]?=some o:=⟨_,List.getElem?_eq_getElem hi⟩
 have hg:getI w.orders (i:Int)=some o:=by rw [Zq]; exact ho
 have hod:=h.ord o (List.mem_of_getElem? ho)
 have hcl:=hod.comes
 have hfo:=h.fin o (List.mem_of_getElem? ho)
 have hwy:=hod.way
 have g:=hod.gone
 have hbk:=h.bookings
 have hcd:=h.closed
 have hpl:=ZtL hf hn
 have hw:o.way.length≤1048576:=by omega
 have hgw:o.gone≤o.way.length:=by
  have:o.gone≤Zw o:=by unfold Zw; split <;> omega
  omega
 obtain ⟨c1,c0,_⟩:=ZjF ⟨g.1,hgw⟩ hw
 have hsl:(subL o.way 0 (Zw o)).length=(Zw o).toNat:=by unfold subL; simp; omega
 have hnet:=h.net
 subst hnet
 unfold ZbQ
 rw [hg,Option.bind_some,c1,Option.bind_some]
 have tail:∀ (l:List Zc) (thing at_:Int),l.length≤120→Tot ((Zau w.network o).bind fun y7=>
  (ZO w.network l w.closed y7 o.to_ at_ o.weight).bind fun y8=>
  (ZW w.network l thing o.weight y8.1).bind fun y9=>
  (chk (slOk 0 (Zw o) o.way.length)).bind fun _=>
  (chk (Z1 ((([]:List Ze):List Ze).length+((subL o.way 0 (Zw o)):List Ze).length) 16)).bind fun _=>
  (some o:Option Zf).bind fun y10=>
  cond y9.2
  ((some o:Option Zf).bind fun y11=>
  (chk (Z1 ((((([]:List Ze):List Ze)++(subL o.way 0 (Zw o))):List Ze).length+(y8.1:List Ze).length) 16)).bind fun _=>
  (some o:Option Zf).bind fun y12=>
  some (⟨w.network,(w.orders.set (Int.toNat i) (⟨y10.from_,y10.to_,y10.service,y10.weight,y10.at_,y10.due,((((([]:List Ze):List Ze)++(subL o.way 0 (Zw o))):List Ze)++y8.1),y10.gone,y10.state,y10.place,y10.ended⟩:Zf)),y9.1,w.closed,w.now,w.scans,w.skip,w.made⟩:Zd))
  (some (⟨w.network,(w.orders.set (Int.toNat i) (⟨y10.from_,y10.to_,y10.service,y10.weight,y10.at_,y10.due,((([]:List Ze):List Ze)++(subL o.way 0 (Zw o))),y10.gone,y10.state,y10.place,y10.ended⟩:Zf)),l,w.closed,w.now,w.scans,w.skip,w.made⟩:Zd))) fun w'=>AgD w.network w'∧w'.orders.length=w.orders.length:=by
  intro l thing at_ hl
  refine Tot.bind (ZsG hod) fun y7 _=>Tot.bind (ZmD hf (show l.length≤1048576 by omega) (show w.closed.length≤1048576 by omega) y7 o.to_ at_ o.weight) fun y8 h8=>Tot.bind (Zn9 hf (show l.length≤1048000 by omega) thing o.weight y8.1) fun y9 h9=>Tot.chk (by unfold slOk; exact decide_eq_true (by omega)) (Tot.chk (Zcp (by rw [hsl]; simp only [List.length_nil]; omega) (by omega)) ?_)
  rw [Option.bind_some]
  refine Tot.cond (fun hb=>?_) fun _=>?_
  ·rw [Option.bind_some]
   refine Tot.chk (Zcp (by rw [List.nil_append,hsl]; have:=h8.1; omega) (by omega)) ?_
   rw [Option.bind_some]
   refine Tot.ret ⟨⟨rfl,by simp only [List.length_set]; exact h.orders,(h9.2 hb),h.closed,h.scans,h.skip,?_,?_⟩,by simp only [List.length_set]⟩
   ·exact ZrT hf hn h (hod.on rfl rfl (by simp only [List.nil_append]; rfl) (by have:=h8.1; omega))
   ·exact ZrS hf hn h (FinO.on hod hfo rfl rfl rfl (by simp only [List.nil_append]) h8.2)
  ·refine Tot.ret ⟨⟨rfl,by simp only [List.length_set]; exact h.orders,hl,h.closed,h.scans,h.skip,?_,?_⟩,by simp only [List.length_set]⟩
   ·exact ZrT hf hn h (hod.on (r:=[]) rfl rfl (by simp) (by simp))
   ·exact ZrS hf hn h (FinO.on hod hfo (r:=[]) rfl rfl rfl (by simp) (fun t h=>by simp at h))
 refine Tot.cond (fun hd=>?_) fun hd=>?_
 ·have h0:=of_decide_eq_true hd
  have hw1:w64 (Zw o-1)=Zw o-1:=Zp (by omega)
  have hlt:(Zw o-1).toNat<o.way.length:=by omega
  have hget:getI o.way (Zw o-1)=some o.way[(Zw o-1).toNat]:=by unfold getI; rw [if_pos (by omega)]; exact List.getElem?_eq_getElem hlt
  obtain ⟨y,hy⟩:=hod.leg _ _ (by omega) (List.getElem?_eq_getElem hlt)
  obtain ⟨v,hv⟩:=Zcv (n:=w.network) hy
  rw [hw1,hget,Option.bind_some,hv,Option.bind_some]
  refine Tot.bind (Zq4 _ _) fun y5 _=>Tot.bind (Zol hf (show w.bookings.length≤1048576 by omega) _ _) fun y6 h6=>?_
  exact tail y6 _ y5 (by omega)
 ·refine Tot.bind (P:=fun y6:List Zc=>y6.length≤w.bookings.length) (Zol hf (by omega) _ _) fun y6 h6=>?_
  exact tail y6 _ _ (by omega)
theorem Zi9 {w:Zd} (h:WFit w):Tot (Zca w) fun l=>l.length≤w.orders.length∧∀ x∈l,Zbk w=true∧1≤x∧x≤w.orders.length:=by
 unfold Zca
 rw [Zfd h,Option.bind_some]
 refine Tot.cond (fun _=>Tot.ret ⟨by simp,fun x hx=>by cases hx⟩) fun hv=>?_
 have hv':Zbk w=true:=by simpa using hv
 have hor:=h.orders
 refine Tot.bind (P:=fun l:List Int=>l.length≤w.orders.length∧∀ x∈l,Zbk w=true∧1≤x∧x≤w.orders.length) ?_ fun o ho=>Tot.ret ho
 refine Tot.loop (fun (k:Nat) (s:Int × List Int)=>∃ i:Nat,s.1=(i:Int)∧i+k=w.orders.length∧s.2.length≤i∧∀ x∈s.2,Zbk w=true∧1≤x∧x≤w.orders.length) (fun k s hs=>?_) NN w.orders.length _ ⟨0,rfl,by omega,by simp,fun x hx=>by cases hx⟩ (by unfold NN; omega)
 obtain ⟨i,hi,hk,hlen,hall⟩:=hs
 unfold Zen
 rw [hi]
 refine Tot.cond (fun hd=>?_) fun hd=>Tot.ret ⟨by omega,hall⟩
 have hlt:i<w.orders.length:=by have:=of_decide_eq_true hd; omega
 have hw:w64 ((i:Int)+1)=((i+1:Nat):Int):=by rw [Zp (by omega)]; omega
 obtain ⟨b,_,hb,_⟩:=ZnW h hv' (List.getElem?_eq_getElem hlt)
 rw [hb,Option.bind_some,hw]
 refine Tot.cond (fun _=>Tot.chk (Zcp (by simp only [List.length_cons,List.length_nil]; omega) (by omega)) (Tot.ret ⟨k-1,by omega,i+1,rfl,by omega,by simp only [List.length_append,List.length_cons,List.length_nil]; omega,fun x hx=>?_⟩)) fun _=>Tot.ret ⟨k-1,by omega,i+1,rfl,by omega,by simp only; omega,hall⟩
 rcases List.mem_append.1 hx with hx | hx
 ·exact hall x hx
 ·obtain rfl:=List.mem_singleton.1 hx
  exact ⟨hv',by omega,by omega⟩
theorem Ztm {w:Zd} (hd:WD n w) (t:Ze):Tot (Zbo w t) fun r=>WD n r.1:=by
 have h:=hd.fit
 have hw:=hd.net
 unfold Zbo
 rw [Zin h,Option.bind_some,Zfd h,Option.bind_some]
 refine Tot.cond (fun _=>Tot.ret hd) fun hv=>?_
 have hok:WOk w:=⟨h,by simpa using hv⟩
 rw [Zjn h.net hok.net,Option.bind_some]
 refine Tot.cond (fun _=>Tot.ret hd) fun ht=>?_
 have htb:Zb0 w.network t=true:=by simpa using ht
 obtain ⟨y,hy,_⟩:=Zaz h.net htb
 obtain ⟨v,hv⟩:=Zd4 (n:=w.network) hy
 rw [hv,Option.bind_some]
 refine Tot.cond (fun _=>Tot.ret hd) fun _=>?_
 rw [Zdf,ZdP h.closed,Option.bind_some]
 refine Tot.cond (fun _=>Tot.ret hd) fun _=>Tot.cond (fun _=>Tot.ret hd) fun hc=>?_
 have hcl:=of_decide_eq_false hc
 refine Tot.chk (Zcp (by simp only [List.length_cons,List.length_nil]; omega) (by omega)) ?_
 have hag:=hok.ag (by rw [hw]; exact hd.fin)
 rw [hw] at hag
 refine Tot.bind (P:=fun o=>AgD n (⟨(⟨o.2.2.2.1,o.2.2.2.2.1,o.1⟩:Za),o.2.2.2.2.2.1,o.2.2.2.2.2.2.1,o.2.2.2.2.2.2.2.1,o.2.1,o.2.2.2.2.2.2.2.2.1,o.2.2.2.2.2.2.2.2.2,o.2.2.1⟩:Zd)) ?_ fun o ho=>Tot.ret ⟨ho.fit hf,ho.net,by have:=ho.closed; simp only at this ⊢; omega,ho.fin⟩
 refine Tot.loop (fun k s=>∃ i:Nat,s.1=(i:Int)∧i+k=w.orders.length∧s.2.2.2.2.2.2.1.length=w.orders.length∧AgD n (⟨(⟨s.2.2.2.2.1,s.2.2.2.2.2.1,s.2.1⟩:Za),s.2.2.2.2.2.2.1,s.2.2.2.2.2.2.2.1,s.2.2.2.2.2.2.2.2.1,s.2.2.1,s.2.2.2.2.2.2.2.2.2.1,s.2.2.2.2.2.2.2.2.2.2,s.2.2.2.1⟩:Zd)) (fun k s hs=>?_) NN w.orders.length _ ⟨0,rfl,by omega,rfl,⟨hag.net,hag.orders,hag.bookings,by simp only [List.length_append,List.length_cons,List.length_nil]; omega,hag.scans,hag.skip,hag.ord,hag.fin⟩⟩ (by have:=h.orders; unfold NN; omega)
 obtain ⟨i,hi,hik,hlen,hA⟩:=hs
 unfold Zej
 rw [hi]
 refine Tot.cond (fun hd=>?_) fun hd=>Tot.ret hA
 have hlt:i<s.2.2.2.2.2.2.1.length:=by have:=of_decide_eq_true hd; omega
 have hor:=h.orders
 have hwi:w64 ((i:Int)+1)=((i+1:Nat):Int):=by rw [Zp (by omega)]; omega
 obtain ⟨o,ho⟩:∃ o,s.2.2.2.2.2.2.1[i]?=some o:=⟨_,List.getElem?_eq_getElem hlt⟩
 have hg:getI s.2.2.2.2.2.2.1 (i:Int)=some o:=by rw [Zq]; exact ho
 have hod:=hA.ord o (List.mem_of_getElem? ho)
 have hcm:=hod.comes
 have hwy:=hod.way
 have g:=hod.gone
 have hgw:o.gone≤o.way.length:=by
  have:o.gone≤Zw o:=by unfold Zw; split <;> omega
  omega
 obtain ⟨c1,c0,_⟩:=ZjF ⟨g.1,hgw⟩ (by omega)
 rw [hg,Option.bind_some,c1,Option.bind_some]
 refine Tot.chk (by unfold slOk; exact decide_eq_true (by omega)) ?_
 rw [Zdf,ZdP (show (subL o.way (Zw o) (o.way.length:Int)).length≤1048576 by unfold subL; simp; omega),Option.bind_some,hwi]
 refine Tot.cond (fun _=>Tot.rho (Tot.bind (ZlM hf hn hA hlt) fun y hy=>Tot.ret ⟨k-1,by omega,i+1,rfl,by omega,by rw [hy.2]; exact hlen,?_⟩)) fun _=>Tot.ret ⟨k-1,by omega,i+1,rfl,by omega,hlen,hA⟩
 exact hy.1
theorem ZrG {w:Zd} (hwd:WD n w):Tot (ZaM w) fun r=>WD n r.1:=by
 have h:=hwd.fit
 have hw:=hwd.net
 unfold ZaM
 rw [Zin h,Option.bind_some]
 refine Tot.bind (Zi9 hf hn h) fun y2 h2=>?_
 obtain ⟨h2,h2w⟩:=h2
 have hor:=h.orders
 have key:Tot (Zl (Zb1 y2) NN (0,w.network.change,w.now,w.made,w.network.legs,w.network.off,w.orders,w.bookings,w.closed,w.scans,w.skip)) (fun o=>WD n (⟨(⟨o.2.2.2.1,o.2.2.2.2.1,o.1⟩:Za),o.2.2.2.2.2.1,o.2.2.2.2.2.2.1,o.2.2.2.2.2.2.2.1,o.2.1,o.2.2.2.2.2.2.2.2.1,o.2.2.2.2.2.2.2.2.2,o.2.2.1⟩:Zd)):=by
  refine Tot.loop (fun k s=>∃ i:Nat,s.1=(i:Int)∧i+k=y2.length∧WD n (⟨(⟨s.2.2.2.2.1,s.2.2.2.2.2.1,s.2.1⟩:Za),s.2.2.2.2.2.2.1,s.2.2.2.2.2.2.2.1,s.2.2.2.2.2.2.2.2.1,s.2.2.1,s.2.2.2.2.2.2.2.2.2.1,s.2.2.2.2.2.2.2.2.2.2,s.2.2.2.1⟩:Zd)∧
   (Zbk w=true→s.2.2.2.2.2.2.1.length=w.orders.length∧AgD n (⟨(⟨s.2.2.2.2.1,s.2.2.2.2.2.1,s.2.1⟩:Za),s.2.2.2.2.2.2.1,s.2.2.2.2.2.2.2.1,s.2.2.2.2.2.2.2.2.1,s.2.2.1,s.2.2.2.2.2.2.2.2.2.1,s.2.2.2.2.2.2.2.2.2.2,s.2.2.2.1⟩:Zd))) (fun k s hs=>?_) NN y2.length _ ⟨0,rfl,by omega,by subst hw; exact hwd,fun hv=>⟨rfl,by have:=(WOk.mk h hv).ag (by rw [hw]; exact hwd.fin); rw [hw] at this; subst hw; exact this⟩⟩ (by unfold NN; omega)
  obtain ⟨i,hi,hk,hW,hA⟩:=hs
  unfold Zb1
  rw [hi]
  refine Tot.cond (fun hd=>?_) fun hd=>Tot.ret hW
  have hlt:=of_decide_eq_true hd
  have hwi:w64 ((i:Int)+1)=((i+1:Nat):Int):=by rw [Zp (by omega)]; omega
  obtain ⟨x,hx,hm⟩:=ZaS (xs:=y2) (i:=(i:Int)) ⟨by omega,hlt⟩
  obtain ⟨hv,x1,x2⟩:=h2w x hm
  obtain ⟨hl,hag⟩:=hA hv
  have hwx:w64 (x-1)=(((x-1).toNat:Nat):Int):=by rw [Zp (by omega)]; omega
  rw [hx,Option.bind_some,hwx,hwi]
  exact Tot.rho (Tot.bind (ZlM hf hn hag (show (x-1).toNat<s.2.2.2.2.2.2.1.length by omega)) fun y hy=>Tot.ret ⟨k-1,by omega,i+1,rfl,by omega,⟨hy.1.fit hf,hy.1.net,by have:=hy.1.closed; simp only at this ⊢; omega,hy.1.fin⟩,fun _=>⟨by rw [hy.2]; exact hl,hy.1⟩⟩)
 refine Tot.bind key fun o ho=>Tot.bind (Zi9 hf hn ho.fit) fun y5 _=>Tot.ret ho
theorem Ztj {w:Zd} (h:WFit w) (hs:w.scans.length≤1048000) (s:Zj):Tot (Zat w s) fun r=>r.network=w.network∧r.orders=w.orders∧r.bookings=w.bookings∧r.closed=w.closed∧r.skip=w.skip∧r.scans.length≤w.scans.length+1∧r.now=w.now:=by
 unfold Zat
 simp only [Zli h.skip,Option.bind_some]
 have ap:Z1 ((w.scans:List Zj).length+([s]:List Zj).length) 56=true:=Zcp (by simp only [List.length_cons,List.length_nil]; omega) (by omega)
 have sm:∀ m,Tot (some (⟨w.network,w.orders,w.bookings,w.closed,w.now,((w.scans:List Zj)++[s]),w.skip,m⟩:Zd)) fun r=>r.network=w.network∧r.orders=w.orders∧r.bookings=w.bookings∧r.closed=w.closed∧r.skip=w.skip∧r.scans.length≤w.scans.length+1∧r.now=w.now:=fun m=>Tot.ret ⟨rfl,rfl,rfl,rfl,rfl,by simp,rfl⟩
 have st:∀ m,Tot (some (⟨w.network,w.orders,w.bookings,w.closed,w.now,w.scans,w.skip,m⟩:Zd)) fun r=>r.network=w.network∧r.orders=w.orders∧r.bookings=w.bookings∧r.closed=w.closed∧r.skip=w.skip∧r.scans.length≤w.scans.length+1∧r.now=w.now:=fun m=>Tot.ret ⟨rfl,rfl,rfl,rfl,rfl,by simp,rfl⟩
 exact Tot.cond (fun _=>Tot.cond (fun _=>Tot.cond (fun _=>Tot.chk ap (sm _)) fun _=>st _) fun _=>st _) fun _=>Tot.cond (fun _=>Tot.cond (fun _=>Tot.chk ap (sm _)) fun _=>st _) fun _=>st _
theorem Zo8 {w:Zd} (hwd:WD n w) (from_ to_:ByteArray) (service weight:Int):Tot (ZaL w from_ to_ service weight) fun r=>WD n r.1:=by
 have h:=hwd.fit
 have hw:=hwd.net
 have hk:=hwd.closed
 subst hw
 unfold ZaL
 rw [Zin h,Option.bind_some,Zfd h,Option.bind_some]
 have same:∀ (z:Int) (b:Bool),Tot (some (w,z,b)) fun r=>WD w.network r.1:=fun z b=>Tot.ret hwd
 refine Tot.cond (fun _=>same _ _) fun hv=>?_
 have hok:WOk w:=⟨h,by simpa using hv⟩
 obtain ⟨p1,p2,p3,p4,p5,p6,p7⟩:=hok.parts
 have hpl:=ZtL hf hn
 refine Tot.cond (fun _=>same _ _) fun ho=>Tot.cond (fun _=>same _ _) fun _=>?_
 rw [Zbb,Option.bind_some]
 refine Tot.cond (fun _=>same _ _) fun _=>?_
 rw [Zbb,Option.bind_some]
 refine Tot.cond (fun _=>same _ _) fun _=>?_
 refine Tot.bind (ZmD hf h.bookings h.closed _ _ _ _) fun y5 h5=>Tot.bind (Zn9 hf (by omega) _ _ _) fun y6 h6=>Tot.cond (fun _=>same _ _) fun _=>Tot.cond (fun _=>same _ _) fun h6t=>Tot.bind (ZnK hf _ _ _ _) fun y7 _=>Tot.frz (Tot.chk (Zcp (by simp only [List.length_cons,List.length_nil]; omega) (by omega)) (Tot.rho ?_))
 have hb6:=h6.2 (by simpa using h6t)
 have hfit:WFit (⟨w.network,((w.orders:List Zf)++[(⟨from_,to_,service,weight,w.now,y7,y5.1,0,1,from_,0⟩:Zf)]),y6.1,w.closed,w.now,w.scans,w.skip,w.made⟩:Zd):=by
  refine ⟨h.net,by simp only [List.length_append,List.length_cons,List.length_nil]; omega,by simp only; omega,h.closed,h.scans,h.skip,fun o ho=>?_⟩
  rcases List.mem_append.1 ho with ho | ho
  ·exact h.way o ho
  ·obtain rfl:=List.mem_singleton.1 ho
   simp only; have:=h5.1; omega
 refine Tot.bind (Ztj hf hn hfit (by simp only; omega) _) fun y8 h8=>Tot.ret ?_
 obtain ⟨q1,q2,q3,q4,q5,q6,q7⟩:=h8
 refine ⟨⟨by rw [q1]; exact hfit.net,by rw [q2]; exact hfit.orders,by rw [q3]; exact hfit.bookings,by rw [q4]; exact hfit.closed,by simp only at q6 ⊢; omega,by rw [q5]; exact hfit.skip,by rw [q2]; exact hfit.way⟩,by rw [q1],by rw [q4]; exact hk,?_⟩
 rw [q2,q7]
 intro o ho
 rcases List.mem_append.1 ho with ho | ho
 ·exact hwd.fin o ho
 ·obtain rfl:=List.mem_singleton.1 ho
  exact ⟨.inr h5.2,fun h=>by simp at h,by simp only; omega⟩
end
end Go.Proofs.YtmcdjilbkmhfoaaGreat
namespace Go.Proofs.YtmcdjilbkmhfoaaGreat
set_option maxRecDepth 10000
open Go.RowKit
set_option linter.unusedVariables false
set_option linter.unusedSimpArgs false
theorem Zji:∀ p∈Zio,ZaT p=some true∧p.size=3:=fun p hp=>by
 unfold Zio at hp
 simp only [List.mem_cons,List.not_mem_nil,or_false] at hp
 rcases hp with rfl | rfl | rfl | rfl | rfl | rfl | rfl <;> exact ⟨by decide +kernel,by decide +kernel⟩
end Go.Proofs.YtmcdjilbkmhfoaaGreat
namespace Go.Proofs.YtmcdjilbkmhfoaaGreat
set_option maxRecDepth 10000
open Go.RowKit
set_option linter.unusedVariables false
set_option linter.unusedSimpArgs false
set_option linter.unusedSectionVars false
theorem LegD.fit {l:YLeg} (h:LegD l):Zmh l:=⟨by rw [(Zji _ h.from_).2]; decide,by rw [(Zji _ h.to_).2]; decide⟩
theorem LegD.ok {l:YLeg} (h:LegD l):ZaP l=some true:=by
 have h1:=h.start
 have h2:=h.takes
 have h3:=h.days
 have h4:=h.room
 unfold ZaP
 rw [(Zji _ h.from_).1,(Zji _ h.to_).1]
 simp only [Option.bind_some,cond_true,decide_eq_false h.ne,Bool.not_false,Zbb,decide_eq_true h1.1,decide_eq_true h1.2,decide_eq_true h2.1,decide_eq_true h2.2,decide_eq_true h3.1,decide_eq_true h3.2,decide_eq_true h4.1,decide_eq_true h4.2,Bool.and_self]
theorem NetD.fit {n:Za} (h:NetD n):ZV n:=⟨by have:=h.len; omega,by rcases h.off with e | ⟨a,b,e,_⟩ <;> rw [e] <;> simp,fun l hl=>(h.leg l hl).fit⟩
theorem NetD.ok {n:Za} (h:NetD n):Zi n=some true:=by
 have hlen:=h.len
 have hch:=h.change
 have e0:Tot (Zl (ZA n) NN 0) fun r=>r=.inl ():=by
  refine Tot.loop (fun (k:Nat) (s:Int)=>∃ i:Nat,s=(i:Int)∧i+k=n.legs.length) (fun k s hs=>?_) NN n.legs.length _ ⟨0,rfl,by omega⟩ (by unfold NN; omega)
  obtain ⟨i,rfl,hk⟩:=hs
  unfold ZA
  refine Tot.cond (fun hd=>?_) fun hd=>Tot.ret rfl
  have hlt:=of_decide_eq_true hd
  have hwi:w64 ((i:Int)+1)=((i+1:Nat):Int):=by rw [Zp (by omega)]; omega
  obtain ⟨x,hx,hm⟩:=ZaS (xs:=n.legs) (i:=(i:Int)) ⟨by omega,hlt⟩
  rw [hx,Option.bind_some,(h.leg x hm).ok,Option.bind_some,hwi]
  exact Tot.cond (fun e=>by cases e) fun _=>Tot.ret ⟨k-1,by omega,i+1,rfl,by omega⟩
 have e1:Tot (Zl (ZB n) NN 0) fun r=>r=.inl ():=by
  rcases h.off with e | ⟨a,b,e,g1,g2,g3⟩
  ·refine Tot.loop (fun (k:Nat) (s:Int)=>s=0) (fun k s hs=>?_) NN 0 _ rfl (by unfold NN; omega)
   subst hs
   unfold ZB
   rw [e]
   exact Tot.cond (fun hd=>by simp at hd) fun hd=>Tot.ret rfl
  ·refine Tot.loop (fun (k:Nat) (s:Int)=>(s=0∧k=2)∨(s=1∧k=1)∨(s=2∧k=0)) (fun k s hs=>?_) NN 2 _ (.inl ⟨rfl,rfl⟩) (by unfold NN; omega)
   unfold ZB
   rw [e]
   have x0:getI [a,b] 0=some a:=rfl
   have x1:getI [a,b] 1=some b:=rfl
   have w1:w64 (0+1)=1:=by decide
   have w2:w64 (1+1)=2:=by decide
   have w0:w64 (1-1)=0:=by decide
   rcases hs with ⟨rfl,rfl⟩ | ⟨rfl,rfl⟩ | ⟨rfl,rfl⟩
   ·refine Tot.cond (fun _=>?_) fun hd=>by simp at hd
    rw [x0,Option.bind_some,Zbb,Option.bind_some,decide_eq_true g1,decide_eq_true (show a≤60 by omega),w1]
    exact Tot.cond (fun e=>by cases e) fun _=>Tot.cond (fun e=>by simp at e) fun _=>Tot.ret ⟨1,by omega,.inr (.inl ⟨rfl,rfl⟩)⟩
   ·refine Tot.cond (fun _=>?_) fun hd=>by simp at hd
    rw [x1,Option.bind_some,Zbb,Option.bind_some,decide_eq_true (show 0≤b by omega),decide_eq_true g3,w2,w0,x0,Option.bind_some,Option.bind_some]
    exact Tot.cond (fun e=>by cases e) fun _=>Tot.cond (fun _=>Tot.cond (fun e=>by have:=of_decide_eq_true e; omega) fun _=>Tot.ret ⟨0,by omega,.inr (.inr ⟨rfl,rfl⟩)⟩) fun e=>by simp at e
   ·exact Tot.cond (fun hd=>by simp at hd) fun hd=>Tot.ret rfl
 obtain ⟨_,r0,rfl⟩:=e0
 obtain ⟨_,r1,rfl⟩:=e1
 unfold Zi
 rw [r0,Option.bind_some]
 simp only [ZX]
 rw [r1,Option.bind_some]
 simp only [ZX]
 have ho:(n.off.length:Int)≤10:=by rcases h.off with e | ⟨a,b,e,_⟩ <;> rw [e] <;> simp
 rw [decide_eq_true (show (n.legs.length:Int)≤20 by omega),decide_eq_true ho,Zbb,decide_eq_true hch.1,decide_eq_true hch.2]
 rfl
theorem Zq6 {n:Za} (h:NetD n) {skip:List Int} (hs:skip.length≤50):Zal n skip=some ((⟨n,[],[],[],0,[],skip,0⟩:Zd),true):=by
 have hf:WFit (⟨n,[],[],[],0,[],skip,0⟩:Zd):=⟨h.fit,by simp,by simp,by simp,by simp,by simp only; omega,fun o ho=>by cases ho⟩
 have hv:Zbk (⟨n,[],[],[],0,[],skip,0⟩:Zd)=true:=by
  unfold Zbk Z6 Zk1
  simp only [h.ok,Option.getD_some]
  simp [allI]
  omega
 unfold Zal
 rw [Zin hf,Option.bind_some,Zfd hf,hv]
 rfl
section
variable {n:Za} (hn:NetD n)
include hn
theorem leg0:0<n.legs.length∧n.legs.length≤20:=by have:=hn.len; omega
theorem Zo5 {c:Zx} (h:Zco c):Tot (Zct c n) fun r=>Zco r.2:=by
 have hl:=hn.len
 unfold Zct
 refine Tot.rho (Tot.bind (Z2 h _) fun y1 h1=>Tot.rho (Tot.bind (Z2 h1.2 10) fun y2 h2=>?_))
 obtain ⟨y,hy,_⟩:=ZaS (xs:=n.legs) (i:=y1.1) ⟨h1.1.1,h1.1.2.1 (by omega)⟩
 refine Tot.bind (Ziu hn.fit hy _) fun y3 _=>Tot.cond (fun _=>Tot.rho (Tot.bind (ZeB h2.2 4) fun y4 h4=>Tot.cond (fun _=>Tot.ret h4) fun _=>Tot.ret h4)) fun _=>Tot.ret h2.2
theorem ZmZ {c:Zx} (h:Zco c):Tot (Zcu c n) fun r=>Zco r.2.1∧r.2.2=n:=by
 have hl:=hn.len
 unfold Zcu
 refine Tot.rho (Tot.bind (Z2 h _) fun y1 h1=>Tot.rho (Tot.bind (Z2 h1.2 10) fun y2 h2=>?_))
 obtain ⟨y,hy,_⟩:=ZaS (xs:=n.legs) (i:=y1.1) ⟨h1.1.1,h1.1.2.1 (by omega)⟩
 refine Tot.bind (Ziu hn.fit hy _) fun y3 _=>Tot.cond (fun _=>Tot.rho (Tot.bind (ZeB h2.2 4) fun y4 h4=>Tot.cond (fun _=>Tot.ret ⟨h4,rfl⟩) fun _=>Tot.ret ⟨h4,rfl⟩)) fun _=>Tot.ret ⟨h2.2,rfl⟩
theorem Zsf {c:Zx} (h:Zco c) {w:Zd} (hw:w.network=n):Tot (Zbs c w) fun r=>Zco r.2:=by
 unfold Zbs
 rw [hw]
 refine Tot.cond (fun hd=>Tot.rho (Tot.bind (ZeB h 4) fun y1 h1=>Tot.cond (fun _=>Tot.drw (Tot.rho (Tot.bind (Z2 h1 _) fun y2 h2=>Tot.get h2.1.1 (h2.1.2.1 (of_decide_eq_true hd)) fun x _ _=>Tot.ret h2.2))) fun _=>Tot.rho (Tot.bind (Zo5 hn h1) fun y4 h4=>Tot.ret h4))) fun _=>Tot.rho (Tot.bind (Zo5 hn h) fun y4 h4=>Tot.ret h4)
theorem ZpX {c:Zx} (h:Zco c) {w:Zd} (hw:w.network=n):Tot (Zc0 c w) fun r=>Zco r.2.1∧r.2.2=w:=by
 subst hw
 unfold Zc0
 refine Tot.cond (fun hd=>Tot.rho (Tot.bind (ZeB h 4) fun y1 h1=>Tot.cond (fun _=>Tot.drw (Tot.rho (Tot.bind (Z2 h1 _) fun y2 h2=>Tot.get h2.1.1 (h2.1.2.1 (of_decide_eq_true hd)) fun x _ _=>Tot.ret ⟨h2.2,rfl⟩))) fun _=>Tot.rho (Tot.bind (ZmZ hn h1) fun y4 h4=>Tot.ret ⟨h4.1,?_⟩))) fun _=>Tot.rho (Tot.bind (ZmZ hn h) fun y4 h4=>Tot.ret ⟨h4.1,?_⟩)
 ·simp only [h4.2]
 ·simp only [h4.2]
theorem ZtI {c:Zx} (h:Zco c):Tot (Za4 c n) fun r=>Zco r.2:=by
 have hl:=hn.len
 have hp:0<(Zb n).length:=by
  have:=(ZdQ (n:=n) (List.getElem_mem (show 0<n.legs.length by omega))).1
  exact List.length_pos_of_mem this
 unfold Za4
 rw [(ZT hn.fit).2,Option.bind_some]
 refine Tot.rho (Tot.bind (ZeB h 9) fun y2 h2=>Tot.cond (fun _=>Tot.rho (Tot.bind (Zka h2) fun y3 h3=>Tot.ret h3.2)) fun _=>Tot.rho (Tot.bind (Z2 h2 _) fun y4 h4=>Tot.get h4.1.1 (h4.1.2.1 (by omega)) fun x _ _=>Tot.ret h4.2))
omit hn in
theorem ZmF:∀ (k:Nat) (w:Zd) (u:Int) (i:Nat) (o o':Zf),w.orders[i]?=some o→(runV k w u).orders[i]?=some o'→Zw o≤Zw o'
 | 0,w,u,i,o,o',h,h'=>by
  have h':w.orders[i]?=some o':=h'
  rw [h] at h'; obtain rfl:=Option.some.inj h'; exact Int.le_refl _
 | k+1,w,u,i,o,o',h,h'=>by
  unfold runV at h'
  split at h'
  ·rw [h] at h'; obtain rfl:=Option.some.inj h'; exact Int.le_refl _
  ·have h1:(Zav w (Zcj w)).orders[i]?=some (ZdI w.network (Zcj w) o):=by
    show (w.orders.map _)[i]?=_
    rw [List.getElem?_map,h]; rfl
   exact Int.le_trans ZkZ (ZmF k _ u i _ _ h1 h')
omit hn in
theorem Zt3 {w:Zd} (h:WOk w) {u:Int} (hu:w.now≤u) (hm:u≤100000) (hF:∀ o∈w.orders,FinE w.network o):∀ o∈(advV w u).orders,FinO w.network u o:=fun o' ho'=>by
 obtain ⟨a,b,_⟩:=Zqf h hu hm
 obtain ⟨i,hi,rfl⟩:=List.getElem_of_mem ho'
 have hi':=List.getElem?_eq_getElem hi
 have hlt:i<w.orders.length:=by rw [← b.len]; exact hi
 have hio:=List.getElem?_eq_getElem hlt
 have hs:=b.ord i _ _ hio hi'
 have hc:=ZmF (Zfv w) w u i _ _ hio hi'
 have hwy:=a.way hi'
 have hst:=a.state hi'
 have hwo:=ZcP a.fit a.ok hi'
 have hsh:=Zm3 hwy
 have hg:=hwy.gone
 refine ⟨?_,fun h2=>?_,⟨hg.1,by omega⟩⟩
 ·rcases hF _ (List.getElem_mem hlt) with h | h
  ·refine .inl ?_
   have hcl:Zw (advV w u).orders[i]≤(advV w u).orders[i].way.length:=by
    unfold Zw
    split
    ·rcases hwo.cases with ⟨c,_⟩ | ⟨_,c⟩ | ⟨c,_⟩ <;> omega
    ·exact hg.2
   have:(advV w u).orders[i].way.length=w.orders[i].way.length:=by rw [hs.way]
   omega
  ·exact .inr (by rw [hs.way,hs.to_]; exact h)
 ·rcases hst.cases with ⟨c,_⟩ | ⟨_,_,_,t,c1,c2,_⟩ | ⟨c,_⟩
  ·omega
  ·rw [b.network] at c2; exact ⟨t,c1,c2⟩
  ·omega
theorem Zt4 {w:Zd} (hw:WD n w) (u:Int):Tot (ZaN w u) (WD n):=by
 refine Tot.of (Zqi hw.fit u) ?_
 split
 ·rename_i h
  obtain ⟨a,b,_⟩:=Zqf ⟨hw.fit,h.1⟩ h.2.1 h.2.2
  have hnet:=hw.net
  exact ⟨a.fit,b.network.trans hw.net,by rw [b.closed]; exact hw.closed,fun o ho=>by rw [← hnet]; exact Zt3 ⟨hw.fit,h.1⟩ h.2.1 h.2.2 (fun x hx=>by rw [hnet]; exact (hw.fin x hx).ends) o ho⟩
 ·exact hw
theorem Zt1 {c:Zx} (h:Zco c) {w:Zd} (hw:WD n w):Tot (Zds c w) fun r=>WD n r.1∧Zco r.2:=by
 have hl:=(leg0 hn).2
 have hnet:=hw.net
 unfold Zds
 refine Tot.rho (Tot.bind (Z2 h 6) fun y1 h1=>?_)
 rw [hnet]
 have hc:=h1.2
 refine Tot.cond (fun _=>Tot.cond (fun _=>?_) fun _=>Tot.cond (fun _=>?_) fun _=>Tot.cond (fun _=>?_) fun _=>?_) fun _=>Tot.cond (fun _=>Tot.cond (fun _=>?_) fun _=>Tot.cond (fun _=>?_) fun _=>Tot.cond (fun _=>?_) fun _=>?_) fun _=>Tot.cond (fun _=>?_) fun _=>Tot.cond (fun _=>?_) fun _=>Tot.cond (fun _=>?_) fun _=>?_
 any_goals exact Tot.drw (Tot.rho (Tot.bind (ZtI hn hc) fun y2 h2=>Tot.rho (Tot.bind (ZtI hn h2) fun y3 h3=>Tot.rho (Tot.bind (Z2 h3 3) fun y4 h4=>Tot.rho (Tot.bind (Z2 h4.2 4000) fun y5 h5=>Tot.bind (Zo8 hn.fit hl hw _ _ _ _) fun y6 h6=>Tot.ret ⟨h6,h5.2⟩)))))
 any_goals exact Tot.drw (Tot.rho (Tot.bind (Zsf hn hc hnet) fun y7 h7=>Tot.bind (Ztm hn.fit hl hw _) fun y8 h8=>Tot.ret ⟨h8,h7⟩))
 any_goals exact Tot.bind (ZrG hn.fit hl hw) fun y9 h9=>Tot.ret ⟨h9,hc⟩
 all_goals exact Tot.drw (Tot.rho (Tot.bind (Z2 hc 40) fun y10 h10=>Tot.bind (Zt4 hn hw _) fun y11 h11=>Tot.ret ⟨h11,h10.2⟩))
end
theorem Zsy {c:Zx} (h:Zco c) (most:Int) (hm:most≤1000):Tot (ZcZ c most) fun r=>∃ n,NetD n∧WD n r.1∧Zco r.2:=by
 unfold ZcZ
 refine Tot.rho (Tot.bind (ZuE h) fun y1 h1=>?_)
 obtain ⟨h1,hc1⟩:=h1
 refine Tot.bind (P:=fun o=>Zco ⟨o.1,o.2.1,o.2.2.1⟩∧NetD ⟨o.2.2.2,y1.1.off,y1.1.change⟩) ?_ fun o0 ho0=>?_
 ·have hlen:=h1.len
  refine Tot.loop (fun (k:Nat) (s:Int × (List YB8) × Int × Int × (List YLeg))=>∃ i:Nat,s.1=(i:Int)∧i+k=s.2.2.2.2.length∧Zco ⟨s.2.1,s.2.2.1,s.2.2.2.1⟩∧NetD ⟨s.2.2.2.2,y1.1.off,y1.1.change⟩) (fun k s hs=>?_) NN y1.1.legs.length _ ⟨0,rfl,by simp,hc1,h1⟩ (by unfold NN; omega)
  obtain ⟨i,hi,hk,hc,hd⟩:=hs
  have hl2:=hd.len
  simp only at hl2
  unfold Zek
  rw [hi]
  refine Tot.cond (fun hlt=>?_) fun _=>Tot.ret ⟨hc,hd⟩
  have hlt:=of_decide_eq_true hlt
  have hwi:w64 ((i:Int)+1)=((i+1:Nat):Int):=by rw [Zp (by omega)]; omega
  rw [hwi]
  refine Tot.rho (Tot.bind (ZeB hc 2) fun y2 h2=>Tot.cond (fun _=>Tot.drw (Tot.rho (Tot.bind (Z2 h2 9) fun y3 h3=>?_))) fun _=>Tot.ret ⟨k-1,by omega,i+1,rfl,by simp only; omega,h2,hd⟩)
  refine Tot.get (by omega) hlt fun x hx _=>Tot.ret ⟨k-1,by omega,i+1,rfl,by simp only [List.length_set]; omega,h3.2,?_⟩
  have b3:=h3.1.2.1 (by omega)
  have b0:=h3.1.1
  have hr:w64 (2000+w64 (1000*y3.1))=2000+1000*y3.1:=by rw [Zp (n:=1000*y3.1) (by omega),Zp (by omega)]
  refine ⟨by simp only [List.length_set]; exact hl2,fun l hl=>?_,hd.off,hd.change⟩
  rcases List.mem_or_eq_of_mem_set hl with hl | rfl
  ·exact hd.leg l hl
  ·obtain ⟨a1,a2,a3,a4,a5,a6,a7⟩:=hd.leg x hx
   exact ⟨a1,a2,a3,a4,a5,a6,by simp only [hr]; omega⟩
 ·refine Tot.rho (Tot.bind (Z2 ho0.1 6) fun y5 h5=>?_)
  have b5:=h5.1.2.1 (by omega)
  have b5':=h5.1.1
  refine Tot.bind (P:=fun o=>Zco ⟨o.1,o.2.1,o.2.2.1⟩∧o.2.2.2.length≤50) ?_ fun o1 ho1=>?_
  ·refine Tot.loop (fun (k:Nat) (s:Int × (List YB8) × Int × Int × (List Int))=>s.1=(k:Int)∧s.2.2.2.2.length+k≤6∧Zco ⟨s.2.1,s.2.2.1,s.2.2.2.1⟩) (fun k s hs=>?_) NN y5.1.toNat _ ⟨by simp only; omega,by simp only [List.length_nil]; omega,h5.2⟩ (by unfold NN; omega)
   obtain ⟨hk,hl,hc⟩:=hs
   unfold Zel
   refine Tot.cond (fun hd=>?_) fun _=>Tot.ret ⟨hc,by simp only; omega⟩
   have hd:=of_decide_eq_true hd
   have hwi:w64 (s.1-1)=((k-1:Nat):Int):=by rw [Zp (by omega)]; omega
   exact Tot.rho (Tot.bind (Z2 hc 25) fun y6 h6=>Tot.chk (Zcp (by simp only [List.length_cons,List.length_nil]; omega) (by omega)) (Tot.ret ⟨k-1,by omega,hwi,by simp only [List.length_append,List.length_cons,List.length_nil]; omega,h6.2⟩))
  ·refine Tot.frz ?_
   rw [Zq6 ho0.2 ho1.2,Option.bind_some]
   refine Tot.rho (Tot.bind (Z2 ho1.1 most) fun y8 h8=>?_)
   have b8:=h8.1
   have b8':y8.1≤1000:=by
    rcases Int.lt_or_le 0 most with hp | hp
    ·have:=b8.2.1 hp; omega
    ·have:=b8.2.2 hp; omega
   refine Tot.bind (P:=fun o=>Zco ⟨o.1,o.2.1,o.2.2.1⟩∧WD ⟨o0.2.2.2,y1.1.off,y1.1.change⟩ (⟨(⟨o.2.2.2.2.2.2.1,o.2.2.2.2.2.2.2.1,o.2.2.2.1⟩:Za),o.2.2.2.2.2.2.2.2.1,o.2.2.2.2.2.2.2.2.2.1,o.2.2.2.2.2.2.2.2.2.2.1,o.2.2.2.2.1,o.2.2.2.2.2.2.2.2.2.2.2.1,o.2.2.2.2.2.2.2.2.2.2.2.2,o.2.2.2.2.2.1⟩:Zd)) ?_ fun o2 ho2=>Tot.ret ⟨_,ho0.2,ho2.2,ho2.1⟩
   refine Tot.loop (fun (k:Nat) (s2:Int × (List YB8) × Int × Int × Int × Int × Int × (List YLeg) × (List Int) × (List Zf) × (List Zc) × (List Ze) × (List Zj) × (List Int))=>s2.1=(k:Int)∧k≤1000∧Zco ⟨s2.2.1,s2.2.2.1,s2.2.2.2.1⟩∧WD ⟨o0.2.2.2,y1.1.off,y1.1.change⟩ (⟨(⟨s2.2.2.2.2.2.2.2.1,s2.2.2.2.2.2.2.2.2.1,s2.2.2.2.2.1⟩:Za),s2.2.2.2.2.2.2.2.2.2.1,s2.2.2.2.2.2.2.2.2.2.2.1,s2.2.2.2.2.2.2.2.2.2.2.2.1,s2.2.2.2.2.2.1,s2.2.2.2.2.2.2.2.2.2.2.2.2.1,s2.2.2.2.2.2.2.2.2.2.2.2.2.2,s2.2.2.2.2.2.2.1⟩:Zd)) (fun k s hs=>?_) NN y8.1.toNat _ ⟨by simp only; omega,?_,h8.2,?_⟩ (by unfold NN; omega)
   ·obtain ⟨hk,hkl,hc,hw⟩:=hs
    unfold Zem
    refine Tot.cond (fun hd=>?_) fun _=>Tot.ret ⟨hc,hw⟩
    have hd:=of_decide_eq_true hd
    have hwi:w64 (s.1-1)=((k-1:Nat):Int):=by rw [Zp (by omega)]; omega
    exact Tot.frz (Tot.rho (Tot.bind (Zt1 ho0.2 hc hw) fun y9 h9=>Tot.ret ⟨k-1,by omega,hwi,by omega,h9.2,h9.1⟩))
   ·omega
   ·exact ⟨⟨ho0.2.fit,by simp,by simp,by simp,by simp,by have:=ho1.2; simp only; omega,fun o ho=>by cases ho⟩,rfl,by simp,fun o ho=>by cases ho⟩
theorem WFit.set {w:Zd} (h:WFit w) {i:Nat} {x:Zf} {o:Zf} (ho:o∈w.orders) (hx:x.way=o.way):∀ y∈w.orders.set i x,y.way.length≤1048576:=fun y hy=>by
 rcases List.mem_or_eq_of_mem_set hy with hy | rfl
 ·exact h.way y hy
 ·rw [hx]; exact h.way o ho
theorem mutS {n:Za} {now:Int} {o x:Zf} (h:FinO n now o) (hw:x.way=o.way) (ht:x.to_=o.to_) (hg:x.gone=o.gone) (hs:Zgv n x now) (h0:0≤x.gone) (h1:x.gone≤x.way.length):FinE n x:=by
 rcases h.ends with he | he
 ·refine .inl ?_
  rw [hw]
  rcases hs.cases with ⟨c,_,_,_,c5⟩ | ⟨c,_,_,t,c4,_⟩ | ⟨c,_,_,c4,_⟩
  ·have hc:Zw x=o.gone:=by unfold Zw; rw [if_neg (by omega),hg]
   by_cases h2:o.state=2
   ·obtain ⟨t,k1,k2⟩:=h.started h2
    have:=c5 t (by rw [hw,hg]; exact k1)
    omega
   ·have:Zw o=o.gone:=by unfold Zw; rw [if_neg h2]
    omega
  ·have hlt:=(List.getElem?_eq_some_iff.1 c4).1
   rw [hw] at hlt
   have hc:Zw x=o.gone+1:=by unfold Zw; rw [if_pos c,hg]
   by_cases h2:o.state=2
   ·have:Zw o=o.gone+1:=by unfold Zw; rw [if_pos h2]
    omega
   ·have:Zw o=o.gone:=by unfold Zw; rw [if_neg h2]
    omega
  ·have hc:Zw x=x.gone:=by unfold Zw; rw [if_neg (by omega)]
   rw [hw] at c4
   omega
 ·exact .inr (by rw [hw,ht]; exact he)
theorem mutG {n:Za} {now:Int} {o x:Zf} (h:FinO n now o) (hw:x.way=o.way) (ht:x.to_=o.to_) (hg:x.gone=w64 (o.gone+1)∧x.state=o.state) (hs:Zgv n x now) (h0:0≤x.gone) (h1:x.gone≤x.way.length):FinE n x:=by
 have hgo:=h.gone
 have hx:x.gone=o.gone+1:=by rw [hg.1,Zp (by omega)]
 rcases h.ends with he | he
 ·exfalso
  rw [hw] at h1
  by_cases h2:o.state=2
  ·have:Zw o=o.gone+1:=by unfold Zw; rw [if_pos h2]
   have hx2:x.state=2:=hg.2.trans h2
   rcases hs.cases with ⟨c,_⟩ | ⟨c,_,_,t,c4,_⟩ | ⟨c,_⟩
   ·omega
   ·have hlt:=(List.getElem?_eq_some_iff.1 c4).1
    rw [hw] at hlt
    omega
   ·omega
  ·have:Zw o=o.gone:=by unfold Zw; rw [if_neg h2]
   omega
 ·exact .inr (by rw [hw,ht]; exact he)
theorem Zt5 {c:Zx} (h:Zco c):Tot (Zdt c) fun r=>(NetD r.1.network∧WFit r.1∧(Zbk r.1=true→∀ o∈r.1.orders,FinE r.1.network o))∧Zco r.2:=by
 unfold Zdt
 refine Tot.rho (Tot.bind (Zsy h 9 (by omega)) fun y1 h1=>?_)
 obtain ⟨n,hn,hw,hc⟩:=h1
 have hf:=hw.fit
 have hcl:=hw.closed
 have hnd:NetD y1.1.network:=by rw [hw.net]; exact hn
 have hfe:∀ o∈y1.1.orders,FinE y1.1.network o:=fun o ho=>by rw [hw.net]; exact (hw.fin o ho).ends
 refine Tot.rho (Tot.bind (ZeB hc 2) fun y2 h2=>Tot.cond (fun _=>Tot.ret ⟨⟨hnd,hf,fun _=>hfe⟩,h2⟩) fun _=>Tot.cond (fun _=>Tot.ret ⟨⟨hnd,hf,fun _=>hfe⟩,h2⟩) fun hz=>?_)
 have hz:=of_decide_eq_false hz
 refine Tot.rho (Tot.bind (Z2 h2 _) fun y3 h3=>Tot.rho (Tot.bind (Z2 h3.2 13) fun y4 h4=>?_))
 have b3:=h3.1.2.1 (by omega)
 obtain ⟨o,ho,hm⟩:=ZaS (xs:=y1.1.orders) (i:=y3.1) ⟨h3.1.1,b3⟩
 have hc4:=h4.2
 rw [ho]
 simp only [Option.bind_some]
 have hF:FinO y1.1.network y1.1.now o:=by rw [hw.net]; exact hw.fin o hm
 have hoi:=(ZdO ho).2
 have set:∀ (x:Zf),x.way=o.way→WFit (⟨y1.1.network,(y1.1.orders.set (Int.toNat y3.1) x),y1.1.bookings,y1.1.closed,y1.1.now,y1.1.scans,y1.1.skip,y1.1.made⟩:Zd):=fun x hx=>⟨hf.net,by simp only [List.length_set]; exact hf.orders,hf.bookings,hf.closed,hf.scans,hf.skip,hf.set hm hx⟩
 have setF:∀ (x:Zf),x.way=o.way→(Zgv y1.1.network x y1.1.now→0≤x.gone→x.gone≤x.way.length→FinE y1.1.network x)→(Zbk (⟨y1.1.network,(y1.1.orders.set (Int.toNat y3.1) x),y1.1.bookings,y1.1.closed,y1.1.now,y1.1.scans,y1.1.skip,y1.1.made⟩:Zd)=true→∀ z∈y1.1.orders.set (Int.toNat y3.1) x,FinE y1.1.network z):=fun x hx hk hv z hz=>by
  rcases List.mem_or_eq_of_mem_set hz with hz | rfl
  ·exact hfe z hz
  ·have hok:WOk (⟨y1.1.network,(y1.1.orders.set (Int.toNat y3.1) z),y1.1.bookings,y1.1.closed,y1.1.now,y1.1.scans,y1.1.skip,y1.1.made⟩:Zd):=⟨set z hx,hv⟩
   have hzi:(y1.1.orders.set (Int.toNat y3.1) z)[(Int.toNat y3.1)]?=some z:=by
    rw [List.getElem?_set_self (List.getElem?_eq_some_iff.1 hoi).1]
   exact hk (hok.state hzi) (hok.way hzi).gone.1 (hok.way hzi).gone.2
 have keep:∀ (a b:Int),WFit (⟨y1.1.network,y1.1.orders,y1.1.bookings,y1.1.closed,a,y1.1.scans,y1.1.skip,b⟩:Zd):=fun a b=>⟨hf.net,hf.orders,hf.bookings,hf.closed,hf.scans,hf.skip,hf.way⟩
 refine Tot.cond (fun _=>Tot.drw (Tot.rho (Tot.bind (Z2 hc4 5) fun y5 h5=>Tot.ret ⟨⟨hnd,set _ rfl,setF _ rfl (fun h1 h2 h3=>mutS hF rfl rfl rfl h1 h2 h3)⟩,h5.2⟩))) fun _=>?_
 refine Tot.cond (fun _=>Tot.ret ⟨⟨hnd,set _ rfl,setF _ rfl (fun h1 h2 h3=>mutG hF rfl rfl ⟨rfl,rfl⟩ h1 h2 h3)⟩,hc4⟩) fun _=>?_
 refine Tot.cond (fun _=>Tot.drw (Tot.rho (Tot.bind (ZnV hc4 (by simp)) fun y10 h10=>Tot.ret ⟨⟨hnd,set _ rfl,setF _ rfl (fun _ _ _=>hF.ends)⟩,h10.2⟩))) fun _=>?_
 refine Tot.cond (fun _=>Tot.ret ⟨⟨hnd,set _ rfl,setF _ rfl (fun _ _ _=>hF.ends)⟩,hc4⟩) fun _=>?_
 refine Tot.cond (fun _=>Tot.drw (Tot.rho (Tot.bind (ZjT hc4 (by simp)) fun y14 h14=>Tot.ret ⟨⟨hnd,keep _ _,fun _=>hfe⟩,h14.2⟩))) fun _=>?_
 refine Tot.cond (fun _=>Tot.drw (Tot.rho (Tot.bind (Z2 hc4 _) fun y15 h15=>?_))) fun _=>?_
 ·have hb:=hf.bookings
  have hw1:w64 ((y1.1.bookings.length:Int)+1)=(y1.1.bookings.length:Int)+1:=Zp (by omega)
  have b15:=h15.1.2.1 (by rw [hw1]; omega)
  rw [hw1] at b15
  have b0:=h15.1.1
  refine Tot.chk (by unfold slOk; exact decide_eq_true (by omega)) (Tot.ret ⟨⟨hnd,⟨hf.net,hf.orders,?_,hf.closed,hf.scans,hf.skip,hf.way⟩,fun _=>hfe⟩,h15.2⟩)
  simp only [subL,List.length_take,List.length_drop]; omega
 refine Tot.cond (fun _=>Tot.drw (Tot.rho (Tot.bind (ZpX hn hc4 hw.net) fun y16 h16=>?_))) fun _=>?_
 ·have e:=h16.2
  rw [e]
  refine Tot.chk (Zcp (by simp only [List.length_cons,List.length_nil]; omega) (by omega)) (Tot.ret ⟨⟨hnd,⟨hf.net,hf.orders,hf.bookings,?_,hf.scans,hf.skip,hf.way⟩,fun _=>hfe⟩,h16.1⟩)
  simp only [List.length_append,List.length_cons,List.length_nil]; omega
 refine Tot.cond (fun _=>Tot.ret ⟨⟨hnd,set _ rfl,setF _ rfl (fun _ _ _=>hF.ends)⟩,hc4⟩) fun _=>?_
 refine Tot.cond (fun _=>Tot.rho (Tot.bind (ZjT hc4 (by simp)) fun y19 h19=>Tot.ret ⟨⟨hnd,keep _ _,fun _=>hfe⟩,h19.2⟩)) fun _=>?_
 exact Tot.cond (fun _=>Tot.drw (Tot.rho (Tot.bind (ZjT hc4 (by simp)) fun y20 h20=>Tot.ret ⟨⟨hnd,set _ rfl,setF _ rfl (fun _ _ _=>hF.ends)⟩,h20.2⟩))) fun _=>Tot.ret ⟨⟨hnd,hf,fun _=>hfe⟩,hc4⟩
end Go.Proofs.YtmcdjilbkmhfoaaGreat
namespace Go.Proofs.YtmcdjilbkmhfoaaGreat
set_option maxRecDepth 10000
open Go.RowKit
set_option linter.unusedVariables false
set_option linter.unusedSimpArgs false
def nilW (n:Za):Zd:=⟨n,[],[],[],0,[],[],0⟩
theorem ZoI {n:Za} (h:ZV n):WFit (nilW n):=⟨h,by simp [nilW],by simp [nilW],by simp [nilW],by simp [nilW],by simp [nilW],by simp [nilW]⟩
def Zv9:Zd:=⟨⟨[],[],0⟩,[],[],[],0,[],[],0⟩
theorem Zut {n:Za} (h:ZV n):Za2 n []=some (if Zbk (nilW n) then (nilW n,true) else (Zv9,false)):=by
 unfold Za2
 rw [Zl1 h,Option.bind_some]
 simp only [List.length_nil,chk0 (n:=0) (by omega) (show 8≤1024 by omega),Option.bind_some,List.nil_append]
 show (Zb5 (nilW n)).bind _=_
 rw [Zir (ZoI h),Option.bind_some]
 cases Zbk (nilW n) <;> rfl
theorem Zvj {n:Za} (h:ZV n):Zal n []=some (if Zbk (nilW n) then (nilW n,true) else (Zv9,false)):=by
 unfold Zal
 show (ZaI (nilW n)).bind _=_
 rw [Zin (ZoI h),Option.bind_some,Zfd (ZoI h),Option.bind_some]
 cases Zbk (nilW n) <;> rfl
theorem ZsT (n:Za):Zga (nilW n):=
 ⟨⟨rfl,rfl,fun i o ho=>by simp [nilW] at ho⟩,rfl,by simp [nilW],fun o ho=>by simp [nilW] at ho,fun s hs=>by simp [nilW] at hs⟩
theorem Zpf {code:List YB8} (hl:code.length≤4096) (hb:∀ x∈code,0≤x.v∧x.v≤255):Tot (ZcC code) fun r=>NetD r.network:=by
 unfold ZcC
 exact Tot.bind (ZuF hl hb) fun c hc=>Tot.rho (Tot.bind (Zt5 hc) fun r hr=>Tot.ret hr.1.1)
theorem Zpq {n:Za} (h:1≤n.legs.length):0<(Zb n).length:=by
 have hi:0<n.legs.length:=by omega
 have:=(ZdQ (List.getElem_mem hi)).1
 exact List.length_pos_of_mem this
theorem seenAll (code:List YB8) (hb:∀ x∈code,0≤x.v∧x.v≤255):Zdp code=some true:=by
 unfold Zdp Zhk
 rw [Option.bind_some]
 by_cases hbig:4096<(code.length:Int)
 ·rw [decide_eq_true hbig]; rfl
 rw [decide_eq_false hbig,cond_false]
 obtain ⟨y2,e2,hD⟩:=Zpf (code:=code) (by omega) hb
 have hf:=hD.fit
 rw [e2,Option.bind_some,Zut hf,Zvj hf,Option.bind_some]
 cases hv:Zbk (nilW y2.network) with
 | false=>rfl
 | true=>
 simp only [if_true,Bool.not_true,cond_false]
 have hW:WOk (nilW y2.network):=⟨ZoI hf,hv⟩
 rw [(ZT hf).2,Option.bind_some]
 obtain ⟨w',e,g1,g2⟩:=Ztf hb (Zpq hD.len.1) hW (ZsT _) rfl
 have e':Zl (Zbn code (Zb y2.network)) NN (0,((nilW y2.network).network.legs:List YLeg),((nilW y2.network).network.off:List Int),(nilW y2.network).network.change,[],[],[],(nilW y2.network).now,[],((nilW y2.network).skip:List Int),(nilW y2.network).made)=some (tupW w'):=e
 rw [e',Option.bind_some,Zuc g1 g2]
 have hm:decide ((tupW w').2.2.2.2.2.2.2.2.2=((tupW w').2.2.2.2.2.2.2.1.length:Int))=true:=decide_eq_true g2.seen.made
 have hbl:ZcY ⟨⟨(tupW w').1,(tupW w').2.1,(tupW w').2.2.1⟩,(tupW w').2.2.2.1,(tupW w').2.2.2.2.1,(tupW w').2.2.2.2.2.1,(tupW w').2.2.2.2.2.2.1,(tupW w').2.2.2.2.2.2.2.1,(tupW w').2.2.2.2.2.2.2.2.1,(tupW w').2.2.2.2.2.2.2.2.2⟩=some true:=Zpa g1 g2
 simp only [Option.bind_some,ZX,hm,cond_true,hbl]
end Go.Proofs.YtmcdjilbkmhfoaaGreat
