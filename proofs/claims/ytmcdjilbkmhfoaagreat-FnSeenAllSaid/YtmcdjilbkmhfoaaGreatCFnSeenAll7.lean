/- A part of the proof of the statement in the last file of this claim: texts on the language of the program and on its functions. No condition. -/
import Derived.Test.YtmcdjilbkmhfoaaGreatCFnSeenAll5
import Derived.Test.YtmcdjilbkmhfoaaGreatCFnSeenAll6
import Derived.Test.YtmcdjilbkmhfoaaGreatCFnSeenAll1
import Derived.Sort.LotA
import Derived.Test.YtmcdjilbkmhfoaaGreatProg
import Derived.Shelf.SlSortFuncK.RowK2
import Derived.Shelf.GgSortFunc.SmallK
import Derived.Deep.DeepCutAuto
import Derived.Test.YtmcdjilbkmhfoaaGreatCFnSeenAll4
import Derived.Shelf.GgSortMore.Stable
namespace Go.Proofs.YtmcdjilbkmhfoaaGreat
set_option maxRecDepth 10000
open Go.RowKit
set_option linter.unusedVariables false
set_option maxHeartbeats 16000000
def ZaC (w:Zd) (s0:Int × Int):Option ((Int × Int) ⊕ Int):=
 cond (decide (s0.2<(w.orders.length:Int)))
 ((getI w.orders s0.2).bind fun y1=>
 cond (decide (y1.state=2))
 ((getI y1.way y1.gone).bind fun y2=>
 (ZL w.network y2).bind fun y3=>
 cond (decide (0≤y3))
 (cond (decide (s0.1<0))
 (some (.inl (y3,(w64 (s0.2+1)))))
 (cond (decide (y3<s0.1))
 (some (.inl (y3,(w64 (s0.2+1)))))
 (some (.inl (s0.1,(w64 (s0.2+1)))))))
 (some (.inl (s0.1,(w64 (s0.2+1))))))
 (cond (decide (y1.state=1))
 (cond (decide (y1.gone<(y1.way.length:Int)))
 ((getI y1.way y1.gone).bind fun y4=>
 (ZI w.network y4).bind fun y5=>
 cond (decide (0≤y5))
 (cond (decide (s0.1<0))
 (some (.inl (y5,(w64 (s0.2+1)))))
 (cond (decide (y5<s0.1))
 (some (.inl (y5,(w64 (s0.2+1)))))
 (some (.inl (s0.1,(w64 (s0.2+1)))))))
 (some (.inl (s0.1,(w64 (s0.2+1))))))
 (cond (decide (0≤(-1)))
 (cond (decide (s0.1<0))
 (some (.inl ((-1),(w64 (s0.2+1)))))
 (cond (decide ((-1)<s0.1))
 (some (.inl ((-1),(w64 (s0.2+1)))))
 (some (.inl (s0.1,(w64 (s0.2+1)))))))
 (some (.inl (s0.1,(w64 (s0.2+1)))))))
 (cond (decide (0≤(-1)))
 (cond (decide (s0.1<0))
 (some (.inl ((-1),(w64 (s0.2+1)))))
 (cond (decide ((-1)<s0.1))
 (some (.inl ((-1),(w64 (s0.2+1)))))
 (some (.inl (s0.1,(w64 (s0.2+1)))))))
 (some (.inl (s0.1,(w64 (s0.2+1))))))))
 (some (.inr s0.1))
instance (w:Zd):ZU (ZaC w):=⟨fun s0=>(.un::.be 0 0 0::.un::vi s0.1::(U 4 (.sl (w.orders.map Zv)::vi (w.orders.length:Int)::vi s0.2::(U 51 [])))),fun s0=>[some ⟨41,10,[[.sl (w.network.legs.map cLeg),.sl (w.network.off.map cInt),vi w.network.change,.sl (w.orders.map Zv),.sl (w.bookings.map Zg),.sl (w.closed.map Zr),vi w.now,.sl (w.scans.map ZF),.sl (w.skip.map cInt),vi w.made]]⟩]⟩
def Zbe (w:Zd):Option Int:=
 (Zl (ZaC w) NN ((-1),0)).bind (fun o0=>
 some o0)
instance (w:Zd):CT Tryz.prog (Zbe w):=⟨82,[.ag (ZbD w)],[],fun r=>vi r,fun r=>[],fun H=>by replace H:=H0 H; unfold Zbe at H; exact Zh Tryz.func82 rfl Tryz.ntmps82 Tryz.results82 fun Q hQ hQn=>wk3⟩
def Zbw (w:Zd) (s0:Int × Int):Option ((Int × Int) ⊕ Int):=
 cond (decide (s0.1<(w.orders.length:Int)))
 ((getI w.orders s0.1).bind fun y2=>
 cond (decide (y2.gone=(y2.way.length:Int)))
 (some (.inl ((w64 (s0.1+1)),s0.2)))
 ((getI y2.way y2.gone).bind fun y3=>
 (Zo w.network y3).bind fun y4=>
 cond (decide (y2.state=2))
 ((getI y2.way y2.gone).bind fun y5=>
 (Zn w.network y5).bind fun y6=>
 cond (decide (s0.2<0))
 (some (.inl ((w64 (s0.1+1)),y6)))
 (cond (decide (y6<s0.2))
 (some (.inl ((w64 (s0.1+1)),y6)))
 (some (.inl ((w64 (s0.1+1)),s0.2)))))
 (cond (decide (s0.2<0))
 (some (.inl ((w64 (s0.1+1)),y4)))
 (cond (decide (y4<s0.2))
 (some (.inl ((w64 (s0.1+1)),y4)))
 (some (.inl ((w64 (s0.1+1)),s0.2)))))))
 (some (.inr s0.2))
instance (w:Zd):ZU (Zbw w):=⟨fun s0=>(.un::.be 0 0 0::.un::vi s0.2::vi s0.1::(U 54 [])),fun s0=>[some ⟨41,10,[[.sl (w.network.legs.map cLeg),.sl (w.network.off.map cInt),vi w.network.change,.sl (w.orders.map Zv),.sl (w.bookings.map Zg),.sl (w.closed.map Zr),vi w.now,.sl (w.scans.map ZF),.sl (w.skip.map cInt),vi w.made]]⟩]⟩
def Zdv (w:Zd):Option Int:=
 (Za5 w).bind fun y1=>
 cond (!y1)
 (some (-1))
 ((Zl (Zbw w) NN (0,(-1))).bind (fun o0=>
 some o0))
instance (w:Zd):CT Tryz.prog (Zdv w):=⟨72,[.ag (ZbD w)],[],fun r=>vi r,fun r=>[],fun H=>by replace H:=H0 H; unfold Zdv at H; exact Zh Tryz.func72 rfl Tryz.ntmps72 Tryz.results72 fun Q hQ hQn=>wk3⟩
end Go.Proofs.YtmcdjilbkmhfoaaGreat
namespace Go.Proofs.YtmcdjilbkmhfoaaGreat
set_option maxRecDepth 10000
open Go.RowKit
set_option linter.unusedVariables false
set_option linter.unusedSimpArgs false
set_option linter.unusedSectionVars false
structure Zvx (l:YLeg):Prop where
 start:0≤l.start∧l.start≤1439
 takes:1≤l.takes∧l.takes≤4320
 room:0≤l.room∧l.room≤1000000
theorem ZsL {l:YLeg} (h:Zmh l) (hv:ZaP l=some true):Zvx l:=by
 obtain ⟨_,b1,s1⟩:=Zhi (s:=l.from_) h.1
 obtain ⟨_,b2,s2⟩:=Zhi (s:=l.to_) h.2
 unfold ZaP at hv
 rw [s1,s2] at hv
 simp only [Option.bind_some,Zbb] at hv
 cases b1 with
 | false=>simp at hv
 | true=>
 cases b2 with
 | false=>simp at hv
 | true=>
 simp only [cond_true] at hv
 cases h1:decide (l.from_=l.to_) with
 | true=>rw [h1] at hv; simp at hv
 | false=>
 rw [h1] at hv
 cases h2:decide (0≤l.start) && decide (l.start≤1439) with
 | false=>rw [h2] at hv; simp at hv
 | true=>
 rw [h2] at hv
 cases h3:decide (1≤l.takes) && decide (l.takes≤4320) with
 | false=>rw [h3] at hv; simp at hv
 | true=>
 rw [h3] at hv
 cases h4:decide (1≤l.days) && decide (l.days≤127) with
 | false=>rw [h4] at hv; simp at hv
 | true=>
 rw [h4] at hv
 cases h5:decide (0≤l.room) && decide (l.room≤1000000) with
 | false=>rw [h5] at hv; simp at hv
 | true=>
 simp only [Bool.and_eq_true,decide_eq_true_iff] at h2 h3 h5
 exact ⟨h2,h3,h5⟩
theorem Zln {n:Za} (h:ZV n) (hn:Zi n=some true):∀ l∈n.legs,Zvx l:=by
 have e:Zl (ZA n) NN 0=some (if allI (fun _ l=>(ZaP l).getD false) 0 n.legs=true then .inl () else .inr false):=by
  refine ZeT (A:=Unit) (fun _ i=>i) _ (fun a _=>a) id (fun a i l hl=>?_) (fun a=>?_) (by have:=h.legs; unfold NN; omega) ()
  ·have hlt:=(List.getElem?_eq_some_iff.1 hl).1
   have hcl:=h.legs
   have hg:getI n.legs (i:Int)=some l:=by rw [Zq]; exact hl
   have hi:w64 ((i:Int)+1)=((i+1:Nat):Int):=Z9 hlt (by omega)
   obtain ⟨_,b,hb⟩:=Zjm (h.leg l (List.mem_of_getElem? hl))
   unfold ZA
   simp only [decide_eq_true (show (i:Int)<n.legs.length by omega),cond_true,hg,Option.bind_some,hb,hi,Option.getD_some]
   cases b <;> rfl
  ·unfold ZA
   simp
 unfold Zi at hn
 rw [e] at hn
 by_cases ha:allI (fun _ l=>(ZaP l).getD false) 0 n.legs=true
 ·intro l hl
  obtain ⟨i,hi,rfl⟩:=List.getElem_of_mem hl
  have:=ZbI.1 ha i _ (List.getElem?_eq_getElem hi)
  obtain ⟨_,b,hb⟩:=Zjm (h.leg _ (List.getElem_mem hi))
  rw [hb] at this
  simp at this
  subst this
  exact ZsL (h.leg _ (List.getElem_mem hi)) hb
 ·rw [if_neg ha] at hn
  simp at hn
theorem Zig {n:Za} {t:Ze} (ht:Zb0 n t=true):0≤t.day∧t.day≤60:=by
 unfold Zb0 ZP at ht
 rw [Zbb,Zbb] at ht
 simp only [Option.bind_some] at ht
 cases h1:decide (0≤t.leg) && decide (t.leg≤w64 ((n.legs.length:Int)-1)) with
 | false=>rw [h1] at ht; simp at ht
 | true=>
 rw [h1] at ht
 simp only [cond_true] at ht
 cases h2:decide (0≤t.day) && decide (t.day≤60) with
 | false=>rw [h2] at ht; simp at ht
 | true=>simpa only [Bool.and_eq_true,decide_eq_true_iff] using h2
def Zaf (n:Za) (t:Ze):Int:=(Zo n t).getD 0
def Zbj (n:Za) (t:Ze):Int:=(Zn n t).getD 0
theorem ZaF {n:Za} (h:ZV n) (hn:Zi n=some true) {t:Ze} (ht:Zb0 n t=true):
 Zo n t=some (Zaf n t)∧Zn n t=some (Zbj n t)∧0≤Zaf n t∧Zaf n t<Zbj n t∧Zbj n t≤100000:=by
 obtain ⟨y,hy,hm⟩:=Zaz h ht
 obtain ⟨d0,d1⟩:=Zig ht
 have hl:=Zln h hn y hm
 obtain ⟨a0,a1⟩:=hl.start
 obtain ⟨b0,b1⟩:=hl.takes
 have e1:Zo n t=some (t.day*1440+y.start):=by
  unfold Zo
  rw [hy]
  simp only [Option.bind_some]
  rw [Zp (n:=t.day*1440) (by omega),Zp (by omega)]
 have e2:Zn n t=some (t.day*1440+y.start+y.takes):=by
  unfold Zn
  rw [e1,hy]
  simp only [Option.bind_some]
  rw [Zp (by omega)]
 have s1:Zaf n t=t.day*1440+y.start:=by unfold Zaf; rw [e1]; rfl
 have s2:Zbj n t=t.day*1440+y.start+y.takes:=by unfold Zbj; rw [e2]; rfl
 refine ⟨by rw [e1,s1],by rw [e2,s2],by omega,by omega,by omega⟩
theorem ZnU {n:Za} {o:Zf} {now:Int} (h:ZD n o now=some true):(o.state=1∧¬ (o.place=o.to_))∨(o.state=2∧o.gone<o.way.length)∨(o.state=3∧o.gone=o.way.length∧0<o.gone):=by
 by_cases h1:o.state=1
 ·refine .inl ⟨h1,fun hp=>?_⟩
  unfold ZD at h
  rw [decide_eq_true h1] at h
  cases h0:decide (0<o.gone) with
  | false=>
   rw [h0] at h
   simp only [cond_false,cond_true] at h
   cases hq:decide (o.place=o.from_) with
   | false=>rw [hq] at h; cases h
   | true=>
    rw [hq,decide_eq_true (show o.from_=o.to_ from (of_decide_eq_true hq).symm.trans hp)] at h
    cases h
  | true=>
   rw [h0] at h
   simp only [cond_false,cond_true] at h
   cases hg:getI o.way (w64 (o.gone-1)) with
   | none=>rw [hg] at h; cases h
   | some y1=>
    rw [hg] at h
    simp only [Option.bind_some] at h
    cases hl:getI n.legs y1.leg with
    | none=>rw [hl] at h; cases h
    | some y2=>
     rw [hl] at h
     simp only [Option.bind_some] at h
     cases he:Zn n y1 with
     | none=>rw [he] at h; cases h
     | some v=>
      rw [he] at h
      simp only [Option.bind_some] at h
      cases hc:decide (now<v) with
      | true=>rw [hc] at h; cases h
      | false=>
       rw [hc] at h
       simp only [cond_false] at h
       cases hq:decide (o.place=y2.to_) with
       | false=>rw [hq] at h; cases h
       | true=>
        rw [hq,decide_eq_true (show y2.to_=o.to_ from (of_decide_eq_true hq).symm.trans hp)] at h
        cases h
 ·by_cases h2:o.state=2
  ·refine .inr (.inl ⟨h2,?_⟩)
   rcases Classical.em (o.gone<o.way.length) with hlt | hlt
   ·exact hlt
   exfalso
   unfold ZD at h
   rw [decide_eq_false h1,decide_eq_true h2,decide_eq_false hlt] at h
   cases h0:decide (0<o.gone) with
   | false=>
    rw [h0] at h
    simp only [cond_false,cond_true] at h
    revert h; cases decide (o.place=⟨#[]⟩) <;> cases decide (o.ended=0) <;> (intro h; cases h)
   | true=>
    rw [h0] at h
    simp only [cond_false,cond_true] at h
    cases hg:getI o.way (w64 (o.gone-1)) with
    | none=>rw [hg] at h; cases h
    | some y1=>
     rw [hg] at h
     simp only [Option.bind_some] at h
     cases hl:getI n.legs y1.leg with
     | none=>rw [hl] at h; cases h
     | some y2=>
      rw [hl] at h
      simp only [Option.bind_some] at h
      cases he:Zn n y1 with
      | none=>rw [he] at h; cases h
      | some v=>
       rw [he] at h
       simp only [Option.bind_some] at h
       revert h; cases decide (now<v) <;> cases decide (o.place=⟨#[]⟩) <;> cases decide (o.ended=0) <;> (intro h; cases h)
  ·by_cases h3:o.state=3
   ·refine .inr (.inr ⟨h3,?_⟩)
    rcases Classical.em (o.gone=o.way.length∧0<o.gone) with hlt | hlt
    ·exact hlt
    exfalso
    unfold ZD at h
    rw [decide_eq_false h1,decide_eq_false h2,decide_eq_true h3] at h
    cases h0:decide (0<o.gone) with
    | false=>
     rw [h0] at h
     simp only [cond_false,cond_true] at h
     revert h; cases decide (o.place=o.to_) <;> cases decide (o.from_=o.to_) <;> cases decide (o.gone=(o.way.length:Int)) <;> (intro h; cases h)
    | true=>
     have hne:¬ o.gone=(o.way.length:Int):=fun e=>hlt ⟨e,of_decide_eq_true h0⟩
     rw [h0,decide_eq_false hne] at h
     simp only [cond_false,cond_true] at h
     cases hg:getI o.way (w64 (o.gone-1)) with
     | none=>rw [hg] at h; cases h
     | some y1=>
      rw [hg] at h
      simp only [Option.bind_some] at h
      cases hl:getI n.legs y1.leg with
      | none=>rw [hl] at h; cases h
      | some y2=>
       rw [hl] at h
       simp only [Option.bind_some] at h
       cases he:Zn n y1 with
       | none=>rw [he] at h; cases h
       | some v=>
        rw [he] at h
        simp only [Option.bind_some] at h
        revert h; cases decide (now<v) <;> cases decide (o.place=o.to_) <;> cases decide (y2.to_=o.to_) <;> (intro h; cases h)
   ·exfalso
    unfold ZD at h
    rw [decide_eq_false h1,decide_eq_false h2,decide_eq_false h3] at h
    cases h0:decide (0<o.gone) with
    | false=>rw [h0] at h; cases h
    | true=>
     rw [h0] at h
     simp only [cond_false,cond_true] at h
     cases hg:getI o.way (w64 (o.gone-1)) with
     | none=>rw [hg] at h; cases h
     | some y1=>
      rw [hg] at h
      simp only [Option.bind_some] at h
      cases hl:getI n.legs y1.leg with
      | none=>rw [hl] at h; cases h
      | some y2=>
       rw [hl] at h
       simp only [Option.bind_some] at h
       cases he:Zn n y1 with
       | none=>rw [he] at h; cases h
       | some v=>
        rw [he] at h
        simp only [Option.bind_some] at h
        revert h; cases decide (now<v) <;> (intro h; cases h)
structure Zp3 (w:Zd) (i:Nat) (o:Zf):Prop where
 gone:0≤o.gone∧o.gone≤o.way.length
 trip:∀ t∈o.way,Zb0 w.network t=true
 way:allI (wayC w ((i+1:Nat):Int) o) 0 o.way=true
 isWay:ZaQ w.network o.way o.from_ (endV w.network o) (w64 (o.at_+1))=some true
 st:ZD w.network o w.now=some true
 cases:(o.state=1∧¬ (o.place=o.to_))∨(o.state=2∧o.gone<o.way.length)∨(o.state=3∧o.gone=o.way.length∧0<o.gone)
 open_:((o.way.drop (Zw o).toNat).any (ZdD w.closed))=false
 fromto:¬ o.from_=o.to_
 at_:0≤o.at_∧o.at_≤w.now
 due:0≤o.due∧o.due≤200000
theorem ZsV {w:Zd} (hf:WFit w) {i:Nat} {o:Zf} (hl:o.way.length≤1048576) (h:Zeg w i o=true):Zp3 w i o:=by
 unfold Zeg at h
 simp only [Bool.and_eq_true,Bool.not_eq_true',decide_eq_true_iff,decide_eq_false_iff_not] at h
 obtain ⟨⟨⟨⟨⟨⟨⟨⟨⟨⟨⟨h1,h2⟩,h3⟩,h4⟩,h5⟩,h6⟩,h7⟩,h8⟩,h9⟩,h10⟩,h11⟩,h12⟩:=h
 have ht:∀ t∈o.way,Zb0 w.network t=true:=by
  intro t ht
  obtain ⟨j,hj,rfl⟩:=List.getElem_of_mem ht
  have:=ZbI.1 h9 j _ (List.getElem?_eq_getElem hj)
  unfold wayC at this
  simp only [Bool.and_eq_true] at this
  exact this.1.1
 obtain ⟨r,hr⟩:=Zis hf.net hl o.from_ (endV w.network o) (w64 (o.at_+1))
 obtain ⟨b,hb⟩:=ZkY (n:=w.network) h8 hl (fun t htt=>by obtain ⟨y,hy,_⟩:=Zaz hf.net (ht t htt); exact ⟨y,hy⟩) w.now
 rw [hr] at h10
 rw [hb] at h11
 simp only [Option.getD_some] at h10 h11
 subst h10 h11
 exact ⟨h8,ht,h9,hr,hb,ZnU hb,h12,h3,h6,h7⟩
section
variable {w:Zd} (hf:WFit w) (hv:Zbk w=true)
include hf hv
theorem ZcP {i:Nat} {o:Zf} (ho:w.orders[i]?=some o):Zp3 w i o:=ZsV hf (hf.way o (List.mem_of_getElem? ho)) (ZfQ hv ho)
theorem Zm5:Zi w.network=some true:=(ZeP (Zkr hv)).1
theorem Zo6 {o:Zf} {i:Nat} (ho:w.orders[i]?=some o) {k:Int} (h0:0≤k) (h1:k<o.way.length):∃ t,getI o.way k=some t∧Zb0 w.network t=true:=by
 have hlt:k.toNat<o.way.length:=by omega
 exact ⟨o.way[k.toNat],by unfold getI; rw [if_pos h0]; exact List.getElem?_eq_getElem hlt,(ZcP hf hv ho).trip _ (List.getElem_mem hlt)⟩
theorem ZuG:Zbe w=(Zl (Zbw w) NN (0,(-1))).bind (fun o0=>some o0):=by
 have hnet:=Zm5 hf hv
 have hor:=hf.orders
 let F:Nat→Int→Zf→Option (Int ⊕ Int):=fun _ a o=>
  if o.gone=o.way.length then some (.inl a) else (getI o.way o.gone).bind fun t=>
   let v:=if o.state=2 then Zbj w.network t else Zaf w.network t
   some (.inl (if a<0∨v<a then v else a))
 have e1:Zl (ZaC w) NN ((-1),0)=runL F some 0 w.orders (-1):=by
  refine Zgk (A:=Int) (fun a i=>(a,i)) F some (fun a i o ho=>?_) (fun a=>?_) (by unfold NN; omega) (-1)
  ·have hlt:=(List.getElem?_eq_some_iff.1 ho).1
   have hg:getI w.orders (i:Int)=some o:=by rw [Zq]; exact ho
   have hi:w64 ((i:Int)+1)=((i+1:Nat):Int):=Z9 hlt (by omega)
   have hok:=ZcP hf hv ho
   unfold ZaC
   simp only [decide_eq_true (show (i:Int)<w.orders.length by omega),cond_true,hg,Option.bind_some,hi,Ze2,Zgx]
   show _=(F i a o).bind _
   simp only [F]
   by_cases hgl:o.gone<o.way.length
   ·obtain ⟨t,htg,htb⟩:=Zo6 hf hv ho hok.gone.1 hgl
    obtain ⟨t1,t2,t3,t4,t5⟩:=ZaF hf.net hnet htb
    rw [if_neg (show ¬ o.gone=(o.way.length:Int) by omega),htg]
    simp only [Option.bind_some,t1,t2,decide_eq_true hgl]
    rcases hok.cases with ⟨c1,_⟩ | ⟨c1,_⟩ | ⟨c1,c2,_⟩
    ·rw [c1]
     simp only [show decide ((1:Int)=2)=false from rfl,show decide ((1:Int)=1)=true from rfl,cond_true,cond_false,decide_eq_true t3,show ¬ ((1:Int)=2) by omega,if_false,ZX]
     by_cases ha:a<0
     ·simp [ha]
     ·by_cases hb:Zaf w.network t<a <;> simp [ha,hb]
    ·rw [c1]
     simp only [show decide ((2:Int)=2)=true from rfl,cond_true,decide_eq_true (show 0≤Zbj w.network t by omega),if_true,ZX]
     by_cases ha:a<0
     ·simp [ha]
     ·by_cases hb:Zbj w.network t<a <;> simp [ha,hb]
    ·omega
   ·have hge:=hok.gone.2
    rw [if_pos (show o.gone=(o.way.length:Int) by omega),decide_eq_false hgl]
    rcases hok.cases with ⟨c1,_⟩ | ⟨c1,_⟩ | ⟨c1,c2,_⟩
    ·rw [c1]; rfl
    ·omega
    ·rw [c1]; rfl
  ·unfold ZaC
   simp
 have e2:Zl (Zbw w) NN (0,(-1))=runL F some 0 w.orders (-1):=by
  refine Zgk (A:=Int) (fun a i=>(i,a)) F some (fun a i o ho=>?_) (fun a=>?_) (by unfold NN; omega) (-1)
  ·have hlt:=(List.getElem?_eq_some_iff.1 ho).1
   have hg:getI w.orders (i:Int)=some o:=by rw [Zq]; exact ho
   have hi:w64 ((i:Int)+1)=((i+1:Nat):Int):=Z9 hlt (by omega)
   have hok:=ZcP hf hv ho
   unfold Zbw
   simp only [decide_eq_true (show (i:Int)<w.orders.length by omega),cond_true,hg,Option.bind_some,hi]
   show _=(F i a o).bind _
   simp only [F]
   by_cases hgl:o.gone<o.way.length
   ·obtain ⟨t,htg,htb⟩:=Zo6 hf hv ho hok.gone.1 hgl
    obtain ⟨t1,t2,t3,t4,t5⟩:=ZaF hf.net hnet htb
    rw [if_neg (show ¬ o.gone=(o.way.length:Int) by omega),decide_eq_false (show ¬ o.gone=(o.way.length:Int) by omega),htg]
    simp only [Option.bind_some,t1,t2,cond_false]
    by_cases c1:o.state=2
    ·simp only [decide_eq_true c1,cond_true,if_pos c1,ZX]
     by_cases ha:a<0
     ·simp [ha]
     ·by_cases hb:Zbj w.network t<a <;> simp [ha,hb]
    ·simp only [decide_eq_false c1,cond_false,if_neg c1,ZX]
     by_cases ha:a<0
     ·simp [ha]
     ·by_cases hb:Zaf w.network t<a <;> simp [ha,hb]
   ·have hge:=hok.gone.2
    rw [if_pos (show o.gone=(o.way.length:Int) by omega),decide_eq_true (show o.gone=(o.way.length:Int) by omega)]
    rfl
  ·unfold Zbw
   simp
 unfold Zbe
 rw [e1,e2]
end
theorem ZnW {w:Zd} (hf:WFit w) (hv:Zbk w=true) {i:Nat} {o:Zf} (ho:w.orders[i]?=some o):∃ b,Zd9 w o=some b∧ZcF w (i:Int)=some b∧(b=false→0<o.way.length):=by
 have hok:=ZcP hf hv ho
 have hl:=hf.way o (List.mem_of_getElem? ho)
 obtain ⟨c1,c2,c3⟩:=ZjF hok.gone hl
 have hg:getI w.orders (i:Int)=some o:=by rw [Zq]; exact ho
 unfold Zd9 ZcF
 rw [hg]
 simp only [Option.bind_some]
 rcases hok.cases with ⟨k1,k2⟩ | ⟨k1,k2⟩ | ⟨k1,k2,k3⟩
 ·have hcv:Zw o=o.gone:=by unfold Zw; rw [k1]; rfl
  have hge:=hok.gone
  have hh:Zau w.network o=some o.place:=by unfold Zau; rw [k1]; rfl
  rw [ZqO,hh,c1,c3,hcv,if_neg (show ¬ (o.way.length:Int)<o.gone by omega),k1]
  simp only [Option.bind_some]
  by_cases hgl:o.gone=o.way.length
  ·refine ⟨true,?_,?_,fun h=>by cases h⟩
   ·rw [decide_eq_true hgl,decide_eq_false k2]; rfl
   ·rw [decide_eq_true hgl,decide_eq_false k2]; rfl
  ·exact ⟨false,by rw [decide_eq_false hgl]; rfl,by rw [decide_eq_false hgl]; rfl,fun _=>by omega⟩
 ·have hcv:Zw o=o.gone+1:=by unfold Zw; rw [k1]; rfl
  have hge:=hok.gone
  obtain ⟨t,htg,htb⟩:=Zo6 hf hv ho hok.gone.1 k2
  obtain ⟨y,hy,_⟩:=Zaz hf.net htb
  have hh:Zau w.network o=some y.to_:=by unfold Zau; rw [k1,htg]; simp [hy]
  rw [ZqO,hh,c1,c3,hcv,if_neg (show ¬ (o.way.length:Int)<o.gone+1 by omega),k1]
  simp only [Option.bind_some]
  cases decide (o.gone+1=(o.way.length:Int)) with
  | true=>exact ⟨_,rfl,rfl,fun _=>by omega⟩
  | false=>exact ⟨_,rfl,rfl,fun _=>by omega⟩
 ·rw [k1]
  exact ⟨false,rfl,rfl,fun _=>by omega⟩
end Go.Proofs.YtmcdjilbkmhfoaaGreat
namespace Go.Proofs.YtmcdjilbkmhfoaaGreat
set_option maxRecDepth 10000
open Go.RowKit
set_option linter.unusedVariables false
set_option linter.unusedSimpArgs false
set_option linter.unusedSectionVars false
theorem Zh1 {σ ο:Type} {body:σ→Option (σ ⊕ ο)} {P:ο→Prop} (h:∀ s o,body s=some (.inr o)→P o):∀ (N:Nat) (s:σ) (o:ο),Zl body N s=some o→P o
 | 0,s,o,he=>by simp [Zl] at he
 | N+1,s,o,he=>by
  simp only [Zl] at he
  cases hb:body s with
  | none=>rw [hb] at he; cases he
  | some x=>
   rw [hb] at he
   cases x with
   | inl s'=>exact Zh1 h N s' o he
   | inr r=>obtain rfl:r=o:=by simpa [ZX] using he
            exact h s r hb
theorem Zq5 {n:Za} (hn:Zi n=some true):(0≤n.change∧n.change≤240)∧n.legs.length≤20∧n.off.length≤10:=by
 unfold Zi at hn
 have p0:∀ (N:Nat) (s:Int) (o:Unit ⊕ Bool),Zl (ZA n) N s=some o→o=.inl ()∨o=.inr false:=by
  refine Zh1 fun s o h=>?_
  unfold ZA at h
  cases hd:decide (s<(n.legs.length:Int)) with
  | false=>rw [hd] at h; cases h; exact .inl rfl
  | true=>
   rw [hd,cond_true] at h
   cases hg:getI n.legs s with
   | none=>rw [hg] at h; cases h
   | some y=>
    rw [hg,Option.bind_some] at h
    cases hl:ZaP y with
    | none=>rw [hl] at h; cases h
    | some b=>rw [hl,Option.bind_some] at h; cases b <;> cases h; exact .inr rfl
 have p1:∀ (N:Nat) (s:Int) (o:Unit ⊕ Bool),Zl (ZB n) N s=some o→o=.inl ()∨o=.inr false:=by
  refine Zh1 fun s o h=>?_
  unfold ZB at h
  cases hd:decide (s<(n.off.length:Int)) with
  | false=>rw [hd] at h; cases h; exact .inl rfl
  | true=>
   rw [hd,cond_true] at h
   cases hg:getI n.off s with
   | none=>rw [hg] at h; cases h
   | some y=>
    rw [hg,Option.bind_some,Zbb,Option.bind_some] at h
    cases hb:decide (0≤y) && decide (y≤60) with
    | false=>rw [hb] at h; cases h; exact .inr rfl
    | true=>
     rw [hb] at h
     cases hs:decide (0<s) with
     | false=>rw [hs] at h; cases h
     | true=>
      rw [hs] at h
      simp only [Bool.not_true,cond_false,cond_true] at h
      cases hg2:getI n.off (w64 (s-1)) with
      | none=>rw [hg2] at h; cases h
      | some z=>
       rw [hg2] at h
       simp only [Option.bind_some] at h
       cases hz:decide (y≤z) with
       | false=>rw [hz] at h; cases h
       | true=>rw [hz] at h; cases h; exact .inr rfl
 cases h0:Zl (ZA n) NN 0 with
 | none=>rw [h0] at hn; cases hn
 | some r0=>
 rw [h0] at hn
 rcases p0 _ _ _ h0 with rfl | rfl
 ·simp only [Option.bind_some,ZX] at hn
  cases h1:Zl (ZB n) NN 0 with
  | none=>rw [h1] at hn; cases hn
  | some r1=>
  rw [h1] at hn
  rcases p1 _ _ _ h1 with rfl | rfl
  ·simp only [Option.bind_some,ZX,Zbb] at hn
   cases h2:decide ((n.legs.length:Int)≤20) with
   | false=>rw [h2] at hn; cases hn
   | true=>
   cases h3:decide ((n.off.length:Int)≤10) with
   | false=>rw [h2,h3] at hn; cases hn
   | true=>
   rw [h2,h3] at hn
   simp only [cond_true] at hn
   have:=Option.some.inj hn
   have h2:=of_decide_eq_true h2
   have h3:=of_decide_eq_true h3
   exact ⟨by simpa only [Bool.and_eq_true,decide_eq_true_iff] using this,by omega,by omega⟩
  ·cases hn
 ·cases hn
theorem ZeJ {n:Za} (hn:Zi n=some true):0≤n.change∧n.change≤240:=(Zq5 hn).1
theorem Zfg {n:Za} (hn:Zi n=some true):n.legs.length≤20:=(Zq5 hn).2.1
def ZcR (n:Za) (t:Ze):ByteArray:=((getI n.legs t.leg).map (·.from_)).getD ⟨#[]⟩
def Zfw (n:Za):ByteArray→Int→List Ze→Prop
 | _,_,[]=>True
 | p,a,t::ts=>Zb0 n t=true∧ZcR n t=p∧a≤Zaf n t∧Zfw n (Zag n t) (Zbj n t+n.change) ts
theorem Zjn {n:Za} (h:ZV n) (hn:Zi n=some true) (t:Ze):Zaj n t=some (Zb0 n t):=by
 rw [← (Zgj h t).1,ZhZ h hn,ZgI h]
theorem ZjW {n:Za} (hf:ZV n) (hn:Zi n=some true) {way:List Ze} (hl:way.length≤1048576) {a b:ByteArray} {t:Int} (h:ZaQ n way a b t=some true):Zfw n a t way:=by
 obtain ⟨ch0,ch1⟩:=ZeJ hn
 have hpl:=Zar n
 have hll:=hf.legs
 let F:Nat→ByteArray × Int→Ze→Option ((ByteArray × Int) ⊕ (ByteArray ⊕ Bool)):=fun _ p t=>
  some (if Zb0 n t=true∧ZcR n t=p.1∧p.2≤Zaf n t then .inl (Zag n t,Zbj n t+n.change) else .inr (.inr false))
 have e1:Zl (Zae n way b) NN (a,t,0)=runL F (fun p=>some (.inl p.1)) 0 way (a,t):=by
  refine Zgk (A:=ByteArray × Int) (fun p i=>(p.1,p.2,i)) F (fun p=>some (.inl p.1)) (fun p i x hx=>?_) (fun p=>?_) (by unfold NN; omega) (a,t)
  ·have hlt:=(List.getElem?_eq_some_iff.1 hx).1
   have hg:getI way (i:Int)=some x:=by rw [Zq]; exact hx
   have hi:w64 ((i:Int)+1)=((i+1:Nat):Int):=Z9 hlt (by omega)
   unfold Zae
   simp only [decide_eq_true (show (i:Int)<way.length by omega),cond_true,hg,Option.bind_some,hi,Zjn hf hn,F]
   cases ht:Zb0 n x with
   | false=>simp [ZX]
   | true=>
    obtain ⟨y,hy,_⟩:=Zaz hf ht
    obtain ⟨t1,t2,t3,t4,t5⟩:=ZaF hf hn ht
    have f1:ZcR n x=y.from_:=by unfold ZcR; rw [hy]; rfl
    have f2:Zag n x=y.to_:=by unfold Zag; rw [hy]; rfl
    have hw:w64 (Zbj n x+n.change)=Zbj n x+n.change:=Zp (by omega)
    simp only [hy,Option.bind_some,t1,t2,f1,f2,hw,Bool.not_true,cond_false,true_and]
    by_cases h1:y.from_=p.1
    ·by_cases h2:Zaf n x<p.2
     ·rw [decide_eq_true h1,decide_eq_true h2,if_neg (show ¬ (y.from_=p.1∧p.2≤Zaf n x) by omega)]; rfl
     ·rw [decide_eq_true h1,decide_eq_false h2,if_pos ⟨h1,by omega⟩]; rfl
    ·rw [decide_eq_false h1,if_neg (fun h=>h1 h.1)]; rfl
  ·unfold Zae
   simp
 have key:∀ (ts:List Ze) (i:Nat) (p:ByteArray × Int) (r:ByteArray),runL F (fun p=>some (.inl p.1)) i ts p=some (.inl r)→Zfw n p.1 p.2 ts:=by
  intro ts
  induction ts with
  | nil=>intro i p r h; trivial
  | cons x ts ih=>
   intro i p r h
   simp only [runL,F] at h
   by_cases hc:Zb0 n x=true∧ZcR n x=p.1∧p.2≤Zaf n x
   ·rw [if_pos hc] at h
    exact ⟨hc.1,hc.2.1,hc.2.2,ih (i+1) (Zag n x,Zbj n x+n.change) r h⟩
   ·rw [if_neg hc] at h; cases h
 unfold ZaQ at h
 rw [(ZT hf).2,hn] at h
 simp only [Option.bind_some,ZeU (show (Zb n).length≤4194304 by omega),e1] at h
 cases h1:decide (idxV (Zb n) a<0) with
 | true=>rw [h1] at h; cases h
 | false=>
 cases h2:decide (idxV (Zb n) b<0) with
 | true=>rw [h1,h2] at h; cases h
 | false=>
 rw [h1,h2] at h
 simp only [Bool.not_true,cond_false] at h
 cases hr:runL F (fun p=>some (.inl p.1)) 0 way (a,t) with
 | none=>rw [hr] at h; cases h
 | some r=>
  cases r with
  | inl r=>exact key way 0 (a,t) r hr
  | inr v=>
   exfalso
   have:∀ (ts:List Ze) (i:Nat) (p:ByteArray × Int) (v:Bool),runL F (fun p=>some (.inl p.1)) i ts p=some (.inr v)→v=false:=by
    intro ts
    induction ts with
    | nil=>intro i p v h; cases h
    | cons x ts ih=>
     intro i p v h
     simp only [runL,F] at h
     by_cases hc:Zb0 n x=true∧ZcR n x=p.1∧p.2≤Zaf n x
     ·rw [if_pos hc] at h; exact ih _ _ _ h
     ·rw [if_neg hc] at h; cases h; rfl
   have hv:=this _ _ _ _ hr
   subst hv
   rw [hr] at h
   cases h
theorem Zoc {n:Za}:∀ {ts:List Ze} {p:ByteArray} {a:Int} {i:Nat} {t:Ze},Zfw n p a ts→ts[i]?=some t→Zb0 n t=true∧∀ t',ts[i+1]?=some t'→Zbj n t+n.change≤Zaf n t'∧ZcR n t'=Zag n t
 | [],_,_,_,_,_,h=>by simp at h
 | x::ts,p,a,0,t,hc,h=>by
  obtain rfl:x=t:=by simpa using h
  refine ⟨hc.1,fun t' h'=>?_⟩
  cases ts with
  | nil=>simp at h'
  | cons y ts=>obtain rfl:y=t':=by simpa using h'
               exact ⟨hc.2.2.2.2.2.1,hc.2.2.2.2.1⟩
 | x::ts,p,a,i+1,t,hc,h=>by
  have h':ts[i]?=some t:=by simpa using h
  have:=Zoc hc.2.2.2 h'
  simpa using this
def ZgN (n:Za) (o:Zf):ByteArray:=if 0<o.gone then ((o.way[(o.gone-1).toNat]?).map (Zag n)).getD ⟨#[]⟩ else o.from_
structure Zgv (n:Za) (o:Zf) (now:Int):Prop where
 past:∀ t,0<o.gone→o.way[(o.gone-1).toNat]?=some t→Zbj n t≤now
 cases:(o.state=1∧o.place=ZgN n o∧¬ ZgN n o=o.to_∧o.ended=0∧∀ t,o.way[o.gone.toNat]?=some t→now<Zaf n t)∨
  (o.state=2∧o.place=⟨#[]⟩∧o.ended=0∧∃ t,o.way[o.gone.toNat]?=some t∧Zaf n t≤now∧now<Zbj n t)∨
  (o.state=3∧o.place=o.to_∧ZgN n o=o.to_∧o.gone=o.way.length∧0<o.gone∧∀ t,o.way[(o.gone-1).toNat]?=some t→o.ended=Zbj n t)
theorem ZhS {c:Prop} [Decidable c] {a b:Option Bool}:cond (decide c) a b=some true↔(c∧a=some true)∨(¬ c∧b=some true):=by
 by_cases h:c <;> simp [h]
theorem Zhf {c:Prop} [Decidable c] {a b:Option Bool}:cond (!decide c) a b=some true↔(¬ c∧a=some true)∨(c∧b=some true):=by
 by_cases h:c <;> simp [h]
theorem Zko {n:Za} (hf:ZV n) (hn:Zi n=some true) {o:Zf} (hg:0≤o.gone∧o.gone≤o.way.length) (hl:o.way.length≤1048576) (ht:∀ t∈o.way,Zb0 n t=true) (now:Int):ZD n o now=some true↔Zgv n o now:=by
 have hw1:w64 (o.gone-1)=o.gone-1:=Zp (by omega)
 have nx:(∃ t,o.gone<o.way.length∧getI o.way o.gone=some t∧o.way[o.gone.toNat]?=some t∧Zo n t=some (Zaf n t)∧Zn n t=some (Zbj n t))∨(o.gone=o.way.length∧o.way[o.gone.toNat]?=none):=by
  by_cases h:o.gone<o.way.length
  ·have hlt:o.gone.toNat<o.way.length:=by omega
   obtain ⟨t1,t2,_⟩:=ZaF hf hn (ht _ (List.getElem_mem hlt))
   exact .inl ⟨o.way[o.gone.toNat],h,by unfold getI; rw [if_pos hg.1]; exact List.getElem?_eq_getElem hlt,List.getElem?_eq_getElem hlt,t1,t2⟩
  ·exact .inr ⟨by omega,List.getElem?_eq_none (by omega)⟩
 unfold ZD
 rw [hw1]
 by_cases h0:0<o.gone
 ·have hlt:(o.gone-1).toNat<o.way.length:=by omega
  obtain ⟨p,hp,hp1⟩:∃ p,getI o.way (o.gone-1)=some p∧o.way[(o.gone-1).toNat]?=some p:=⟨o.way[(o.gone-1).toNat],by unfold getI; rw [if_pos (by omega)]; exact List.getElem?_eq_getElem hlt,List.getElem?_eq_getElem hlt⟩
  have hpt:=ht p (List.mem_of_getElem? hp1)
  obtain ⟨y,hy,_⟩:=Zaz hf hpt
  obtain ⟨t1,t2,t3,t4,t5⟩:=ZaF hf hn hpt
  have hh:ZgN n o=y.to_:=by unfold ZgN; rw [if_pos h0,hp1]; simp [Zag,hy]
  rcases nx with ⟨t,n1,n2,n3,n4,n5⟩ | ⟨n1,n3⟩
  ·have ng:¬ o.gone=o.way.length:=by omega
   simp only [decide_eq_true h0,cond_true,hp,hy,t2,n2,n4,n5,Option.bind_some,ZhS,Zhf,Option.some.injEq,decide_eq_true_iff]
   constructor
   ·intro h
    refine ⟨fun q _ hq=>?_,?_⟩
    ·rw [hp1] at hq; obtain rfl:=Option.some.inj hq
     rcases h with ⟨_,h⟩ | ⟨h,_⟩
     ·simp at h
     ·omega
    ·rw [hh]; simp only [n3,hp1,Option.some.injEq,forall_eq',exists_eq_left']
     by_cases s1:o.state=1 <;> by_cases s2:o.state=2 <;> by_cases s3:o.state=3 <;> simp_all
   ·rintro ⟨k1,k2⟩
    have k1':=k1 p h0 hp1
    rw [hh] at k2; simp only [n3,hp1,Option.some.injEq,forall_eq',exists_eq_left'] at k2
    have:¬ now<Zbj n p:=by omega
    rcases k2 with k | k | k <;> simp_all
  ·simp only [decide_eq_true h0,cond_true,hp,hy,t2,Option.bind_some,ZhS,Zhf,Option.some.injEq,decide_eq_true_iff]
   have ng:¬ o.gone<o.way.length:=by omega
   constructor
   ·intro h
    refine ⟨fun q _ hq=>?_,?_⟩
    ·rw [hp1] at hq; obtain rfl:=Option.some.inj hq
     rcases h with ⟨_,h⟩ | ⟨h,_⟩
     ·simp at h
     ·omega
    ·rw [hh]; simp only [n3,hp1,Option.some.injEq,forall_eq',exists_eq_left',reduceCtorEq,false_and,exists_false,false_implies,implies_true]
     by_cases s1:o.state=1 <;> by_cases s2:o.state=2 <;> by_cases s3:o.state=3 <;> simp_all
   ·rintro ⟨k1,k2⟩
    have k1':=k1 p h0 hp1
    rw [hh] at k2; simp only [n3,hp1,Option.some.injEq,forall_eq',exists_eq_left',reduceCtorEq,false_and,exists_false,false_implies,implies_true] at k2
    have:¬ now<Zbj n p:=by omega
    rcases k2 with k | k | k <;> simp_all
 ·have hh:ZgN n o=o.from_:=by unfold ZgN; rw [if_neg h0]
  rcases nx with ⟨t,n1,n2,n3,n4,n5⟩ | ⟨n1,n3⟩
  ·have ng:¬ o.gone=o.way.length:=by omega
   simp only [decide_eq_false h0,cond_false,n2,n4,n5,Option.bind_some,ZhS,Zhf,Option.some.injEq,decide_eq_true_iff]
   constructor
   ·intro h
    refine ⟨fun q hq=>absurd hq h0,?_⟩
    rw [hh]; simp only [n3,Option.some.injEq,forall_eq',exists_eq_left']
    by_cases s1:o.state=1 <;> by_cases s2:o.state=2 <;> by_cases s3:o.state=3 <;> simp_all
   ·rintro ⟨k1,k2⟩
    rw [hh] at k2; simp only [n3,Option.some.injEq,forall_eq',exists_eq_left'] at k2
    rcases k2 with k | k | k <;> simp_all
  ·have ng:¬ o.gone<o.way.length:=by omega
   simp only [decide_eq_false h0,cond_false,Option.bind_some,ZhS,Zhf,Option.some.injEq,decide_eq_true_iff]
   constructor
   ·intro h
    refine ⟨fun q hq=>absurd hq h0,?_⟩
    rw [hh]; simp only [n3,reduceCtorEq,false_and,exists_false,false_implies,implies_true]
    by_cases s1:o.state=1 <;> by_cases s2:o.state=2 <;> by_cases s3:o.state=3 <;> simp_all
   ·rintro ⟨k1,k2⟩
    rw [hh] at k2; simp only [n3,reduceCtorEq,false_and,exists_false,false_implies,implies_true] at k2
    rcases k2 with k | k | k
    ·simp_all
    ·simp_all
    ·exact absurd k.2.2.2.2.1 h0
end Go.Proofs.YtmcdjilbkmhfoaaGreat
namespace Go.Proofs.YtmcdjilbkmhfoaaGreat
set_option maxRecDepth 10000
open Go.RowKit
set_option linter.unusedVariables false
set_option linter.unusedSimpArgs false
set_option linter.unusedSectionVars false
def ZaZ (n:Za) (o:Zf):Option Int:=(o.way[o.gone.toNat]?).map fun t=>if o.state=2 then Zbj n t else Zaf n t
def arr1 (n:Za) (at_:Int) (o:Zf) (t:Ze):Zf:=
 if Zag n t=o.to_ then { o with gone:=o.gone+1,state:=3,place:=Zag n t,ended:=at_ } else { o with gone:=o.gone+1,state:=1,place:=Zag n t }
def ZJ (n:Za) (at_:Int) (o:Zf):Zf:=match o.way[o.gone.toNat]? with
 | some t=>if o.state=2∧Zbj n t=at_ then arr1 n at_ o t else o
 | none=>o
def Zfm (n:Za) (at_:Int) (o:Zf):Zf:=match o.way[o.gone.toNat]? with
 | some t=>if o.state=1∧Zaf n t=at_ then { o with state:=2,place:=⟨#[]⟩ } else o
 | none=>o
structure Zjw (n:Za) (o:Zf):Prop where
 gone:0≤o.gone∧o.gone≤o.way.length
 trip:∀ t∈o.way,0≤Zaf n t∧Zaf n t<Zbj n t∧Zbj n t≤100000
 next:∀ (i:Nat) t t',o.way[i]?=some t→o.way[i+1]?=some t'→Zbj n t≤Zaf n t'
 last:∀ (i:Nat) t,o.way[i]?=some t→Zag n t=o.to_→i+1=o.way.length
structure ZfH (o o':Zf):Prop where
 from_:o'.from_=o.from_
 to_:o'.to_=o.to_
 service:o'.service=o.service
 weight:o'.weight=o.weight
 at_:o'.at_=o.at_
 due:o'.due=o.due
 way:o'.way=o.way
theorem ZfH.refl (o:Zf):ZfH o o:=⟨rfl,rfl,rfl,rfl,rfl,rfl,rfl⟩
theorem ZfH.trans {a b c:Zf} (h:ZfH a b) (k:ZfH b c):ZfH a c:=⟨k.1.trans h.1,k.2.trans h.2,k.3.trans h.3,k.4.trans h.4,k.5.trans h.5,k.6.trans h.6,k.7.trans h.7⟩
theorem ZhA (n:Za) (at_:Int) (o:Zf):ZfH o (ZJ n at_ o):=by
 unfold ZJ arr1
 split
 ·split
  ·split <;> exact ⟨rfl,rfl,rfl,rfl,rfl,rfl,rfl⟩
  ·exact .refl o
 ·exact .refl o
theorem ZqZ (n:Za) (at_:Int) (o:Zf):ZfH o (Zfm n at_ o):=by
 unfold Zfm
 split
 ·split
  ·exact ⟨rfl,rfl,rfl,rfl,rfl,rfl,rfl⟩
  ·exact .refl o
 ·exact .refl o
def ZdI (n:Za) (at_:Int) (o:Zf):Zf:=Zfm n at_ (ZJ n at_ o)
theorem Zgs (n:Za) (at_:Int) (o:Zf):ZfH o (ZdI n at_ o):=(ZhA n at_ o).trans (ZqZ n at_ _)
theorem Zjw.same {n:Za} {o o':Zf} (h:Zjw n o) (k:ZfH o o') (hg:0≤o'.gone∧o'.gone≤o.way.length):Zjw n o':=
 ⟨by rw [k.way]; exact hg,by rw [k.way]; exact h.trip,by rw [k.way]; exact h.next,by rw [k.way,k.to_]; exact h.last⟩
def ZdM (o:Zf):Nat:=2*(o.way.length-o.gone.toNat)-(if o.state=2 then 1 else 0)
structure Zn0 (n:Za) (o:Zf) (at_:Int):Prop where
 ok:Zgv n o at_
 gone:0≤o.gone∧o.gone≤o.way.length
 next:∀ e,ZaZ n o=some e→at_<e
theorem ZfP {n:Za} {o:Zf} {at_:Int} (h:Zgv n o at_) (hg:0≤o.gone∧o.gone≤o.way.length):Zn0 n o at_:=by
 refine ⟨h,hg,fun e he=>?_⟩
 unfold ZaZ at he
 rcases h.cases with ⟨c,_,_,_,k⟩ | ⟨c,_,_,t,k1,_,k3⟩ | ⟨c,_,_,k,_,_⟩
 ·cases ht:o.way[o.gone.toNat]? with
  | none=>rw [ht] at he; cases he
  | some t=>rw [ht] at he; simp [c] at he; subst he; exact k t ht
 ·rw [k1] at he; simp [c] at he; subst he; exact k3
 ·rw [List.getElem?_eq_none (by omega)] at he; cases he
theorem ZqY {n:Za} {o:Zf} {at_:Int} (hw:Zjw n o) (hp:∀ t,0<o.gone→o.way[(o.gone-1).toNat]?=some t→Zbj n t≤at_)
 (hs:o.state=1) (h1:o.place=ZgN n o) (h2:¬ ZgN n o=o.to_) (h3:o.ended=0) (h4:∀ t,o.way[o.gone.toNat]?=some t→at_≤Zaf n t):
 Zn0 n (Zfm n at_ o) at_∧ZdM (Zfm n at_ o)≤ZdM o∧((∃ t,o.way[o.gone.toNat]?=some t∧Zaf n t=at_)→ZdM (Zfm n at_ o)<ZdM o):=by
 unfold Zfm
 cases ht:o.way[o.gone.toNat]? with
 | none=>
  refine ⟨ZfP ⟨hp,.inl ⟨hs,h1,h2,h3,fun t h=>?_⟩⟩ hw.gone,Nat.le_refl _,fun ⟨t,h,_⟩=>?_⟩
  ·rw [ht] at h; cases h
  ·cases h
 | some t=>
  have hlt:=(List.getElem?_eq_some_iff.1 ht).1
  obtain ⟨a1,a2,a3⟩:=hw.trip t (List.mem_of_getElem? ht)
  have h4':=h4 t ht
  by_cases hst:Zaf n t=at_
  ·simp only [hs,hst,and_self,if_true]
   refine ⟨ZfP ⟨fun q hq=>?_,.inr (.inl ⟨rfl,rfl,h3,t,ht,by omega,by omega⟩)⟩ hw.gone,?_,fun _=>?_⟩
   ·exact hp q hq
   ·unfold ZdM; simp only [hs]; simp
   ·unfold ZdM; simp only [hs]; simp; omega
  ·have hng:¬ (o.state=1∧Zaf n t=at_):=fun h=>hst h.2
   simp only [if_neg hng]
   refine ⟨ZfP ⟨hp,.inl ⟨hs,h1,h2,h3,fun q hq=>?_⟩⟩ hw.gone,Nat.le_refl _,fun ⟨q,hq,hq2⟩=>?_⟩
   ·rw [ht] at hq; obtain rfl:=Option.some.inj hq; omega
   ·obtain rfl:=Option.some.inj hq; exact absurd hq2 hst
theorem Ziv {n:Za} {o:Zf} {at_:Int} (hs:¬ o.state=1):Zfm n at_ o=o:=by
 unfold Zfm
 cases o.way[o.gone.toNat]? with
 | none=>rfl
 | some t=>simp [hs]
theorem Zr7 {n:Za} {o:Zf} {now at_:Int} (hw:Zjw n o) (h:Zgv n o now) (hn:now≤at_) (he:∀ e,ZaZ n o=some e→at_≤e):
 Zn0 n (ZdI n at_ o) at_∧Zjw n (ZdI n at_ o)∧ZdM (ZdI n at_ o)≤ZdM o∧(ZaZ n o=some at_→ZdM (ZdI n at_ o)<ZdM o):=by
 have hg:=hw.gone
 have main:Zn0 n (ZdI n at_ o) at_∧ZdM (ZdI n at_ o)≤ZdM o∧(ZaZ n o=some at_→ZdM (ZdI n at_ o)<ZdM o):=by
  unfold ZdI
  rcases h.cases with ⟨c1,c2,c3,c4,c5⟩ | ⟨c1,c2,c3,t,c4,c5,c6⟩ | ⟨c1,c2,c3,c4,c5,c6⟩
  ·have e1:ZJ n at_ o=o:=by
    unfold ZJ
    cases o.way[o.gone.toNat]? with
    | none=>rfl
    | some t=>simp [c1]
   rw [e1]
   have h4:∀ t,o.way[o.gone.toNat]?=some t→at_≤Zaf n t:=fun t ht=>he _ (by unfold ZaZ; rw [ht]; simp [c1])
   obtain ⟨a,b,c⟩:=ZqY hw (fun t h1 h2=>by have:=h.past t h1 h2; omega) c1 c2 c3 c4 h4
   refine ⟨a,b,fun hev=>c ?_⟩
   unfold ZaZ at hev
   cases ht:o.way[o.gone.toNat]? with
   | none=>rw [ht] at hev; cases hev
   | some t=>rw [ht] at hev; simp [c1] at hev; exact ⟨t,rfl,hev⟩
  ·have hlt:=(List.getElem?_eq_some_iff.1 c4).1
   obtain ⟨a1,a2,a3⟩:=hw.trip t (List.mem_of_getElem? c4)
   have he':=he (Zbj n t) (by unfold ZaZ; rw [c4]; simp [c1])
   by_cases hx:Zbj n t=at_
   ·have e1:ZJ n at_ o=arr1 n at_ o t:=by unfold ZJ; rw [c4]; simp only [c1,hx,and_self,if_true]
    rw [e1]
    have hgn:(o.gone+1-1).toNat=o.gone.toNat:=by omega
    have hgs:(o.gone+1).toNat=o.gone.toNat+1:=by omega
    unfold arr1
    by_cases hd:Zag n t=o.to_
    ·have hlen:=hw.last _ t c4 hd
     rw [if_pos hd,Ziv (by simp)]
     have hh:ZgN n { o with gone:=o.gone+1,state:=3,place:=Zag n t,ended:=at_ }=Zag n t:=by
      unfold ZgN; simp only [hgn,c4]; rw [if_pos (by omega)]; rfl
     refine ⟨ZfP ⟨fun q _ hq=>?_,.inr (.inr ⟨rfl,hd,hh.trans hd,by simp only; omega,by simp only; omega,fun q hq=>?_⟩)⟩ (by simp only; omega),?_,fun _=>?_⟩
     ·simp only [hgn,c4,Option.some.injEq] at hq; subst hq; omega
     ·simp only [hgn,c4,Option.some.injEq] at hq; subst hq; exact hx.symm
     ·unfold ZdM; simp only [hgs,c1]; simp; omega
     ·unfold ZdM; simp only [hgs,c1]; simp; omega
    ·rw [if_neg hd]
     have hh:ZgN n { o with gone:=o.gone+1,state:=1,place:=Zag n t }=Zag n t:=by
      unfold ZgN; simp only [hgn,c4]; rw [if_pos (by omega)]; rfl
     have hw':Zjw n { o with gone:=o.gone+1,state:=1,place:=Zag n t }:=hw.same ⟨rfl,rfl,rfl,rfl,rfl,rfl,rfl⟩ (by simp only; omega)
     obtain ⟨a,b,c⟩:=ZqY (at_:=at_) hw' (fun q _ hq=>by simp only [hgn,c4,Option.some.injEq] at hq; subst hq; omega) rfl hh.symm (by rw [hh]; exact hd) c3 (fun q hq=>by
      simp only [hgs] at hq
      have:=hw.next _ t q c4 hq
      omega)
     have hb:ZdM { o with gone:=o.gone+1,state:=1,place:=Zag n t } < ZdM o:=by unfold ZdM; simp only [hgs,c1]; simp; omega
     exact ⟨a,by omega,fun _=>by omega⟩
   ·have e1:ZJ n at_ o=o:=by unfold ZJ; rw [c4]; simp only [hx,and_false,if_false]
    rw [e1,Ziv (by omega)]
    refine ⟨ZfP ⟨fun q h1 h2=>by have:=h.past q h1 h2; omega,.inr (.inl ⟨c1,c2,c3,t,c4,by omega,by omega⟩)⟩ hg,Nat.le_refl _,fun hev=>?_⟩
    unfold ZaZ at hev
    rw [c4] at hev; simp [c1] at hev; exact absurd hev hx
  ·have hnone:o.way[o.gone.toNat]?=none:=List.getElem?_eq_none (by omega)
   have e1:ZJ n at_ o=o:=by unfold ZJ; rw [hnone]
   rw [e1,Ziv (by omega)]
   refine ⟨ZfP ⟨fun q h1 h2=>by have:=h.past q h1 h2; omega,.inr (.inr ⟨c1,c2,c3,c4,c5,c6⟩)⟩ hg,Nat.le_refl _,fun hev=>?_⟩
   unfold ZaZ at hev
   rw [hnone] at hev; cases hev
 have hs:=Zgs n at_ o
 exact ⟨main.1,hw.same hs (by have:=main.1.gone; rw [hs.way] at this; exact this),main.2⟩
theorem Zsc {n:Za} {o:Zf} (hw:Zjw n o) {now:Int} (h:Zgv n o now) (h0:ZdM o=0):ZaZ n o=none:=by
 have hg:=hw.gone
 unfold ZaZ
 rcases h.cases with ⟨c,_⟩ | ⟨c,_,_,t,k1,_⟩ | ⟨c,_,_,k,_⟩
 ·unfold ZdM at h0; rw [if_neg (by omega)] at h0
  rw [List.getElem?_eq_none (by omega)]; rfl
 ·have hlt:=(List.getElem?_eq_some_iff.1 k1).1
  unfold ZdM at h0; rw [if_pos c] at h0; omega
 ·rw [List.getElem?_eq_none (by omega)]; rfl
end Go.Proofs.YtmcdjilbkmhfoaaGreat
namespace Go.Proofs.YtmcdjilbkmhfoaaGreat
set_option maxRecDepth 10000
open Go.RowKit
set_option linter.unusedVariables false
set_option linter.unusedSimpArgs false
set_option linter.unusedSectionVars false
theorem Zgt {w:Zd} (hf:WFit w) (hv:Zbk w=true) {s:Zj} (hs:s∈w.scans):Zz w.network s=some true∧s.at_≤w.now:=by
 unfold Zbk at hv
 simp only [Bool.and_eq_true] at hv
 obtain ⟨j,hj,rfl⟩:=List.getElem_of_mem hs
 have:=ZbI.1 hv.1.1.2 j _ (List.getElem?_eq_getElem hj)
 unfold ZnN at this
 simp only [Bool.and_eq_true,Bool.not_eq_true',decide_eq_false_iff_not] at this
 obtain ⟨b,hb⟩:=ZgB hf.net w.scans[j]
 rw [hb] at this ⊢
 simp only [Option.getD_some] at this
 exact ⟨by rw [this.1],by omega⟩
def Zdd (skip:List Int) (p:List Zj × Int) (s:Zj):List Zj × Int:=
 let m:=if p.2<1000000000 then p.2+1 else p.2
 (if (skip.any fun y=>decide (y=m))=false∧p.1.length<200 then p.1++[s] else p.1,m)
def Zbz (n:Za) (at_:Int) (i:Nat) (o:Zf):List Zj:=match o.way[o.gone.toNat]? with
 | some t=>if o.state=2∧Zbj n t=at_ then ⟨((i+1:Nat):Int),at_,2,⟨#[]⟩,t⟩::(if Zag n t=o.to_ then [⟨((i+1:Nat):Int),at_,4,Zag n t,⟨0,0⟩⟩] else []) else []
 | none=>[]
def Zep (n:Za) (at_:Int) (i:Nat) (o:Zf):List Zj:=match o.way[o.gone.toNat]? with
 | some t=>if o.state=1∧Zaf n t=at_ then [⟨((i+1:Nat):Int),at_,3,⟨#[]⟩,t⟩] else []
 | none=>[]
def ZdH (f:Nat→Zf→List Zj):Nat→List Zf→List Zj
 | _,[]=>[]
 | i,o::os=>f i o++ZdH f (i+1) os
theorem Zfb {f:Nat→Zf→List Zj} {s:Zj}:∀ {os:List Zf} {i:Nat},s∈ZdH f i os→∃ j o,os[j]?=some o∧s∈f (i+j) o
 | [],_,h=>by simp [ZdH] at h
 | o::os,i,h=>by
  simp only [ZdH,List.mem_append] at h
  rcases h with h | h
  ·exact ⟨0,o,rfl,h⟩
  ·obtain ⟨j,o',h1,h2⟩:=Zfb h
   exact ⟨j+1,o',by simpa using h1,by rwa [show i+(j+1)=i+1+j by omega]⟩
def ZeM (w:Zd) (at_:Int):List Zj:=ZdH (Zbz w.network at_) 0 w.orders++ZdH (Zep w.network at_) 0 (w.orders.map (ZJ w.network at_))
def Zav (w:Zd) (at_:Int):Zd:=
 { w with orders:=w.orders.map (ZdI w.network at_),now:=at_,scans:=((ZeM w at_).foldl (Zdd w.skip) (w.scans,w.made)).1,made:=((ZeM w at_).foldl (Zdd w.skip) (w.scans,w.made)).2 }
structure WOk (w:Zd):Prop where
 fit:WFit w
 ok:Zbk w=true
theorem WOk.net {w:Zd} (h:WOk w):Zi w.network=some true:=Zm5 h.fit h.ok
theorem WOk.way {w:Zd} (h:WOk w) {i:Nat} {o:Zf} (ho:w.orders[i]?=some o):Zjw w.network o:=by
 have hok:=ZcP h.fit h.ok ho
 have hl:=h.fit.way o (List.mem_of_getElem? ho)
 have hch:=ZjW h.fit.net h.net hl hok.isWay
 refine ⟨hok.gone,fun t ht=>?_,fun i t t' h1 h2=>?_,fun i t h1 h2=>?_⟩
 ·obtain ⟨_,_,a,b,c⟩:=ZaF h.fit.net h.net (hok.trip t ht)
  exact ⟨a,b,c⟩
 ·have:=((Zoc hch h1).2 t' h2).1
  have:=(ZeJ h.net).1
  omega
 ·have hw:=ZbI.1 hok.way i t h1
  unfold wayC at hw
  simp only [Nat.zero_add,Bool.and_eq_true,Bool.not_eq_true',Bool.and_eq_false_imp,decide_eq_true_iff,decide_eq_false_iff_not] at hw
  have h3:=hw.2 h2
  have:=(List.getElem?_eq_some_iff.1 h1).1
  omega
theorem WOk.state {w:Zd} (h:WOk w) {i:Nat} {o:Zf} (ho:w.orders[i]?=some o):Zgv w.network o w.now:=by
 have hok:=ZcP h.fit h.ok ho
 exact (Zko h.fit.net h.net hok.gone (h.fit.way o (List.mem_of_getElem? ho)) hok.trip _).1 hok.st
theorem WOk.parts {w:Zd} (h:WOk w):(0≤w.now∧w.now≤100000)∧w.orders.length≤30∧w.closed.length≤20∧w.scans.length≤200∧w.skip.length≤50∧(w.scans.length≤w.made∧w.made≤1000000000)∧w.bookings.length≤120:=by
 have hb:=ZeP (Zkr h.ok)
 have hv:=h.ok
 unfold Zbk at hv
 simp only [Bool.and_eq_true,Bool.not_eq_true',decide_eq_true_iff,decide_eq_false_iff_not] at hv
 obtain ⟨⟨⟨⟨⟨⟨⟨⟨⟨⟨h1,h2⟩,h3⟩,h4⟩,h5⟩,h6⟩,h7⟩,h8⟩,h9⟩,h10⟩,h11⟩:=hv
 exact ⟨h2,by omega,by omega,by omega,by omega,h7,hb.2⟩
structure Zk4 (n:Za) (at_:Int) (p:List Zj × Int):Prop where
 good:∀ s∈p.1,Zz n s=some true∧s.at_≤at_
 len:p.1.length≤200
 made:p.1.length≤p.2∧p.2≤1000000000
theorem Zmi {n:Za} {at_:Int} {skip:List Int} {p:List Zj × Int} {s:Zj} (h:Zk4 n at_ p) (hs:Zz n s=some true∧s.at_≤at_):Zk4 n at_ (Zdd skip p s):=by
 obtain ⟨h1,h2,h3⟩:=h
 unfold Zdd
 by_cases hm:p.2<1000000000
 ·simp only [if_pos hm]
  split
  ·rename_i hc
   exact ⟨fun x hx=>by rcases List.mem_append.1 hx with hx | hx
                       ·exact h1 x hx
                       ·obtain rfl:x=s:=by simpa using hx
                        exact hs,by simp; omega,by simp; omega⟩
  ·exact ⟨h1,h2,by simp only; omega⟩
 ·simp only [if_neg hm]
  split
  ·rename_i hc
   exact ⟨fun x hx=>by rcases List.mem_append.1 hx with hx | hx
                       ·exact h1 x hx
                       ·obtain rfl:x=s:=by simpa using hx
                        exact hs,by simp; omega,by simp; omega⟩
  ·exact ⟨h1,h2,by simp only; omega⟩
theorem ZkL {n:Za} {at_:Int} {skip:List Int}:∀ (l:List Zj) (p:List Zj × Int),Zk4 n at_ p→(∀ s∈l,Zz n s=some true∧s.at_≤at_)→Zk4 n at_ (l.foldl (Zdd skip) p)
 | [],p,h,_=>h
 | s::l,p,h,hl=>ZkL l _ (Zmi h (hl s List.mem_cons_self)) fun x hx=>hl x (List.mem_cons_of_mem _ hx)
theorem ZlQ {n:Za} {at_:Int} {o:Zf}:Zw o≤Zw (ZJ n at_ o):=by
 unfold ZJ
 split
 ·split
  ·rename_i t ht hc
   unfold arr1
   split <;> (unfold Zw; simp [hc.1])
  ·exact Int.le_refl _
 ·exact Int.le_refl _
theorem Zpp {n:Za} {at_:Int} {o:Zf}:Zw o≤Zw (Zfm n at_ o):=by
 unfold Zfm
 split
 ·split
  ·rename_i t ht hc
   unfold Zw
   simp [hc.1]
   omega
  ·exact Int.le_refl _
 ·exact Int.le_refl _
theorem ZkZ {n:Za} {at_:Int} {o:Zf}:Zw o≤Zw (ZdI n at_ o):=Int.le_trans ZlQ Zpp
theorem Zsz {α:Type} {l:List α} {p:α→Bool} {a b:Nat} (h:a≤b) (hk:(l.drop a).any p=false):(l.drop b).any p=false:=by
 obtain ⟨c,rfl⟩:∃ c,b=a+c:=⟨b-a,by omega⟩
 rw [← List.drop_drop]
 rw [List.any_eq_false] at hk ⊢
 exact fun x hx=>hk x (List.mem_of_mem_drop hx)
section
variable {w:Zd} (h:WOk w) {at_:Int} (hn:w.now≤at_) (hm:at_≤100000) (he:∀ o∈w.orders,∀ e,ZaZ w.network o=some e→at_≤e)
include h hn hm he
theorem ZiD {th:Int} {k:Int} {p:ByteArray} {t:Ze} (h1:1≤th∧th≤9999)
 (hk:(k=2∧p=⟨#[]⟩∧Zb0 w.network t=true∧Zbj w.network t≤at_)∨(k=3∧p=⟨#[]⟩∧Zb0 w.network t=true∧at_≤Zaf w.network t)∨(k=4∧¬ idxV (Zb w.network) p<0∧t=⟨0,0⟩)):
 Zz w.network ⟨th,at_,k,p,t⟩=some true:=by
 have hnow:=h.parts.1
 have hpl:=Zar w.network
 have hll:=h.fit.net.legs
 unfold Zz
 rw [h.net]
 simp only [Option.bind_some,Zbb,Bool.not_true,cond_false,decide_eq_true h1.1,decide_eq_true h1.2,decide_eq_true (show 0≤at_ by omega),decide_eq_true hm,Bool.and_self,(ZT h.fit.net).2,ZeU (show (Zb w.network).length≤4194304 by omega),Zjn h.fit.net h.net]
 rcases hk with ⟨rfl,rfl,h2,h3⟩ | ⟨rfl,rfl,h2,h3⟩ | ⟨rfl,h2,rfl⟩
 ·obtain ⟨a1,a2,_⟩:=ZaF h.fit.net h.net h2
  simp [h2,a1,a2,h3]
 ·obtain ⟨a1,a2,_⟩:=ZaF h.fit.net h.net h2
  simp [h2,a1,a2,h3]
 ·have:0≤idxV (Zb w.network) p:=by omega
  simp [this]
theorem ZrN:∀ s∈ZeM w at_,Zz w.network s=some true∧s.at_≤at_:=by
 have hlen:=h.parts.2.1
 intro s hs
 unfold ZeM at hs
 rcases List.mem_append.1 hs with hs | hs
 ·obtain ⟨j,o,ho,hj⟩:=Zfb hs
  have hlt:=(List.getElem?_eq_some_iff.1 ho).1
  have hok:=ZcP h.fit h.ok ho
  rw [Nat.zero_add] at hj
  unfold Zbz at hj
  split at hj
  ·rename_i t ht
   have htb:=hok.trip t (List.mem_of_getElem? ht)
   split at hj
   ·rename_i hc
    rcases List.mem_cons.1 hj with rfl | hj
    ·exact ⟨ZiD h hn hm he (by omega) (.inl ⟨rfl,rfl,htb,by omega⟩),Int.le_refl _⟩
    ·split at hj
     ·rename_i hd
      obtain rfl:=List.mem_singleton.1 hj
      have hto:¬ idxV (Zb w.network) o.to_<0:=by
       have:=ZfQ h.ok ho
       unfold Zeg at this
       simp only [Bool.and_eq_true,Bool.not_eq_true',decide_eq_false_iff_not] at this
       exact this.1.1.1.1.1.1.1.1.1.1.2
      exact ⟨ZiD h hn hm he (by omega) (.inr (.inr ⟨rfl,by rw [hd]; exact hto,rfl⟩)),Int.le_refl _⟩
     ·cases hj
   ·cases hj
  ·cases hj
 ·obtain ⟨j,o,ho,hj⟩:=Zfb hs
  have hlt:=(List.getElem?_eq_some_iff.1 ho).1
  rw [List.length_map] at hlt
  rw [List.getElem?_map] at ho
  obtain ⟨o0,ho0,rfl⟩:=Option.map_eq_some_iff.1 ho
  have hok:=ZcP h.fit h.ok ho0
  rw [Nat.zero_add] at hj
  unfold Zep at hj
  split at hj
  ·rename_i t ht
   rw [(ZhA w.network at_ o0).way] at ht
   have htb:=hok.trip t (List.mem_of_getElem? ht)
   split at hj
   ·rename_i hc
    obtain rfl:=List.mem_singleton.1 hj
    exact ⟨ZiD h hn hm he (by omega) (.inr (.inl ⟨rfl,rfl,htb,by omega⟩)),Int.le_refl _⟩
   ·cases hj
  ·cases hj
theorem Zl8 {i:Nat} {o:Zf} (ho:w.orders[i]?=some o) (s:List Zj) (m:Int):Zeg { w with orders:=w.orders.map (ZdI w.network at_),now:=at_,scans:=s,made:=m } i (ZdI w.network at_ o)=true:=by
 have hv:=ZfQ h.ok ho
 have hok:=ZcP h.fit h.ok ho
 have hl:=h.fit.way o (List.mem_of_getElem? ho)
 have hs:=Zgs w.network at_ o
 obtain ⟨k1,k2,_⟩:=Zr7 (h.way ho) (h.state ho) hn (he o (List.mem_of_getElem? ho))
 have hst:=(Zko h.fit.net h.net k2.gone (by rw [hs.way]; exact hl) (by rw [hs.way]; exact hok.trip) at_).2 k1.ok
 have hcm:=ZkZ (n:=w.network) (at_:=at_) (o:=o)
 have hgn:=k2.gone
 unfold Zeg at hv ⊢
 simp only [Bool.and_eq_true,Bool.not_eq_true',decide_eq_true_iff,decide_eq_false_iff_not] at hv ⊢
 obtain ⟨⟨⟨⟨⟨⟨⟨⟨⟨⟨⟨h1,h2⟩,h3⟩,h4⟩,h5⟩,h6⟩,h7⟩,h8⟩,h9⟩,h10⟩,h11⟩,h12⟩:=hv
 have hend:endV w.network (ZdI w.network at_ o)=endV w.network o:=by unfold endV; rw [hs.way,hs.from_]
 refine ⟨⟨⟨⟨⟨⟨⟨⟨⟨⟨⟨?_,?_⟩,?_⟩,?_⟩,?_⟩,?_⟩,?_⟩,?_⟩,?_⟩,?_⟩,?_⟩,?_⟩
 ·rw [hs.from_]; exact h1
 ·rw [hs.to_]; exact h2
 ·rw [hs.from_,hs.to_]; exact h3
 ·rw [hs.service]; exact h4
 ·rw [hs.weight]; exact h5
 ·rw [hs.at_]; exact ⟨h6.1,Int.le_trans h6.2 hn⟩
 ·rw [hs.due]; exact h7
 ·exact hgn
 ·rw [hs.way]
  refine (Zo9 fun j x hx=>?_).trans h9
  unfold wayC
  simp only [hs.weight,hs.to_,hs.way]
 ·simp only [hend,hs.way,hs.from_,hs.at_]; exact h10
 ·rw [hst]; rfl
 ·rw [hs.way]
  exact Zsz (by omega) h12
theorem Zl7:WOk (Zav w at_):=by
 have hp:=h.parts
 have hv:=h.ok
 have hsc:=ZkL (skip:=w.skip) (ZeM w at_) (w.scans,w.made) (n:=w.network) (at_:=at_) ⟨fun s hs=>?_,hp.2.2.2.1,hp.2.2.2.2.2.1⟩ (ZrN h hn hm he)
 ·refine ⟨⟨h.fit.net,by simp only [Zav,List.length_map]; exact h.fit.orders,h.fit.bookings,h.fit.closed,by have:=hsc.len; simp only [Zav]; omega,h.fit.skip,fun o ho=>?_⟩,?_⟩
  ·simp only [Zav,List.mem_map] at ho
   obtain ⟨o0,ho0,rfl⟩:=ho
   rw [(Zgs w.network at_ o0).way]
   exact h.fit.way o0 ho0
  ·unfold Zbk at hv ⊢
   simp only [Bool.and_eq_true,Bool.not_eq_true',decide_eq_true_iff,decide_eq_false_iff_not] at hv ⊢
   obtain ⟨⟨⟨⟨⟨⟨⟨⟨⟨⟨h1,h2⟩,h3⟩,h4⟩,h5⟩,h6⟩,h7⟩,h8⟩,h9⟩,h10⟩,h11⟩:=hv
   have hl:=hsc.len
   have hmd:=hsc.made
   refine ⟨⟨⟨⟨⟨⟨⟨⟨⟨⟨h1,?_⟩,?_⟩,h4⟩,?_⟩,h6⟩,?_⟩,h8⟩,?_⟩,?_⟩,?_⟩
   ·simp only [Zav]; omega
   ·simp only [Zav,List.length_map]; exact h3
   ·simp only [Zav]; omega
   ·simp only [Zav]; exact hmd
   ·refine ZbI.2 fun j s hj=>?_
    obtain ⟨a,b⟩:=hsc.good s (List.mem_of_getElem? hj)
    show ((Zz w.network s).getD false && !decide (at_<s.at_))=true
    rw [a,decide_eq_false (show ¬ at_<s.at_ by omega)]; rfl
   ·refine ZbI.2 fun j o hj=>?_
    simp only [Zav,List.getElem?_map] at hj
    obtain ⟨o0,ho0,rfl⟩:=Option.map_eq_some_iff.1 hj
    rw [Nat.zero_add]
    exact Zl8 h hn hm he ho0 _ _
   ·unfold Zk1 at h11 ⊢
    simp only [Zav,List.foldl_map]
    rw [← h11]
    congr 1
    funext a o
    rw [(Zgs w.network at_ o).way]
 ·have:=Zgt h.fit h.ok hs
  exact ⟨this.1,by have:=this.2; omega⟩
end
end Go.Proofs.YtmcdjilbkmhfoaaGreat
namespace Go.Proofs.YtmcdjilbkmhfoaaGreat
set_option maxRecDepth 10000
open Go.RowKit
set_option linter.unusedVariables false
set_option linter.unusedSimpArgs false
def ZeH (n:Za) (i:Nat) (t:Ze):Zj:=⟨((i+1:Nat):Int),Zaf n t,3,⟨#[]⟩,t⟩
def Zfy (n:Za) (i:Nat) (t:Ze):Zj:=⟨((i+1:Nat):Int),Zbj n t,2,⟨#[]⟩,t⟩
def ZbW (n:Za) (i:Nat) (o:Zf):List Zj:=
 (⟨((i+1:Nat):Int),o.at_,1,o.from_,⟨0,0⟩⟩:Zj)::((o.way.take o.gone.toNat).flatMap fun t=>[ZeH n i t,Zfy n i t]) ++
  (if o.state=2 then ((o.way[o.gone.toNat]?).map (ZeH n i)).toList else if o.state=3 then [⟨((i+1:Nat):Int),o.ended,4,o.to_,⟨0,0⟩⟩] else [])
theorem Zki {n:Za} {a:Int} {i:Nat} {o:Zf} (hg:0≤o.gone):ZbW n i (ZJ n a o)=ZbW n i o++Zbz n a i o:=by
 unfold ZJ Zbz
 cases ht:o.way[o.gone.toNat]? with
 | none=>simp
 | some t=>
  simp only
  by_cases hc:o.state=2∧Zbj n t=a
  ·rw [if_pos hc,if_pos hc]
   have hlt:=(List.getElem?_eq_some_iff.1 ht).1
   have hte:o.way[o.gone.toNat]=t:=(List.getElem?_eq_some_iff.1 ht).2
   have htk:o.way.take (o.gone+1).toNat=o.way.take o.gone.toNat++[t]:=by
    rw [show (o.gone+1).toNat=o.gone.toNat+1 by omega,List.take_succ_eq_append_getElem hlt,hte]
   have h3:¬ o.state=3:=by omega
   obtain ⟨h2,he⟩:=hc
   subst he
   unfold arr1
   by_cases hto:Zag n t=o.to_
   ·rw [if_pos hto,if_pos hto]
    unfold ZbW Zfy ZeH
    simp [htk,ht,h2,hto]
   ·rw [if_neg hto,if_neg hto]
    unfold ZbW Zfy ZeH
    simp [htk,ht,h2]
  ·rw [if_neg hc,if_neg hc,List.append_nil]
theorem ZmI {n:Za} {a:Int} {i:Nat} {o:Zf}:ZbW n i (Zfm n a o)=ZbW n i o++Zep n a i o:=by
 unfold Zfm Zep
 cases ht:o.way[o.gone.toNat]? with
 | none=>simp
 | some t=>
  simp only
  by_cases hc:o.state=1∧Zaf n t=a
  ·rw [if_pos hc,if_pos hc]
   obtain ⟨h1,ha⟩:=hc
   subst ha
   unfold ZbW ZeH
   simp [ht,h1]
  ·rw [if_neg hc,if_neg hc,List.append_nil]
end Go.Proofs.YtmcdjilbkmhfoaaGreat
namespace Go.Proofs.YtmcdjilbkmhfoaaGreat
set_option maxRecDepth 10000
open Go.Sort
set_option linter.unusedVariables false
set_option linter.unusedSimpArgs false
section
variable {α:Type} [Inhabited α]
theorem gx {d:Array α} {x y:Nat} (h:x=y):d[x]! = d[y]!:=by rw [h]
def swpR (d:Array α) (a b:Nat):Nat→Array α
 | 0=>d
 | n+1=>swp (swpR d a b n) (a+n) (b+n)
theorem Ze4 (d:Array α) (a b:Nat):∀ n,(swpR d a b n).size=d.size
 | 0=>rfl
 | n+1=>by rw [swpR,size_swp,Ze4 d a b n]
theorem Zie (d:Array α) {a b lo hi:Nat} (h1:lo≤a):∀ n,a+n≤hi→lo≤b→b+n≤hi→hi≤d.size→PermIn lo hi d (swpR d a b n)
 | 0,_,_,_,_=>permIn_refl _ _ _
 | n+1,h2,h3,h4,h5=>permIn_trans _ _ _ _ _ (Zie d h1 n (by omega) h3 (by omega) h5) (swp_permIn _ _ _ _ _ (by omega) (by omega) (by omega) (by omega) (by rw [Ze4]; omega))
theorem Zju (d:Array α) {a b:Nat}:∀ n,a+n≤b→b+n≤d.size→∀ k,(swpR d a b n)[k]! = if a≤k∧k<a+n then d[b+(k-a)]! else if b≤k∧k<b+n then d[a+(k-b)]! else d[k]!
 | 0,_,_,k=>by rw [if_neg (by omega),if_neg (by omega)]; rfl
 | n+1,h1,h2,k=>by
  have ih:=Zju d (a:=a) (b:=b) n (by omega) (by omega)
  rw [swpR,swp_get (swpR d a b n) (i:=a+n) (j:=b+n) (by rw [Ze4]; omega) (by rw [Ze4]; omega),ih,ih,ih]
  repeat' split
  all_goals first | (exfalso; omega) | exact gx (by omega)
def rotF (d:Array α) (a m b k:Nat):α:=if a≤k∧k<a+(b-m) then d[m+(k-a)]! else if a+(b-m)≤k∧k<b then d[k-(b-m)]! else d[k]!
theorem Zu6 (e:Array α) {m i j:Nat} (h:j<i) (hi:i≤m) (hs:m+j≤e.size) (k:Nat):rotF (swpR e (m-i) m j) (m-i+j) m (m+j) k=rotF e (m-i) m (m+j) k:=by
 unfold rotF
 simp only [Zju e (a:=m-i) (b:=m) j (by omega) (by omega)]
 repeat' split
 all_goals first | (exfalso; omega) | exact gx (by omega)
theorem Zu7 (e:Array α) {m i j:Nat} (h:i<j) (hi:i≤m) (hs:m+j≤e.size) (k:Nat):rotF (swpR e (m-i) (m+j-i) i) (m-i) m (m+j-i) k=rotF e (m-i) m (m+j) k:=by
 unfold rotF
 simp only [Zju e (a:=m-i) (b:=m+j-i) i (by omega) (by omega)]
 repeat' split
 all_goals first | (exfalso; omega) | exact gx (by omega)
theorem Zu5 (e:Array α) {m i:Nat} (hi:i≤m) (hs:m+i≤e.size) (k:Nat):(swpR e (m-i) m i)[k]! = rotF e (m-i) m (m+i) k:=by
 unfold rotF
 rw [Zju e i (by omega) (by omega)]
 repeat' split
 all_goals first | (exfalso; omega) | exact gx (by omega)
theorem Zkd (d:Array α) {a m b:Nat} (h:m≤a∨b≤m) (hab:a≤m) (hb:m≤b) (k:Nat):d[k]! = rotF d a m b k:=by
 unfold rotF
 repeat' split
 all_goals first | (exfalso; omega) | exact gx (by omega)
def shU (d:Array α) (a:Nat):Nat→Array α
 | 0=>d
 | n+1=>swp (shU d a n) (a+n) (a+n+1)
theorem ZgH (d:Array α) (a:Nat):∀ n,(shU d a n).size=d.size
 | 0=>rfl
 | n+1=>by rw [shU,size_swp,ZgH d a n]
theorem ZoZ (d:Array α) {a hi:Nat}:∀ n,a+n<hi→hi≤d.size→PermIn a hi d (shU d a n)
 | 0,_,_=>permIn_refl _ _ _
 | n+1,h2,h5=>permIn_trans _ _ _ _ _ (ZoZ d n (by omega) h5) (swp_permIn _ _ _ _ _ (by omega) (by omega) (by omega) (by omega) (by rw [ZgH]; omega))
theorem ZrV (d:Array α) {a:Nat}:∀ n,a+n<d.size→∀ k,(shU d a n)[k]! = rotF d a (a+1) (a+1+n) k
 | 0,h,k=>Zkd d (.inr (by omega)) (by omega) (by omega) k
 | n+1,h,k=>by
  have ih:=ZrV d (a:=a) n (by omega)
  rw [shU,swp_get (shU d a n) (i:=a+n) (j:=a+n+1) (by rw [ZgH]; omega) (by rw [ZgH]; omega),ih,ih,ih]
  unfold rotF
  repeat' split
  all_goals first | (exfalso; omega) | exact gx (by omega)
def shD (d:Array α) (m:Nat):Nat→Array α
 | 0=>d
 | n+1=>swp (shD d m n) (m-n) (m-n-1)
theorem ZgG (d:Array α) (m:Nat):∀ n,(shD d m n).size=d.size
 | 0=>rfl
 | n+1=>by rw [shD,size_swp,ZgG d m n]
theorem ZoY (d:Array α) {m lo:Nat}:∀ n,lo+n≤m→m<d.size→PermIn lo (m+1) d (shD d m n)
 | 0,_,_=>permIn_refl _ _ _
 | n+1,h2,h5=>permIn_trans _ _ _ _ _ (ZoY d n (by omega) h5) (swp_permIn _ _ _ _ _ (by omega) (by omega) (by omega) (by omega) (by rw [ZgG]; omega))
theorem ZrU (d:Array α) {m:Nat}:∀ n,n≤m→m<d.size→∀ k,(shD d m n)[k]! = rotF d (m-n) m (m+1) k
 | 0,h,h',k=>Zkd d (.inl (by omega)) (by omega) (by omega) k
 | n+1,h,h',k=>by
  have ih:=ZrU d (m:=m) n (by omega) h'
  rw [shD,swp_get (shD d m n) (i:=m-n) (j:=m-n-1) (by rw [ZgG]; omega) (by rw [ZgG]; omega),ih,ih,ih]
  unfold rotF
  repeat' split
  all_goals first | (exfalso; omega) | exact gx (by omega)
variable {lt:α→α→Bool}
theorem Zhv (hO:SWO lt) {a b:Nat} {d:Array α} (h:SortedIn lt a b d) {i j:Nat} (h1:a≤i) (h2:i≤j) (h3:j<b):lt d[j]! d[i]! = false:=by
 rcases Nat.lt_or_ge i j with h4 | h4
 ·exact h i j h1 h4 h3
 ·have:i=j:=by omega
  subst this; exact hO.irrefl _
theorem ZhL {a b a' b':Nat} {d:Array α} (h:SortedIn lt a b d) (h1:a≤a') (h2:b'≤b):SortedIn lt a' b' d:=fun i j hi hij hj=>h i j (by omega) hij (by omega)
theorem Zkn {a b:Nat} {d e:Array α} (h:SortedIn lt a b d) (he:∀ k,a≤k→k<b→e[k]! = d[k]!):SortedIn lt a b e:=fun i j hi hij hj=>by
 rw [he i hi (by omega),he j (by omega) hj]; exact h i j hi hij hj
theorem Zr1 {a b:Nat} {d:Array α} (h:b≤a+1):SortedIn lt a b d:=fun i j hi hij hj=>by omega
theorem ZvZ (hO:SWO lt) {a m b s t mid:Nat} {d e:Array α} (h1:SortedIn lt a m d) (h2:SortedIn lt m b d) (hs:a≤s∧s≤m) (ht:m≤t∧t≤b) (hmid:s+(t-m)=mid)
 (c1:a<s→t<b→lt d[t]! d[s-1]! = false) (c2:s<m→m<t→lt d[t-1]! d[s]! = true) (hr:∀ k,e[k]! = rotF d s m t k):
 SortedIn lt a s e∧SortedIn lt s mid e∧SortedIn lt mid t e∧SortedIn lt t b e∧∀ i j,a≤i→i<mid→mid≤j→j<b→lt e[j]! e[i]! = false:=by
 have g1:∀ k,k<s→e[k]! = d[k]!:=fun k h=>by rw [hr]; unfold rotF; rw [if_neg (by omega),if_neg (by omega)]
 have g2:∀ k,s≤k→k<mid→e[k]! = d[m+(k-s)]!:=fun k h h'=>by rw [hr]; unfold rotF; rw [if_pos (by omega)]
 have g3:∀ k,mid≤k→k<t→e[k]! = d[k-(t-m)]!:=fun k h h'=>by rw [hr]; unfold rotF; rw [if_neg (by omega),if_pos (by omega)]
 have g4:∀ k,t≤k→e[k]! = d[k]!:=fun k h=>by rw [hr]; unfold rotF; rw [if_neg (by omega),if_neg (by omega)]
 refine ⟨fun i j hi hij hj=>?_,fun i j hi hij hj=>?_,fun i j hi hij hj=>?_,fun i j hi hij hj=>?_,fun i j hi hi' hj hj'=>?_⟩
 ·rw [g1 i (by omega),g1 j hj]; exact h1 i j hi hij (by omega)
 ·rw [g2 i hi (by omega),g2 j (by omega) hj]; exact h2 _ _ (by omega) (by omega) (by omega)
 ·rw [g3 i hi (by omega),g3 j (by omega) hj]; exact h1 _ _ (by omega) (by omega) (by omega)
 ·rw [g4 i hi,g4 j (by omega)]; exact h2 i j (by omega) hij hj
 ·rcases Nat.lt_or_ge i s with x | x <;> rcases Nat.lt_or_ge j t with y | y
  ·rw [g1 i x,g3 j hj y]; exact h1 _ _ hi (by omega) (by omega)
  ·rw [g1 i x,g4 j y]
   have a1:=Zhv hO h2 (i:=t) (j:=j) ht.1 y hj'
   have a2:=c1 (by omega) (by omega)
   have a3:=Zhv hO h1 (i:=i) (j:=s-1) hi (by omega) (by omega)
   exact hO.ntrans _ _ _ (hO.ntrans _ _ _ a1 a2) a3
  ·rw [g2 i x hi',g3 j hj y]
   have a1:=Zhv hO h2 (i:=m+(i-s)) (j:=t-1) (by omega) (by omega) (by omega)
   have a2:=c2 (by omega) (by omega)
   have a3:=Zhv hO h1 (i:=s) (j:=j-(t-m)) hs.1 (by omega) (by omega)
   cases hv:lt d[j-(t-m)]! d[m+(i-s)]! with
   | false=>rfl
   | true=>
    cases hw:lt d[j-(t-m)]! d[t-1]! with
    | false=>rw [hO.ntrans _ _ _ hw a1] at hv; cases hv
    | true=>rw [hO.trans _ _ _ hw a2] at a3; cases a3
  ·rw [g2 i x hi',g4 j y]; exact h2 _ _ (by omega) (by omega) hj'
theorem glue (hO:SWO lt) {a mid b:Nat} {e e1 e2:Array α} (hb:b≤e.size) (ha:a≤mid) (hm:mid≤b) (p1:PermIn a mid e e1) (p2:PermIn mid b e1 e2) (s1:SortedIn lt a mid e1) (s2:SortedIn lt mid b e2)
 (hc:∀ i j,a≤i→i<mid→mid≤j→j<b→lt e[j]! e[i]! = false):PermIn a b e e2∧SortedIn lt a b e2:=by
 have z1:=p1.1
 have z2:=p2.1
 refine ⟨permIn_trans _ _ _ _ _ (permIn_mono _ _ _ _ _ _ (Nat.le_refl _) hm hb p1) (permIn_mono _ _ _ _ _ _ ha (Nat.le_refl _) (by omega) p2),fun i j hi hij hj=>?_⟩
 have k1:∀ i j,a≤i→i<mid→mid≤j→j<b→lt e1[j]! e1[i]! = false:=fun i j hi hi' hj hj'=>by
  rw [p1.2.1 j (.inr hj)]
  exact permIn_all e e1 a mid (fun x=>lt e[j]! x=false) (by omega) p1 (fun i h h'=>hc i j h h' hj hj') i hi hi'
 have k2:∀ i j,a≤i→i<mid→mid≤j→j<b→lt e2[j]! e2[i]! = false:=fun i j hi hi' hj hj'=>by
  rw [p2.2.1 i (.inl hi')]
  exact permIn_all e1 e2 mid b (fun y=>lt y e1[i]! = false) (by omega) p2 (fun j h h'=>k1 i j hi hi' h h') j hj hj'
 rcases Nat.lt_or_ge i mid with x | x
 ·rcases Nat.lt_or_ge j mid with y | y
  ·rw [p2.2.1 i (.inl x),p2.2.1 j (.inl y)]; exact s1 i j hi hij y
  ·exact k2 i j hi x y hj
 ·exact s2 i j x hij hj
theorem ZsJ (hO:SWO lt) {a b i:Nat} {d e:Array α} (h:SortedIn lt (a+1) b d) (h1:a+1≤i) (h2:i≤b) (c1:i=a+1∨lt d[i-1]! d[a]! = true) (c2:i=b∨lt d[i]! d[a]! = false) (hr:∀ k,e[k]! = rotF d a (a+1) i k):SortedIn lt a b e:=by
 have g1:∀ k,a≤k→k<i-1→e[k]! = d[k+1]!:=fun k h h'=>by rw [hr]; unfold rotF; rw [if_pos (by omega)]; exact gx (by omega)
 have g2:e[i-1]! = d[a]!:=by rw [hr]; unfold rotF; rw [if_neg (by omega),if_pos (by omega)]; exact gx (by omega)
 have g3:∀ k,i≤k→e[k]! = d[k]!:=fun k h=>by rw [hr]; unfold rotF; rw [if_neg (by omega),if_neg (by omega)]
 have lo:∀ p,a≤p→p<i-1→lt d[a]! d[p+1]! = false:=fun p h5 h6=>by
  rcases c1 with c1 | c1
  ·omega
  ·exact hO.ntrans _ _ _ (hO.asymmA c1) (Zhv hO h (i:=p+1) (j:=i-1) (by omega) (by omega) (by omega))
 have hi:∀ q,i≤q→q<b→lt d[q]! d[a]! = false:=fun q h5 h6=>by
  rcases c2 with c2 | c2
  ·omega
  ·exact hO.ntrans _ _ _ (Zhv hO h (i:=i) (j:=q) h1 h5 h6) c2
 intro p q hp hpq hq
 rcases Nat.lt_trichotomy p (i-1) with x | x | x
 ·rcases Nat.lt_trichotomy q (i-1) with y | y | y
  ·rw [g1 p hp x,g1 q (by omega) y]; exact h _ _ (by omega) (by omega) (by omega)
  ·rw [y,g2,g1 p hp x]; exact lo p hp x
  ·rw [g1 p hp x,g3 q (by omega)]; exact h _ _ (by omega) (by omega) hq
 ·rw [x,g2,g3 q (by omega)]; exact hi q (by omega) hq
 ·rw [g3 p (by omega),g3 q (by omega)]; exact h _ _ (by omega) hpq hq
theorem ZqT (hO:SWO lt) {a m i:Nat} {d e:Array α} (h:SortedIn lt a m d) (h1:a≤i) (h2:i≤m) (c1:i=a∨lt d[m]! d[i-1]! = false) (c2:i=m∨lt d[m]! d[i]! = true) (hr:∀ k,e[k]! = rotF d i m (m+1) k):SortedIn lt a (m+1) e:=by
 have g1:∀ k,k<i→e[k]! = d[k]!:=fun k h=>by rw [hr]; unfold rotF; rw [if_neg (by omega),if_neg (by omega)]
 have g2:e[i]! = d[m]!:=by rw [hr]; unfold rotF; rw [if_pos (by omega)]; exact gx (by omega)
 have g3:∀ k,i<k→k≤m→e[k]! = d[k-1]!:=fun k h h'=>by rw [hr]; unfold rotF; rw [if_neg (by omega),if_pos (by omega)]; exact gx (by omega)
 have lo:∀ p,a≤p→p<i→lt d[m]! d[p]! = false:=fun p h5 h6=>by
  rcases c1 with c1 | c1
  ·omega
  ·exact hO.ntrans _ _ _ c1 (Zhv hO h (i:=p) (j:=i-1) h5 (by omega) (by omega))
 have hi:∀ q,i<q→q≤m→lt d[q-1]! d[m]! = false:=fun q h5 h6=>by
  rcases c2 with c2 | c2
  ·omega
  ·exact hO.ntrans _ _ _ (Zhv hO h (i:=i) (j:=q-1) h1 (by omega) (by omega)) (hO.asymmA c2)
 intro p q hp hpq hq
 rcases Nat.lt_trichotomy p i with x | x | x
 ·rcases Nat.lt_trichotomy q i with y | y | y
  ·rw [g1 p x,g1 q y]; exact h _ _ hp hpq (by omega)
  ·rw [y,g2,g1 p x]; exact lo p hp x
  ·rw [g1 p x,g3 q y (by omega)]; exact Zhv hO h (by omega) (by omega) (by omega)
 ·rw [x,g2,g3 q (by omega) (by omega)]; exact hi q (by omega) (by omega)
 ·rw [g3 p x (by omega),g3 q (by omega) (by omega)]; exact Zhv hO h (by omega) (by omega) (by omega)
def Runs (lt:α→α→Bool) (bs n:Nat) (d:Array α):Prop:=∀ q,SortedIn lt (q*bs) (min (q*bs+bs) n) d
end
end Go.Proofs.YtmcdjilbkmhfoaaGreat
namespace Go.Proofs.YtmcdjilbkmhfoaaGreat
set_option maxRecDepth 10000
open Go.RowKit Go.Lib Go.Sort
set_option linter.unusedVariables false
set_option linter.unusedSimpArgs false
set_option linter.unusedSectionVars false
set_option maxRecDepth 100000
set_option maxHeartbeats 4000000
section
variable {α:Type} [Inhabited α] {enc:α→List Value} {k:Nat} {g:Nat} {T:TypeId} {cs:Nat}
structure SU (enc:α→List Value) (k:Nat) (g:Nat) (T:TypeId) (cs:Nat) (w0:World) (d:Array α) (W:World):Prop where
 up:UpO (fun b=>b=g) w0 W
 hold:HoldsK enc k W g 0 d
 row:∃ cells,W.heap[g]?=some (.cells cells T (0,0))∧cells.size=cs
theorem SU.lt {w0 W:World} {d:Array α} (h:SU enc k g T cs w0 d W):g<W.heap.size:=by
 obtain ⟨c,h1,_⟩:=h.row
 exact (Array.getElem?_eq_some_iff.1 h1).1
theorem SU.more {w0 W W':World} {d:Array α} (h:SU enc k g T cs w0 d W) (u:Up W W'):SU enc k g T cs w0 d W':=by
 have hl:=h.lt
 refine ⟨⟨u.os.trans h.up.os,u.tape.trans h.up.tape,u.output.trans h.up.output,Nat.le_trans h.up.size u.size,fun b hb hn=>(u.block b (Nat.lt_of_lt_of_le hb h.up.size)).trans (h.up.block b hb hn)⟩,fun j hj=>⟨(u.cell (p:=⟨g,0+j,none⟩) hl).trans (h.hold j hj).1,(u.frozen (p:=⟨g,0+j,none⟩) hl).trans (h.hold j hj).2⟩,?_⟩
 obtain ⟨c,h1,h2⟩:=h.row
 exact ⟨c,(u.block g hl).trans h1,h2⟩
theorem SU.trans {w0 W W':World} {d d':Array α} (h:SU enc k g T cs w0 d W) (h':SU enc k g T cs W d' W'):SU enc k g T cs w0 d' W':=⟨h.up.trans h'.up fun _ _ h=>h,h'.hold,h'.row⟩
theorem SU.self {w0 W:World} {d:Array α} (h:SU enc k g T cs w0 d W):SU enc k g T cs W d W:=⟨UpO.refl _ _,h.hold,h.row⟩
theorem SU.oth {w0 W:World} {d:Array α} (h:SU enc k g T cs w0 d W) {b o:Nat} (hb:b<w0.heap.size) (hn:b≠g):W.cell? ⟨b,o,none⟩=w0.cell? ⟨b,o,none⟩:=Zfi (h.up.block b hb hn)
theorem SU.swap (hk:∀ x,(enc x).length=k) {w0 W:World} {d:Array α} (h:SU enc k g T cs w0 d W) {i j:Nat} (hi:i<d.size) (hj:j<d.size):SU enc k g T cs w0 (swp d i j) ((W.setCells g (i*k) (enc d[j]!)).setCells g (j*k) (enc d[i]!)):=by
 have e:=putRowK_swp enc k hk W g 0 d i j hi hj
 rw [putRowK_self enc k W g 0 d h.hold,Nat.zero_add,Nat.zero_add] at e
 rw [e]
 have hl:=h.lt
 refine ⟨h.up.trans (O':=fun b=>b=g) ⟨rfl,rfl,rfl,by rw [size_putRowK]; exact Nat.le_refl _,fun b hb hn=>?_⟩ fun _ _ h=>h,holdsK_putRowK enc k W g 0 d _ h.hold (size_swp _ _ _),?_⟩
 ·show (W.heap.modify g _)[b]?=_
  rw [Array.getElem?_modify,if_neg (fun e=>hn e.symm)]
 ·obtain ⟨c,h1,h2⟩:=h.row
  refine ⟨putCells id 0 (flatK enc k (swp d i j)) c,?_,?_⟩
  ·show (W.heap.modify g _)[g]?=_
   rw [Array.getElem?_modify,if_pos rfl,h1]
   rfl
  ·simp [putCells,h2]
def Zhw (f:Nat) (lb:Array Value) (enc:α→List Value) (k:Nat) (lt:α→α→Bool) (g:Nat) (T:TypeId) (cs n:Nat) (w0:World):Prop:=
 ∀ (d:Array α) (W:World),SU enc k g T cs w0 d W→d.size=n→∀ i j:Nat,i<n→j<n→Calls Tryz.prog f (#[.int .i64 i,.int .i64 j]++lb) W fun e w'=>e=.returned (.bool (lt d[i]! d[j]!))∧Up W w'
theorem Zhw.on {f:Nat} {lb:Array Value} {lt:α→α→Bool} {n:Nat} {w0 W:World} {d:Array α} (h:Zhw f lb enc k lt g T cs n w0) (hW:SU enc k g T cs w0 d W):Zhw f lb enc k lt g T cs n W:=fun d' W' h'=>h d' W' (hW.trans h')
abbrev LS (f:Nat) (lb:Array Value) (sf:Nat) (sb:Array Value):Value:=.agg #[.func (.func f) #[] lb,.func (.func sf) #[] sb]
abbrev LSo (f:Nat) (lb:Array Value) (sf:Nat) (sb:Array Value):Obj:=.cells #[.func (.func f) #[] lb,.func (.func sf) #[] sb] 245
variable (hk:∀ x,(enc x).length=k) (f:Nat) (lb:Array Value) (sf:Nat) (sb:Array Value) (n:Nat) (hn:n<1152921504606846976) (hswap:SwapSwapsK Tryz.prog sf sb enc k g 0 n)
include hk hn hswap
theorem Zvp {d:Array α} {W:World} (hd:d.size=n) (h0:SU enc k g T cs W d W) (a b m:Nat) (h1:a+m≤b) (h2:b+m≤n):
 Calls Tryz.prog 286 #[LS f lb sf sb,.int .i64 a,.int .i64 b,.int .i64 m] W fun e w'=>e=.returned (.tuple #[])∧SU enc k g T cs W (swpR d a b m) w':=by
 have hg:=h0.lt
 have hB:SU enc k g T cs W d (W.alloc (LSo f lb sf sb)):=h0.more (Up.al _ (Up.rfl' W))
 go_enter Tryz.func286,Tryz.ntmps286
 go_wp2
 go_loopw [8] (fun vi wr=>∃ i:Nat,vi=.int .i64 i∧i≤m∧SU enc k g T cs (W.alloc (LSo f lb sf sb)) (swpR d a b i) wr) (fun vi _=>m-(intOf vi).toNat)
 case atStart=>exact ⟨0,by go_num,by omega,hB.self⟩
 case round=>
  obtain ⟨i,rfl,him,hS⟩:=hrel
  have c1:wr.cell? ⟨W.heap.size,1,none⟩=some (.func (.func sf) #[] sb):=by rw [hS.oth (by simp) (by omega)]; simp
  have HS:Hid (SU enc k g T cs (W.alloc (LSo f lb sf sb)) (swpR d a b i) wr):=hS
  clear hS
  by_cases hi:i<m
  ·have hs:=hswap wr (swpR d a b i) HS.out.hold (by rw [Ze4]; exact hd) (a+i) (b+i) (by omega) (by omega)
   rw [show ((a+i:Nat):Int)=(a:Int)+(i:Int) by omega,show ((b+i:Nat):Int)=(b:Int)+(i:Int) by omega] at hs
   go_wp2
   exact ⟨⟨i+1,by go_num,by omega,HS.out.swap hk (by rw [Ze4]; omega) (by rw [Ze4]; omega)⟩,by simp [intOf]; omega⟩
  ·go_wp2
   go_end0
   have:i=m:=by omega
   subst this
   exact ⟨rfl,hB.trans HS.out⟩
theorem Ztd {d:Array α} {W:World} (hd:d.size=n) (h0:SU enc k g T cs W d W) (a m b:Nat) (h1:a≤m) (h2:m≤b) (h3:b≤n) (h4:a<m∧m<b):
 Calls Tryz.prog 273 #[LS f lb sf sb,.int .i64 a,.int .i64 m,.int .i64 b] W fun e w'=>e=.returned (.tuple #[])∧∃ e,SU enc k g T cs W e w'∧PermIn a b d e∧∀ k,e[k]! = rotF d a m b k:=by
 have hg:=h0.lt
 have hB:SU enc k g T cs W d (W.alloc (LSo f lb sf sb)):=h0.more (Up.al _ (Up.rfl' W))
 have hsw:=fun (d':Array α) (W':World) (hd':d'.size=n) (h':SU enc k g T cs W' d' W') (a b m:Nat) (h1:a+m≤b) (h2:b+m≤n)=>Zvp hk f lb sf sb n hn hswap (T:=T) (cs:=cs) hd' h' a b m h1 h2
 go_enter Tryz.func273,Tryz.ntmps273
 go_wp2
 go_loopw [8,9] (fun vi vj wr=>∃ (i j:Nat) (e:Array α),vi=.int .i64 i∧vj=.int .i64 j∧0<i∧0<j∧i≤m-a∧j≤b-m∧e.size=n∧PermIn a b d e∧(∀ k,rotF e (m-i) m (m+j) k=rotF d a m b k)∧SU enc k g T cs (W.alloc (LSo f lb sf sb)) e wr) (fun vi vj _=>(intOf vi).toNat+(intOf vj).toNat)
 case atStart=>exact ⟨m-a,b-m,d,by go_num,by go_num,by omega,by omega,Nat.le_refl _,Nat.le_refl _,hd,permIn_refl _ _ _,fun k=>by rw [show m-(m-a)=a by omega,show m+(b-m)=b by omega],hB.self⟩
 case round=>
  obtain ⟨i,j,e,rfl,rfl,hi,hj,hia,hjb,he,hP,hR,hS⟩:=hrel
  have c0:wr.cell? ⟨W.heap.size,0,none⟩=some (.func (.func f) #[] lb):=by rw [hS.oth (by simp) (by omega)]; simp
  have c1:wr.cell? ⟨W.heap.size,1,none⟩=some (.func (.func sf) #[] sb):=by rw [hS.oth (by simp) (by omega)]; simp
  have HS:Hid (SU enc k g T cs (W.alloc (LSo f lb sf sb)) e wr):=hS
  have HR:Hid (∀ k,rotF e (m-i) m (m+j) k=rotF d a m b k):=hR
  have HB:Hid (SU enc k g T cs W d (W.alloc (LSo f lb sf sb))):=hB
  clear hS hR hB h0
  by_cases hij:i=j
  ·subst hij
   have q:=hsw e wr he HS.out.self (m-i) m i (by omega) (by omega)
   rw [show ((m-i:Nat):Int)=(m:Int)-(i:Int) by omega] at q
   go_wp2_with (go_at_call 286; refine q.mono ?_; rintro e w' ⟨rfl,hw⟩)
   go_end0
   exact ⟨rfl,swpR e (m-i) m i,(HB.out.trans HS.out).trans hw,permIn_trans _ _ _ _ _ hP (Zie e (by omega) i (by omega) (by omega) (by omega) (by omega)),fun k=>(Zu5 e (by omega) (by omega) k).trans (HR.out k)⟩
  ·by_cases hgt:j<i
   ·have q:=hsw e wr he HS.out.self (m-i) m j (by omega) (by omega)
    rw [show ((m-i:Nat):Int)=(m:Int)-(i:Int) by omega] at q
    go_wp2_with (go_at_call 286; refine q.mono ?_; rintro e w' ⟨rfl,hw⟩)
    refine ⟨⟨i-j,j,swpR e (m-i) m j,by go_num,rfl,by omega,hj,by omega,hjb,by rw [Ze4]; exact he,permIn_trans _ _ _ _ _ hP (Zie e (by omega) j (by omega) (by omega) (by omega) (by omega)),fun k=>?_,HS.out.trans hw⟩,by simp [intOf]; omega⟩
    rw [show m-(i-j)=m-i+j by omega]
    exact (Zu6 e hgt (by omega) (by omega) k).trans (HR.out k)
   ·have q:=hsw e wr he HS.out.self (m-i) (m+j-i) i (by omega) (by omega)
    rw [show ((m-i:Nat):Int)=(m:Int)-(i:Int) by omega,show ((m+j-i:Nat):Int)=(m:Int)+(j:Int)-(i:Int) by omega] at q
    go_wp2_with (go_at_call 286; refine q.mono ?_; rintro e w' ⟨rfl,hw⟩)
    refine ⟨⟨i,j-i,swpR e (m-i) (m+j-i) i,rfl,by go_num,hi,by omega,hia,by omega,by rw [Ze4]; exact he,permIn_trans _ _ _ _ _ hP (Zie e (by omega) i (by omega) (by omega) (by omega) (by omega)),fun k=>?_,HS.out.trans hw⟩,by simp [intOf]; omega⟩
    rw [show m+(j-i)=m+j-i by omega]
    exact (Zu7 e (by omega) (by omega) (by omega) k).trans (HR.out k)
omit hk hn hswap in
theorem Zlj {lt:α→α→Bool} {d0:Array α} {W:World} (hL:Zhw f lb enc k lt g T cs n W) (h0:SU enc k g T cs W d0 W) {dj:Array α} {wr:World} (hS:SU enc k g T cs (W.alloc (LSo f lb sf sb)) dj wr) (hd:dj.size=n) (hsw:SwapSwapsK Tryz.prog sf sb enc k g 0 n) (i j:Nat) (hi:i<n) (hj:j<n):
 Calls Tryz.prog f (#[.int .i64 i,.int .i64 j]++lb) wr fun e w'=>e=.returned (.bool (lt dj[i]! dj[j]!))∧SU enc k g T cs (W.alloc (LSo f lb sf sb)) dj w'∧w'.cell? ⟨W.heap.size,0,none⟩=some (.func (.func f) #[] lb)∧w'.cell? ⟨W.heap.size,1,none⟩=some (.func (.func sf) #[] sb)∧
  (callFunc sf (#[.int .i64 i,.int .i64 j]++sb)).run Tryz.prog w'=.ok (.value (.tuple #[])) ((w'.setCells g (i*k) (enc dj[j]!)).setCells g (j*k) (enc dj[i]!)):=by
 have hg:=h0.lt
 refine (hL.on (h0.more (Up.al _ (Up.rfl' W))) dj wr hS hd i j hi hj).mono ?_
 rintro e w' ⟨he,hu⟩
 have hS':=hS.more hu
 have hs:=hsw w' dj hS'.hold hd i j hi hj
 rw [Nat.zero_add,Nat.zero_add] at hs
 exact ⟨he,hS',by rw [hS'.oth (by simp) (by omega)]; simp,by rw [hS'.oth (by simp) (by omega)]; simp,hs⟩
theorem ZqS {lt:α→α→Bool} (eg:∀ args w,(callFunc f args).run Tryz.prog w=.ok (.enter f args) w) {d:Array α} {W:World} (hd:d.size=n) (h0:SU enc k g T cs W d W) (hL:Zhw f lb enc k lt g T cs n W) (a b:Nat) (hab:a≤b) (hb:b≤n):
 Calls Tryz.prog 268 #[LS f lb sf sb,.int .i64 a,.int .i64 b] W fun e w'=>e=.returned (.tuple #[])∧SU enc k g T cs W (Sort.insertionSort lt d a b) w':=by
 have hB:SU enc k g T cs W d (W.alloc (LSo f lb sf sb)):=h0.more (Up.al _ (Up.rfl' W))
 have hless:=fun dj wr hS hd' i j hi hj=>Zlj (dj:=dj) (wr:=wr) f lb sf sb n hL h0 hS hd' hswap i j hi hj
 have HB:Hid (SU enc k g T cs W d (W.alloc (LSo f lb sf sb))):=hB
 have hg:=h0.lt
 clear h0 hL
 go_enter Tryz.func268,Tryz.ntmps268
 go_wp2
 go_loopw [6] (fun vi wr=>∃ (i:Nat) (dk:Array α),vi=.int .i64 i∧a<i∧i≤b+1∧dk.size=n∧SU enc k g T cs (W.alloc (LSo f lb sf sb)) dk wr∧
  insOuter lt a b i dk=insOuter lt a b (a+1) d) (fun vi _=>b+1-(intOf vi).toNat)
 case atStart=>exact ⟨a+1,d,by go_num,by omega,by omega,hd,hB.self,rfl⟩
 case round=>
  obtain ⟨i,dk,rfl,hai,hib,hsk,hwr,hO⟩:=hrel
  have HO:Hid (insOuter lt a b i dk=insOuter lt a b (a+1) d):=hO
  clear hO
  go_wp2
  ·go_loopw [7] (fun vj wr2=>∃ (j:Nat) (dj:Array α),vj=.int .i64 j∧a≤j∧j≤i∧dj.size=n∧SU enc k g T cs (W.alloc (LSo f lb sf sb)) dj wr2∧
    insInner lt a j dj=insInner lt a i dk) (fun vj _=>(intOf vj).toNat)
   case atStart=>exact ⟨i,dk,rfl,by omega,Nat.le_refl _,hsk,hwr,rfl⟩
   case round=>
    obtain ⟨j,dj,rfl,haj,hji,hsj,hw2,hI⟩:=hrel
    have hlt:i<b:=by assumption
    have c0:wr.cell? ⟨W.heap.size,0,none⟩=some (.func (.func f) #[] lb):=by rw [hw2.oth (by simp) (by omega)]; simp
    have c1:wr.cell? ⟨W.heap.size,1,none⟩=some (.func (.func sf) #[] sb):=by rw [hw2.oth (by simp) (by omega)]; simp
    have HW:Hid (SU enc k g T cs (W.alloc (LSo f lb sf sb)) dj wr):=hw2
    have HI:Hid (insInner lt a j dj=insInner lt a i dk):=hI
    clear hw2 hI hwr hB
    have out:(j≤a∨lt dj[j]! dj[j-1]! = false)→∀ W',SU enc k g T cs (W.alloc (LSo f lb sf sb)) dj W'→∃ (i':Nat) (dk':Array α),Value.int .i64 ((i:Int)+1)=.int .i64 (i':Nat)∧a<i'∧i'≤b+1∧dk'.size=n∧
     SU enc k g T cs (W.alloc (LSo f lb sf sb)) dk' W'∧insOuter lt a b i' dk'=insOuter lt a b (a+1) d:=fun hs W' hW=>
     ⟨i+1,dj,by go_num,by omega,by omega,hsj,hW,
      by rw [← HO.out,insOuter_go _ _ _ _ _ hlt,← HI.out,insInner_stop _ _ _ _ hs]⟩
    have OUT:Hid _:=out
    clear out
    by_cases hja:a<j
    ·have hl:=hless dj wr HW.out hsj j (j-1) (by omega) (by omega)
     rw [show (((j-1:Nat):Int))=(j:Int)-1 by omega] at hl
     clear hless
     cases hlv:lt dj[j]! dj[j-1]! with
     | true=>
      rw [hlv] at hl
      go_wp2_with (go_at_fn f; refine hl.mono ?_; rintro e w' ⟨rfl,hS,c0',c1',hs⟩)
      refine ⟨?_,by simp [intOf]; omega⟩
      (repeat apply Exists.intro)
      refine ⟨⟨j-1,swp dj j (j-1),by congr 1 <;> omega,by omega,by omega,by rw [size_swp]; exact hsj,hS.swap hk (by omega) (by omega),?_⟩,by rw [decide_eq_true hlt,show ((j-1:Nat):Int)=(j:Int)-1 by omega]⟩
      rw [← HI.out,insInner_go lt a j dj hja hlv]
     | false=>
      rw [hlv] at hl
      go_wp2_with (go_at_fn f; refine hl.mono ?_; rintro e w' ⟨rfl,hS,c0',c1',hs⟩)
      exact ⟨OUT.out (.inr hlv) _ hS,by simp [intOf]; omega⟩
    ·go_wp2
     exact ⟨OUT.out (.inl (by omega)) _ HW.out,by simp [intOf]; omega⟩
  ·have hge:¬ i<b:=by assumption
   go_end0
   exact ⟨rfl,by unfold Sort.insertionSort; rw [← HO.out,insOuter_stop _ _ _ _ _ hge]; exact HB.out.trans hwr⟩
end
end Go.Proofs.YtmcdjilbkmhfoaaGreat
namespace Go.Proofs.YtmcdjilbkmhfoaaGreat
set_option maxRecDepth 10000
open Go.RowKit Go.Lib Go.Sort
set_option linter.unusedVariables false
set_option linter.unusedSimpArgs false
set_option linter.unusedSectionVars false
set_option maxRecDepth 100000
set_option maxHeartbeats 4000000
section
variable {α:Type} [Inhabited α] {enc:α→List Value} {k:Nat} {g:Nat} {T:TypeId} {cs:Nat}
variable (hk:∀ x,(enc x).length=k) (f:Nat) (lb:Array Value) (sf:Nat) (sb:Array Value) (n:Nat) (hn:n<1152921504606846976) (hswap:SwapSwapsK Tryz.prog sf sb enc k g 0 n)
include hk hn hswap
theorem Zwm {lt:α→α→Bool} (hO:SWO lt) (eg:∀ args w,(callFunc f args).run Tryz.prog w=.ok (.enter f args) w) {d:Array α} {W:World} (hd:d.size=n) (h0:SU enc k g T cs W d W) (hL:Zhw f lb enc k lt g T cs n W) (a m b:Nat) (h1:m=a+1) (h2:m<b) (hb:b≤n) (hs:SortedIn lt m b d):
 Calls Tryz.prog 269 #[LS f lb sf sb,.int .i64 a,.int .i64 m,.int .i64 b] W fun e w'=>e=.returned (.tuple #[])∧∃ e,SU enc k g T cs W e w'∧PermIn a b d e∧SortedIn lt a b e:=by
 have hB:SU enc k g T cs W d (W.alloc (LSo f lb sf sb)):=h0.more (Up.al _ (Up.rfl' W))
 have hless:=fun dj wr hS hd' i j hi hj=>Zlj (dj:=dj) (wr:=wr) f lb sf sb n hL h0 hS hd' hswap i j hi hj
 have HB:Hid (SU enc k g T cs W d (W.alloc (LSo f lb sf sb))):=hB
 have HSs:Hid (SortedIn lt m b d):=hs
 have hg:=h0.lt
 clear h0 hL hs
 have hma:(m:Int)-(a:Int)=1:=by omega
 have H1:Hid (m=a+1):=h1
 clear h1
 go_enter Tryz.func269,Tryz.ntmps269
 go_wp2
 go_loopw [8,9] (fun vi vj wr=>∃ (i j:Nat),vi=.int .i64 i∧vj=.int .i64 j∧m≤i∧i≤j∧j≤b∧(i=m∨lt d[i-1]! d[a]! = true)∧(j=b∨lt d[j]! d[a]! = false)∧SU enc k g T cs (W.alloc (LSo f lb sf sb)) d wr) (fun vi vj _=>(intOf vj).toNat-(intOf vi).toNat)
 case atStart=>exact ⟨m,b,rfl,rfl,by omega,by omega,by omega,.inl rfl,.inl rfl,hB.self⟩
 case round=>
  obtain ⟨i,j,rfl,rfl,hi,hij,hj,hc1,hc2,hS⟩:=hrel
  have c0:wr.cell? ⟨W.heap.size,0,none⟩=some (.func (.func f) #[] lb):=by rw [hS.oth (by simp) (by omega)]; simp
  have c1:wr.cell? ⟨W.heap.size,1,none⟩=some (.func (.func sf) #[] sb):=by rw [hS.oth (by simp) (by omega)]; simp
  have HS:Hid (SU enc k g T cs (W.alloc (LSo f lb sf sb)) d wr):=hS
  have HC1:Hid (i=m∨lt d[i-1]! d[a]! = true):=hc1
  have HC2:Hid (j=b∨lt d[j]! d[a]! = false):=hc2
  clear hS hB hc1 hc2
  by_cases hlt:i<j
  ·have hl:=hless d wr HS.out hd ((i+j) / 2) a (by omega) (by omega)
   rw [show (((i+j) / 2:Nat):Int)=((i:Int)+(j:Int)) / 2 by omega] at hl
   clear hless
   cases hlv:lt d[(i+j) / 2]! d[a]! with
   | true=>
    rw [hlv] at hl
    go_wp2_with (go_at_fn f; refine hl.mono ?_; rintro e w' ⟨rfl,hS,c0',c1',_⟩)
    refine ⟨?_,by simp [intOf]; omega⟩
    exact ⟨(i+j) / 2+1,j,by go_num,rfl,by omega,by omega,by omega,.inr (by rw [Nat.add_sub_cancel]; exact hlv),HC2.out,hS⟩
   | false=>
    rw [hlv] at hl
    go_wp2_with (go_at_fn f; refine hl.mono ?_; rintro e w' ⟨rfl,hS,c0',c1',_⟩)
    refine ⟨?_,by simp [intOf]; omega⟩
    exact ⟨i,(i+j) / 2,rfl,by go_num,by omega,by omega,by omega,HC1.out,.inr hlv,hS⟩
  ·have hij':i=j:=by omega
   subst hij'
   go_wp2
   go_loopw [11] (fun vq wr2=>∃ q:Nat,vq=.int .i64 ((a:Int)+(q:Int))∧a+q+1≤i∧SU enc k g T cs (W.alloc (LSo f lb sf sb)) (shU d a q) wr2) (fun vq _=>i-(intOf vq).toNat)
   case atStart=>exact ⟨0,by go_num,by omega,HS.out⟩
   case round=>
    obtain ⟨q,rfl,hq,hS2⟩:=hrel
    have c0:wr.cell? ⟨W.heap.size,0,none⟩=some (.func (.func f) #[] lb):=by rw [hS2.oth (by simp) (by omega)]; simp
    have c1:wr.cell? ⟨W.heap.size,1,none⟩=some (.func (.func sf) #[] sb):=by rw [hS2.oth (by simp) (by omega)]; simp
    have HS2:Hid (SU enc k g T cs (W.alloc (LSo f lb sf sb)) (shU d a q) wr):=hS2
    clear hS2
    by_cases hqi:a+q+1<i
    ·have hs:=hswap wr (shU d a q) HS2.out.hold (by rw [ZgH]; exact hd) (a+q) (a+q+1) (by omega) (by omega)
     rw [Nat.zero_add,Nat.zero_add,show ((a+q+1:Nat):Int)=(a:Int)+(q:Int)+1 by omega,show ((a+q:Nat):Int)=(a:Int)+(q:Int) by omega] at hs
     have hlt2:(a:Int)+(q:Int)<(i:Int)-1:=by omega
     go_wp2
     exact ⟨⟨q+1,by congr 1,by omega,HS2.out.swap hk (by rw [ZgH]; omega) (by rw [ZgH]; omega)⟩,by simp [intOf]; omega⟩
    ·have hge2:¬ (a:Int)+(q:Int)<(i:Int)-1:=by omega
     go_wp2
     (try simp only [Exit.inBlock,Exit.then])
     refine bodyPost_ret (results_none rfl _ _ _) rfl ?_
     refine ⟨rfl,shU d a q,HB.out.trans HS2.out,ZoZ d q (by omega) (by omega),?_⟩
     obtain rfl:=H1.out
     exact ZsJ hO HSs.out (by omega) hj HC1.out HC2.out (fun k=>by rw [show i=a+1+q by omega]; exact ZrV d q (by omega) k)
theorem Zwn {lt:α→α→Bool} (hO:SWO lt) (eg:∀ args w,(callFunc f args).run Tryz.prog w=.ok (.enter f args) w) {d:Array α} {W:World} (hd:d.size=n) (h0:SU enc k g T cs W d W) (hL:Zhw f lb enc k lt g T cs n W) (a m b:Nat) (h1:b=m+1) (h2:a+1<m) (hb:b≤n) (hs:SortedIn lt a m d):
 Calls Tryz.prog 269 #[LS f lb sf sb,.int .i64 a,.int .i64 m,.int .i64 b] W fun e w'=>e=.returned (.tuple #[])∧∃ e,SU enc k g T cs W e w'∧PermIn a b d e∧SortedIn lt a b e:=by
 have hB:SU enc k g T cs W d (W.alloc (LSo f lb sf sb)):=h0.more (Up.al _ (Up.rfl' W))
 have hless:=fun dj wr hS hd' i j hi hj=>Zlj (dj:=dj) (wr:=wr) f lb sf sb n hL h0 hS hd' hswap i j hi hj
 have HB:Hid (SU enc k g T cs W d (W.alloc (LSo f lb sf sb))):=hB
 have HSs:Hid (SortedIn lt a m d):=hs
 have hg:=h0.lt
 clear h0 hL hs
 have hna:((m:Int)-(a:Int) == 1)=false:=by simp; omega
 have hmb:(b:Int)-(m:Int)=1:=by omega
 have H1:Hid (b=m+1):=h1
 have hlt3:m<b:=by omega
 clear h1
 go_enter Tryz.func269,Tryz.ntmps269
 go_wp2
 clear hna hmb
 go_loopw [12,13] (fun vi vj wr=>∃ (i j:Nat),vi=.int .i64 i∧vj=.int .i64 j∧a≤i∧i≤j∧j≤m∧(i=a∨lt d[m]! d[i-1]! = false)∧(j=m∨lt d[m]! d[j]! = true)∧SU enc k g T cs (W.alloc (LSo f lb sf sb)) d wr) (fun vi vj _=>(intOf vj).toNat-(intOf vi).toNat)
 case atStart=>exact ⟨a,m,rfl,rfl,by omega,by omega,by omega,.inl rfl,.inl rfl,hB.self⟩
 case round=>
  obtain ⟨i,j,rfl,rfl,hi,hij,hj,hc1,hc2,hS⟩:=hrel
  have c0:wr.cell? ⟨W.heap.size,0,none⟩=some (.func (.func f) #[] lb):=by rw [hS.oth (by simp) (by omega)]; simp
  have c1:wr.cell? ⟨W.heap.size,1,none⟩=some (.func (.func sf) #[] sb):=by rw [hS.oth (by simp) (by omega)]; simp
  have HS:Hid (SU enc k g T cs (W.alloc (LSo f lb sf sb)) d wr):=hS
  have HC1:Hid (i=a∨lt d[m]! d[i-1]! = false):=hc1
  have HC2:Hid (j=m∨lt d[m]! d[j]! = true):=hc2
  clear hS hB hc1 hc2
  by_cases hlt:i<j
  ·have hl:=hless d wr HS.out hd m ((i+j) / 2) (by omega) (by omega)
   rw [show (((i+j) / 2:Nat):Int)=((i:Int)+(j:Int)) / 2 by omega] at hl
   clear hless
   cases hlv:lt d[m]! d[(i+j) / 2]! with
   | true=>
    rw [hlv] at hl
    go_wp2_with (go_at_fn f; refine hl.mono ?_; rintro e w' ⟨rfl,hS,c0',c1',_⟩)
    refine ⟨?_,by simp [intOf]; omega⟩
    exact ⟨i,(i+j) / 2,rfl,by go_num,by omega,by omega,by omega,HC1.out,.inr hlv,hS⟩
   | false=>
    rw [hlv] at hl
    go_wp2_with (go_at_fn f; refine hl.mono ?_; rintro e w' ⟨rfl,hS,c0',c1',_⟩)
    refine ⟨?_,by simp [intOf]; omega⟩
    exact ⟨(i+j) / 2+1,j,by go_num,rfl,by omega,by omega,by omega,.inr (by rw [Nat.add_sub_cancel]; exact hlv),HC2.out,hS⟩
  ·have hij':i=j:=by omega
   subst hij'
   go_wp2
   go_loopw [15] (fun vq wr2=>∃ q:Nat,vq=.int .i64 ((m:Int)-(q:Int))∧q+i≤m∧SU enc k g T cs (W.alloc (LSo f lb sf sb)) (shD d m q) wr2) (fun vq _=>(intOf vq).toNat)
   case atStart=>exact ⟨0,by go_num,by omega,HS.out⟩
   case round=>
    obtain ⟨q,rfl,hq,hS2⟩:=hrel
    have c0:wr.cell? ⟨W.heap.size,0,none⟩=some (.func (.func f) #[] lb):=by rw [hS2.oth (by simp) (by omega)]; simp
    have c1:wr.cell? ⟨W.heap.size,1,none⟩=some (.func (.func sf) #[] sb):=by rw [hS2.oth (by simp) (by omega)]; simp
    have HS2:Hid (SU enc k g T cs (W.alloc (LSo f lb sf sb)) (shD d m q) wr):=hS2
    clear hS2
    by_cases hqi:q+i<m
    ·have hs:=hswap wr (shD d m q) HS2.out.hold (by rw [ZgG]; exact hd) (m-q) (m-q-1) (by omega) (by omega)
     rw [Nat.zero_add,Nat.zero_add,show ((m-q-1:Nat):Int)=(m:Int)-(q:Int)-1 by omega,show ((m-q:Nat):Int)=(m:Int)-(q:Int) by omega] at hs
     have hlt2:(i:Int)<(m:Int)-(q:Int):=by omega
     go_wp2
     exact ⟨⟨q+1,by congr 1; omega,by omega,HS2.out.swap hk (by rw [ZgG]; omega) (by rw [ZgG]; omega)⟩,by simp [intOf]; omega⟩
    ·have hge2:¬ (i:Int)<(m:Int)-(q:Int):=by omega
     go_wp2
     (try simp only [Exit.inBlock,Exit.then])
     refine bodyPost_ret (results_none rfl _ _ _) rfl ?_
     obtain rfl:=H1.out
     refine ⟨rfl,shD d m q,HB.out.trans HS2.out,ZoY d q (by omega) (by omega),?_⟩
     exact ZqT hO HSs.out hi hj HC1.out HC2.out (fun k=>by rw [show i=m-q by omega]; exact ZrU d q (by omega) (by omega) k)
end
end Go.Proofs.YtmcdjilbkmhfoaaGreat
namespace Go.Proofs.YtmcdjilbkmhfoaaGreat
set_option maxRecDepth 10000
open Go.RowKit Go.Lib Go.Sort
set_option linter.unusedVariables false
set_option linter.unusedSimpArgs false
set_option linter.unusedSectionVars false
set_option maxRecDepth 100000
set_option maxHeartbeats 4000000
section
variable {α:Type} [Inhabited α] {enc:α→List Value} {k:Nat} {g:Nat} {T:TypeId} {cs:Nat}
variable (hk:∀ x,(enc x).length=k) (f:Nat) (lb:Array Value) (sf:Nat) (sb:Array Value) (n:Nat) (hn:n<1152921504606846976) (hswap:SwapSwapsK Tryz.prog sf sb enc k g 0 n)
include hk hn hswap
theorem Zwo {lt:α→α→Bool} (hO:SWO lt) (eg:∀ args w,(callFunc f args).run Tryz.prog w=.ok (.enter f args) w):∀ (N:Nat) (d:Array α) (W:World),d.size=n→SU enc k g T cs W d W→Zhw f lb enc k lt g T cs n W→∀ (a m b:Nat),b-a≤N→a<m→m<b→b≤n→SortedIn lt a m d→SortedIn lt m b d→
 Calls Tryz.prog 269 #[LS f lb sf sb,.int .i64 a,.int .i64 m,.int .i64 b] W fun e w'=>e=.returned (.tuple #[])∧∃ e,SU enc k g T cs W e w'∧PermIn a b d e∧SortedIn lt a b e:=by
 intro N
 induction N with
 | zero=>intro d W hd h0 hL a m b hN h1 h2; omega
 | succ N ih=>
 intro d W hd h0 hL a m b hN h1 h2 hb hs1 hs2
 by_cases hma:m=a+1
 ·exact Zwm hk f lb sf sb n hn hswap hO eg hd h0 hL a m b hma h2 hb hs2
 by_cases hmb:b=m+1
 ·exact Zwn hk f lb sf sb n hn hswap hO eg hd h0 hL a m b hmb (by omega) hb hs1
 have hB:SU enc k g T cs W d (W.alloc (LSo f lb sf sb)):=h0.more (Up.al _ (Up.rfl' W))
 have hless:=fun dj wr hS hd' i j hi hj=>Zlj (dj:=dj) (wr:=wr) f lb sf sb n hL h0 hS hd' hswap i j hi hj
 have HL:Hid (∀ d' W',SU enc k g T cs (W.alloc (LSo f lb sf sb)) d' W'→Zhw f lb enc k lt g T cs n W'):=fun d' W' h'=>hL.on (hB.trans h')
 have HB:Hid (SU enc k g T cs W d (W.alloc (LSo f lb sf sb))):=hB
 have HS1:Hid (SortedIn lt a m d):=hs1
 have HS2:Hid (SortedIn lt m b d):=hs2
 have hrot:=fun (d':Array α) (W':World) (hd':d'.size=n) (h':SU enc k g T cs W' d' W') (a m b:Nat) (h1:a≤m) (h2:m≤b) (h3:b≤n) (h4:a<m∧m<b)=>Ztd hk f lb sf sb n hn hswap (T:=T) (cs:=cs) hd' h' a m b h1 h2 h3 h4
 have HR:Hid _:=hrot
 have HI:Hid _:=ih
 have HLS:Hid _:=hless
 have hg:=h0.lt
 clear h0 hL hs1 hs2 hrot ih hless
 have hna:((m:Int)-(a:Int) == 1)=false:=by simp; omega
 have hnb:((b:Int)-(m:Int) == 1)=false:=by simp; omega
 have hmid:((a:Int)+(b:Int)) / 2=(((a+b) / 2:Nat):Int):=by omega
 obtain ⟨mid,hmd⟩:∃ mid,mid=(a+b) / 2:=⟨_,rfl⟩
 rw [← hmd] at hmid
 have hm1:2*mid≤a+b:=by omega
 have hm2:a+b≤2*mid+1:=by omega
 clear hmd hma hmb
 go_enter Tryz.func269,Tryz.ntmps269
 go_upto_if 106 with (fail)
 go_cut [18,19] (fun s18 s19 wx=>∃ s0 r0:Nat,s18=.int .i64 s0∧s19=.int .i64 r0∧a≤s0∧s0≤r0∧r0≤m∧r0≤mid∧((m≤mid∧s0=a∧r0=m)∨(mid<m∧s0+b=mid+m∧r0=mid))∧wx=W.alloc (LSo f lb sf sb))
 case first=>
  by_cases hmm:mid<m
  ·have hmm':(mid:Int)<(m:Int):=by omega
   go_wp2
   go_meet
   exact ⟨mid+m-b,mid,by go_num,rfl,by omega,by omega,by omega,by omega,.inr ⟨hmm,by omega,rfl⟩,rfl⟩
  ·have hmm':¬ (mid:Int)<(m:Int):=by omega
   go_wp2
   go_meet
   exact ⟨a,m,rfl,rfl,by omega,by omega,by omega,by omega,.inl ⟨by omega,rfl,rfl⟩,rfl⟩
 case rest=>
  obtain ⟨s0,r0,rfl,rfl,ha0,hsr,hrm,hrd,hs0,rfl⟩:=hcut
  clear hna hnb hmid hB
  have HS0:Hid ((m≤mid∧s0=a∧r0=m)∨(mid<m∧s0+b=mid+m∧r0=mid)):=hs0
  clear hs0
  go_wp2
  go_loopw [18,19] (fun vs vr wr=>∃ (s r:Nat),vs=.int .i64 s∧vr=.int .i64 r∧s0≤s∧s≤r∧r≤r0∧(s=s0∨lt d[mid+m-s]! d[s-1]! = false)∧(r=r0∨lt d[mid+m-1-r]! d[r]! = true)∧SU enc k g T cs (W.alloc (LSo f lb sf sb)) d wr) (fun vs vr _=>(intOf vr).toNat-(intOf vs).toNat)
  case atStart=>exact ⟨s0,r0,rfl,rfl,by omega,by omega,by omega,.inl rfl,.inl rfl,HB.out.self⟩
  case round=>
   obtain ⟨s,r,rfl,rfl,hs,hsr2,hr,hc1,hc2,hS⟩:=hrel
   have c0:wr.cell? ⟨W.heap.size,0,none⟩=some (.func (.func f) #[] lb):=by rw [hS.oth (by simp) (by omega)]; simp
   have c1:wr.cell? ⟨W.heap.size,1,none⟩=some (.func (.func sf) #[] sb):=by rw [hS.oth (by simp) (by omega)]; simp
   have HS:Hid (SU enc k g T cs (W.alloc (LSo f lb sf sb)) d wr):=hS
   have HC1:Hid (s=s0∨lt d[mid+m-s]! d[s-1]! = false):=hc1
   have HC2:Hid (r=r0∨lt d[mid+m-1-r]! d[r]! = true):=hc2
   clear hS hc1 hc2
   by_cases hlt:s<r
   ·have hq:mid+m-1-(s+r) / 2<n:=by rcases HS0.out with h | h <;> omega
    have hl:=HLS.out d wr HS.out hd (mid+m-1-(s+r) / 2) ((s+r) / 2) hq (by omega)
    rw [show ((mid+m-1-(s+r) / 2:Nat):Int)=(mid:Int)+(m:Int)-1-((s:Int)+(r:Int)) / 2 by omega,show (((s+r) / 2:Nat):Int)=((s:Int)+(r:Int)) / 2 by omega] at hl
    cases hlv:lt d[mid+m-1-(s+r) / 2]! d[(s+r) / 2]! with
    | true=>
     rw [hlv] at hl
     go_wp2_with (go_at_fn f; refine hl.mono ?_; rintro e w' ⟨rfl,hS,c0',c1',_⟩)
     refine ⟨?_,by simp [intOf]; omega⟩
     exact ⟨s,(s+r) / 2,rfl,by go_num,by omega,by omega,by omega,HC1.out,.inr hlv,hS⟩
    | false=>
     rw [hlv] at hl
     go_wp2_with (go_at_fn f; refine hl.mono ?_; rintro e w' ⟨rfl,hS,c0',c1',_⟩)
     refine ⟨?_,by simp [intOf]; omega⟩
     exact ⟨(s+r) / 2+1,r,by go_num,rfl,by omega,by omega,by omega,.inr (by rw [Nat.add_sub_cancel,show mid+m-((s+r) / 2+1)=mid+m-1-(s+r) / 2 by omega]; exact hlv),HC2.out,hS⟩
   ·have hsr':s=r:=by omega
    subst hsr'
    have hge:¬ s<s:=by omega
    obtain ⟨t,ht⟩:∃ t,t=mid+m-s:=⟨_,rfl⟩
    have htz:(mid:Int)+(m:Int)-(s:Int)=(t:Int):=by omega
    have hms:m≤t:=by omega
    have hst:s+(t-m)=mid:=by omega
    have htb:t≤b:=by rcases HS0.out with h | h <;> omega
    have HT:Hid (t=mid+m-s):=ht
    clear ht
    have dz:∀ x y:Nat,decide ((x:Int)<(y:Int))=decide (x<y):=fun x y=>by by_cases h:x<y <;> simp [h]
    have DZ:Hid _:=dz
    clear dz
    clear hge
    have HC1':Hid (a<s→t<b→lt d[t]! d[s-1]! = false):=fun h1 h2=>by
     rcases HC1.out with h | h
     ·rcases HS0.out with h3 | h3 <;> omega
     ·rw [HT.out]; exact h
    have HC2':Hid (s<m→m<t→lt d[t-1]! d[s]! = true):=fun h1 h2=>by
     rcases HC2.out with h | h
     ·rcases HS0.out with h3 | h3 <;> omega
     ·rw [show t-1=mid+m-1-s by rw [HT.out]; omega]; exact h
    go_upto_region 40 with (fail)
    go_cut [145] (fun s145 wx=>s145=.bool (decide (s<m∧m<t))∧wx=wr)
    case first=>
     by_cases q1:s<m
     ·by_cases q2:m<t
      ·have q3:decide (s<m∧m<t)=true:=decide_eq_true ⟨q1,q2⟩
       go_wp2
       go_meet
       exact ⟨by rw [q3],rfl⟩
      ·have q3:decide (s<m∧m<t)=false:=decide_eq_false fun h=>q2 h.2
       go_wp2
       go_meet
       exact ⟨by rw [q3],rfl⟩
     ·have q3:decide (s<m∧m<t)=false:=decide_eq_false fun h=>q1 h.1
      go_wp2
      go_meet
      exact ⟨by rw [q3],rfl⟩
    case rest=>
    obtain ⟨rfl,rfl⟩:=hcut
    go_upto_if 145 with (fail)
    go_cut [] (fun wx=>∃ e,SU enc k g T cs (W.alloc (LSo f lb sf sb)) e wx∧PermIn a b d e∧∀ k,e[k]! = rotF d s m t k)
    case first=>
     by_cases q:s<m∧m<t
     ·have q3:decide (s<m∧m<t)=true:=decide_eq_true q
      have hc:=HR.out d wc hd HS.out.self s m t (by omega) (by omega) (by omega) q
      go_wp2_with (go_at_call 273; refine hc.mono ?_; rintro e w' ⟨rfl,hE⟩)
      go_meet
      obtain ⟨e,hE1,hE2,hE3⟩:=hE
      exact ⟨e,HS.out.trans hE1,permIn_mono _ _ _ _ _ _ (by omega) (by omega) (by omega) hE2,hE3⟩
     ·have q3:decide (s<m∧m<t)=false:=decide_eq_false q
      go_wp2
      go_meet
      exact ⟨d,HS.out,permIn_refl _ _ _,fun k=>Zkd d (by omega) (by omega) (by omega) k⟩
    case rest=>
    obtain ⟨e,hE1,hE2,hE3⟩:=hcut
    obtain ⟨g1,g2,g3,g4,g5⟩:=ZvZ hO HS1.out HS2.out ⟨by omega,by omega⟩ ⟨hms,htb⟩ hst HC1'.out HC2'.out hE3
    have G1:Hid (SortedIn lt a s e):=g1
    have G2:Hid (SortedIn lt s mid e):=g2
    have G3:Hid (SortedIn lt mid t e):=g3
    have G4:Hid (SortedIn lt t b e):=g4
    have G5:Hid (∀ i j,a≤i→i<mid→mid≤j→j<b→lt e[j]! e[i]! = false):=g5
    have hed:e.size=n:=hE2.1.trans hd
    have c0:wc.cell? ⟨W.heap.size,0,none⟩=some (.func (.func f) #[] lb):=by rw [hE1.oth (by simp) (by omega)]; simp
    have c1:wc.cell? ⟨W.heap.size,1,none⟩=some (.func (.func sf) #[] sb):=by rw [hE1.oth (by simp) (by omega)]; simp
    have HE1:Hid (SU enc k g T cs (W.alloc (LSo f lb sf sb)) e wc):=hE1
    have HE2:Hid (PermIn a b d e):=hE2
    clear g1 g2 g3 g4 g5 hE1 hE2 hE3
    go_upto_region 42 with (fail)
    go_cut [158] (fun s158 wx=>s158=.bool (decide (a<s∧s<mid))∧wx=wc)
    case first=>
     by_cases q1:a<s
     ·by_cases q2:s<mid
      ·have q3:decide (a<s∧s<mid)=true:=decide_eq_true ⟨q1,q2⟩
       go_wp2
       go_meet
       exact ⟨by rw [q3],rfl⟩
      ·have q3:decide (a<s∧s<mid)=false:=decide_eq_false fun h=>q2 h.2
       go_wp2
       go_meet
       exact ⟨by rw [q3],rfl⟩
     ·have q3:decide (a<s∧s<mid)=false:=decide_eq_false fun h=>q1 h.1
      go_wp2
      go_meet
      exact ⟨by rw [q3],rfl⟩
    case rest=>
    obtain ⟨rfl,rfl⟩:=hcut
    go_upto_if 158 with (fail)
    go_cut [] (fun wx=>∃ e1,SU enc k g T cs (W.alloc (LSo f lb sf sb)) e1 wx∧PermIn a mid e e1∧SortedIn lt a mid e1)
    case first=>
     by_cases q:a<s∧s<mid
     ·have q3:decide (a<s∧s<mid)=true:=decide_eq_true q
      have hc:=HI.out e _ hed HE1.out.self (HL.out e _ HE1.out) a s mid (by omega) q.1 q.2 (by omega) G1.out G2.out
      go_wp2_with (go_at_call 269; refine hc.mono ?_; rintro e' w' ⟨rfl,hE⟩)
      go_meet
      obtain ⟨e1,hE1,hE2,hE3⟩:=hE
      exact ⟨e1,HE1.out.trans hE1,hE2,hE3⟩
     ·have q3:decide (a<s∧s<mid)=false:=decide_eq_false q
      go_wp2
      go_meet
      refine ⟨e,HE1.out,permIn_refl _ _ _,?_⟩
      by_cases q4:a<s
      ·exact ZhL G1.out (Nat.le_refl _) (by omega)
      ·exact ZhL G2.out (by omega) (Nat.le_refl _)
    case rest=>
    obtain ⟨e1,hF1,hF2,hF3⟩:=hcut
    have hed1:e1.size=n:=hF2.1.trans hed
    have g3:SortedIn lt mid t e1:=Zkn G3.out fun k h1 h2=>hF2.2.1 k (.inr h1)
    have g4:SortedIn lt t b e1:=Zkn G4.out fun k h1 h2=>hF2.2.1 k (.inr (by omega))
    have c0':wc.cell? ⟨W.heap.size,0,none⟩=some (.func (.func f) #[] lb):=by rw [hF1.oth (by simp) (by omega)]; simp
    have c1':wc.cell? ⟨W.heap.size,1,none⟩=some (.func (.func sf) #[] sb):=by rw [hF1.oth (by simp) (by omega)]; simp
    have K3:Hid (SortedIn lt mid t e1):=g3
    have K4:Hid (SortedIn lt t b e1):=g4
    have HF1:Hid (SU enc k g T cs (W.alloc (LSo f lb sf sb)) e1 wc):=hF1
    have HF2:Hid (PermIn a mid e e1):=hF2
    have HF3:Hid (SortedIn lt a mid e1):=hF3
    clear g3 g4 hF1 hF2 hF3
    have fin:∀ w' e2,SU enc k g T cs (W.alloc (LSo f lb sf sb)) e2 w'→PermIn mid b e1 e2→SortedIn lt mid b e2→∃ e,SU enc k g T cs W e w'∧PermIn a b d e∧SortedIn lt a b e:=fun w' e2 h1 h2 h3=>by
     obtain ⟨x1,x2⟩:=glue hO (by omega) (by omega) (by omega) HF2.out h2 HF3.out h3 G5.out
     exact ⟨e2,HB.out.trans h1,permIn_trans _ _ _ _ _ HE2.out x1,x2⟩
    have FIN:Hid _:=fin
    clear fin
    go_upto_region 44 with (fail)
    go_cut [171] (fun s171 wx=>s171=.bool (decide (mid<t∧t<b))∧wx=wc)
    case first=>
     by_cases q1:mid<t
     ·by_cases q2:t<b
      ·have q3:decide (mid<t∧t<b)=true:=decide_eq_true ⟨q1,q2⟩
       go_wp2
       go_meet
       exact ⟨by rw [q3],rfl⟩
      ·have q3:decide (mid<t∧t<b)=false:=decide_eq_false fun h=>q2 h.2
       go_wp2
       go_meet
       exact ⟨by rw [q3],rfl⟩
     ·have q3:decide (mid<t∧t<b)=false:=decide_eq_false fun h=>q1 h.1
      go_wp2
      go_meet
      exact ⟨by rw [q3],rfl⟩
    case rest=>
    obtain ⟨rfl,rfl⟩:=hcut
    by_cases q:mid<t∧t<b
    ·have q3:decide (mid<t∧t<b)=true:=decide_eq_true q
     have hc:=HI.out e1 _ hed1 HF1.out.self (HL.out e1 _ HF1.out) mid t b (by omega) q.1 q.2 hb K3.out K4.out
     go_wp2_with (go_at_call 269; refine hc.mono ?_; rintro e' w' ⟨rfl,hE⟩)
     go_end0
     obtain ⟨e2,hE1,hE2,hE3⟩:=hE
     exact ⟨rfl,FIN.out _ e2 (HF1.out.trans hE1) hE2 hE3⟩
    ·have q3:decide (mid<t∧t<b)=false:=decide_eq_false q
     go_wp2
     go_end0
     refine ⟨rfl,FIN.out _ e1 HF1.out (permIn_refl _ _ _) ?_⟩
     by_cases q4:mid<t
     ·exact ZhL K3.out (Nat.le_refl _) (by omega)
     ·exact ZhL K4.out (by omega) (Nat.le_refl _)
end
end Go.Proofs.YtmcdjilbkmhfoaaGreat
namespace Go.Proofs.YtmcdjilbkmhfoaaGreat
set_option maxRecDepth 10000
open Go.RowKit Go.Lib Go.Sort
set_option linter.unusedVariables false
set_option linter.unusedSimpArgs false
set_option linter.unusedSectionVars false
set_option maxRecDepth 100000
set_option maxHeartbeats 4000000
section
variable {α:Type} [Inhabited α] {lt:α→α→Bool}
def MI (lt:α→α→Bool) (bs n q:Nat) (d:Array α):Prop:=(∀ p,p<q→SortedIn lt (p*(2*bs)) (p*(2*bs)+2*bs) d)∧∀ p,2*q≤p→SortedIn lt (p*bs) (min (p*bs+bs) n) d
theorem mul2 (q bs:Nat):(2*q)*bs=q*(2*bs):=by rw [Nat.mul_comm 2 q,Nat.mul_assoc]
theorem MI.zero {bs n:Nat} {d:Array α} (h:Runs lt bs n d):MI lt bs n 0 d:=⟨fun p hp=>by omega,fun p _=>h p⟩
theorem MI.left {bs n q A:Nat} {d:Array α} (h:MI lt bs n q d) (hA:A=q*(2*bs)) (hn:A+bs≤n):SortedIn lt A (A+bs) d:=by
 have:=h.2 (2*q) (Nat.le_refl _)
 rw [mul2,← hA,Nat.min_eq_left hn] at this
 exact this
theorem MI.right {bs n q A:Nat} {d:Array α} (h:MI lt bs n q d) (hA:A=q*(2*bs)):SortedIn lt (A+bs) (min (A+2*bs) n) d:=by
 have:=h.2 (2*q+1) (by omega)
 rw [Nat.add_mul,Nat.one_mul,mul2,← hA,show A+bs+bs=A+2*bs by omega] at this
 exact this
theorem MI.last {bs n q A:Nat} {d:Array α} (h:MI lt bs n q d) (hA:A=q*(2*bs)) (hn:n≤A+bs):SortedIn lt A n d:=by
 have:=h.2 (2*q) (Nat.le_refl _)
 rw [mul2,← hA,Nat.min_eq_right hn] at this
 exact this
theorem MI.step {bs n q A:Nat} {d e:Array α} (h:MI lt bs n q d) (hA:A=q*(2*bs)) (hp:PermIn A (A+2*bs) d e) (hs:SortedIn lt A (A+2*bs) e):MI lt bs n (q+1) e:=by
 refine ⟨fun p hpq=>?_,fun p hpq=>?_⟩
 ·rcases Nat.lt_or_ge p q with h1 | h1
  ·have h2:(p+1)*(2*bs)≤q*(2*bs):=Nat.mul_le_mul_right _ h1
   rw [Nat.add_mul,Nat.one_mul] at h2
   exact Zkn (h.1 p h1) fun k _ hk=>hp.2.1 k (.inl (by omega))
  ·have:p=q:=by omega
   subst this
   rw [← hA]; exact hs
 ·have h2:(2*(q+1))*bs≤p*bs:=Nat.mul_le_mul_right _ hpq
  rw [mul2,Nat.add_mul,Nat.one_mul] at h2
  exact Zkn (h.2 p (by omega)) fun k hk _=>hp.2.1 k (.inr (by omega))
theorem MI.fin {bs n q A:Nat} {d e:Array α} (h:MI lt bs n q d) (hA:A=q*(2*bs)) (hn:n<A+2*bs) (hp:PermIn A n d e) (hs:SortedIn lt A n e):Runs lt (2*bs) n e:=by
 intro p
 rcases Nat.lt_trichotomy p q with h1 | h1 | h1
 ·have h2:(p+1)*(2*bs)≤q*(2*bs):=Nat.mul_le_mul_right _ h1
  rw [Nat.add_mul,Nat.one_mul] at h2
  exact Zkn (ZhL (h.1 p h1) (Nat.le_refl _) (Nat.min_le_left _ _)) fun k _ hk=>hp.2.1 k (.inl (by omega))
 ·subst h1
  rw [← hA,Nat.min_eq_right (by omega)]; exact hs
 ·have h2:(q+1)*(2*bs)≤p*(2*bs):=Nat.mul_le_mul_right _ h1
  rw [Nat.add_mul,Nat.one_mul] at h2
  exact Zr1 (by omega)
def BI (lt:α→α→Bool) (q:Nat) (d:Array α):Prop:=∀ p,p<q→SortedIn lt (p*20) (p*20+20) d
theorem BI.step {q:Nat} {d e:Array α} (h:BI lt q d) (hp:PermIn (q*20) (q*20+20) d e) (hs:SortedIn lt (q*20) (q*20+20) e):BI lt (q+1) e:=fun p hpq=>by
 by_cases h1:p=q
 ·subst h1; exact hs
 ·exact Zkn (h p (by omega)) fun k _ hk=>hp.2.1 k (.inl (by omega))
theorem BI.fin {q n:Nat} {d e:Array α} (h:BI lt q d) (hn:n<q*20+20) (hp:PermIn (q*20) n d e) (hs:SortedIn lt (q*20) n e):Runs lt 20 n e:=fun p=>by
 rcases Nat.lt_trichotomy p q with h1 | h1 | h1
 ·exact Zkn (ZhL (h p h1) (Nat.le_refl _) (Nat.min_le_left _ _)) fun k _ hk=>hp.2.1 k (.inl (by omega))
 ·subst h1
  exact ZhL hs (Nat.le_refl _) (Nat.min_le_right _ _)
 ·exact Zr1 (by omega)
variable {enc:α→List Value} {k:Nat} {g:Nat} {T:TypeId} {cs:Nat}
variable (hk:∀ x,(enc x).length=k) (f:Nat) (lb:Array Value) (sf:Nat) (sb:Array Value) (n:Nat) (hn:n<1152921504606846976) (hswap:SwapSwapsK Tryz.prog sf sb enc k g 0 n)
include hk hn hswap
theorem Zo2 (hO:SWO lt) (eg:∀ args w,(callFunc f args).run Tryz.prog w=.ok (.enter f args) w) {d:Array α} {W:World} (hd:d.size=n) (h0:SU enc k g T cs W d W) (hL:Zhw f lb enc k lt g T cs n W):
 Calls Tryz.prog 241 #[LS f lb sf sb,.int .i64 n] W fun e w'=>e=.returned (.tuple #[])∧∃ e,SU enc k g T cs W e w'∧PermIn 0 n d e∧SortedIn lt 0 n e:=by
 have hB:SU enc k g T cs W d (W.alloc (LSo f lb sf sb)):=h0.more (Up.al _ (Up.rfl' W))
 have HL:Hid (∀ d' W',SU enc k g T cs (W.alloc (LSo f lb sf sb)) d' W'→Zhw f lb enc k lt g T cs n W'):=fun d' W' h'=>hL.on (hB.trans h')
 have HB:Hid (SU enc k g T cs W d (W.alloc (LSo f lb sf sb))):=hB
 have hI:=fun (d':Array α) (W':World) (hd':d'.size=n) (h':SU enc k g T cs W' d' W') (hL':Zhw f lb enc k lt g T cs n W') (a b:Nat) (hab:a≤b) (hb:b≤n)=>ZqS hk f lb sf sb n hn hswap eg hd' h' hL' a b hab hb
 have hM:=fun (d':Array α) (W':World) (hd':d'.size=n) (h':SU enc k g T cs W' d' W') (hL':Zhw f lb enc k lt g T cs n W') (a m b:Nat)=>Zwo hk f lb sf sb n hn hswap hO eg (b-a) d' W' hd' h' hL' a m b (Nat.le_refl _)
 have HI:Hid _:=hI
 have HM:Hid _:=hM
 have hg:=h0.lt
 clear h0 hL hI hM
 go_enter Tryz.func241,Tryz.ntmps241
 go_wp2
 go_loopw [5,6] (fun v5 v6 wr=>∃ (q:Nat) (dk:Array α),v5=.int .i64 ((q:Int)*20)∧v6=.int .i64 ((q:Int)*20+20)∧q*20≤n∧PermIn 0 n d dk∧BI lt q dk∧SU enc k g T cs (W.alloc (LSo f lb sf sb)) dk wr) (fun v5 v6 _=>n-(intOf v5).toNat)
 case atStart=>exact ⟨0,d,by go_num,by go_num,by omega,permIn_refl _ _ _,fun p hp=>by omega,hB.self⟩
 case round=>
  obtain ⟨q,dk,rfl,rfl,hq,hP,hBI,hS⟩:=hrel
  have c0:wr.cell? ⟨W.heap.size,0,none⟩=some (.func (.func f) #[] lb):=by rw [hS.oth (by simp) (by omega)]; simp
  have c1:wr.cell? ⟨W.heap.size,1,none⟩=some (.func (.func sf) #[] sb):=by rw [hS.oth (by simp) (by omega)]; simp
  have hds:dk.size=n:=hP.1.trans hd
  have HS:Hid (SU enc k g T cs (W.alloc (LSo f lb sf sb)) dk wr):=hS
  have HP:Hid (PermIn 0 n d dk):=hP
  have HBI:Hid (BI lt q dk):=hBI
  clear hS hB hP hBI
  by_cases hle:q*20+20≤n
  ·have hlez:(q:Int)*20+20≤(n:Int):=by omega
   have hc:=HI.out dk wr hds HS.out.self (HL.out dk wr HS.out) (q*20) (q*20+20) (by omega) hle
   rw [show ((q*20:Nat):Int)=(q:Int)*20 by omega,show ((q*20+20:Nat):Int)=(q:Int)*20+20 by omega] at hc
   go_wp2_with (go_at_call 268; refine hc.mono ?_; rintro e w' ⟨rfl,hE⟩)
   have x:=insertionSort_holds hO dk (q*20) (q*20+20) (by omega) (by omega)
   exact ⟨⟨q+1,_,by congr 1 <;> omega,by congr 1 <;> omega,by omega,permIn_trans _ _ _ _ _ HP.out (permIn_mono _ _ _ _ _ _ (by omega) (by omega) (by omega) x.1),HBI.out.step x.1 x.2,HS.out.trans hE⟩,by simp [intOf]; omega⟩
  ·have hlez:¬ (q:Int)*20+20≤(n:Int):=by omega
   have hc:=HI.out dk wr hds HS.out.self (HL.out dk wr HS.out) (q*20) n hq (Nat.le_refl _)
   rw [show ((q*20:Nat):Int)=(q:Int)*20 by omega] at hc
   go_wp2_with (go_at_call 268; refine hc.mono ?_; rintro e w' ⟨rfl,hE⟩)
   have x:=insertionSort_holds hO dk (q*20) n (by omega) (by omega)
   have hR0:=HBI.out.fin (by omega) x.1 x.2
   have hP0:=permIn_trans _ _ _ _ _ HP.out (permIn_mono _ _ _ _ _ _ (by omega) (Nat.le_refl _) (by omega) x.1)
   have hS0:=HS.out.trans hE
   clear x c0 c1
   go_loopw [4,5,6,7] (fun v4 v5 v6 v7 wr=>∃ (bs:Nat) (dk:Array α),v4=.int .i64 (bs:Int)∧1≤bs∧bs≤2*n+20∧PermIn 0 n d dk∧Runs lt bs n dk∧SU enc k g T cs (W.alloc (LSo f lb sf sb)) dk wr) (fun v4 _ _ _ _=>n-(intOf v4).toNat)
   case atStart=>exact ⟨20,_,by go_num,by omega,by omega,hP0,hR0,hS0⟩
   case round=>
    obtain ⟨bs,dk2,rfl,hb1,hb2,hP2,hR2,hS2⟩:=hrel
    have HP2:Hid (PermIn 0 n d dk2):=hP2
    have HR2:Hid (Runs lt bs n dk2):=hR2
    have HS2:Hid (SU enc k g T cs (W.alloc (LSo f lb sf sb)) dk2 wr):=hS2
    clear hP2 hR2 hS2 hP0 hR0 hS0 hE hlez hle hc HS HP HBI hq
    by_cases hlt:bs<n
    ·go_wp2
     go_loopw [5,6] (fun v5 v6 wr=>∃ (A:Nat) (dk:Array α),v5=.int .i64 (A:Int)∧v6=.int .i64 ((A:Int)+2*(bs:Int))∧A≤n∧PermIn 0 n d dk∧(∃ q,A=q*(2*bs)∧MI lt bs n q dk)∧SU enc k g T cs (W.alloc (LSo f lb sf sb)) dk wr) (fun v5 v6 _=>n-(intOf v5).toNat)
     case atStart=>exact ⟨0,dk2,by go_num,by go_num,by omega,HP2.out,⟨0,by omega,MI.zero HR2.out⟩,HS2.out⟩
     case round=>
      obtain ⟨A,dk3,rfl,rfl,hA,hP3,hM3,hS3⟩:=hrel
      have c0:wr.cell? ⟨W.heap.size,0,none⟩=some (.func (.func f) #[] lb):=by rw [hS3.oth (by simp) (by omega)]; simp
      have c1:wr.cell? ⟨W.heap.size,1,none⟩=some (.func (.func sf) #[] sb):=by rw [hS3.oth (by simp) (by omega)]; simp
      have hds3:dk3.size=n:=hP3.1.trans hd
      have HP3:Hid (PermIn 0 n d dk3):=hP3
      have HM3:Hid (∃ q,A=q*(2*bs)∧MI lt bs n q dk3):=hM3
      have HS3:Hid (SU enc k g T cs (W.alloc (LSo f lb sf sb)) dk3 wr):=hS3
      clear hP3 hM3 hS3
      by_cases hle:A+2*bs≤n
      ·have hlez:(A:Int)+2*(bs:Int)≤(n:Int):=by omega
       have hc:=HM.out dk3 wr hds3 HS3.out.self (HL.out dk3 wr HS3.out) A (A+bs) (A+2*bs) (by omega) (by omega) hle (by obtain ⟨q,h1,h2⟩:=HM3.out; exact h2.left h1 (by omega)) (by obtain ⟨q,h1,h2⟩:=HM3.out; have:=h2.right h1; rwa [Nat.min_eq_left hle] at this)
       rw [show ((A+bs:Nat):Int)=(A:Int)+(bs:Int) by omega,show ((A+2*bs:Nat):Int)=(A:Int)+2*(bs:Int) by omega] at hc
       go_wp2_with (go_at_call 269; refine hc.mono ?_; rintro e w' ⟨rfl,hE⟩)
       obtain ⟨e,hE1,hE2,hE3⟩:=hE
       exact ⟨⟨A+2*bs,e,by congr 1 <;> omega,by congr 1 <;> omega,hle,permIn_trans _ _ _ _ _ HP3.out (permIn_mono _ _ _ _ _ _ (by omega) hle (by omega) hE2),(by obtain ⟨q,h1,h2⟩:=HM3.out; exact ⟨q+1,by rw [Nat.add_mul,Nat.one_mul,← h1],h2.step h1 hE2 hE3⟩),HS3.out.trans hE1⟩,by simp [intOf]; omega⟩
      ·have hlez:¬ (A:Int)+2*(bs:Int)≤(n:Int):=by omega
       by_cases hm:A+bs<n
       ·have hmz:(A:Int)+(bs:Int)<(n:Int):=by omega
        have hc:=HM.out dk3 wr hds3 HS3.out.self (HL.out dk3 wr HS3.out) A (A+bs) n (by omega) (by omega) (Nat.le_refl _) (by obtain ⟨q,h1,h2⟩:=HM3.out; exact h2.left h1 (by omega)) (by obtain ⟨q,h1,h2⟩:=HM3.out; have:=h2.right h1; rwa [Nat.min_eq_right (by omega)] at this)
        rw [show ((A+bs:Nat):Int)=(A:Int)+(bs:Int) by omega] at hc
        go_wp2_with (go_at_call 269; refine hc.mono ?_; rintro e w' ⟨rfl,hE⟩)
        obtain ⟨e,hE1,hE2,hE3⟩:=hE
        exact ⟨⟨2*bs,e,by congr 1 <;> omega,by omega,by omega,permIn_trans _ _ _ _ _ HP3.out (permIn_mono _ _ _ _ _ _ (by omega) (Nat.le_refl _) (by omega) hE2),(by obtain ⟨q,h1,h2⟩:=HM3.out; exact h2.fin h1 (by omega) hE2 hE3),HS3.out.trans hE1⟩,by simp [intOf]; omega⟩
       ·have hmz:¬ (A:Int)+(bs:Int)<(n:Int):=by omega
        go_wp2
        exact ⟨⟨2*bs,dk3,by congr 1 <;> omega,by omega,by omega,HP3.out,(by obtain ⟨q,h1,h2⟩:=HM3.out; exact h2.fin h1 (by omega) (permIn_refl _ _ _) (h2.last h1 (by omega))),HS3.out⟩,by simp [intOf]; omega⟩
    ·have hge:¬ (bs:Int)<(n:Int):=by omega
     go_wp2
     go_end0
     refine ⟨rfl,dk2,HB.out.trans HS2.out,HP2.out,?_⟩
     have:=HR2.out 0
     rw [Nat.zero_mul,Nat.zero_add,Nat.min_eq_right (by omega)] at this
     exact this
end
end Go.Proofs.YtmcdjilbkmhfoaaGreat
namespace Go.Proofs.YtmcdjilbkmhfoaaGreat
set_option maxRecDepth 10000
open Go.RowKit
set_option linter.unusedVariables false
set_option linter.unusedSimpArgs false
class ZhM {α β:Type} [Enc β] (c:α→List PV) (g:α→β):Prop where
 len:∀ x,(c x).length=Enc.k β
 at_:∀ x (j:Nat) (p:PV),(c x)[j]?=some p→∃ u,(Enc.cells (g x))[j]?=some u∧p=.v u
theorem ZrC {α β:Type} [Enc β] {c:α→List PV} (g:α→β) [hf:ZhM c g] {w:World} {S:Nat→Prop} {xs:List α} {x:Value} (hsz:∀ b,S b→b<w.heap.size) (h:RepC w S (.sl (xs.map c)) x):
 ∃ A n,x=.slice A xs.length n∧xs.length≤n∧(xs≠[]→n≤maxLen)∧Rd w w.heap.size A (xs.map g):=by
 generalize hq:PV.sl (xs.map c)=q at h
 cases h with
 | v x h=>cases hq
 | ud=>cases hq
 | un=>cases hq
 | rp=>cases hq
 | fn=>cases hq
 | nil A n=>
  have:xs=[]:=by simpa using hq
  exact ⟨A,n,by rw [this]; rfl,by rw [this]; simp,fun h=>absurd this h,by rw [this]; exact Rd.nil_⟩
 | sl es b off k n u hS hkp hnc hm hes hcc h1 hrr=>
  obtain rfl:xs.map c=es:=by simpa using hq
  refine ⟨_,n,by simp,by simpa using hnc,fun _=>hm,fun hne=>⟨b,off,rfl,hsz b hS,fun t u' hu'=>?_⟩⟩
  have hne':xs≠[]:=fun e=>hne (by rw [e]; rfl)
  have hpos:0<xs.length:=List.length_pos_iff.2 hne'
  have hk1:k=Enc.k β:=((hes 0 (c xs[0]) (by simp [hpos])).symm).trans (hf.len _)
  subst hk1
  have hkp':0<Enc.k β:=hkp
  have ht:=(List.getElem?_eq_some_iff.1 hu').1
  rw [Zd6,List.length_map] at ht
  have hi:t / Enc.k β<xs.length:=by rw [Nat.div_lt_iff_lt_mul hkp']; exact ht
  have hj:=Nat.mod_lt t hkp'
  have e0:t / Enc.k β*Enc.k β+t % Enc.k β=t:=by rw [Nat.mul_comm]; exact Nat.div_add_mod t _
  have e1:(xs.map c)[t / Enc.k β]?=some (c xs[t / Enc.k β]):=by simp [hi]
  have e2:(c xs[t / Enc.k β])[t % Enc.k β]?=some ((c xs[t / Enc.k β])[t % Enc.k β]'(by rw [hf.len]; exact hj)):=List.getElem?_eq_getElem _
  obtain ⟨v,hv,hp⟩:=hf.at_ _ _ _ e2
  have hfl:=ZhF (xs:=xs.map g) (i:=t / Enc.k β) (x:=g xs[t / Enc.k β]) (by simp [hi]) hv
  rw [e0,hu'] at hfl
  obtain rfl:=Option.some.inj hfl
  have hc:=hcc _ _ _ _ e1 e2
  have hz:=hrr _ _ _ _ e1 e2
  rw [hp] at hz
  have hz':u (t / Enc.k β) (t % Enc.k β)=u':=by
   generalize u (t / Enc.k β) (t % Enc.k β)=z at hz
   cases hz with
   | v _ _=>rfl
  rw [hz'] at hc
  rw [← e0,← Nat.add_assoc]
  exact hc
theorem Zua {P:Program} {f:FuncId} {args:List PV} {val:Value} (h1:val.oneCell'=true)
 (h:∀ (S:Nat→Prop) (β:Nat→Option Blk) (w:World) (vs:Array Value),(∀ b,S b→b<w.heap.size)→vs.size=args.length→(∀ (i:Nat) (p:PV),args[i]?=some p→∃ x,vs[i]?=some x∧Rep w (E1 S β 0) p x)→
  Calls P f vs w fun e w'=>e=.returned val∧Up w w'):Zdo P f args [] (.v val) []:=by
 intro S β w vs hk hl ha
 refine (h S β w vs hk.sz hl ha).mono ?_
 rintro e w' ⟨rfl,hu⟩
 refine ⟨val,E1 S β 0,rfl,⟨⟨hu.os,hu.tape,hu.output,hu.size,fun b hb _=>hu.block b hb⟩,fun b hb=>Nat.lt_of_lt_of_le (hk.sz b hb) hu.size,fun l B hB hz=>?_,hk.inj,hk.used,hk.bu,fun l mb hm=>(by simp at hm),hk.dom,hk.tab⟩,fun b h=>h,fun b h=>.inl h,fun l B _ h=>h,.c (.v _ h1)⟩
 obtain ⟨a,b,c⟩:=hk.own l B hB hz
 exact ⟨a,Nat.lt_of_lt_of_le b hu.size,c⟩
theorem ZvF {vs:Array Value} {x0 x1 x2:Value} (h:vs.size=3) (h0:vs[0]?=some x0) (h1:vs[1]?=some x1) (h2:vs[2]?=some x2):vs=#[x0,x1,x2]:=by
 apply Array.ext (by simp [h])
 intro i hi h3
 have a0:=(Array.getElem?_eq_some_iff.1 h0).2
 have a1:=(Array.getElem?_eq_some_iff.1 h1).2
 have a2:=(Array.getElem?_eq_some_iff.1 h2).2
 match i,hi with
 | 0,_=>simpa using a0
 | 1,_=>simpa using a1
 | 2,_=>simpa using a2
 | i+3,hi=>omega
theorem ZkW {w:World} {E:Env} {a x:Value} (h:Rep w E (.v a) x):x=a:=h.v_inv.1
instance:ZhM cInt (id:Int→Int):=⟨fun x=>rfl,fun x j p h=>by
 cases j with
 | zero=>obtain rfl:vi x=p:=by simpa using h
         exact ⟨_,rfl,rfl⟩
 | succ j=>simp [cInt] at h⟩
end Go.Proofs.YtmcdjilbkmhfoaaGreat
namespace Go.Proofs.YtmcdjilbkmhfoaaGreat
set_option maxRecDepth 10000
open Go.RowKit
set_option linter.unusedVariables false
set_option maxHeartbeats 16000000
def Zex (i:Int) (j:Int) (c0_:List Zc):Option Bool:=
 (getI c0_ i).bind fun y1=>
 (getI c0_ j).bind fun y2=>
 (ZaR y1 y2).bind fun y3=>
 some (decide (y3<0))
instance (i:Int) (j:Int) (c0_:List Zc):CT Tryz.prog (Zex i j c0_):=⟨201,[vi i,vi j,.rp [.sl (c0_.map Zg)]],[],fun r=>vb r,fun r=>[],fun H=>by replace H:=H0 H; unfold Zex at H; exact Zh Tryz.func201 rfl Tryz.ntmps201 Tryz.results201 fun Q hQ hQn=>wk3⟩
end Go.Proofs.YtmcdjilbkmhfoaaGreat
namespace Go.Proofs.YtmcdjilbkmhfoaaGreat
set_option maxRecDepth 10000
open Go.RowKit Go.Lib Go.Sort
set_option linter.unusedVariables false
set_option linter.unusedSimpArgs false
set_option maxRecDepth 100000
set_option maxHeartbeats 4000000
instance:Enc Zc where
 cells x:=[I x.thing,I x.trip.leg,I x.trip.day,I x.weight]
 k:=4
 len _:=rfl
 pos:=by decide
 one:=by simp [Value.oneCell',I]
instance:Enc Ze where
 cells x:=[I x.leg,I x.day]
 k:=2
 len _:=rfl
 pos:=by decide
 one:=by simp [Value.oneCell',I]
instance:ZhM Zg (id:Zc→Zc):=⟨fun x=>rfl,fun x j p h=>by
 match j with
 | 0=>obtain rfl:_=p:=Option.some.inj h
      exact ⟨_,rfl,rfl⟩
 | 1=>obtain rfl:_=p:=Option.some.inj h
      exact ⟨_,rfl,rfl⟩
 | 2=>obtain rfl:_=p:=Option.some.inj h
      exact ⟨_,rfl,rfl⟩
 | 3=>obtain rfl:_=p:=Option.some.inj h
      exact ⟨_,rfl,rfl⟩
 | j+4=>simp [Zg] at h⟩
instance:ZhM Zr (id:Ze→Ze):=⟨fun x=>rfl,fun x j p h=>by
 match j with
 | 0=>obtain rfl:_=p:=Option.some.inj h
      exact ⟨_,rfl,rfl⟩
 | 1=>obtain rfl:_=p:=Option.some.inj h
      exact ⟨_,rfl,rfl⟩
 | j+2=>simp [Zr] at h⟩
instance:Inhabited Zc:=⟨⟨0,⟨0,0⟩,0⟩⟩
theorem Zk7 (a b:Zc):befB a b=true↔a.trip.day<b.trip.day∨(a.trip.day=b.trip.day∧(a.trip.leg<b.trip.leg∨(a.trip.leg=b.trip.leg∧a.thing<b.thing))):=by
 unfold befB
 repeat' split
 all_goals simp only [decide_eq_true_eq]
 all_goals omega
theorem Zk8 (a b:Zc):befB a b=false↔¬ (a.trip.day<b.trip.day∨(a.trip.day=b.trip.day∧(a.trip.leg<b.trip.leg∨(a.trip.leg=b.trip.leg∧a.thing<b.thing)))):=by
 rw [← Zk7]; simp
theorem ZlJ:SWO befB:=⟨fun x=>(Zk8 _ _).2 (by omega),fun x y z h1 h2=>(Zk7 _ _).2 (by have:=(Zk7 _ _).1 h1; have:=(Zk7 _ _).1 h2; omega),fun x y z h1 h2=>(Zk8 _ _).2 (by have:=(Zk8 _ _).1 h1; have:=(Zk8 _ _).1 h2; omega)⟩
theorem ZoK {b:Nat}:¬ own0 (fun _=>none) b:=by rintro ⟨l,B,h,_⟩; cases h
theorem Zdo.valT {P:Program} {f:FuncId} {args:List PV} {val:Value} (h:Zdo P f args [] (.v val) []) {w:World} (ht:Tab w (own0 fun _=>none)) {vs:Array Value} (hl:vs.size=args.length) (ha:∀ (i:Nat) (p:PV),args[i]?=some p→∃ x,vs[i]?=some x∧Rep w (E1 (fun b=>b<w.heap.size) (fun _=>none) 0) p x):
 Calls P f vs w fun e w'=>e=.returned val∧Up w w':=by
 have hok:Ok w (own0 fun _=>none) (E1 (fun b=>b<w.heap.size) (fun _=>none) 0) w []:=
  ⟨UpO.refl _ _,fun b h=>h,fun l B h=>(by cases h),fun l l' B B' h=>(by cases h),fun l h=>absurd h (Nat.not_lt_zero l),fun l B h=>(by cases h),fun l mb h=>(by simp at h),fun l B h=>(by cases h),ht⟩
 refine (h (fun b=>b<w.heap.size) (fun _=>none) w vs hok hl ha).mono ?_
 rintro e w' ⟨v,E',rfl,hk,_,_,_,hr⟩
 obtain ⟨rfl,_⟩:=hr.v_inv
 exact ⟨rfl,hk.up.os,hk.up.tape,hk.up.output,hk.up.size,fun b hb=>hk.up.block b hb ZoK⟩
theorem ZmV {w w':World} {O O':Nat→Prop} (h:Tab w O) (hu:UpO O' w w') (hO:∀ b,b<w.heap.size→O' b→O b):Tab w' (own0 fun _=>none):=by
 obtain ⟨T,h1,h2⟩:=h
 exact ⟨T,fun b hb=>⟨Nat.lt_of_lt_of_le (h1 b hb).1 hu.size,ZoK⟩,fun w'' hw''=>h2 w'' fun b hb=>(hw'' b hb).trans (hu.block b (h1 b hb).1 fun h=>(h1 b hb).2 (hO b (h1 b hb).1 h))⟩
theorem ZnM {α β:Type} [Enc β] {c:α→List PV} (g:α→β) [hf:ZhM c g] {w:World} {A:Option Addr} {n:Nat} {xs:List α} (h:Rd w w.heap.size A (xs.map g)) (hn:xs.length≤n) (hm:n≤maxLen):RepC w (fun b=>b<w.heap.size) (.sl (xs.map c)) (.slice A xs.length n):=by
 by_cases h0:xs=[]
 ·subst h0; exact .nil _ _
 obtain ⟨b,off,rfl,hb,hc⟩:=h (by simpa using h0)
 have hlen:(xs.map c).length=xs.length:=by simp
 have key:∀ (i:Nat) (cs:List PV) (j:Nat) (p:PV),(xs.map c)[i]?=some cs→cs[j]?=some p→∃ u,w.cell? ⟨b,off+i*Enc.k β+j,none⟩=some u∧u.oneCell'=true∧p=.v u:=by
  intro i cs j p hi hj
  rw [List.getElem?_map] at hi
  obtain ⟨x,hx,rfl⟩:=Option.map_eq_some_iff.1 hi
  obtain ⟨u,hu,hp⟩:=hf.at_ x j p hj
  have hfl:=ZhF (xs:=xs.map g) (i:=i) (x:=g x) (by rw [List.getElem?_map,hx]; rfl) hu
  exact ⟨u,by rw [Nat.add_assoc]; exact hc _ u hfl,Enc.one _ u (List.mem_of_getElem? hu),hp⟩
 rw [← hlen]
 exact .sl _ b off (Enc.k β) n (fun i j=>(w.cell? ⟨b,off+i*Enc.k β+j,none⟩).getD .nilIface) hb Enc.pos (by rw [hlen]; exact hn) hm
  (fun i cs hi=>by
   rw [List.getElem?_map] at hi
   obtain ⟨x,_,rfl⟩:=Option.map_eq_some_iff.1 hi
   exact hf.len x)
  (fun i cs j p hi hj=>by obtain ⟨u,x1,_⟩:=key i cs j p hi hj; rw [x1]; rfl)
  (fun i cs j p hi hj=>by obtain ⟨u,x1,x2,_⟩:=key i cs j p hi hj; rw [x1]; exact x2)
  (fun i cs j p hi hj=>by obtain ⟨u,x1,x2,rfl⟩:=key i cs j p hi hj; rw [x1]; exact .v u x2)
section
variable {β:Type} [Enc β] [Inhabited β]
theorem ZkK (d:Array β):(flatK Enc.cells (Enc.k β) d).toList=flat d.toList:=by
 apply List.ext_getElem?
 intro t
 have hk:0<Enc.k β:=Enc.pos
 rcases Nat.lt_or_ge t (d.size*Enc.k β) with h | h
 ·have h1:t<(flatK Enc.cells (Enc.k β) d).size:=by rw [size_flatK]; exact h
  have hi:t / Enc.k β<d.size:=by rw [Nat.div_lt_iff_lt_mul hk]; exact h
  have hj:=Nat.mod_lt t hk
  have e0:t / Enc.k β*Enc.k β+t % Enc.k β=t:=by rw [Nat.mul_comm]; exact Nat.div_add_mod t _
  have hc:(Enc.cells d[t / Enc.k β]!)[t % Enc.k β]?=some ((Enc.cells d[t / Enc.k β]!)[t % Enc.k β]'(by rw [Enc.len]; exact hj)):=List.getElem?_eq_getElem _
  have hf:=ZhF (xs:=d.toList) (i:=t / Enc.k β) (x:=d[t / Enc.k β]!) (by rw [Array.getElem?_toList,getElem!_pos d _ hi]; exact Array.getElem?_eq_getElem hi) hc
  rw [e0] at hf
  rw [hf,Array.getElem?_toList,Array.getElem?_eq_getElem h1,← getElem!_pos,get_flatK _ _ _ _ h]
  rw [getElem!_pos _ _ (by rw [Enc.len]; exact hj)]
 ·rw [List.getElem?_eq_none (by rw [Array.length_toList,size_flatK]; exact h),List.getElem?_eq_none (by rw [Zd6,Array.length_toList]; exact h)]
theorem ZtK {w:World} {B E:Nat} {v:Value} {xs:List β} (h:Own w B E v xs) (h2:0<xs.length):
 ∃ g c,v=.slice (some ⟨g,0,none⟩) xs.length c∧B≤g∧xs.length≤c∧c≤maxLen∧SU (Enc.cells (α:=β)) (Enc.k β) g E (c*Enc.k β) w xs.toArray w:=by
 rcases h.2 with ⟨_,h0⟩ | ⟨g,cap,cur,hv,hB,hg,hnc,hcm,hcs,ht⟩
 ·omega
 refine ⟨g,cap,hv,hB,hnc,hcm,UpO.refl _ _,?_,cur,hg,hcs⟩
 intro t htl
 rw [size_flatK] at htl
 have hfl:(flatK (Enc.cells (α:=β)) (Enc.k β) xs.toArray).toList=flat xs:=by rw [ZkK]
 refine ⟨?_,by simp [World.frozen?,hg]⟩
 rw [Nat.zero_add,cell_of_row w g t cur E (0,0) hg]
 have h1:t<(flatK (Enc.cells (α:=β)) (Enc.k β) xs.toArray).size:=by rw [size_flatK]; exact htl
 have h3:(flat xs)[t]?=some (id (flatK (Enc.cells (α:=β)) (Enc.k β) xs.toArray)[t]!):=by
  rw [← hfl,Array.getElem?_toList,getElem!_pos (flatK (Enc.cells (α:=β)) (Enc.k β) xs.toArray) t h1]
  exact Array.getElem?_eq_getElem h1
 rw [← ht,List.getElem?_take] at h3
 split at h3
 ·rw [← Array.getElem?_toList]; exact h3
 ·cases h3
theorem Zo3 {w0 W:World} {B E g c:Nat} {d:Array β} (h:SU (Enc.cells (α:=β)) (Enc.k β) g E (c*Enc.k β) w0 d W) (hB:B≤g) (hn:d.size≤c) (hm:c≤maxLen):Own W B E (.slice (some ⟨g,0,none⟩) d.size c) d.toList:=by
 obtain ⟨cur,hg,hcs⟩:=h.row
 refine ⟨by rw [Zd6],.inr ⟨g,c,cur,by rw [Array.length_toList],hB,hg,by rw [Array.length_toList]; exact hn,hm,hcs,?_⟩⟩
 rw [← ZkK]
 have hle:d.size*Enc.k β≤c*Enc.k β:=Nat.mul_le_mul_right _ hn
 apply List.ext_getElem?
 intro t
 rw [List.getElem?_take,Array.length_toList]
 split
 ·rename_i ht
  have h1:t<(flatK (Enc.cells (α:=β)) (Enc.k β) d).size:=by rw [size_flatK]; exact ht
  have hh:=(h.hold t h1).1
  rw [Nat.zero_add,cell_of_row W g t cur E (0,0) hg,getElem!_pos (flatK (Enc.cells (α:=β)) (Enc.k β) d) t h1] at hh
  rw [Array.getElem?_toList,Array.getElem?_toList,hh]
  exact (Array.getElem?_eq_getElem h1).symm
 ·rename_i ht
  rw [List.getElem?_eq_none (by rw [Array.length_toList,size_flatK]; omega)]
end
theorem ZhI {w:World} {E:Env} (x:Value) (h:x.oneCell'=true):Rep w E (.v x) x:=.c (.v x h)
theorem Zux {g c n Bx:Nat} {w0:World} {O:Nat→Prop} (hx:w0.cell? ⟨Bx,0,none⟩=some (.slice (some ⟨g,0,none⟩) n c)) (hBx:Bx<w0.heap.size) (hne:Bx≠g) (hnc:n≤c) (hm:c≤maxLen) (ht:Tab w0 O) (hO:O g):
 Zhw 201 #[.pointer (some ⟨Bx,0,none⟩)] (Enc.cells (α:=Zc)) 4 befB g 135 (c*4) n w0:=by
 intro d W hS hd i j hi hj
 have hn:d.toList.length=n:=by rw [Array.length_toList,hd]
 have gi:getI d.toList (i:Int)=some d[i]!:=by rw [Zq,Array.getElem?_toList,getElem!_pos d i (by omega)]; exact Array.getElem?_eq_getElem _
 have gj:getI d.toList (j:Int)=some d[j]!:=by rw [Zq,Array.getElem?_toList,getElem!_pos d j (by omega)]; exact Array.getElem?_eq_getElem _
 obtain ⟨v,hv,hvb⟩:=Zl0 d[i]! d[j]!
 have H:Zex (i:Int) (j:Int) d.toList=some (befB d[i]! d[j]!):=by
  unfold Zex
  rw [gi,Option.bind_some,gj,Option.bind_some,hv,Option.bind_some]
  cases hb:befB d[i]! d[j]! with
  | true=>rw [hb] at hvb; have:=of_decide_eq_false hvb; rw [decide_eq_true (by omega)]
  | false=>rw [hb] at hvb; have:=of_decide_eq_true hvb; rw [decide_eq_false (by omega)]
 have hC:=CT.ok (P:=Tryz.prog) H
 simp only [CT.f,CT.args,CT.m0,CT.res,CT.mem] at hC
 have hcell:W.cell? ⟨Bx,0,none⟩=some (.slice (some ⟨g,0,none⟩) n c):=(hS.oth hBx hne).trans hx
 have hrd:Rd W W.heap.size (some ⟨g,0,none⟩) (d.toList.map id):=by
  have:=(Zo3 (B:=g) hS (Nat.le_refl _) (by omega) hm).rd
  rw [List.map_id]
  exact this
 have hrs:=ZnM (c:=Zg) (id:Zc→Zc) hrd (n:=c) (by omega) hm
 rw [hn] at hrs
 refine (Zdo.valT hC (w:=W) (ZmV ht hS.up fun b _ h=>h ▸ hO) rfl fun idx p hp=>?_).mono ?_
 ·match idx with
  | 0=>obtain rfl:_=p:=Option.some.inj hp
       exact ⟨_,rfl,ZhI _ rfl⟩
  | 1=>obtain rfl:_=p:=Option.some.inj hp
       exact ⟨_,rfl,ZhI _ rfl⟩
  | 2=>obtain rfl:_=p:=Option.some.inj hp
       refine ⟨_,rfl,.c (.rp _ Bx 0 (fun _=>.slice (some ⟨g,0,none⟩) n c) (Nat.lt_of_lt_of_le hBx hS.up.size) (fun j p hp=>?_) (fun j p hp=>rfl) fun j p hp=>?_)⟩
       ·match j with
        | 0=>exact hcell
        | j+1=>simp at hp
       ·match j with
        | 0=>obtain rfl:_=p:=Option.some.inj hp
             exact hrs
        | j+1=>simp at hp
  | idx+3=>simp at hp
 ·rintro e w' ⟨rfl,hu⟩
  exact ⟨rfl,hu⟩
end Go.Proofs.YtmcdjilbkmhfoaaGreat
