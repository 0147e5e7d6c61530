/- A part of the proof of the statement in the last file of this claim: texts on the language of the program and on its functions. No condition. -/
import Derived.Test.YtkfbakhnpfmfmaaGreatDoorCFnActRead22
import Derived.Test.YtkfbakhnpfmfmaaGreatDoorCFnActRead11
import Derived.Test.YtkfbakhnpfmfmaaGreatDoorCFnActRead17
import Derived.Test.YtkfbakhnpfmfmaaGreatDoorCFnActRead16
import Derived.Test.YtkfbakhnpfmfmaaGreatDoorCFnActRead19
import Derived.Test.YtkfbakhnpfmfmaaGreatDoorCFnActRead6
import Derived.Test.YtkfbakhnpfmfmaaGreatDoorCFnActRead18
import Derived.Test.YtkfbakhnpfmfmaaGreatDoorCFnActRead13
import Derived.Test.YtkfbakhnpfmfmaaGreatDoorCFnActRead21
set_option linter.unusedVariables false
set_option linter.unusedSimpArgs false
set_option linter.unusedSectionVars false
namespace Go.Proofs.YtkfbakhnpfmfmaaGreatDoor
set_option maxRecDepth 10000
open Go.RowKit
set_option linter.unusedVariables false
set_option linter.unusedSimpArgs false
set_option linter.unusedSectionVars false
structure OrdD (n:Za) (o:Zh):Prop where
 gone:0≤o.gone∧o.gone≤100001
 comes:ZO o≤o.way.length
 way:o.way.length≤110000
 leg:∀ (k:Nat) t,(k:Int)<ZO o→o.way[k]?=some t→∃ y,getI n.legs t.leg=some y
def FinE (n:Za) (o:Zh):Prop:=ZO o=o.way.length∨∀ t,o.way.getLast?=some t→ZcC n t=o.to_
structure FinO (n:Za) (now:Int) (o:Zh):Prop where
 ends:FinE n o
 started:o.state=2→∃ t,o.way[o.gone.toNat]?=some t∧Za5 n t≤now
 gone:0≤o.gone∧o.gone≤100001
structure WD (n:Za) (w:Ze):Prop where
 fit:WFit w
 net:w.network=n
 closed:w.closed.length≤1000
 fin:∀ o∈w.orders,FinO n w.now o
structure AgD (n:Za) (w:Ze):Prop where
 net:w.network=n
 orders:w.orders.length≤30
 bookings:w.bookings.length≤120
 closed:w.closed.length≤21
 scans:w.scans.length≤201
 skip:w.skip.length≤50
 ord:∀ o∈w.orders,OrdD n o
 fin:∀ o∈w.orders,FinO n w.now o
theorem Znd {n:Za} {o:Zh} (h:Zi9 n o):o.way.length≤100001:=by
 have key:∀ (i:Nat) t,o.way[i]?=some t→(i:Int)≤Za5 n t:=by
  intro i
  induction i with
  | zero=>intro t ht; exact (h.trip t (List.mem_of_getElem? ht)).1
  | succ i ih=>
   intro t ht
   have hlt:=(List.getElem?_eq_some_iff.1 ht).1
   have h1:o.way[i]?=some o.way[i]:=List.getElem?_eq_getElem (by omega)
   have:=ih _ h1
   have:=h.trip _ (List.getElem_mem (show i<o.way.length by omega))
   have:=h.next i _ _ h1 ht
   omega
 rcases Nat.eq_zero_or_pos o.way.length with h0 | h0
 ·omega
 ·have hlt:o.way.length-1<o.way.length:=by omega
  have h1:=key _ _ (List.getElem?_eq_getElem hlt)
  have h2:=h.trip _ (List.getElem_mem hlt)
  omega
theorem WOk.ag {w:Ze} (h:WOk w) (hfin:∀ o∈w.orders,FinO w.network w.now o):AgD w.network w:=by
 obtain ⟨p1,p2,p3,p4,p5,p6,p7⟩:=h.parts
 refine ⟨rfl,p2,p7,by omega,by omega,p5,fun o ho=>?_,hfin⟩
 obtain ⟨i,hi,rfl⟩:=List.getElem_of_mem ho
 have hi':=List.getElem?_eq_getElem hi
 have hw:=h.way hi'
 have hok:=Zd0 h.fit h.ok hi'
 have hs:=Znd hw
 have hg:=hw.gone
 refine ⟨⟨hg.1,by omega⟩,?_,by omega,fun k t _ ht=>?_⟩
 ·unfold ZO
  split
  ·rename_i h2
   rcases hok.cases with ⟨c,_⟩ | ⟨_,c⟩ | ⟨c,_⟩ <;> omega
  ·exact hg.2
 ·obtain ⟨y,hy,_⟩:=Zdp h.fit.net (hok.trip t (List.mem_of_getElem? ht))
  exact ⟨y,hy⟩
theorem AgD.fit {n:Za} (hf:ZbC n) {w:Ze} (h:AgD n w):WFit w:=by
 have h1:=h.orders
 have h2:=h.bookings
 have h3:=h.closed
 have h4:=h.scans
 have h5:=h.skip
 exact ⟨by rw [h.net]; exact hf,by omega,by omega,by omega,by omega,by omega,fun o ho=>by have:=(h.ord o ho).way; omega⟩
theorem Ztb {n:Za} {o:Zh} (h:OrdD n o):Tot (Zao n o) fun _=>True:=by
 unfold Zao
 refine Tot.cond (fun h2=>?_) fun _=>Tot.ret trivial
 have hs:=of_decide_eq_true h2
 have hc:ZO o=o.gone+1:=by unfold ZO; rw [if_pos hs]
 have hg:=h.gone
 have hcl:=h.comes
 have hlt:o.gone.toNat<o.way.length:=by omega
 have hget:getI o.way o.gone=some o.way[o.gone.toNat]:=by unfold getI; rw [if_pos hg.1]; exact List.getElem?_eq_getElem hlt
 obtain ⟨y,hy⟩:=h.leg o.gone.toNat _ (by omega) (List.getElem?_eq_getElem hlt)
 rw [hget,Option.bind_some,hy,Option.bind_some]
 exact Tot.ret trivial
theorem OrdD.on {n:Za} {o o':Zh} (h:OrdD n o) (hg:o'.gone=o.gone) (hs:o'.state=o.state) {r:List Zg} (hw:o'.way=subL o.way 0 (ZO o)++r) (hr:r.length≤2000):OrdD n o':=by
 have hcl:=h.comes
 have g:=h.gone
 have hc:ZO o'=ZO o:=by unfold ZO; rw [hg,hs]
 have c0:0≤ZO o∧ZO o≤100002:=by unfold ZO; split <;> omega
 have hsub:subL o.way 0 (ZO o)=o.way.take (ZO o).toNat:=by unfold subL; simp
 have hlen:(subL o.way 0 (ZO o)).length=(ZO o).toNat:=by rw [hsub,List.length_take]; omega
 refine ⟨by rw [hg]; exact g,?_,?_,fun k t hk ht=>?_⟩
 ·rw [hc,hw,List.length_append,hlen]; omega
 ·rw [hw,List.length_append,hlen]; omega
 ·rw [hc] at hk
  rw [hw,List.getElem?_append_left (by rw [hlen]; omega),hsub,List.getElem?_take_of_lt (by omega)] at ht
  exact h.leg k t hk ht
theorem FinO.on {n:Za} {now:Int} {o o':Zh} (h:OrdD n o) (hF:FinO n now o) (hg:o'.gone=o.gone) (hs:o'.state=o.state) (ht:o'.to_=o.to_) {r:List Zg} (hw:o'.way=subL o.way 0 (ZO o)++r) (hr:∀ t,r.getLast?=some t→ZcC n t=o.to_):FinO n now o':=by
 have hcl:=h.comes
 have g:=h.gone
 have hc:ZO o'=ZO o:=by unfold ZO; rw [hg,hs]
 have c0:0≤ZO o∧ZO o≤100002:=by unfold ZO; split <;> omega
 have hsub:subL o.way 0 (ZO o)=o.way.take (ZO o).toNat:=by unfold subL; simp
 have hlen:(subL o.way 0 (ZO o)).length=(ZO o).toNat:=by rw [hsub,List.length_take]; omega
 refine ⟨?_,fun h2=>?_,by rw [hg]; exact g⟩
 ·cases r with
  | nil=>exact .inl (by rw [hc,hw,List.append_nil,hlen]; omega)
  | cons a as'=>
   refine .inr fun t hl=>?_
   rw [hw,List.getLast?_append,ht] at *
   refine hr t ?_
   cases hx:(a::as').getLast? with
   | none=>simp at hx
   | some z=>rw [hx] at hl; exact hl
 ·rw [hs] at h2
  obtain ⟨t,k1,k2⟩:=hF.started h2
  refine ⟨t,?_,k2⟩
  have hcv:ZO o=o.gone+1:=by unfold ZO; rw [if_pos h2]
  rw [hg,hw,List.getElem?_append_left (by rw [hlen]; omega),hsub,List.getElem?_take_of_lt (by omega)]
  exact k1
section
variable {n:Za} (hf:ZbC n) (hn:n.legs.length≤20)
include hf hn
theorem Zuw:(Zf n).length≤40:=by have:=ZdM n; omega
theorem Zsi {w:Ze} (h:AgD n w) {i:Nat} {x:Zh} (hx:OrdD n x):∀ o∈w.orders.set i x,OrdD n o:=fun o ho=>by
 rcases List.mem_or_eq_of_mem_set ho with ho | rfl
 ·exact h.ord o ho
 ·exact hx
theorem Zsh {w:Ze} (h:AgD n w) {i:Nat} {x:Zh} (hx:FinO n w.now x):∀ o∈w.orders.set i x,FinO n w.now o:=fun o ho=>by
 rcases List.mem_or_eq_of_mem_set ho with ho | rfl
 ·exact h.fin o ho
 ·exact hx
theorem ZlQ {w:Ze} (h:AgD n w) {i:Nat} (hi:i<w.orders.length):Tot (Zbt w (i:Int)) fun w'=>AgD n w'∧w'.orders.length=w.orders.length:=by
 obtain ⟨o,ho⟩:∃ o,w.orders[i]?=some o:=⟨_,List.getElem?_eq_getElem hi⟩
 have hg:getI w.orders (i:Int)=some o:=by rw [Zx]; exact ho
 have hod:=h.ord o (List.mem_of_getElem? ho)
 have hcl:=hod.comes
 have hfo:=h.fin o (List.mem_of_getElem? ho)
 have hwy:=hod.way
 have g:=hod.gone
 have hbk:=h.bookings
 have hcd:=h.closed
 have hpl:=Zuw hf hn
 have hw:o.way.length≤1048576:=by omega
 have hgw:o.gone≤o.way.length:=by
  have:o.gone≤ZO o:=by unfold ZO; split <;> omega
  omega
 obtain ⟨c1,c0,_⟩:=Zk2 ⟨g.1,hgw⟩ hw
 have hsl:(subL o.way 0 (ZO o)).length=(ZO o).toNat:=by unfold subL; simp; omega
 have hnet:=h.net
 subst hnet
 unfold Zbt
 rw [hg,Option.bind_some,c1,Option.bind_some]
 have tail:∀ (l:List Zc) (thing at_:Int),l.length≤120→Tot ((Zao w.network o).bind fun y7=>
  (Zbn w.network l w.closed y7 o.to_ at_ o.weight).bind fun y8=>
  (ZbI w.network l thing o.weight y8.1).bind fun y9=>
  (chk (slOk 0 (ZO o) o.way.length)).bind fun _=>
  (chk (Z9 ((([]:List Zg):List Zg).length+((subL o.way 0 (ZO o)):List Zg).length) 16)).bind fun _=>
  (some o:Option Zh).bind fun y10=>
  cond y9.2
  ((some o:Option Zh).bind fun y11=>
  (chk (Z9 ((((([]:List Zg):List Zg)++(subL o.way 0 (ZO o))):List Zg).length+(y8.1:List Zg).length) 16)).bind fun _=>
  (some o:Option Zh).bind fun y12=>
  some (⟨w.network,(w.orders.set (Int.toNat i) (⟨y10.from_,y10.to_,y10.service,y10.weight,y10.at_,y10.due,((((([]:List Zg):List Zg)++(subL o.way 0 (ZO o))):List Zg)++y8.1),y10.gone,y10.state,y10.place,y10.ended⟩:Zh)),y9.1,w.closed,w.now,w.scans,w.skip,w.made⟩:Ze))
  (some (⟨w.network,(w.orders.set (Int.toNat i) (⟨y10.from_,y10.to_,y10.service,y10.weight,y10.at_,y10.due,((([]:List Zg):List Zg)++(subL o.way 0 (ZO o))),y10.gone,y10.state,y10.place,y10.ended⟩:Zh)),l,w.closed,w.now,w.scans,w.skip,w.made⟩:Ze))) fun w'=>AgD w.network w'∧w'.orders.length=w.orders.length:=by
  intro l thing at_ hl
  refine Tot.bind (Ztb hod) fun y7 _=>Tot.bind (ZmV hf (show l.length≤1048576 by omega) (show w.closed.length≤1048576 by omega) y7 o.to_ at_ o.weight) fun y8 h8=>Tot.bind (Zoi hf (show l.length≤1048000 by omega) thing o.weight y8.1) fun y9 h9=>Tot.chk (by unfold slOk; exact decide_eq_true (by omega)) (Tot.chk (Zbh (by rw [hsl]; simp only [List.length_nil]; omega) (by omega)) ?_)
  rw [Option.bind_some]
  refine Tot.cond (fun hb=>?_) fun _=>?_
  ·rw [Option.bind_some]
   refine Tot.chk (Zbh (by rw [List.nil_append,hsl]; have:=h8.1; omega) (by omega)) ?_
   rw [Option.bind_some]
   refine Tot.ret ⟨⟨rfl,by simp only [List.length_set]; exact h.orders,(h9.2 hb),h.closed,h.scans,h.skip,?_,?_⟩,by simp only [List.length_set]⟩
   ·exact Zsi hf hn h (hod.on rfl rfl (by simp only [List.nil_append]; rfl) (by have:=h8.1; omega))
   ·exact Zsh hf hn h (FinO.on hod hfo rfl rfl rfl (by simp only [List.nil_append]) h8.2)
  ·refine Tot.ret ⟨⟨rfl,by simp only [List.length_set]; exact h.orders,hl,h.closed,h.scans,h.skip,?_,?_⟩,by simp only [List.length_set]⟩
   ·exact Zsi hf hn h (hod.on (r:=[]) rfl rfl (by simp) (by simp))
   ·exact Zsh hf hn h (FinO.on hod hfo (r:=[]) rfl rfl rfl (by simp) (fun t h=>by simp at h))
 refine Tot.cond (fun hd=>?_) fun hd=>?_
 ·have h0:=of_decide_eq_true hd
  have hw1:w64 (ZO o-1)=ZO o-1:=Zn (by omega)
  have hlt:(ZO o-1).toNat<o.way.length:=by omega
  have hget:getI o.way (ZO o-1)=some o.way[(ZO o-1).toNat]:=by unfold getI; rw [if_pos (by omega)]; exact List.getElem?_eq_getElem hlt
  obtain ⟨y,hy⟩:=hod.leg _ _ (by omega) (List.getElem?_eq_getElem hlt)
  obtain ⟨v,hv⟩:=Zd8 (n:=w.network) hy
  rw [hw1,hget,Option.bind_some,hv,Option.bind_some]
  refine Tot.bind (ZnG _ _) fun y5 _=>Tot.bind (ZoF hf (show w.bookings.length≤1048576 by omega) _ _) fun y6 h6=>?_
  exact tail y6 _ y5 (by omega)
 ·refine Tot.bind (P:=fun y6:List Zc=>y6.length≤w.bookings.length) (ZoF hf (by omega) _ _) fun y6 h6=>?_
  exact tail y6 _ _ (by omega)
theorem ZiF {w:Ze} (h:WFit w):Tot (ZbN w) fun l=>l.length≤w.orders.length∧∀ x∈l,Zcw w=true∧1≤x∧x≤w.orders.length:=by
 unfold ZbN
 rw [Zev h,Option.bind_some]
 refine Tot.cond (fun _=>Tot.ret ⟨by simp,fun x hx=>by cases hx⟩) fun hv=>?_
 have hv':Zcw w=true:=by simpa using hv
 have hor:=h.orders
 refine Tot.bind (P:=fun l:List Int=>l.length≤w.orders.length∧∀ x∈l,Zcw w=true∧1≤x∧x≤w.orders.length) ?_ fun o ho=>Tot.ret ho
 refine Tot.loop (fun (k:Nat) (s:Int × List Int)=>∃ i:Nat,s.1=(i:Int)∧i+k=w.orders.length∧s.2.length≤i∧∀ x∈s.2,Zcw w=true∧1≤x∧x≤w.orders.length) (fun k s hs=>?_) NN w.orders.length _ ⟨0,rfl,by omega,by simp,fun x hx=>by cases hx⟩ (by unfold NN; omega)
 obtain ⟨i,hi,hk,hlen,hall⟩:=hs
 unfold Zd5
 rw [hi]
 refine Tot.cond (fun hd=>?_) fun hd=>Tot.ret ⟨by omega,hall⟩
 have hlt:i<w.orders.length:=by have:=of_decide_eq_true hd; omega
 have hw:w64 ((i:Int)+1)=((i+1:Nat):Int):=by rw [Zn (by omega)]; omega
 obtain ⟨b,_,hb,_⟩:=Zn5 h hv' (List.getElem?_eq_getElem hlt)
 rw [hb,Option.bind_some,hw]
 refine Tot.cond (fun _=>Tot.chk (Zbh (by simp only [List.length_cons,List.length_nil]; omega) (by omega)) (Tot.ret ⟨k-1,by omega,i+1,rfl,by omega,by simp only [List.length_append,List.length_cons,List.length_nil]; omega,fun x hx=>?_⟩)) fun _=>Tot.ret ⟨k-1,by omega,i+1,rfl,by omega,by simp only; omega,hall⟩
 rcases List.mem_append.1 hx with hx | hx
 ·exact hall x hx
 ·obtain rfl:=List.mem_singleton.1 hx
  exact ⟨hv',by omega,by omega⟩
theorem ZtP {w:Ze} (hd:WD n w) (t:Zg):Tot (Za8 w t) fun r=>WD n r.1:=by
 have h:=hd.fit
 have hw:=hd.net
 unfold Za8
 rw [Zh5 h,Option.bind_some,Zev h,Option.bind_some]
 refine Tot.cond (fun _=>Tot.ret hd) fun hv=>?_
 have hok:WOk w:=⟨h,by simpa using hv⟩
 rw [Zlc h.net hok.net,Option.bind_some]
 refine Tot.cond (fun _=>Tot.ret hd) fun ht=>?_
 have htb:Ze6 w.network t=true:=by simpa using ht
 obtain ⟨y,hy,_⟩:=Zdp h.net htb
 obtain ⟨v,hv⟩:=Zes (n:=w.network) hy
 rw [hv,Option.bind_some]
 refine Tot.cond (fun _=>Tot.ret hd) fun _=>?_
 rw [Zfp,Zgr h.closed,Option.bind_some]
 refine Tot.cond (fun _=>Tot.ret hd) fun _=>Tot.cond (fun _=>Tot.ret hd) fun hc=>?_
 have hcl:=of_decide_eq_false hc
 refine Tot.chk (Zbh (by simp only [List.length_cons,List.length_nil]; omega) (by omega)) ?_
 have hag:=hok.ag (by rw [hw]; exact hd.fin)
 rw [hw] at hag
 refine Tot.bind (P:=fun o=>AgD n (⟨(⟨o.2.2.2.1,o.2.2.2.2.1,o.1⟩:Za),o.2.2.2.2.2.1,o.2.2.2.2.2.2.1,o.2.2.2.2.2.2.2.1,o.2.1,o.2.2.2.2.2.2.2.2.1,o.2.2.2.2.2.2.2.2.2,o.2.2.1⟩:Ze)) ?_ fun o ho=>Tot.ret ⟨ho.fit hf,ho.net,by have:=ho.closed; simp only at this ⊢; omega,ho.fin⟩
 refine Tot.loop (fun k s=>∃ i:Nat,s.1=(i:Int)∧i+k=w.orders.length∧s.2.2.2.2.2.2.1.length=w.orders.length∧AgD n (⟨(⟨s.2.2.2.2.1,s.2.2.2.2.2.1,s.2.1⟩:Za),s.2.2.2.2.2.2.1,s.2.2.2.2.2.2.2.1,s.2.2.2.2.2.2.2.2.1,s.2.2.1,s.2.2.2.2.2.2.2.2.2.1,s.2.2.2.2.2.2.2.2.2.2,s.2.2.2.1⟩:Ze)) (fun k s hs=>?_) NN w.orders.length _ ⟨0,rfl,by omega,rfl,⟨hag.net,hag.orders,hag.bookings,by simp only [List.length_append,List.length_cons,List.length_nil]; omega,hag.scans,hag.skip,hag.ord,hag.fin⟩⟩ (by have:=h.orders; unfold NN; omega)
 obtain ⟨i,hi,hik,hlen,hA⟩:=hs
 unfold Zd3
 rw [hi]
 refine Tot.cond (fun hd=>?_) fun hd=>Tot.ret hA
 have hlt:i<s.2.2.2.2.2.2.1.length:=by have:=of_decide_eq_true hd; omega
 have hor:=h.orders
 have hwi:w64 ((i:Int)+1)=((i+1:Nat):Int):=by rw [Zn (by omega)]; omega
 obtain ⟨o,ho⟩:∃ o,s.2.2.2.2.2.2.1[i]?=some o:=⟨_,List.getElem?_eq_getElem hlt⟩
 have hg:getI s.2.2.2.2.2.2.1 (i:Int)=some o:=by rw [Zx]; exact ho
 have hod:=hA.ord o (List.mem_of_getElem? ho)
 have hcm:=hod.comes
 have hwy:=hod.way
 have g:=hod.gone
 have hgw:o.gone≤o.way.length:=by
  have:o.gone≤ZO o:=by unfold ZO; split <;> omega
  omega
 obtain ⟨c1,c0,_⟩:=Zk2 ⟨g.1,hgw⟩ (by omega)
 rw [hg,Option.bind_some,c1,Option.bind_some]
 refine Tot.chk (by unfold slOk; exact decide_eq_true (by omega)) ?_
 rw [Zfp,Zgr (show (subL o.way (ZO o) (o.way.length:Int)).length≤1048576 by unfold subL; simp; omega),Option.bind_some,hwi]
 refine Tot.cond (fun _=>Tot.rho (Tot.bind (ZlQ hf hn hA hlt) fun y hy=>Tot.ret ⟨k-1,by omega,i+1,rfl,by omega,by rw [hy.2]; exact hlen,?_⟩)) fun _=>Tot.ret ⟨k-1,by omega,i+1,rfl,by omega,hlen,hA⟩
 exact hy.1
theorem Zr2 {w:Ze} (hwd:WD n w):Tot (Zaz w) fun r=>WD n r.1:=by
 have h:=hwd.fit
 have hw:=hwd.net
 unfold Zaz
 rw [Zh5 h,Option.bind_some]
 refine Tot.bind (ZiF hf hn h) fun y2 h2=>?_
 obtain ⟨h2,h2w⟩:=h2
 have hor:=h.orders
 have key:Tot (Zj (ZbH y2) NN (0,w.network.change,w.now,w.made,w.network.legs,w.network.off,w.orders,w.bookings,w.closed,w.scans,w.skip)) (fun o=>WD n (⟨(⟨o.2.2.2.1,o.2.2.2.2.1,o.1⟩:Za),o.2.2.2.2.2.1,o.2.2.2.2.2.2.1,o.2.2.2.2.2.2.2.1,o.2.1,o.2.2.2.2.2.2.2.2.1,o.2.2.2.2.2.2.2.2.2,o.2.2.1⟩:Ze)):=by
  refine Tot.loop (fun k s=>∃ i:Nat,s.1=(i:Int)∧i+k=y2.length∧WD n (⟨(⟨s.2.2.2.2.1,s.2.2.2.2.2.1,s.2.1⟩:Za),s.2.2.2.2.2.2.1,s.2.2.2.2.2.2.2.1,s.2.2.2.2.2.2.2.2.1,s.2.2.1,s.2.2.2.2.2.2.2.2.2.1,s.2.2.2.2.2.2.2.2.2.2,s.2.2.2.1⟩:Ze)∧
   (Zcw w=true→s.2.2.2.2.2.2.1.length=w.orders.length∧AgD n (⟨(⟨s.2.2.2.2.1,s.2.2.2.2.2.1,s.2.1⟩:Za),s.2.2.2.2.2.2.1,s.2.2.2.2.2.2.2.1,s.2.2.2.2.2.2.2.2.1,s.2.2.1,s.2.2.2.2.2.2.2.2.2.1,s.2.2.2.2.2.2.2.2.2.2,s.2.2.2.1⟩:Ze))) (fun k s hs=>?_) NN y2.length _ ⟨0,rfl,by omega,by subst hw; exact hwd,fun hv=>⟨rfl,by have:=(WOk.mk h hv).ag (by rw [hw]; exact hwd.fin); rw [hw] at this; subst hw; exact this⟩⟩ (by unfold NN; omega)
  obtain ⟨i,hi,hk,hW,hA⟩:=hs
  unfold ZbH
  rw [hi]
  refine Tot.cond (fun hd=>?_) fun hd=>Tot.ret hW
  have hlt:=of_decide_eq_true hd
  have hwi:w64 ((i:Int)+1)=((i+1:Nat):Int):=by rw [Zn (by omega)]; omega
  obtain ⟨x,hx,hm⟩:=ZcY (xs:=y2) (i:=(i:Int)) ⟨by omega,hlt⟩
  obtain ⟨hv,x1,x2⟩:=h2w x hm
  obtain ⟨hl,hag⟩:=hA hv
  have hwx:w64 (x-1)=(((x-1).toNat:Nat):Int):=by rw [Zn (by omega)]; omega
  rw [hx,Option.bind_some,hwx,hwi]
  exact Tot.rho (Tot.bind (ZlQ hf hn hag (show (x-1).toNat<s.2.2.2.2.2.2.1.length by omega)) fun y hy=>Tot.ret ⟨k-1,by omega,i+1,rfl,by omega,⟨hy.1.fit hf,hy.1.net,by have:=hy.1.closed; simp only at this ⊢; omega,hy.1.fin⟩,fun _=>⟨by rw [hy.2]; exact hl,hy.1⟩⟩)
 refine Tot.bind key fun o ho=>Tot.bind (ZiF hf hn ho.fit) fun y5 _=>Tot.ret ho
theorem ZtN {w:Ze} (h:WFit w) (hs:w.scans.length≤1048000) (s:ZU):Tot (Zan w s) fun r=>r.network=w.network∧r.orders=w.orders∧r.bookings=w.bookings∧r.closed=w.closed∧r.skip=w.skip∧r.scans.length≤w.scans.length+1∧r.now=w.now:=by
 unfold Zan
 simp only [Zld h.skip,Option.bind_some]
 have ap:Z9 ((w.scans:List ZU).length+([s]:List ZU).length) 56=true:=Zbh (by simp only [List.length_cons,List.length_nil]; omega) (by omega)
 have sm:∀ m,Tot (some (⟨w.network,w.orders,w.bookings,w.closed,w.now,((w.scans:List ZU)++[s]),w.skip,m⟩:Ze)) fun r=>r.network=w.network∧r.orders=w.orders∧r.bookings=w.bookings∧r.closed=w.closed∧r.skip=w.skip∧r.scans.length≤w.scans.length+1∧r.now=w.now:=fun m=>Tot.ret ⟨rfl,rfl,rfl,rfl,rfl,by simp,rfl⟩
 have st:∀ m,Tot (some (⟨w.network,w.orders,w.bookings,w.closed,w.now,w.scans,w.skip,m⟩:Ze)) fun r=>r.network=w.network∧r.orders=w.orders∧r.bookings=w.bookings∧r.closed=w.closed∧r.skip=w.skip∧r.scans.length≤w.scans.length+1∧r.now=w.now:=fun m=>Tot.ret ⟨rfl,rfl,rfl,rfl,rfl,by simp,rfl⟩
 exact Tot.cond (fun _=>Tot.cond (fun _=>Tot.cond (fun _=>Tot.chk ap (sm _)) fun _=>st _) fun _=>st _) fun _=>Tot.cond (fun _=>Tot.cond (fun _=>Tot.chk ap (sm _)) fun _=>st _) fun _=>st _
theorem Zpp {w:Ze} (hwd:WD n w) (from_ to_:ByteArray) (service weight:Int):Tot (ZbD w from_ to_ service weight) fun r=>WD n r.1:=by
 have h:=hwd.fit
 have hw:=hwd.net
 have hk:=hwd.closed
 subst hw
 unfold ZbD
 rw [Zh5 h,Option.bind_some,Zev h,Option.bind_some]
 have same:∀ (z:Int) (b:Bool),Tot (some (w,z,b)) fun r=>WD w.network r.1:=fun z b=>Tot.ret hwd
 refine Tot.cond (fun _=>same _ _) fun hv=>?_
 have hok:WOk w:=⟨h,by simpa using hv⟩
 obtain ⟨p1,p2,p3,p4,p5,p6,p7⟩:=hok.parts
 have hpl:=Zuw hf hn
 refine Tot.cond (fun _=>same _ _) fun ho=>Tot.cond (fun _=>same _ _) fun _=>?_
 rw [Zac,Option.bind_some]
 refine Tot.cond (fun _=>same _ _) fun _=>?_
 rw [Zac,Option.bind_some]
 refine Tot.cond (fun _=>same _ _) fun _=>?_
 refine Tot.bind (ZmV hf h.bookings h.closed _ _ _ _) fun y5 h5=>Tot.bind (Zoi hf (by omega) _ _ _) fun y6 h6=>Tot.cond (fun _=>same _ _) fun _=>Tot.cond (fun _=>same _ _) fun h6t=>Tot.bind (ZnW hf _ _ _ _) fun y7 _=>Tot.frz (Tot.chk (Zbh (by simp only [List.length_cons,List.length_nil]; omega) (by omega)) (Tot.rho ?_))
 have hb6:=h6.2 (by simpa using h6t)
 have hfit:WFit (⟨w.network,((w.orders:List Zh)++[(⟨from_,to_,service,weight,w.now,y7,y5.1,0,1,from_,0⟩:Zh)]),y6.1,w.closed,w.now,w.scans,w.skip,w.made⟩:Ze):=by
  refine ⟨h.net,by simp only [List.length_append,List.length_cons,List.length_nil]; omega,by simp only; omega,h.closed,h.scans,h.skip,fun o ho=>?_⟩
  rcases List.mem_append.1 ho with ho | ho
  ·exact h.way o ho
  ·obtain rfl:=List.mem_singleton.1 ho
   simp only; have:=h5.1; omega
 refine Tot.bind (ZtN hf hn hfit (by simp only; omega) _) fun y8 h8=>Tot.ret ?_
 obtain ⟨q1,q2,q3,q4,q5,q6,q7⟩:=h8
 refine ⟨⟨by rw [q1]; exact hfit.net,by rw [q2]; exact hfit.orders,by rw [q3]; exact hfit.bookings,by rw [q4]; exact hfit.closed,by simp only at q6 ⊢; omega,by rw [q5]; exact hfit.skip,by rw [q2]; exact hfit.way⟩,by rw [q1],by rw [q4]; exact hk,?_⟩
 rw [q2,q7]
 intro o ho
 rcases List.mem_append.1 ho with ho | ho
 ·exact hwd.fin o ho
 ·obtain rfl:=List.mem_singleton.1 ho
  exact ⟨.inr h5.2,fun h=>by simp at h,by simp only; omega⟩
end
theorem LegD.fit {l:YLeg} (h:LegD l):Zmn l:=⟨by rw [(Zfg _ h.from_).2]; decide,by rw [(Zfg _ h.to_).2]; decide⟩
theorem LegD.ok {l:YLeg} (h:LegD l):ZaD l=some true:=by
 have h1:=h.start
 have h2:=h.takes
 have h3:=h.days
 have h4:=h.room
 unfold ZaD
 rw [(Zfg _ h.from_).1,(Zfg _ h.to_).1]
 simp only [Option.bind_some,cond_true,decide_eq_false h.ne,Bool.not_false,Zac,decide_eq_true h1.1,decide_eq_true h1.2,decide_eq_true h2.1,decide_eq_true h2.2,decide_eq_true h3.1,decide_eq_true h3.2,decide_eq_true h4.1,decide_eq_true h4.2,Bool.and_self]
theorem NetD.fit {n:Za} (h:NetD n):ZbC n:=⟨by have:=h.len; omega,by rcases h.off with e | ⟨a,b,e,_⟩ <;> rw [e] <;> simp,fun l hl=>(h.leg l hl).fit⟩
theorem NetD.ok {n:Za} (h:NetD n):Zm n=some true:=by
 have hlen:=h.len
 have hch:=h.change
 have e0:Tot (Zj (Zz n) NN 0) fun r=>r=.inl ():=by
  refine Tot.loop (fun (k:Nat) (s:Int)=>∃ i:Nat,s=(i:Int)∧i+k=n.legs.length) (fun k s hs=>?_) NN n.legs.length _ ⟨0,rfl,by omega⟩ (by unfold NN; omega)
  obtain ⟨i,rfl,hk⟩:=hs
  unfold Zz
  refine Tot.cond (fun hd=>?_) fun hd=>Tot.ret rfl
  have hlt:=of_decide_eq_true hd
  have hwi:w64 ((i:Int)+1)=((i+1:Nat):Int):=by rw [Zn (by omega)]; omega
  obtain ⟨x,hx,hm⟩:=ZcY (xs:=n.legs) (i:=(i:Int)) ⟨by omega,hlt⟩
  rw [hx,Option.bind_some,(h.leg x hm).ok,Option.bind_some,hwi]
  exact Tot.cond (fun e=>by cases e) fun _=>Tot.ret ⟨k-1,by omega,i+1,rfl,by omega⟩
 have e1:Tot (Zj (ZA n) NN 0) fun r=>r=.inl ():=by
  rcases h.off with e | ⟨a,b,e,g1,g2,g3⟩
  ·refine Tot.loop (fun (k:Nat) (s:Int)=>s=0) (fun k s hs=>?_) NN 0 _ rfl (by unfold NN; omega)
   subst hs
   unfold ZA
   rw [e]
   exact Tot.cond (fun hd=>by simp at hd) fun hd=>Tot.ret rfl
  ·refine Tot.loop (fun (k:Nat) (s:Int)=>(s=0∧k=2)∨(s=1∧k=1)∨(s=2∧k=0)) (fun k s hs=>?_) NN 2 _ (.inl ⟨rfl,rfl⟩) (by unfold NN; omega)
   unfold ZA
   rw [e]
   have x0:getI [a,b] 0=some a:=rfl
   have x1:getI [a,b] 1=some b:=rfl
   have w1:w64 (0+1)=1:=by decide
   have w2:w64 (1+1)=2:=by decide
   have w0:w64 (1-1)=0:=by decide
   rcases hs with ⟨rfl,rfl⟩ | ⟨rfl,rfl⟩ | ⟨rfl,rfl⟩
   ·refine Tot.cond (fun _=>?_) fun hd=>by simp at hd
    rw [x0,Option.bind_some,Zac,Option.bind_some,decide_eq_true g1,decide_eq_true (show a≤60 by omega),w1]
    exact Tot.cond (fun e=>by cases e) fun _=>Tot.cond (fun e=>by simp at e) fun _=>Tot.ret ⟨1,by omega,.inr (.inl ⟨rfl,rfl⟩)⟩
   ·refine Tot.cond (fun _=>?_) fun hd=>by simp at hd
    rw [x1,Option.bind_some,Zac,Option.bind_some,decide_eq_true (show 0≤b by omega),decide_eq_true g3,w2,w0,x0,Option.bind_some,Option.bind_some]
    exact Tot.cond (fun e=>by cases e) fun _=>Tot.cond (fun _=>Tot.cond (fun e=>by have:=of_decide_eq_true e; omega) fun _=>Tot.ret ⟨0,by omega,.inr (.inr ⟨rfl,rfl⟩)⟩) fun e=>by simp at e
   ·exact Tot.cond (fun hd=>by simp at hd) fun hd=>Tot.ret rfl
 obtain ⟨_,r0,rfl⟩:=e0
 obtain ⟨_,r1,rfl⟩:=e1
 unfold Zm
 rw [r0,Option.bind_some]
 simp only [Zu]
 rw [r1,Option.bind_some]
 simp only [Zu]
 have ho:(n.off.length:Int)≤10:=by rcases h.off with e | ⟨a,b,e,_⟩ <;> rw [e] <;> simp
 rw [decide_eq_true (show (n.legs.length:Int)≤20 by omega),decide_eq_true ho,Zac,decide_eq_true hch.1,decide_eq_true hch.2]
 rfl
theorem Zrq {n:Za} (h:NetD n) {skip:List Int} (hs:skip.length≤50):ZbL n skip=some ((⟨n,[],[],[],0,[],skip,0⟩:Ze),true):=by
 have hf:WFit (⟨n,[],[],[],0,[],skip,0⟩:Ze):=⟨h.fit,by simp,by simp,by simp,by simp,by simp only; omega,fun o ho=>by cases ho⟩
 have hv:Zcw (⟨n,[],[],[],0,[],skip,0⟩:Ze)=true:=by
  unfold Zcw Zet ZkV
  simp only [h.ok,Option.getD_some]
  simp [allI]
  omega
 unfold ZbL
 rw [Zh5 hf,Option.bind_some,Zev hf,hv]
 rfl
section
variable {n:Za} (hn:NetD n)
include hn
theorem Zpj {c:Zp} (h:ZaV c):Tot (Zb1 c n) fun r=>ZaV r.2:=by
 have hl:=hn.len
 unfold Zb1
 refine Tot.rho (Tot.bind (ZG h _) fun y1 h1=>Tot.rho (Tot.bind (ZG h1.2 10) fun y2 h2=>?_))
 obtain ⟨y,hy,_⟩:=ZcY (xs:=n.legs) (i:=y1.1) ⟨h1.1.1,h1.1.2.1 (by omega)⟩
 refine Tot.bind (ZkE hn.fit hy _) fun y3 _=>Tot.cond (fun _=>Tot.rho (Tot.bind (Zej h2.2 4) fun y4 h4=>Tot.cond (fun _=>Tot.ret h4) fun _=>Tot.ret h4)) fun _=>Tot.ret h2.2
theorem ZsI {c:Zp} (h:ZaV c) {w:Ze} (hw:w.network=n):Tot (ZaS c w) fun r=>ZaV r.2:=by
 unfold ZaS
 rw [hw]
 refine Tot.cond (fun hd=>Tot.rho (Tot.bind (Zej h 4) fun y1 h1=>Tot.cond (fun _=>Tot.drw (Tot.rho (Tot.bind (ZG h1 _) fun y2 h2=>Tot.get h2.1.1 (h2.1.2.1 (of_decide_eq_true hd)) fun x _ _=>Tot.ret h2.2))) fun _=>Tot.rho (Tot.bind (Zpj hn h1) fun y4 h4=>Tot.ret h4))) fun _=>Tot.rho (Tot.bind (Zpj hn h) fun y4 h4=>Tot.ret h4)
omit hn in
theorem ZmX:∀ (k:Nat) (w:Ze) (u:Int) (i:Nat) (o o':Zh),w.orders[i]?=some o→(runV k w u).orders[i]?=some o'→ZO o≤ZO o'
 | 0,w,u,i,o,o',h,h'=>by
  have h':w.orders[i]?=some o':=h'
  rw [h] at h'; obtain rfl:=Option.some.inj h'; exact Int.le_refl _
 | k+1,w,u,i,o,o',h,h'=>by
  unfold runV at h'
  split at h'
  ·rw [h] at h'; obtain rfl:=Option.some.inj h'; exact Int.le_refl _
  ·have h1:(Za6 w (ZcT w)).orders[i]?=some (ZfB w.network (ZcT w) o):=by
    show (w.orders.map _)[i]?=_
    rw [List.getElem?_map,h]; rfl
   exact Int.le_trans ZkU (ZmX k _ u i _ _ h1 h')
omit hn in
theorem ZuJ {w:Ze} (h:WOk w) {u:Int} (hu:w.now≤u) (hm:u≤100000) (hF:∀ o∈w.orders,FinE w.network o):∀ o∈(advV w u).orders,FinO w.network u o:=fun o' ho'=>by
 obtain ⟨a,b,_⟩:=Zt1 h hu hm
 obtain ⟨i,hi,rfl⟩:=List.getElem_of_mem ho'
 have hi':=List.getElem?_eq_getElem hi
 have hlt:i<w.orders.length:=by rw [← b.len]; exact hi
 have hio:=List.getElem?_eq_getElem hlt
 have hs:=b.ord i _ _ hio hi'
 have hc:=ZmX (Zf2 w) w u i _ _ hio hi'
 have hwy:=a.way hi'
 have hst:=a.state hi'
 have hwo:=Zd0 a.fit a.ok hi'
 have hsh:=Znd hwy
 have hg:=hwy.gone
 refine ⟨?_,fun h2=>?_,⟨hg.1,by omega⟩⟩
 ·rcases hF _ (List.getElem_mem hlt) with h | h
  ·refine .inl ?_
   have hcl:ZO (advV w u).orders[i]≤(advV w u).orders[i].way.length:=by
    unfold ZO
    split
    ·rcases hwo.cases with ⟨c,_⟩ | ⟨_,c⟩ | ⟨c,_⟩ <;> omega
    ·exact hg.2
   have:(advV w u).orders[i].way.length=w.orders[i].way.length:=by rw [hs.way]
   omega
  ·exact .inr (by rw [hs.way,hs.to_]; exact h)
 ·rcases hst.cases with ⟨c,_⟩ | ⟨_,_,_,t,c1,c2,_⟩ | ⟨c,_⟩
  ·omega
  ·rw [b.network] at c2; exact ⟨t,c1,c2⟩
  ·omega
theorem ZuK {w:Ze} (hw:WD n w) (u:Int):Tot (ZaB w u) (WD n):=by
 refine Tot.of (Zqn hw.fit u) ?_
 split
 ·rename_i h
  obtain ⟨a,b,_⟩:=Zt1 ⟨hw.fit,h.1⟩ h.2.1 h.2.2
  have hnet:=hw.net
  exact ⟨a.fit,b.network.trans hw.net,by rw [b.closed]; exact hw.closed,fun o ho=>by rw [← hnet]; exact ZuJ ⟨hw.fit,h.1⟩ h.2.1 h.2.2 (fun x hx=>by rw [hnet]; exact (hw.fin x hx).ends) o ho⟩
 ·exact hw
end
theorem WFit.set {w:Ze} (h:WFit w) {i:Nat} {x:Zh} {o:Zh} (ho:o∈w.orders) (hx:x.way=o.way):∀ y∈w.orders.set i x,y.way.length≤1048576:=fun y hy=>by
 rcases List.mem_or_eq_of_mem_set hy with hy | rfl
 ·exact h.way y hy
 ·rw [hx]; exact h.way o ho
structure PFit (p:Zi):Prop where
 to_:p.label.to_.size≤100
 from_:p.from_.size≤100
 sides:p.sides.length≤1000
structure OD (n:Za) (o:Zr):Prop where
 w:WD n o.world
 zones:Zgf o.zones
 rates:o.rates.length≤1048576
 pcts:o.percents.length≤1048576
 lines:o.lines.length≤1000000
 parcels:o.parcels.length≤1000000
 journal:o.journal.length≤1000000
 pfit:∀ p∈o.parcels,PFit p
 afit:∀ a∈o.journal,PFit a.parcel
theorem b60 {k:Nat} (h:k≤100):k≤B60:=by unfold B60; omega
theorem Zod {a b c:Nat} (h:a+b≤1048577000) (hc:c≤1024):Z9 (a+b) c=true:=by
 unfold Z9
 refine decide_eq_true ⟨by omega,?_⟩
 have:(a+b)*c≤1048577000*1024:=Nat.mul_le_mul h hc
 omega
theorem ZmL {zones:List Zbg} {rates:List Zai} {p:Zi} (hz:Zgf zones) (hr:rates.length≤1048576) (h:PFit p):Tot (ZbJ zones rates p) fun _=>True:=by
 obtain ⟨_,v,hv⟩:=ZtD hz hr (b60 h.to_) (b60 h.from_) (by have:=h.sides; unfold NN; omega)
 exact Tot.of hv trivial
theorem Zmk {a:YAct} (h:PFit a.parcel):Tot (Zaj a) fun _=>True:=by
 obtain ⟨b,_,hb⟩:=Zqm (b60 h.to_) (b60 h.from_) (by have:=h.sides; unfold NN; omega)
 exact Tot.of hb trivial
theorem Zf9 {p:Zi} (h:PFit p):Za4 p=some p:=by
 unfold Za4
 rw [Zjx (by have:=h.sides; omega)]
 rfl
theorem ZoT {α:Type} {xs:List α} {body:Int × List α→Option ((Int × List α) ⊕ List α)} (h1:∀ (i:Nat) x,xs[i]?=some x→body ((i:Int),xs.take i)=some (.inl (((i+1:Nat):Int),xs.take i++[x])))
 (h2:body ((xs.length:Int),xs)=some (.inr xs)) (hN:xs.length<NN):Zj body NN (0,[])=some xs:=by
 obtain ⟨r,e,hr⟩:=Tot.loop (body:=body) (P:=fun o=>o=xs) (fun k s=>∃ i:Nat,s=((i:Int),xs.take i)∧i+k=xs.length) (fun k s hs=>by
  obtain ⟨i,rfl,hk⟩:=hs
  by_cases hi:i<xs.length
  ·have hx:=List.getElem?_eq_getElem hi
   refine ⟨_,h1 i _ hx,k-1,by omega,i+1,?_,by omega⟩
   rw [List.take_add_one,hx]; rfl
  ·have:i=xs.length:=by omega
   subst this
   rw [List.take_length]
   exact ⟨_,h2,rfl⟩) NN xs.length (0,[]) ⟨0,rfl,by omega⟩ hN
 rw [e,hr]
section
variable {n:Za} {o:Zr} (h:OD n o)
include h
theorem ZoY:Za1 o=some o:=by
 have hp:=h.parcels
 have hj:=h.journal
 have e0:∀ y1 y2 y3,Zj (ZbQ o y1 y2 y3) NN (0,[])=some o.parcels:=fun y1 y2 y3=>by
  refine ZoT (fun i x hx=>?_) ?_ (by unfold NN; omega)
  ·have hlt:=(List.getElem?_eq_some_iff.1 hx).1
   unfold ZbQ
   simp only [decide_eq_true (show (i:Int)<o.parcels.length by omega),cond_true,Zx,hx,Option.bind_some,Zf9 (h.pfit x (List.mem_of_getElem? hx)),Z8 hlt (by omega)]
   rw [Zff (Zbh (by simp only [List.length_take,List.length_cons,List.length_nil]; omega) (by omega))]
   rfl
  ·unfold ZbQ
   simp
 have e1:∀ y1 y2 y3 o0,Zj (ZbR o y1 y2 y3 o0) NN (0,[])=some o.journal:=fun y1 y2 y3 o0=>by
  refine ZoT (fun i x hx=>?_) ?_ (by unfold NN; omega)
  ·have hlt:=(List.getElem?_eq_some_iff.1 hx).1
   unfold ZbR
   simp only [decide_eq_true (show (i:Int)<o.journal.length by omega),cond_true,Zx,hx,Option.bind_some,Zf9 (h.afit x (List.mem_of_getElem? hx)),Z8 hlt (by omega)]
   rw [Zff (Zod (by simp only [List.length_take,List.length_cons,List.length_nil]; omega) (by omega))]
   rfl
  ·unfold ZbR
   simp
 have hz:=h.zones.1
 have hr:=h.rates
 have hl:=h.lines
 unfold Za1
 show (Zam o.world).bind _=_
 rw [Zh5 h.w.fit,Option.bind_some,Zff (Zbh (by simp only [List.length_nil]; omega) (by omega)),Option.bind_some,Zff (Zbh (by simp only [List.length_nil]; omega) (by omega)),Option.bind_some,Zjx h.pcts,Option.bind_some,Zgv (by omega),Option.bind_some,e0,Option.bind_some,e1]
 rfl
theorem ZpC:Tot (Zbo o) fun b=>b=true→Zcw o.world=true∧o.parcels.length=o.world.orders.length∧o.lines.length≤200∧o.journal.length≤150:=by
 unfold Zbo
 simp only [Zev h.w.fit,ZlN h.zones,ZnX h.rates,Option.bind_some]
 refine Tot.cond (fun _=>Tot.ret fun h=>nomatch h) fun hw=>Tot.cond (fun _=>Tot.ret fun h=>nomatch h) fun _=>Tot.cond (fun _=>Tot.ret fun h=>nomatch h) fun _=>Tot.bind (Zlo h.pcts) fun _ _=>Tot.cond (fun _=>Tot.ret fun h=>nomatch h) fun _=>Tot.bind (ZfT _) fun b hb=>Tot.cond (fun _=>Tot.ret fun h=>nomatch h) fun hb'=>Tot.cond (fun _=>Tot.ret fun h=>nomatch h) fun hl=>Tot.cond (fun _=>Tot.ret fun h=>nomatch h) fun hj=>?_
 have hw':Zcw o.world=true:=by simpa using hw
 have hl':o.parcels.length=o.world.orders.length:=by
  have:(o.parcels.length:Int)=o.world.orders.length:=by simpa using hl
  omega
 have hb2:=hb (by simpa using hb')
 have hj':=of_decide_eq_false hj
 have hp:=h.parcels
 have hjn:=h.journal
 have hln:=h.lines
 refine Tot.mono (P:=fun _=>True) ?_ fun _ _ _=>⟨hw',hl',hb2,by omega⟩
 refine Tot.bind (P:=fun _=>True) (Tot.idx (fun s=>s) o.parcels.length (fun _=>True) (by omega) (fun s i hi hin _=>?_) 0 rfl trivial) fun r _=>?_
 ·unfold Zcf ZdU
  rw [show s=(i:Int) from hi]
  refine Tot.cond (fun hd=>?_) fun _=>Tot.ret (.inr ⟨_,rfl,trivial⟩)
  have hlt:i<o.parcels.length:=by have:=of_decide_eq_true hd; omega
  have hw:w64 ((i:Int)+1)=((i+1:Nat):Int):=by rw [Zn (by omega)]; omega
  simp only [getN hlt,getN (show i<o.world.orders.length by omega),Option.bind_some,hw]
  refine Tot.bind (P:=fun _=>True) (Tot.bind (ZmL h.zones h.rates (h.pfit _ (List.getElem_mem hlt))) fun v _=>Tot.cond (fun _=>Tot.cond (fun _=>Tot.cond (fun _=>Tot.cond (fun _=>Tot.cond (fun _=>Tot.bind (Zgd (by omega) _ _) fun _ _=>Tot.ret trivial) fun _=>Tot.ret trivial) fun _=>Tot.ret trivial) fun _=>Tot.ret trivial) fun _=>Tot.ret trivial) fun _=>Tot.ret trivial) fun b _=>Tot.cond (fun _=>Tot.ret (.inr ⟨_,rfl,trivial⟩)) fun _=>Tot.ret (.inl ⟨_,rfl,hlt,rfl,trivial⟩)
 cases r with
 | inr r=>exact Tot.ret trivial
 | inl r=>
  refine Tot.bind (P:=fun _=>True) (Tot.idx (fun s=>s) o.lines.length (fun _=>True) (by omega) (fun s i hi hin _=>?_) 0 rfl trivial) fun r _=>?_
  ·unfold Zcg
   rw [show s=(i:Int) from hi]
   refine Tot.cond (fun hd=>?_) fun _=>Tot.ret (.inr ⟨_,rfl,trivial⟩)
   have hlt:i<o.lines.length:=by have:=of_decide_eq_true hd; omega
   have hw:w64 ((i:Int)+1)=((i+1:Nat):Int):=by rw [Zn (by omega)]; omega
   simp only [getN hlt,Option.bind_some,hw]
   exact Tot.cond (fun _=>Tot.ret (.inr ⟨_,rfl,trivial⟩)) fun _=>Tot.cond (fun _=>Tot.ret (.inr ⟨_,rfl,trivial⟩)) fun _=>Tot.ret (.inl ⟨_,rfl,hlt,rfl,trivial⟩)
  cases r with
  | inr r=>exact Tot.ret trivial
  | inl r=>
   refine Tot.bind (P:=fun _=>True) (Tot.idx (fun s=>s) o.journal.length (fun _=>True) (by omega) (fun s i hi hin _=>?_) 0 rfl trivial) fun r _=>?_
   ·unfold Zch
    rw [show s=(i:Int) from hi]
    refine Tot.cond (fun hd=>?_) fun _=>Tot.ret (.inr ⟨_,rfl,trivial⟩)
    have hlt:i<o.journal.length:=by have:=of_decide_eq_true hd; omega
    have hw:w64 ((i:Int)+1)=((i+1:Nat):Int):=by rw [Zn (by omega)]; omega
    simp only [getN hlt,Option.bind_some,hw]
    exact Tot.bind (Zmk (h.afit _ (List.getElem_mem hlt))) fun _ _=>Tot.cond (fun _=>Tot.ret (.inr ⟨_,rfl,trivial⟩)) fun _=>Tot.ret (.inl ⟨_,rfl,hlt,rfl,trivial⟩)
   cases r with
   | inr r=>exact Tot.ret trivial
   | inl r=>exact Tot.ret trivial
end
structure OV (n:Za) (o:Zr):Prop extends OD n o where
 orders:o.world.orders.length≤30
 same:o.parcels.length=o.world.orders.length
 lines2:o.lines.length≤200
 journal2:o.journal.length≤150
section
variable {n:Za} (hf:ZbC n) (hn:n.legs.length≤20)
include hf hn
theorem ZtV {o:Zr} (h:OV n o) {p:Zi} (hp:PFit p):Tot (ZcG o p) fun r=>OD n r.2∧r.2.journal=o.journal:=by
 have h0:=h.toOD
 unfold ZcG
 refine Tot.bind (ZmL h.zones h.rates hp) fun v _=>Tot.cond (fun _=>Tot.ret ⟨h0,rfl⟩) fun _=>Tot.cond (fun _=>Tot.ret ⟨h0,rfl⟩) fun _=>Tot.drw (Tot.bind (Zpp hf hn h.w _ _ _ _) fun y2 h2=>Tot.cond (fun _=>Tot.ret ⟨h0,rfl⟩) fun _=>Tot.bind (Zpt (by have:=h.lines2; omega) _ _ _) fun y3 h3=>Tot.cond (fun _=>Tot.ret ⟨h0,rfl⟩) fun _=>?_)
 have a:=h.same
 have b:=h.orders
 have c:=h.lines2
 simp only [Zf9 hp,Option.bind_some]
 refine Tot.chk (Zbh (by simp only [List.length_cons,List.length_nil]; omega) (by omega)) (Tot.ret ⟨⟨h2,h.zones,h.rates,h.pcts,by simp only; omega,by simp only [List.length_append,List.length_cons,List.length_nil]; omega,h.journal,fun q hq=>?_,h.afit⟩,rfl⟩)
 rcases List.mem_append.1 hq with hq | hq
 ·exact h.pfit q hq
 ·rw [List.mem_singleton.1 hq]; exact hp
theorem Zmp {o:Zr} (h:OV n o) (a:YAct):Tot (Zbw o a) fun r=>OD n r.2∧r.2.journal=o.journal:=by
 have h0:=h.toOD
 have hs:=h.same
 have ho:=h.orders
 have hl:o.lines.length≤1048576:=by have:=h.lines2; omega
 have put:∀ l:List ZaF,l.length≤o.lines.length+1→OD n (⟨o.world,o.zones,o.rates,o.percents,o.parcels,l,o.journal⟩:Zr):=fun l hl2=>⟨h.w,h.zones,h.rates,h.pcts,by have:=h.lines2; simp only; omega,h.parcels,h.journal,h.pfit,h.afit⟩
 unfold Zbw
 simp only [Zac,Option.bind_some]
 refine Tot.cond (fun _=>Tot.ret ⟨h0,rfl⟩) fun hr=>Tot.bind (ZvJ hl _ _ _) fun y2 h2=>Tot.cond (fun _=>?_) fun _=>Tot.cond (fun _=>Tot.ret ⟨h0,rfl⟩) fun _=>Tot.ret ⟨put _ h2,rfl⟩
 simp only [Bool.not_eq_false',Bool.and_eq_true,decide_eq_true_eq] at hr
 have hw:w64 (a.order-1)=a.order-1:=Zn (by omega)
 rw [hw]
 exact Tot.get (by omega) (by omega) fun y3 _ _=>Tot.cond (fun _=>Tot.ret ⟨h0,rfl⟩) fun _=>Tot.bind (Zp0 hl _ _ _ h.pcts _) fun y4 h4=>Tot.cond (fun _=>Tot.ret ⟨h0,rfl⟩) fun _=>Tot.ret ⟨put _ h4,rfl⟩
theorem Zwx (hd:NetD n) {o:Zr} (h:OV n o) {a:YAct} (hp:PFit a.parcel):Tot (ZdE o a) fun r=>OD n r.2∧r.2.journal=o.journal:=by
 have h0:=h.toOD
 have putW:∀ w:Ze,WD n w→OD n (⟨w,o.zones,o.rates,o.percents,o.parcels,o.lines,o.journal⟩:Zr):=fun w hw=>⟨hw,h.zones,h.rates,h.pcts,h.lines,h.parcels,h.journal,h.pfit,h.afit⟩
 unfold ZdE
 have g:∀ {b:Bool} {x y:Option (Int × Zr)},(b=true→Tot x fun r=>OD n r.2∧r.2.journal=o.journal)→(b=false→Tot y fun r=>OD n r.2∧r.2.journal=o.journal)→Tot (cond b x y) fun r=>OD n r.2∧r.2.journal=o.journal:=fun h k=>Tot.cond h k
 have run:Tot (cond (decide (a.until_≤o.world.now)) (some (6,o)) ((drwL 8 []).bind fun _=>(ZaB o.world a.until_).bind fun y3=>some (0,(⟨y3,o.zones,o.rates,o.percents,o.parcels,o.lines,o.journal⟩:Zr)))) fun r:Int × Zr=>OD n r.2∧r.2.journal=o.journal:=
  Tot.cond (fun _=>Tot.ret ⟨h0,rfl⟩) fun _=>Tot.drw (Tot.bind (ZuK hd h.w a.until_) fun y hy=>Tot.ret ⟨putW _ hy,rfl⟩)
 have shut:Tot ((drwL 8 []).bind fun _=>(Za8 o.world a.trip).bind fun y4=>cond (!y4.2) (some (6,o)) (some (0,(⟨y4.1,o.zones,o.rates,o.percents,o.parcels,o.lines,o.journal⟩:Zr)))) fun r:Int × Zr=>OD n r.2∧r.2.journal=o.journal:=
  Tot.drw (Tot.bind (ZtP hf hn h.w a.trip) fun y hy=>Tot.cond (fun _=>Tot.ret ⟨h0,rfl⟩) fun _=>Tot.ret ⟨putW _ hy,rfl⟩)
 have retry:Tot ((Zaz o.world).bind fun y5=>cond (decide (y5.2=0)) (some (6,o)) (some (0,(⟨y5.1,o.zones,o.rates,o.percents,o.parcels,o.lines,o.journal⟩:Zr)))) fun r:Int × Zr=>OD n r.2∧r.2.journal=o.journal:=
  Tot.bind (Zr2 hf hn h.w) fun y hy=>Tot.cond (fun _=>Tot.ret ⟨h0,rfl⟩) fun _=>Tot.ret ⟨putW _ hy,rfl⟩
 exact g (fun _=>Tot.rho (Tot.bind (ZtV hf hn h hp) fun y hy=>Tot.ret hy)) fun _=>g (fun _=>g (fun _=>Tot.rho (Tot.bind (Zmp hf hn h a) fun y hy=>Tot.ret hy)) fun _=>g (fun _=>run) fun _=>g (fun _=>shut) fun _=>retry) fun _=>g (fun _=>Tot.rho (Tot.bind (Zmp hf hn h a) fun y hy=>Tot.ret hy)) fun _=>g (fun _=>run) fun _=>g (fun _=>shut) fun _=>retry
theorem ZqR (hd:NetD n) {o:Zr} (h:OD n o) {a:YAct} (hp:PFit a.parcel):Tot (Ze3 o a) fun r=>OD n r.1:=by
 unfold Ze3
 rw [ZoY h,Option.bind_some]
 refine Tot.bind (ZpC h) fun b hb=>Tot.cond (fun _=>Tot.ret h) fun hb'=>Tot.bind (Zmk hp) fun _ _=>Tot.cond (fun _=>Tot.ret h) fun _=>Tot.cond (fun _=>Tot.ret h) fun _=>?_
 obtain ⟨v,e,l,j⟩:=hb (by simpa using hb')
 have hok:WOk o.world:=⟨h.w.fit,v⟩
 refine Tot.rho (Tot.bind (Zwx hf hn hd ⟨h,hok.parts.2.1,e,l,j⟩ hp) fun y hy=>Tot.cond (fun _=>Tot.ret h) fun _=>?_)
 simp only [Zf9 hp,Option.bind_some]
 have hyj:=hy.2
 refine Tot.chk (Zod (by rw [hyj]; simp only [List.length_cons,List.length_nil]; omega) (by omega)) (Tot.ret ⟨hy.1.w,hy.1.zones,hy.1.rates,hy.1.pcts,hy.1.lines,hy.1.parcels,by simp only [List.length_append,List.length_cons,List.length_nil,hyj]; omega,hy.1.pfit,fun q hq=>?_⟩)
 rcases List.mem_append.1 hq with hq | hq
 ·exact hy.1.afit q hq
 ·rw [List.mem_singleton.1 hq]; exact hp
end
theorem ZpP {n:Za} (hd:NetD n) {p:ByteArray} (h:p∈Zf n):p.size≤100:=by
 have key:p∈ZdI n:=by unfold Zf at h; rw [Zgp] at h; simpa using h
 unfold ZdI at key
 obtain ⟨l,hl,hp⟩:=List.mem_flatMap.1 key
 simp only [List.mem_cons,List.not_mem_nil,or_false] at hp
 rcases hp with rfl | rfl
 ·have:=(Zfg _ (hd.leg l hl).from_).2; omega
 ·have:=(Zfg _ (hd.leg l hl).to_).2; omega
theorem Zrt {n:Za} (hn:NetD n) {c:Zp} (h:ZaV c):Tot (Zas c n) fun r=>r.1.size≤100∧ZaV r.2:=by
 have hl:=hn.len
 have hp:0<(Zf n).length:=by
  have:=(Zgw (n:=n) (List.getElem_mem (show 0<n.legs.length by omega))).1
  exact List.length_pos_of_mem this
 unfold Zas
 rw [(ZdN hn.fit).2,Option.bind_some]
 refine Tot.rho (Tot.bind (Zej h 9) fun y2 h2=>Tot.cond (fun _=>Tot.rho (Tot.bind (ZgE h2) fun y3 h3=>Tot.ret ⟨le_of_eq_of_le (Zfg _ h3.1).2 (by decide),h3.2⟩)) fun _=>Tot.rho (Tot.bind (ZG h2 _) fun y4 h4=>Tot.get h4.1.1 (h4.1.2.1 (by omega)) fun x hx _=>Tot.ret ⟨ZpP hn hx,h4.2⟩))
theorem ZrB {l:List Int} (h:l=[25,50,100]∨l=[10]∨l=[0,100]∨l=[0]∨l=[1,1,2,3,50,100]):ZQ l=some true∧l.length≤6:=by
 obtain ⟨k,hk⟩:∃ k,NN=k+1+1+1+1+1+1+1:=⟨1152921504606846969,by unfold NN; omega⟩
 have w0:w64 0=0:=Zn (by omega)
 have w1:w64 1=1:=Zn (by omega)
 have w2:w64 2=2:=Zn (by omega)
 have w3:w64 3=3:=Zn (by omega)
 have w4:w64 4=4:=Zn (by omega)
 have w5:w64 5=5:=Zn (by omega)
 have w6:w64 6=6:=Zn (by omega)
 unfold ZQ
 rw [hk]
 rcases h with rfl | rfl | rfl | rfl | rfl <;> exact ⟨by simp [Zj,Zcb,Zey,Zac,getI,w0,w1,w2,w3,w4,w5,w6,Zu],by simp⟩
theorem ZmF {c:Zp} (h:ZaV c):Tot (Zbj c) fun r=>(ZQ r.1=some true∧r.1.length≤6)∧ZaV r.2:=by
 unfold Zbj
 refine Tot.rho (Tot.bind (ZG h 5) fun y hy=>Tot.cond (fun _=>Tot.ret ⟨ZrB (by simp),hy.2⟩) fun h0=>Tot.cond (fun _=>Tot.ret ⟨ZrB (by simp),hy.2⟩) fun h1=>Tot.cond (fun _=>Tot.ret ⟨ZrB (by simp),hy.2⟩) fun h2=>Tot.cond (fun _=>Tot.ret ⟨ZrB (by simp),hy.2⟩) fun h3=>Tot.cond (fun _=>Tot.ret ⟨ZrB (by simp),hy.2⟩) fun h4=>?_)
 have:=of_decide_eq_false h0
 have:=of_decide_eq_false h1
 have:=of_decide_eq_false h2
 have:=of_decide_eq_false h3
 have:=of_decide_eq_false h4
 have:=hy.1.1
 have:=hy.1.2.1 (by omega)
 omega
theorem Zrf {c:Zp} (h:ZaV c):Tot (ZcH c) fun r=>r.1.to_.size≤100∧ZaV r.2:=by
 unfold ZcH
 have sz:∀ p∈Zhi,p.size≤100:=fun p hp=>by have:=(Zfg p hp).2; omega
 exact Tot.rho (Tot.bind (ZG h 3) fun y1 h1=>Tot.rho (Tot.bind (ZG h1.2 1000) fun y2 h2=>Tot.rho (Tot.bind (ZgE h2.2) fun y3 h3=>Tot.rho (Tot.bind (Zej h3.2 3) fun y4 h4=>Tot.cond (fun _=>Tot.rho (Tot.bind (Zfo h4 (by simp)) fun y5 h5=>Tot.ret ⟨sz _ h3.1,h5.2⟩)) fun _=>Tot.ret ⟨sz _ h3.1,h4⟩))))
theorem Zsk {c:Zp} (h:ZaV c):Tot (ZcJ c) fun r=>r.1.length≤3∧ZaV r.2:=by
 unfold ZcJ
 exact Tot.rho (Tot.bind (ZG h _) fun y1 h1=>Tot.rho (Tot.bind (ZG h1.2 _) fun y2 h2=>Tot.rho (Tot.bind (ZG h2.2 _) fun y3 h3=>Tot.ret ⟨by simp,h3.2⟩)))
theorem ZpM {c:Zp} (h:ZaV c):Tot (ZaC c) fun r=>PFit r.1∧ZaV r.2:=by
 unfold ZaC
 have sz:∀ p∈Zhi,p.size≤100:=fun p hp=>by have:=(Zfg p hp).2; omega
 have osl:(⟨#[79,83,76]⟩:ByteArray).size≤100:=by decide
 refine Tot.rho (Tot.bind (Zrf h) fun y1 h1=>Tot.rho (Tot.bind (ZgE h1.2) fun y2 h2=>Tot.rho (Tot.bind (ZG h2.2 _) fun y3 h3=>Tot.rho (Tot.bind (Zsk h3.2) fun y4 h4=>Tot.rho (Tot.bind (ZG h4.2 _) fun y5 h5=>?_)))))
 have hs:y4.1.length≤1000:=by omega
 exact Tot.cond (fun _=>Tot.rho (Tot.bind (Zej h5.2 3) fun y6 h6=>Tot.cond (fun _=>Tot.rho (Tot.bind (Zfo h6 (by simp)) fun y7 h7=>Tot.ret ⟨⟨h1.1,osl,hs⟩,h7.2⟩)) fun _=>Tot.ret ⟨⟨h1.1,osl,hs⟩,h6⟩)) fun _=>Tot.rho (Tot.bind (Zej h5.2 3) fun y6 h6=>Tot.cond (fun _=>Tot.rho (Tot.bind (Zfo h6 (by simp)) fun y7 h7=>Tot.ret ⟨⟨h1.1,sz _ h2.1,hs⟩,h7.2⟩)) fun _=>Tot.ret ⟨⟨h1.1,sz _ h2.1,hs⟩,h6⟩)
theorem ZlP {n:Za} (hn:NetD n) {c:Zp} (h:ZaV c) {o:Zr} (ho:OD n o):Tot (Zb0 c o) fun r=>PFit r.1.parcel∧ZaV r.2:=by
 have hw:=ho.w.net
 have osl:(⟨#[79,83,76]⟩:ByteArray).size≤100:=by decide
 have pz:PFit (⟨⟨0,0,⟨#[]⟩⟩,⟨#[]⟩,0,[],0⟩:Zi):=⟨by decide,by decide,by simp⟩
 have hl:o.lines.length≤1048576:=by have:=ho.lines; omega
 unfold Zb0
 rw [hw]
 refine Tot.rho (Tot.bind (ZG h 9) fun y1 h1=>?_)
 have take:Tot ((rhoM [0]).bind fun _=>(ZaC y1.2).bind fun y2=>(rhoM [0]).bind fun _=>(Zb y2.2 6000).bind fun y3=>(rhoM [0]).bind fun _=>(Zb y3.2 300).bind fun y4=>(rhoM [0]).bind fun _=>(Zb y4.2 200).bind fun y5=>(rhoM [0]).bind fun _=>(Zb y5.2 200).bind fun y6=>(rhoM [0]).bind fun _=>(Zas y6.2 n).bind fun y7=>(rhoM [0]).bind fun _=>(Zas y7.2 n).bind fun y8=>
  cond (decide (y7.1=y8.1)) (some ((⟨1,(⟨(⟨y2.1.label.service,y2.1.label.serial,y8.1⟩:Zw),⟨#[79,83,76]⟩,(w64 (200+y3.1)),[(w64 (100+y4.1)),(w64 (100+y5.1)),(w64 (50+y6.1))],y2.1.value⟩:Zi),0,0,0,(⟨0,0⟩:Zg)⟩:YAct),y8.2))
  (some ((⟨1,(⟨(⟨y2.1.label.service,y2.1.label.serial,y8.1⟩:Zw),y7.1,(w64 (200+y3.1)),[(w64 (100+y4.1)),(w64 (100+y5.1)),(w64 (50+y6.1))],y2.1.value⟩:Zi),0,0,0,(⟨0,0⟩:Zg)⟩:YAct),y8.2))) fun r:YAct × Zp=>PFit r.1.parcel∧ZaV r.2:=
  Tot.rho (Tot.bind (ZpM h1.2) fun y2 h2=>Tot.rho (Tot.bind (ZG h2.2 _) fun y3 h3=>Tot.rho (Tot.bind (ZG h3.2 _) fun y4 h4=>Tot.rho (Tot.bind (ZG h4.2 _) fun y5 h5=>Tot.rho (Tot.bind (ZG h5.2 _) fun y6 h6=>Tot.rho (Tot.bind (Zrt hn h6.2) fun y7 h7=>Tot.rho (Tot.bind (Zrt hn h7.2) fun y8 h8=>Tot.cond (fun _=>Tot.ret ⟨⟨h8.1,osl,by simp⟩,h8.2⟩) fun _=>Tot.ret ⟨⟨h8.1,h7.1,by simp⟩,h8.2⟩)))))))
 have g:∀ {b:Bool} {x y:Option (YAct × Zp)},(Tot x fun r=>PFit r.1.parcel∧ZaV r.2)→(Tot y fun r=>PFit r.1.parcel∧ZaV r.2)→Tot (cond b x y) fun r=>PFit r.1.parcel∧ZaV r.2:=fun h k=>Tot.cond (fun _=>h) fun _=>k
 have rest:Tot (cond (decide (y1.1=3))
      ((rhoM [0]).bind fun _=>(Zb y1.2 (w64 ((o.parcels.length:Int)+1))).bind fun y9=>(ZaT o.lines (w64 (1+y9.1))).bind fun y10=>(rhoM [0,3]).bind fun _=>(ZL y9.2 ([0,0,0,100])).bind fun y11=>(Zds 1 (w64 (y10-y11.1))).bind fun y12=>some ((⟨2,(⟨(⟨0,0,⟨#[]⟩⟩:Zw),⟨#[]⟩,0,[],0⟩:Zi),(w64 (1+y9.1)),y12,0,(⟨0,0⟩:Zg)⟩:YAct),y11.2.1))
      (cond (decide (y1.1=4)) ((rhoM [0]).bind fun _=>(ZaS y1.2 o.world).bind fun y13=>some ((⟨4,(⟨(⟨0,0,⟨#[]⟩⟩:Zw),⟨#[]⟩,0,[],0⟩:Zi),0,0,0,y13.1⟩:YAct),y13.2))
      (cond (decide (y1.1=5)) (some ((⟨5,(⟨(⟨0,0,⟨#[]⟩⟩:Zw),⟨#[]⟩,0,[],0⟩:Zi),0,0,0,(⟨0,0⟩:Zg)⟩:YAct),y1.2))
      (cond (decide (y1.1=6)) ((rhoM [0]).bind fun _=>(Zb y1.2 (w64 ((o.parcels.length:Int)+1))).bind fun y14=>some ((⟨6,(⟨(⟨0,0,⟨#[]⟩⟩:Zw),⟨#[]⟩,0,[],0⟩:Zi),(w64 (1+y14.1)),0,0,(⟨0,0⟩:Zg)⟩:YAct),y14.2))
      ((drwL 8 [4]).bind fun _=>(rhoM [0]).bind fun _=>(Zb y1.2 90).bind fun y15=>some ((⟨3,(⟨(⟨0,0,⟨#[]⟩⟩:Zw),⟨#[]⟩,0,[],0⟩:Zi),0,0,(w64 (o.world.now+(w64 (30*y15.1)))),(⟨0,0⟩:Zg)⟩:YAct),y15.2)))))) fun r:YAct × Zp=>PFit r.1.parcel∧ZaV r.2:=
  g (Tot.rho (Tot.bind (ZG h1.2 _) fun y9 h9=>Tot.bind (Zlj hl _) fun y10 _=>Tot.rho (Tot.bind (Zfo h9.2 (by simp)) fun y11 h11=>Tot.bind (ZnG _ _) fun y12 _=>Tot.ret ⟨pz,h11.2⟩)))
   (g (Tot.rho (Tot.bind (ZsI hn h1.2 hw) fun y13 h13=>Tot.ret ⟨pz,h13⟩)) (g (Tot.ret ⟨pz,h1.2⟩) (g (Tot.rho (Tot.bind (ZG h1.2 _) fun y14 h14=>Tot.ret ⟨pz,h14.2⟩)) (Tot.drw (Tot.rho (Tot.bind (ZG h1.2 _) fun y15 h15=>Tot.ret ⟨pz,h15.2⟩))))))
 exact g (g take rest) (g (g take rest) (g take rest))
theorem Zpr {n:Za} (hn:NetD n) {c:Zp} (h:ZaV c) {o:Zr} (ho:OD n o):Tot (ZbU c o) fun r=>PFit r.1.parcel:=by
 unfold ZbU
 exact Tot.rho (Tot.bind (ZlP hn h ho) fun y1 h1=>Tot.rho (Tot.bind (ZG h1.2 12) fun y2 h2=>Tot.cond (fun _=>Tot.rho (Tot.bind (ZG h2.2 9) fun y3 _=>Tot.ret h1.1)) fun _=>Tot.cond (fun _=>Tot.rho (Tot.bind (Zfo h2.2 (by simp)) fun y3 _=>Tot.ret h1.1)) fun _=>Tot.cond (fun _=>Tot.rho (Tot.bind (Zfo h2.2 (by simp)) fun y3 _=>Tot.ret h1.1)) fun _=>Tot.cond (fun _=>Tot.rho (Tot.bind (Zfo h2.2 (by simp)) fun y3 _=>Tot.ret h1.1)) fun _=>Tot.cond (fun _=>Tot.rho (Tot.bind (Zfo h2.2 (by simp)) fun y3 h3=>Tot.rho (Tot.bind (Zfo h3.2 (by simp)) fun y4 _=>Tot.ret h1.1))) fun _=>Tot.cond (fun _=>Tot.ret ⟨h1.1.to_,h1.1.from_,h1.1.sides⟩) fun _=>Tot.ret h1.1))
abbrev ZZ:List Zbg:=[(⟨⟨#[65,65,65]⟩,⟨#[67,90,90]⟩⟩:Zbg),(⟨⟨#[68,65,65]⟩,⟨#[90,90,90]⟩⟩:Zbg)]
theorem ZuE:Zgf ZZ:=⟨by simp,fun z hz=>by
 simp only [List.mem_cons,List.not_mem_nil,or_false] at hz
 rcases hz with rfl | rfl <;> exact ⟨b60 (by decide),b60 (by decide)⟩⟩
theorem ZxT:Zj8 ZZ=true:=by decide +kernel
def Zwd (i:Nat) (r:Zai):Prop:=r.zone=((i / 6:Nat):Int)∧r.service=((1+i % 6 / 2:Nat):Int)∧(i % 2=0→r.limit=5000∧500≤r.price∧r.price≤900)∧(i % 2=1→r.limit=40000∧1000≤r.price∧r.price≤1800)
def Zg4 (l:List Zai):Prop:=∀ (i:Nat) r,l[i]?=some r→Zwd i r
theorem Zg4.snoc {l:List Zai} {r:Zai} (h:Zg4 l) (hr:Zwd l.length r):Zg4 (l++[r]):=fun i x hx=>by
 rw [List.getElem?_append] at hx
 split at hx
 ·exact h i x hx
 ·rename_i hn
  have hi:i-l.length=0:=by
   have:=(List.getElem?_eq_some_iff.1 hx).1
   simp only [List.length_cons,List.length_nil] at this
   omega
  rw [hi] at hx
  have:i=l.length:=by omega
  subst this
  simp at hx
  rw [← hx]; exact hr
theorem ZtF {l:List Zai} (h:Zg4 l) (hl:l.length=12):ZjS l 2=true:=by
 unfold ZjS
 rw [Bool.and_eq_true]
 refine ⟨Zcx.2 fun j x hx=>?_,decide_eq_true (by omega)⟩
 have hj:=(List.getElem?_eq_some_iff.1 hx).1
 rw [hl] at hj
 obtain ⟨a,b,c,d⟩:=h j x hx
 unfold ZmS
 have z0:x.zone=0∨x.zone=1:=by omega
 have hs:1≤x.service∧x.service≤3:=by omega
 have hlim:1≤x.limit∧x.limit≤1000000000:=by omega
 have hp:0≤x.price∧x.price≤100000:=by omega
 have hprev:(decide (0+j=0) || ZvW l[0+j-1]? x)=true:=by
  by_cases h0:j=0
  ·subst h0; rfl
  ·obtain ⟨y,hy⟩:∃ y,l[j-1]?=some y:=⟨_,List.getElem?_eq_getElem (by omega)⟩
   obtain ⟨a',b',c',d'⟩:=h (j-1) y hy
   rw [show 0+j-1=j-1 by omega,hy,ZnY]
   unfold Zg5
   simp only [Bool.or_eq_true,Bool.and_eq_true,decide_eq_true_eq]
   omega
 simp only [Bool.and_eq_true,Bool.not_eq_true',decide_eq_true_eq,decide_eq_false_iff_not]
 exact ⟨by omega,by omega,hs,hlim,hp,hprev⟩
section
variable {n:Za} (hd:NetD n) {skip:List Int} (hs:skip.length≤50)
include hd hs
theorem Zrp:WFit (⟨n,[],[],[],0,[],skip,0⟩:Ze):=⟨hd.fit,by simp,by simp,by simp,by simp,by simp only; omega,fun o ho=>by cases ho⟩
theorem ZxE:Zcw (⟨n,[],[],[],0,[],skip,0⟩:Ze)=true:=by
 unfold Zcw Zet ZkV
 simp only [hd.ok,Option.getD_some]
 simp [allI]
 omega
theorem Zut {rates:List Zai} (hl:rates.length=12) {p:List Int} (hp:p.length≤6):OD n (⟨⟨n,[],[],[],0,[],skip,0⟩,ZZ,rates,p,[],[],[]⟩:Zr):=
 ⟨⟨Zrp hd hs,rfl,by simp,fun o ho=>by cases ho⟩,ZuE,by simp only; omega,by simp only; omega,by simp,by simp,by simp,fun p hp=>(by cases hp),fun a ha=>(by cases ha)⟩
theorem ZwP {rates:List Zai} (hr:Zg4 rates) (hl:rates.length=12) {p:List Int} (hp:ZQ p=some true∧p.length≤6):
 Zbo (⟨⟨n,[],[],[],0,[],skip,0⟩,ZZ,rates,p,[],[],[]⟩:Zr)=some true:=by
 have e0:Zae []=some true:=by
  unfold Zae
  obtain ⟨k,hk⟩:∃ k,NN=k+1:=⟨1152921504606846975,by unfold NN; omega⟩
  rw [hk]
  simp [Zj,Zdx,Zu]
 have b0:∀ o:Zr,o.parcels=[]→Zj (Zcf o) NN 0=some (.inl ()):=fun o h=>by
  obtain ⟨k,hk⟩:∃ k,NN=k+1:=⟨1152921504606846975,by unfold NN; omega⟩
  rw [hk]; simp [Zj,Zcf,h]
 have b1:∀ o:Zr,o.lines=[]→Zj (Zcg o) NN 0=some (.inl ()):=fun o h=>by
  obtain ⟨k,hk⟩:∃ k,NN=k+1:=⟨1152921504606846975,by unfold NN; omega⟩
  rw [hk]; simp [Zj,Zcg,h]
 have b2:∀ o:Zr,o.journal=[]→Zj (Zch o) NN 0=some (.inl ()):=fun o h=>by
  obtain ⟨k,hk⟩:∃ k,NN=k+1:=⟨1152921504606846975,by unfold NN; omega⟩
  rw [hk]; simp [Zj,Zch,h]
 have hz:Zbm ZZ=some true:=by rw [ZlN ZuE,ZxT]
 have hra:ZbV rates 2=some true:=by rw [ZnX (by omega),ZtF hr hl]
 unfold Zbo
 rw [Zev (Zrp hd hs),ZxE hd hs,Option.bind_some,hz,Option.bind_some,show ((ZZ.length:Nat):Int)=2 from rfl,hra,Option.bind_some,hp.1,Option.bind_some,e0,Option.bind_some,b0 _ rfl,b1 _ rfl,b2 _ rfl]
 rfl
theorem ZpA {rates:List Zai} (hr:Zg4 rates) (hl:rates.length=12) {p:List Int} (hp:ZQ p=some true∧p.length≤6):
 Zdj n skip ZZ rates p=some ((⟨⟨n,[],[],[],0,[],skip,0⟩,ZZ,rates,p,[],[],[]⟩:Zr),true):=by
 have ho:=Zut hd hs hl hp.2
 unfold Zdj
 rw [Zrq hd hs,Option.bind_some]
 show (Za1 _).bind _=_
 rw [ZoY ho,Option.bind_some,ZwP hd hs hr hl hp]
 rfl
end
theorem Zro {c:Zp} (h:ZaV c):Tot (Zdg c) fun r=>(∃ n,NetD n∧OD n r.1)∧ZaV r.2:=by
 unfold Zdg
 refine Tot.rho (Tot.bind (Zvt h) fun y1 h1=>?_)
 obtain ⟨h1,hc1⟩:=h1
 refine Tot.bind (P:=fun o=>ZaV ⟨o.1,o.2.1,o.2.2.1⟩∧NetD ⟨o.2.2.2,y1.1.off,y1.1.change⟩) ?_ fun o0 ho0=>?_
 ·have hlen:=h1.len
  refine Tot.loop (fun (k:Nat) (s:Int × (List YB8) × Int × Int × (List YLeg))=>∃ i:Nat,s.1=(i:Int)∧i+k=s.2.2.2.2.length∧ZaV ⟨s.2.1,s.2.2.1,s.2.2.2.1⟩∧NetD ⟨s.2.2.2.2,y1.1.off,y1.1.change⟩) (fun k s hs=>?_) NN y1.1.legs.length _ ⟨0,rfl,by simp,hc1,h1⟩ (by unfold NN; omega)
  obtain ⟨i,hi,hk,hc,hd⟩:=hs
  have hl2:=hd.len
  simp only at hl2
  unfold Zeo
  rw [hi]
  refine Tot.cond (fun hlt=>?_) fun _=>Tot.ret ⟨hc,hd⟩
  have hlt:=of_decide_eq_true hlt
  have hwi:w64 ((i:Int)+1)=((i+1:Nat):Int):=by rw [Zn (by omega)]; omega
  rw [hwi]
  refine Tot.rho (Tot.bind (Zej hc 3) fun y2 h2=>Tot.cond (fun _=>Tot.drw (Tot.rho (Tot.bind (ZG h2 20) fun y3 h3=>?_))) fun _=>Tot.ret ⟨k-1,by omega,i+1,rfl,by simp only; omega,h2,hd⟩)
  refine Tot.get (by omega) hlt fun x hx _=>Tot.ret ⟨k-1,by omega,i+1,rfl,by simp only [List.length_set]; omega,h3.2,?_⟩
  have b3:=h3.1.2.1 (by omega)
  have b0:=h3.1.1
  have hr:w64 (3000+w64 (1000*y3.1))=3000+1000*y3.1:=by rw [Zn (n:=1000*y3.1) (by omega),Zn (by omega)]
  refine ⟨by simp only [List.length_set]; exact hl2,fun l hl=>?_,hd.off,hd.change⟩
  rcases List.mem_or_eq_of_mem_set hl with hl | rfl
  ·exact hd.leg l hl
  ·obtain ⟨a1,a2,a3,a4,a5,a6,a7⟩:=hd.leg x hx
   exact ⟨a1,a2,a3,a4,a5,a6,by simp only [hr]; omega⟩
 refine Tot.rho (Tot.bind (ZG ho0.1 5) fun y5 h5=>?_)
 have b5:=h5.1.2.1 (by omega)
 have b5':=h5.1.1
 refine Tot.bind (P:=fun o=>ZaV ⟨o.1,o.2.1,o.2.2.1⟩∧o.2.2.2.length≤50) ?_ fun o1 ho1=>?_
 ·refine Tot.loop (fun (k:Nat) (s:Int × (List YB8) × Int × Int × (List Int))=>s.1=(k:Int)∧s.2.2.2.2.length+k≤5∧ZaV ⟨s.2.1,s.2.2.1,s.2.2.2.1⟩) (fun k s hs=>?_) NN y5.1.toNat _ ⟨by simp only; omega,by simp only [List.length_nil]; omega,h5.2⟩ (by unfold NN; omega)
  obtain ⟨hk,hl,hc⟩:=hs
  unfold Zep
  refine Tot.cond (fun hd=>?_) fun _=>Tot.ret ⟨hc,by simp only; omega⟩
  have hd:=of_decide_eq_true hd
  have hwi:w64 (s.1-1)=((k-1:Nat):Int):=by rw [Zn (by omega)]; omega
  exact Tot.rho (Tot.bind (ZG hc 20) fun y6 h6=>Tot.chk (Zbh (by simp only [List.length_cons,List.length_nil]; omega) (by omega)) (Tot.ret ⟨k-1,by omega,hwi,by simp only [List.length_append,List.length_cons,List.length_nil]; omega,h6.2⟩))
 refine Tot.bind (P:=fun o=>ZaV ⟨o.1,o.2.1,o.2.2.1⟩∧Zg4 o.2.2.2∧o.2.2.2.length=12) ?_ fun o2 ho2=>?_
 ·refine Tot.loop (fun (k:Nat) (s:Int × (List YB8) × Int × Int × (List Zai))=>∃ z:Nat,s.1=(z:Int)∧z+k=2∧ZaV ⟨s.2.1,s.2.2.1,s.2.2.2.1⟩∧Zg4 s.2.2.2.2∧s.2.2.2.2.length=6*z) (fun k s hs=>?_) NN 2 _ ⟨0,rfl,rfl,ho1.1,fun i r hr=>(by simp at hr),rfl⟩ (by unfold NN; omega)
  obtain ⟨z,hz,hk,hc,hR,hL⟩:=hs
  unfold Zeq
  rw [hz]
  refine Tot.cond (fun hlt=>?_) fun hge=>Tot.ret ⟨hc,hR,by have:=of_decide_eq_false hge; rw [hL]; omega⟩
  have hlt:=of_decide_eq_true hlt
  have hwz:w64 ((z:Int)+1)=((z+1:Nat):Int):=by rw [Zn (by omega)]; omega
  rw [hwz]
  refine Tot.bind (P:=fun o=>ZaV ⟨o.1,o.2.1,o.2.2.1⟩∧Zg4 o.2.2.2∧o.2.2.2.length=6*(z+1)) ?_ fun o3 ho3=>Tot.ret ⟨k-1,by omega,z+1,rfl,by omega,ho3.1,ho3.2.1,ho3.2.2⟩
  refine Tot.loop (fun (k:Nat) (s3:Int × (List YB8) × Int × Int × (List Zai))=>∃ t:Nat,s3.1=((t+1:Nat):Int)∧t+k=3∧ZaV ⟨s3.2.1,s3.2.2.1,s3.2.2.2.1⟩∧Zg4 s3.2.2.2.2∧s3.2.2.2.2.length=6*z+2*t) (fun k s3 hs3=>?_) NN 3 _ ⟨0,rfl,rfl,hc,hR,hL⟩ (by unfold NN; omega)
  obtain ⟨t,ht,hk3,hc3,hR3,hL3⟩:=hs3
  unfold Zer
  rw [ht]
  refine Tot.cond (fun hle=>?_) fun hgt=>Tot.ret ⟨hc3,hR3,by have:=of_decide_eq_false hgt; rw [hL3]; omega⟩
  have hle:=of_decide_eq_true hle
  have hwt:w64 (((t+1:Nat):Int)+1)=((t+1+1:Nat):Int):=by rw [Zn (by omega)]; omega
  rw [hwt]
  refine Tot.rho (Tot.bind (ZG hc3 5) fun y7 h7=>Tot.chk (Zbh (by simp only [List.length_cons,List.length_nil]; omega) (by omega)) (Tot.rho (Tot.bind (ZG h7.2 9) fun y8 h8=>Tot.chk (Zbh (by simp only [List.length_append,List.length_cons,List.length_nil]; omega) (by omega)) (Tot.ret ⟨k-1,by omega,t+1,rfl,by omega,h8.2,?_,by simp only [List.length_append,List.length_cons,List.length_nil]; omega⟩))))
  have b7:=h7.1.2.1 (by omega)
  have b7':=h7.1.1
  have b8:=h8.1.2.1 (by omega)
  have b8':=h8.1.1
  have e7:w64 (500+w64 (100*y7.1))=500+100*y7.1:=by rw [Zn (n:=100*y7.1) (by omega),Zn (by omega)]
  have e8:w64 (1000+w64 (100*y8.1))=1000+100*y8.1:=by rw [Zn (n:=100*y8.1) (by omega),Zn (by omega)]
  refine (hR3.snoc ?_).snoc ?_
  ·rw [hL3]
   refine ⟨?_,?_,fun _=>⟨rfl,?_,?_⟩,fun _=>?_⟩ <;> simp only [e7,hz] <;> omega
  ·simp only [List.length_append,List.length_cons,List.length_nil,hL3]
   refine ⟨?_,?_,fun _=>?_,fun _=>⟨rfl,?_,?_⟩⟩ <;> simp only [e8,hz] <;> omega
 refine Tot.frz (Tot.drw (Tot.rho (Tot.bind (ZmF ho2.1) fun y9 h9=>?_)))
 rw [ZpA ho0.2 ho1.2 ho2.2.1 ho2.2.2 h9.1,Option.bind_some]
 exact Tot.ret ⟨⟨_,ho0.2,Zut ho0.2 ho1.2 ho2.2.2 h9.1.2⟩,h9.2⟩
theorem Zpv {c:Zp} (h:ZaV c) (most:Int) (hm:most≤1000):Tot (ZcF c most) fun r=>(∃ n,NetD n∧OD n r.1)∧ZaV r.2:=by
 unfold ZcF
 refine Tot.rho (Tot.bind (Zro h) fun y1 h1=>Tot.rho (Tot.bind (ZG h1.2 most) fun y2 h2=>?_))
 obtain ⟨⟨n,hn,ho⟩,hc⟩:=h1
 refine Tot.bind (P:=fun o=>OD n (⟨(⟨(⟨o.2.2.2.1,o.2.2.2.2.1,o.2.2.2.2.2.1⟩:Za),o.2.2.2.2.2.2.1,o.2.2.2.2.2.2.2.1,o.2.2.2.2.2.2.2.2.1,o.2.2.2.2.2.2.2.2.2.1,o.2.2.2.2.2.2.2.2.2.2.1,o.2.2.2.2.2.2.2.2.2.2.2.1,o.2.2.2.2.2.2.2.2.2.2.2.2.1⟩:Ze),o.2.2.2.2.2.2.2.2.2.2.2.2.2.1,o.2.2.2.2.2.2.2.2.2.2.2.2.2.2.1,o.2.2.2.2.2.2.2.2.2.2.2.2.2.2.2.1,o.2.2.2.2.2.2.2.2.2.2.2.2.2.2.2.2.1,o.2.2.2.2.2.2.2.2.2.2.2.2.2.2.2.2.2.1,o.2.2.2.2.2.2.2.2.2.2.2.2.2.2.2.2.2.2⟩:Zr)∧ZaV ⟨o.1,o.2.1,o.2.2.1⟩) ?_ fun o0 ho0=>Tot.ret ⟨⟨n,hn,ho0.1⟩,ho0.2⟩
 have b2:=h2.1.1
 have b2':=h2.1.2.2
 have b2'':=h2.1.2.1
 refine Tot.loop (fun (k:Nat) (s:Int × (List YB8) × Int × Int × (List YLeg) × (List Int) × Int × (List Zh) × (List Zc) × (List Zg) × Int × (List ZU) × (List Int) × Int × (List Zbg) × (List Zai) × (List Int) × (List Zi) × (List ZaF) × (List YAct))=>(s.1=(k:Int)∧k≤1000)∧ZaV ⟨s.2.1,s.2.2.1,s.2.2.2.1⟩∧OD n (⟨(⟨(⟨s.2.2.2.2.1,s.2.2.2.2.2.1,s.2.2.2.2.2.2.1⟩:Za),s.2.2.2.2.2.2.2.1,s.2.2.2.2.2.2.2.2.1,s.2.2.2.2.2.2.2.2.2.1,s.2.2.2.2.2.2.2.2.2.2.1,s.2.2.2.2.2.2.2.2.2.2.2.1,s.2.2.2.2.2.2.2.2.2.2.2.2.1,s.2.2.2.2.2.2.2.2.2.2.2.2.2.1⟩:Ze),s.2.2.2.2.2.2.2.2.2.2.2.2.2.2.1,s.2.2.2.2.2.2.2.2.2.2.2.2.2.2.2.1,s.2.2.2.2.2.2.2.2.2.2.2.2.2.2.2.2.1,s.2.2.2.2.2.2.2.2.2.2.2.2.2.2.2.2.2.1,s.2.2.2.2.2.2.2.2.2.2.2.2.2.2.2.2.2.2.1,s.2.2.2.2.2.2.2.2.2.2.2.2.2.2.2.2.2.2.2⟩:Zr)) (fun k s hs=>?_) NN y2.1.toNat _ ⟨⟨by simp only; omega,by omega⟩,h2.2,ho⟩ (by unfold NN; omega)
 obtain ⟨⟨hk,hk2⟩,hc,hO⟩:=hs
 unfold Zd4
 refine Tot.cond (fun hd=>?_) fun _=>Tot.ret ⟨hO,hc⟩
 have hd:=of_decide_eq_true hd
 have hw:w64 (s.1-1)=((k-1:Nat):Int):=by rw [Zn (by omega)]; omega
 exact Tot.drw (Tot.rho (Tot.bind (ZlP hn hc hO) fun y3 h3=>Tot.bind (ZqR hn.fit (by have:=hn.len; omega) hn hO h3.1) fun y4 h4=>Tot.ret ⟨k-1,by omega,⟨hw,by omega⟩,h3.2,h4⟩))
theorem Zns {code:List YB8} (hl:code.length≤4096) (hb:∀ x∈code,0≤x.v∧x.v≤255):Tot (ZbF code) fun a=>PFit a.parcel:=by
 unfold ZbF Zeg
 refine Tot.bind (Tot.bind (Zvu hl hb) fun y1 h1=>Tot.rho (Tot.bind (Zpv h1 4 (by omega)) fun y2 h2=>?_)) fun r h=>Tot.ret h
 obtain ⟨⟨n,hn,ho⟩,hc⟩:=h2
 exact Tot.rho (Tot.bind (Zpr hn hc ho) fun y3 h3=>Tot.ret h3)
end Go.Proofs.YtkfbakhnpfmfmaaGreatDoor
