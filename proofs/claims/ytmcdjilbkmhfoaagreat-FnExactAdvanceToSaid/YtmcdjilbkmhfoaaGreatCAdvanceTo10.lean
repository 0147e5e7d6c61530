/- A part of the proof of the statement in the last file of this claim: texts on the language of the program and on its functions. No condition. -/
import Derived.Test.YtmcdjilbkmhfoaaGreatCAdvanceTo9
import Derived.Test.YtmcdjilbkmhfoaaGreatCAdvanceTo5
import Derived.Test.YtmcdjilbkmhfoaaGreatCAdvanceTo8
import Derived.Test.YtmcdjilbkmhfoaaGreatCAdvanceTo7
import Derived.Test.YtmcdjilbkmhfoaaGreatCAdvanceTo6
namespace Go.Proofs.YtmcdjilbkmhfoaaGreat
set_option maxRecDepth 10000
open Go.RowKit
set_option linter.unusedVariables false
set_option linter.unusedSimpArgs false
set_option linter.unusedSectionVars false
theorem Zr2:@Zf8=@ZdX:=rfl
def ZbK (w:YWorld) (s:YScan):YWorld:={ w with scans:=(ZeI w.skip (w.scans,w.made) s).1,made:=(ZeI w.skip (w.scans,w.made) s).2 }
structure ZfX (w:YWorld):Prop where
 skip:w.skip.length≤1048576
 len:w.scans.length≤200
 made:0≤w.made∧w.made≤1000000000
theorem ZcC {a b c:Nat} (h:a+b≤1048576) (hc:c≤1024):chk (appOk (a+b) c)=some ():=by
 refine Zjh ?_
 unfold appOk
 refine decide_eq_true ⟨by omega,?_⟩
 have:(a+b)*c≤1048576*1024:=Nat.mul_le_mul h hc
 omega
theorem Zwl {α:Type} {c:Prop} [Decidable c] {l:List α} {s:α} (h:c→l.length<200) (h2:l.length≤200):(if c then l++[s] else l).length≤200:=by
 by_cases hc:c
 ·have:=h hc; rw [if_pos hc]; simp; omega
 ·rw [if_neg hc]; exact h2
theorem ZhX {w:YWorld} (h:ZfX w) (s:YScan):ZfX (ZbK w s):=by
 obtain ⟨h1,h2,h3⟩:=h
 unfold ZbK ZeI
 refine ⟨h1,?_,?_⟩
 ·exact Zwl (fun h=>h.2) h2
 ·simp only
  split <;> omega
theorem ZpT {w:YWorld} (h:ZfX w) (s:YScan):Za1 w s=some (ZbK w s):=by
 obtain ⟨h1,h2,h3⟩:=h
 have hw:w64 (w.made+1)=w.made+1:=Zo (by omega)
 have hm:(if 1000000000<w.made+1 then 1000000000 else w.made+1)=(if w.made<1000000000 then w.made+1 else w.made):=by split <;> split <;> omega
 have ha:=ZcC (a:=w.scans.length) (b:=1) (c:=56) (by omega) (by omega)
 unfold Za1 ZbK ZeI
 rw [hw,hm,Zr2,Zou h1]
 simp only [Option.bind_some,List.length_cons,List.length_nil,Nat.zero_add,ha]
 cases hb:w.skip.any fun y=>decide (y=if w.made<1000000000 then w.made+1 else w.made) with
 | true=>simp
 | false=>
  by_cases hl:w.scans.length<200
  ·rw [decide_eq_true (show (w.scans.length:Int)<200 by omega)]; simp [hl]
  ·rw [decide_eq_false (show ¬ (w.scans.length:Int)<200 by omega)]; simp [hl]
theorem ZpU {w:YWorld} (h:ZfX w) (s:YScan):Zbo w s=some (ZbK w s):=by
 obtain ⟨h1,h2,h3⟩:=h
 have hw:w64 (w.made+1)=w.made+1:=Zo (by omega)
 have ha:=ZcC (a:=w.scans.length) (b:=1) (c:=56) (by omega) (by omega)
 unfold Zbo ZbK ZeI
 rw [hw]
 simp only [Zou h1,Option.bind_some,List.length_cons,List.length_nil,Nat.zero_add,ha]
 by_cases hm:w.made<1000000000
 ·rw [decide_eq_true hm,cond_true]
  simp only [if_pos hm]
  cases hb:w.skip.any fun y=>decide (y=w.made+1) with
  | true=>simp
  | false=>
   by_cases hl:w.scans.length<200
   ·rw [decide_eq_true (show (w.scans.length:Int)<200 by omega)]; simp [hl]
   ·rw [decide_eq_false (show ¬ (w.scans.length:Int)<200 by omega)]; simp [hl]
 ·rw [decide_eq_false hm,cond_false]
  simp only [if_neg hm]
  cases hb:w.skip.any fun y=>decide (y=w.made) with
  | true=>simp
  | false=>
   by_cases hl:w.scans.length<200
   ·rw [decide_eq_true (show (w.scans.length:Int)<200 by omega)]; simp [hl]
   ·rw [decide_eq_false (show ¬ (w.scans.length:Int)<200 by omega)]; simp [hl]
abbrev OwT:=Int × Int × Int × (List YLeg) × (List Int) × (List YOrder) × (List YBooking) × (List YTrip) × (List Int) × (List YScan)
def owT (w:YWorld):OwT:=(w.network.change,w.now,w.made,w.network.legs,w.network.off,w.orders,w.bookings,w.closed,w.skip,w.scans)
def twT (i:Int) (w:YWorld):Int × OwT:=(i,owT w)
def Zb9 (w:YWorld) (l:List YScan):YWorld:=l.foldl ZbK w
theorem ZhY:∀ (l:List YScan) (w:YWorld),Zb9 w l={ w with scans:=(l.foldl (ZeI w.skip) (w.scans,w.made)).1,made:=(l.foldl (ZeI w.skip) (w.scans,w.made)).2 }
 | [],w=>rfl
 | s::l,w=>by
  show Zb9 (ZbK w s) l=_
  rw [ZhY l (ZbK w s)]
  rfl
def ZfE (f:YOrder→YOrder) (g:Nat→YOrder→List YScan) (i:Nat) (o:YOrder) (w:YWorld):YWorld:=Zb9 { w with orders:=w.orders.set i (f o) } (g i o)
def ZhR (f:YOrder→YOrder) (g:Nat→YOrder→List YScan):Nat→List YOrder→YWorld→YWorld
 | _,[],w=>w
 | i,o::os,w=>ZhR f g (i+1) os (ZfE f g i o w)
theorem ZjE (f:YOrder→YOrder) (g:Nat→YOrder→List YScan) (i:Nat) (o:YOrder) (w:YWorld):ZfE f g i o w={ w with orders:=w.orders.set i (f o),scans:=((g i o).foldl (ZeI w.skip) (w.scans,w.made)).1,made:=((g i o).foldl (ZeI w.skip) (w.scans,w.made)).2 }:=by
 unfold ZfE; rw [ZhY]
theorem Zmd (f:YOrder→YOrder) (g:Nat→YOrder→List YScan):∀ (os pre:List YOrder) (w:YWorld),w.orders=pre++os→
 ZhR f g pre.length os w={ w with orders:=pre++os.map f,scans:=((Ze0 g pre.length os).foldl (ZeI w.skip) (w.scans,w.made)).1,made:=((Ze0 g pre.length os).foldl (ZeI w.skip) (w.scans,w.made)).2 }
 | [],pre,w,h=>by simp only [ZhR,Ze0,List.map_nil,List.foldl_nil]; rw [← h]
 | o::os,pre,w,h=>by
  have hset:w.orders.set pre.length (f o)=(pre++[f o])++os:=by rw [h,List.set_append_right _ _ (Nat.le_refl _)]; simp
  have:=Zmd f g os (pre++[f o]) (ZfE f g pre.length o w) (by rw [ZjE]; exact hset)
  simp only [List.length_append,List.length_cons,List.length_nil] at this
  show ZhR f g (pre.length+1) os (ZfE f g pre.length o w)=_
  rw [this,ZjE]
  simp only [Ze0,List.foldl_append,List.map_cons,List.append_assoc,List.cons_append,List.nil_append]
theorem Zhp {f:YOrder→YOrder} {g:Nat→YOrder→List YScan} {body:Int × OwT→Option ((Int × OwT) ⊕ OwT)} {n:Nat} {Inv:YWorld→Prop} {Good:Nat→YOrder→Prop}
 (h1:∀ (i:Nat) (o:YOrder) (w:YWorld),w.orders.length=n→w.orders[i]?=some o→Inv w→Good i o→body (twT i w)=some (.inl (twT ((i+1:Nat):Int) (ZfE f g i o w)))∧Inv (ZfE f g i o w))
 (h2:∀ w:YWorld,w.orders.length=n→body (twT n w)=some (.inr (owT w))):
 ∀ (os:List YOrder) (i:Nat) (N:Nat) (w:YWorld),w.orders.drop i=os→w.orders.length=n→i≤n→os.length<N→Inv w→(∀ (j:Nat) (o:YOrder),os[j]?=some o→Good (i+j) o)→iterF body N (twT i w)=some (owT (ZhR f g i os w))
 | [],i,0,w,_,_,_,hN,_,_=>by simp at hN
 | [],i,N+1,w,hd,hl,hi,hN,hI,hG=>by
  have:i=n:=by have:=congrArg List.length hd; simp at this; omega
  subst this
  simp only [iterF,h2 w hl,ZhR]
  rfl
 | o::os,i,0,w,_,_,_,hN,_,_=>by simp at hN
 | o::os,i,N+1,w,hd,hl,hi,hN,hI,hG=>by
  have ho:w.orders[i]?=some o:=by
   have:=congrArg (fun l:List YOrder=>l[0]?) hd
   simpa using this
  have hlt:i<w.orders.length:=(List.getElem?_eq_some_iff.1 ho).1
  obtain ⟨e1,e2⟩:=h1 i o w hl ho hI (by simpa using hG 0 o rfl)
  have hor:(ZfE f g i o w).orders=w.orders.set i (f o):=by rw [ZjE]
  simp only [iterF,e1,ZhR]
  refine Zhp h1 h2 os (i+1) N (ZfE f g i o w) ?_ (by rw [hor,List.length_set]; exact hl) (by omega) (by simp at hN; omega) e2 fun j o' hj=>?_
  ·rw [hor,List.drop_set]
   have:(w.orders.drop (i+1))=os:=by
    have:=congrArg (List.drop 1) hd
    simpa [List.drop_drop] using this
   rw [if_pos (by omega),this]
  ·have:=hG (j+1) o' (by simpa using hj)
   rwa [show i+(j+1)=i+1+j by omega] at this
structure Zfh (n:YNetwork) (k:Nat) (w:YWorld):Prop where
 net:w.network=n
 scans:ZfX w
 orders:w.orders.length≤1048576
theorem Zi4:∀ (l:List YScan) (w:YWorld),ZfX w→ZfX (Zb9 w l)
 | [],w,h=>h
 | s::l,w,h=>Zi4 l _ (ZhX h s)
theorem Zfh.step {n:YNetwork} {k:Nat} {w:YWorld} (h:Zfh n k w) (f:YOrder→YOrder) (g:Nat→YOrder→List YScan) (i:Nat) (o:YOrder):Zfh n k (ZfE f g i o w):=by
 have hs:ZfX { w with orders:=w.orders.set i (f o) }:=⟨h.scans.skip,h.scans.len,h.scans.made⟩
 have h1:=Zi4 (g i o) _ hs
 rw [ZjE]
 unfold ZfE at *
 rw [ZhY] at h1
 exact ⟨h.net,h1,by simp only [List.length_set]; exact h.orders⟩
structure ZgC (n:YNetwork) (o:YOrder):Prop where
 gone:0≤o.gone∧o.gone≤o.way.length
 len:o.way.length≤1048576
 trip:∀ t∈o.way,ZbJ n t=true
 rides:o.state=2→o.gone<o.way.length
theorem ZfP {α:Type} {xs:List α} {i:Nat} {x:α} (h:xs[i]?=some x):xs.set i x=xs:=by
 apply List.ext_getElem?
 intro j
 rw [List.getElem?_set]
 split
 ·rename_i e; subst e
  split
  ·exact h.symm
  ·rename_i hl; exact absurd (List.getElem?_eq_some_iff.1 h).1 hl
 ·rfl
theorem ZgJ {n:YNetwork} {at_:Int} {i:Nat} {o:YOrder} (h:¬ o.state=1∨o.way[o.gone.toNat]?=none∨∃ t,o.way[o.gone.toNat]?=some t∧¬ ZM n t=at_):ZfS n at_ o=o∧Zfu n at_ i o=[]:=by
 unfold ZfS Zfu
 rcases h with h | h | ⟨t,h,h'⟩
 ·cases o.way[o.gone.toNat]? with
  | none=>exact ⟨rfl,rfl⟩
  | some t=>simp [h]
 ·rw [h]; exact ⟨rfl,rfl⟩
 ·rw [h]; simp [h']
section
variable {n:YNetwork} (hf:Z0 n) (hn:Zi n=some true)
include hf hn
theorem ZwI (w0:YWorld) (h0:w0.network=n) (hl0:w0.orders.length≤1048576) {at_:Int} (i:Nat) (o:YOrder) (w:YWorld) (hl:w.orders.length=w0.orders.length) (ho:w.orders[i]?=some o) (hI:Zfh n 0 w) (hG:ZgC n o):
 ZbO w0 at_ (twT i w)=some (.inl (twT ((i+1:Nat):Int) (ZfE (ZS n at_) (Zca n at_) i o w))):=by
 have hlt:=(List.getElem?_eq_some_iff.1 ho).1
 have hgg:=hG.gone
 have hg:getI w.orders (i:Int)=some o:=by rw [Zn]; exact ho
 have hr:rgI w.orders (i:Int)=some o:=hg
 have hi:w64 ((i:Int)+1)=((i+1:Nat):Int):=ZR hlt (by have:=hI.orders; omega)
 have hd:decide ((i:Int)<(w0.orders.length:Int))=true:=decide_eq_true (by omega)
 have hnet:(⟨w.network.legs,w.network.off,w0.network.change⟩:YNetwork)=n:=by rw [hI.net,h0]
 have hnet2:(⟨w.network.legs,w.network.off,w.network.change⟩:YNetwork)=n:=hI.net
 unfold ZbO twT owT
 simp only [hd,cond_true,hg,Option.bind_some,hi,hnet,ZfG]
 by_cases hs:o.state=2
 ·have hgl:=hG.rides hs
  have hgt:o.gone.toNat<o.way.length:=by omega
  have ht:o.way[o.gone.toNat]?=some o.way[o.gone.toNat]:=List.getElem?_eq_getElem hgt
  generalize o.way[o.gone.toNat]=t at ht
  have hgw:getI o.way o.gone=some t:=by unfold getI; rw [if_pos hG.gone.1]; exact ht
  have htb:=hG.trip t (List.mem_of_getElem? ht)
  obtain ⟨y,hy,_⟩:=Zah hf htb
  obtain ⟨t1,t2,t3,t4,t5⟩:=ZI hf hn htb
  have hto:ZL n t=y.to_:=by unfold ZL; rw [hy]; rfl
  have hyl:getI w.network.legs t.leg=some y:=by rw [hI.net]; exact hy
  have hw1:w64 (o.gone+1)=o.gone+1:=Zo (by have:=hG.len; omega)
  simp only [decide_eq_true hs,Bool.not_true,cond_false,hgw,Option.bind_some,t2]
  by_cases he:Z7 n t=at_
  ·have inv1:∀ os:List YOrder,ZfX { w with orders:=os }:=fun os=>⟨hI.scans.skip,hI.scans.len,hI.scans.made⟩
   have ea:ZS n at_ o=arr1 n at_ o t:=by unfold ZS; rw [ht]; simp only [hs,he,and_self,if_true]
   have ed:Zca n at_ i o=⟨((i+1:Nat):Int),at_,2,⟨#[]⟩,t⟩::(if ZL n t=o.to_ then [⟨((i+1:Nat):Int),at_,4,ZL n t,⟨0,0⟩⟩] else []):=by unfold Zca; rw [ht]; simp only [hs,he,and_self,if_true]
   unfold ZfE
   rw [ea,ed]
   unfold arr1
   simp only [decide_eq_true he,Bool.not_true,cond_false,hr,hgw,hyl,Option.bind_some,frzL,rhoM,hnet2,Int.toNat_natCast,hw1]
   rw [show (⟨n,w.orders.set i ⟨o.from_,o.to_,o.service,o.weight,o.at_,o.due,o.way,o.gone+1,1,y.to_,o.ended⟩,w.bookings,w.closed,w.now,w.scans,w.skip,w.made⟩:YWorld)={ w with orders:=w.orders.set i ⟨o.from_,o.to_,o.service,o.weight,o.at_,o.due,o.way,o.gone+1,1,y.to_,o.ended⟩ } by rw [← hI.net]]
   rw [ZpT (inv1 _)]
   have hlt':i<(w.orders.set i (⟨o.from_,o.to_,o.service,o.weight,o.at_,o.due,o.way,o.gone+1,1,y.to_,o.ended⟩:YOrder)).length:=by rw [List.length_set]; exact hlt
   have hr2:rgI (w.orders.set i (⟨o.from_,o.to_,o.service,o.weight,o.at_,o.due,o.way,o.gone+1,1,y.to_,o.ended⟩:YOrder)) (i:Int)=some ⟨o.from_,o.to_,o.service,o.weight,o.at_,o.due,o.way,o.gone+1,1,y.to_,o.ended⟩:=by
    unfold rgI; rw [Zn,List.getElem?_set_self hlt]
   simp only [Option.bind_some,ZbK,hr2,hto]
   by_cases hc:y.to_=o.to_
   ·have hr3:rgI (w.orders.set i (⟨o.from_,o.to_,o.service,o.weight,o.at_,o.due,o.way,o.gone+1,3,y.to_,at_⟩:YOrder)) (i:Int)=some ⟨o.from_,o.to_,o.service,o.weight,o.at_,o.due,o.way,o.gone+1,3,y.to_,at_⟩:=by
     unfold rgI; rw [Zn,List.getElem?_set_self hlt]
    simp only [decide_eq_true hc,cond_true,List.set_set,hr3,Option.bind_some]
    have inv2:=ZhX (inv1 (w.orders.set i ⟨o.from_,o.to_,o.service,o.weight,o.at_,o.due,o.way,o.gone+1,3,y.to_,at_⟩)) (⟨((i+1:Nat):Int),at_,2,⟨#[]⟩,t⟩:YScan)
    have e2:=ZpT inv2 ⟨((i+1:Nat):Int),at_,4,y.to_,⟨0,0⟩⟩
    unfold ZbK at e2
    simp only at e2
    simp only [e2,Option.bind_some,if_pos hc,Zb9,List.foldl_cons,List.foldl_nil,ZbK]
   ·simp only [decide_eq_false hc,cond_false,if_neg hc,Zb9,List.foldl_cons,List.foldl_nil,ZbK]
  ·have ea:ZS n at_ o=o:=by unfold ZS; rw [ht]; simp only [he,and_false,if_false]
   have ed:Zca n at_ i o=[]:=by unfold Zca; rw [ht]; simp only [he,and_false,if_false]
   simp only [decide_eq_false he,Bool.not_false,cond_true,ZfE,ea,ed,Zb9,List.foldl_nil,ZfP ho]
 ·have ea:ZS n at_ o=o:=by
   unfold ZS
   cases o.way[o.gone.toNat]? with
   | none=>rfl
   | some t=>simp [hs]
  have ed:Zca n at_ i o=[]:=by
   unfold Zca
   cases o.way[o.gone.toNat]? with
   | none=>rfl
   | some t=>simp [hs]
  simp only [decide_eq_false hs,Bool.not_false,cond_true,ZfE,ea,ed,Zb9,List.foldl_nil,ZfP ho]
theorem ZwJ {at_:Int} (i:Nat) (o:YOrder) (w:YWorld) (ho:w.orders[i]?=some o) (hI:Zfh n 0 w) (hG:ZgC n o):
 Zck at_ (twT i w)=some (.inl (twT ((i+1:Nat):Int) (ZfE (ZS n at_) (Zca n at_) i o w))):=by
 have hlt:=(List.getElem?_eq_some_iff.1 ho).1
 have hgg:=hG.gone
 have hg:getI w.orders (i:Int)=some o:=by rw [Zn]; exact ho
 have hi:w64 ((i:Int)+1)=((i+1:Nat):Int):=ZR hlt (by have:=hI.orders; omega)
 have hd:decide ((i:Int)<(w.orders.length:Int))=true:=decide_eq_true (by omega)
 have hnet2:(⟨w.network.legs,w.network.off,w.network.change⟩:YNetwork)=n:=hI.net
 unfold Zck twT owT
 simp only [hd,cond_true,hg,Option.bind_some,hi,hnet2]
 by_cases hs:o.state=2
 ·have hgl:=hG.rides hs
  have hgt:o.gone.toNat<o.way.length:=by omega
  have ht:o.way[o.gone.toNat]?=some o.way[o.gone.toNat]:=List.getElem?_eq_getElem hgt
  generalize o.way[o.gone.toNat]=t at ht
  have hgw:getI o.way o.gone=some t:=by unfold getI; rw [if_pos hG.gone.1]; exact ht
  have htb:=hG.trip t (List.mem_of_getElem? ht)
  obtain ⟨y,hy,_⟩:=Zah hf htb
  obtain ⟨t1,t2,t3,t4,t5⟩:=ZI hf hn htb
  have hto:ZL n t=y.to_:=by unfold ZL; rw [hy]; rfl
  have hw1:w64 (o.gone+1)=o.gone+1:=Zo (by have:=hG.len; omega)
  simp only [decide_eq_true hs,Bool.not_true,cond_false,hgw,Option.bind_some,t2]
  by_cases he:Z7 n t=at_
  ·have ea:ZS n at_ o=arr1 n at_ o t:=by unfold ZS; rw [ht]; simp only [hs,he,and_self,if_true]
   have ed:Zca n at_ i o=⟨((i+1:Nat):Int),at_,2,⟨#[]⟩,t⟩::(if ZL n t=o.to_ then [⟨((i+1:Nat):Int),at_,4,ZL n t,⟨0,0⟩⟩] else []):=by unfold Zca; rw [ht]; simp only [hs,he,and_self,if_true]
   unfold ZfE
   rw [ea,ed]
   unfold arr1
   simp only [decide_eq_true he,Bool.not_true,cond_false,Option.bind_some,frzL,rhoM,Int.toNat_natCast,hw1]
   have e1:=ZpU hI.scans ⟨((i+1:Nat):Int),at_,2,⟨#[]⟩,t⟩
   have hw:w=⟨n,w.orders,w.bookings,w.closed,w.now,w.scans,w.skip,w.made⟩:=by rw [← hI.net]
   rw [← hI.net] at hy
   rw [show (⟨n,w.orders,w.bookings,w.closed,w.now,w.scans,w.skip,w.made⟩:YWorld)=w from hw.symm,e1]
   simp only [Option.bind_some,ZbK,hg,hy,hto]
   by_cases hc:y.to_=o.to_
   ·have inv2:ZfX { ZbK w ⟨((i+1:Nat):Int),at_,2,⟨#[]⟩,t⟩ with orders:=w.orders.set i ⟨o.from_,o.to_,o.service,o.weight,o.at_,o.due,o.way,o.gone+1,3,y.to_,at_⟩ }:=by
     obtain ⟨a,b,c⟩:=ZhX hI.scans ⟨((i+1:Nat):Int),at_,2,⟨#[]⟩,t⟩
     exact ⟨a,b,c⟩
    have e2:=ZpU inv2 ⟨((i+1:Nat):Int),at_,4,o.to_,⟨0,0⟩⟩
    unfold ZbK at e2
    simp only at e2
    have hcd:decide (y.to_=o.to_)=true:=decide_eq_true hc
    simp only [hcd,cond_true,Option.bind_some,e2,if_pos hc,Zb9,List.foldl_cons,List.foldl_nil,ZbK]
    simp only [hc]
   ·simp only [decide_eq_false hc,cond_false,if_neg hc,Zb9,List.foldl_cons,List.foldl_nil,ZbK]
  ·have ea:ZS n at_ o=o:=by unfold ZS; rw [ht]; simp only [he,and_false,if_false]
   have ed:Zca n at_ i o=[]:=by unfold Zca; rw [ht]; simp only [he,and_false,if_false]
   simp only [decide_eq_false he,Bool.not_false,cond_true,ZfE,ea,ed,Zb9,List.foldl_nil,ZfP ho]
 ·have ea:ZS n at_ o=o:=by
   unfold ZS
   cases o.way[o.gone.toNat]? with
   | none=>rfl
   | some t=>simp [hs]
  have ed:Zca n at_ i o=[]:=by
   unfold Zca
   cases o.way[o.gone.toNat]? with
   | none=>rfl
   | some t=>simp [hs]
  simp only [decide_eq_false hs,Bool.not_false,cond_true,ZfE,ea,ed,Zb9,List.foldl_nil,ZfP ho]
theorem ZwK (w0:YWorld) (h0:w0.network=n) (o0:OwT) {at_:Int} (i:Nat) (o:YOrder) (w:YWorld) (hl:w.orders.length=o0.2.2.2.2.2.1.length) (ho:w.orders[i]?=some o) (hI:Zfh n 0 w) (hG:ZgC n o):
 ZbP w0 at_ o0 (twT i w)=some (.inl (twT ((i+1:Nat):Int) (ZfE (ZfS n at_) (Zfu n at_) i o w))):=by
 have hlt:=(List.getElem?_eq_some_iff.1 ho).1
 have hgg:=hG.gone
 have hg:getI w.orders (i:Int)=some o:=by rw [Zn]; exact ho
 have hr:rgI w.orders (i:Int)=some o:=hg
 have hi:w64 ((i:Int)+1)=((i+1:Nat):Int):=ZR hlt (by have:=hI.orders; omega)
 have hd:decide ((i:Int)<(o0.2.2.2.2.2.1.length:Int))=true:=decide_eq_true (by omega)
 have hnet:(⟨w.network.legs,w.network.off,w0.network.change⟩:YNetwork)=n:=by rw [hI.net,h0]
 have hnet2:(⟨w.network.legs,w.network.off,w.network.change⟩:YNetwork)=n:=hI.net
 unfold ZbP twT owT
 simp only [hd,cond_true,hg,Option.bind_some,hi,hnet,Zei]
 by_cases hs:o.state=1
 ·by_cases hgl:o.gone<o.way.length
  ·have hgt:o.gone.toNat<o.way.length:=by omega
   have ht:o.way[o.gone.toNat]?=some o.way[o.gone.toNat]:=List.getElem?_eq_getElem hgt
   generalize o.way[o.gone.toNat]=t at ht
   have hgw:getI o.way o.gone=some t:=by unfold getI; rw [if_pos hG.gone.1]; exact ht
   have htb:=hG.trip t (List.mem_of_getElem? ht)
   obtain ⟨t1,t2,t3,t4,t5⟩:=ZI hf hn htb
   simp only [decide_eq_true hs,decide_eq_true hgl,cond_true,hgw,Option.bind_some,t1]
   by_cases he:ZM n t=at_
   ·have ea:ZfS n at_ o=⟨o.from_,o.to_,o.service,o.weight,o.at_,o.due,o.way,o.gone,2,⟨#[]⟩,o.ended⟩:=by unfold ZfS; rw [ht]; simp only [hs,he,and_self,if_true]
    have ed:Zfu n at_ i o=[⟨((i+1:Nat):Int),at_,3,⟨#[]⟩,t⟩]:=by unfold Zfu; rw [ht]; simp only [hs,he,and_self,if_true]
    have hr2:rgI (w.orders.set i (⟨o.from_,o.to_,o.service,o.weight,o.at_,o.due,o.way,o.gone,2,⟨#[]⟩,o.ended⟩:YOrder)) (i:Int)=some ⟨o.from_,o.to_,o.service,o.weight,o.at_,o.due,o.way,o.gone,2,⟨#[]⟩,o.ended⟩:=by
     unfold rgI; rw [Zn,List.getElem?_set_self hlt]
    have inv1:ZfX { w with orders:=w.orders.set i ⟨o.from_,o.to_,o.service,o.weight,o.at_,o.due,o.way,o.gone,2,⟨#[]⟩,o.ended⟩ }:=⟨hI.scans.skip,hI.scans.len,hI.scans.made⟩
    have e1:=ZpT inv1 ⟨((i+1:Nat):Int),at_,3,⟨#[]⟩,t⟩
    have hnw:w.network=n:=hI.net
    simp only [hnw] at e1
    unfold ZfE
    rw [ea,ed]
    simp only [decide_eq_true he,cond_true,hr,Option.bind_some,frzL,rhoM,drwL,hnet2,Int.toNat_natCast,hr2,hgw,e1,Zb9,List.foldl_cons,List.foldl_nil,ZbK,hnw]
   ·obtain ⟨ea,ed⟩:=ZgJ (n:=n) (at_:=at_) (i:=i) (.inr (.inr ⟨t,ht,he⟩))
    simp only [decide_eq_false he,cond_false,ZfE,ea,ed,Zb9,List.foldl_nil,ZfP ho]
  ·obtain ⟨ea,ed⟩:=ZgJ (n:=n) (at_:=at_) (i:=i) (o:=o) (.inr (.inl (List.getElem?_eq_none (by omega))))
   simp only [decide_eq_true hs,decide_eq_false hgl,cond_true,cond_false,ZfE,ea,ed,Zb9,List.foldl_nil,ZfP ho]
 ·obtain ⟨ea,ed⟩:=ZgJ (n:=n) (at_:=at_) (i:=i) (o:=o) (.inl hs)
  simp only [decide_eq_false hs,cond_false,ZfE,ea,ed,Zb9,List.foldl_nil,ZfP ho]
theorem ZwL {at_:Int} (i:Nat) (o:YOrder) (w:YWorld) (ho:w.orders[i]?=some o) (hI:Zfh n 0 w) (hG:ZgC n o):
 Zcl at_ (twT i w)=some (.inl (twT ((i+1:Nat):Int) (ZfE (ZfS n at_) (Zfu n at_) i o w))):=by
 have hlt:=(List.getElem?_eq_some_iff.1 ho).1
 have hgg:=hG.gone
 have hg:getI w.orders (i:Int)=some o:=by rw [Zn]; exact ho
 have hi:w64 ((i:Int)+1)=((i+1:Nat):Int):=ZR hlt (by have:=hI.orders; omega)
 have hd:decide ((i:Int)<(w.orders.length:Int))=true:=decide_eq_true (by omega)
 have hnet2:(⟨w.network.legs,w.network.off,w.network.change⟩:YNetwork)=n:=hI.net
 unfold Zcl twT owT
 simp only [hd,cond_true,hg,Option.bind_some,hi,hnet2]
 by_cases hs:o.state=1
 ·by_cases hgl:o.gone<o.way.length
  ·have hgt:o.gone.toNat<o.way.length:=by omega
   have ht:o.way[o.gone.toNat]?=some o.way[o.gone.toNat]:=List.getElem?_eq_getElem hgt
   generalize o.way[o.gone.toNat]=t at ht
   have hgw:getI o.way o.gone=some t:=by unfold getI; rw [if_pos hG.gone.1]; exact ht
   have htb:=hG.trip t (List.mem_of_getElem? ht)
   obtain ⟨t1,t2,t3,t4,t5⟩:=ZI hf hn htb
   simp only [decide_eq_true hs,decide_eq_true hgl,cond_true,hgw,Option.bind_some,t1]
   by_cases he:ZM n t=at_
   ·have ea:ZfS n at_ o=⟨o.from_,o.to_,o.service,o.weight,o.at_,o.due,o.way,o.gone,2,⟨#[]⟩,o.ended⟩:=by unfold ZfS; rw [ht]; simp only [hs,he,and_self,if_true]
    have ed:Zfu n at_ i o=[⟨((i+1:Nat):Int),at_,3,⟨#[]⟩,t⟩]:=by unfold Zfu; rw [ht]; simp only [hs,he,and_self,if_true]
    have inv1:ZfX { w with orders:=w.orders.set i ⟨o.from_,o.to_,o.service,o.weight,o.at_,o.due,o.way,o.gone,2,⟨#[]⟩,o.ended⟩ }:=⟨hI.scans.skip,hI.scans.len,hI.scans.made⟩
    have e1:=ZpU inv1 ⟨((i+1:Nat):Int),at_,3,⟨#[]⟩,t⟩
    have hnw:w.network=n:=hI.net
    simp only [hnw] at e1
    unfold ZfE
    rw [ea,ed]
    simp only [decide_eq_true he,cond_true,Option.bind_some,frzL,rhoM,drwL,hnet2,Int.toNat_natCast,hgw,e1,Zb9,List.foldl_cons,List.foldl_nil,ZbK,hnw]
   ·obtain ⟨ea,ed⟩:=ZgJ (n:=n) (at_:=at_) (i:=i) (.inr (.inr ⟨t,ht,he⟩))
    simp only [decide_eq_false he,cond_false,ZfE,ea,ed,Zb9,List.foldl_nil,ZfP ho]
  ·obtain ⟨ea,ed⟩:=ZgJ (n:=n) (at_:=at_) (i:=i) (o:=o) (.inr (.inl (List.getElem?_eq_none (by omega))))
   simp only [decide_eq_true hs,decide_eq_false hgl,cond_true,cond_false,ZfE,ea,ed,Zb9,List.foldl_nil,ZfP ho]
 ·obtain ⟨ea,ed⟩:=ZgJ (n:=n) (at_:=at_) (i:=i) (o:=o) (.inl hs)
  simp only [decide_eq_false hs,cond_false,ZfE,ea,ed,Zb9,List.foldl_nil,ZfP ho]
end
structure ZmA (w:YWorld):Prop where
 net:Z0 w.network
 isNet:Zi w.network=some true
 inv:Zfh w.network 0 w
 ord:∀ o∈w.orders,ZgC w.network o
theorem ZoF {n:YNetwork} {at_:Int} {o:YOrder} (h:ZgC n o):ZgC n (ZS n at_ o):=by
 have hs:=ZhZ n at_ o
 refine ⟨?_,by rw [hs.way]; exact h.len,by rw [hs.way]; exact h.trip,?_⟩
 ·rw [hs.way]
  have:=h.gone
  unfold ZS
  split
  ·rename_i t ht
   have hlt:=(List.getElem?_eq_some_iff.1 ht).1
   split
   ·unfold arr1; split <;> (simp only; omega)
   ·exact this
  ·exact this
 ·unfold ZS
  split
  ·split
   ·unfold arr1; split <;> (intro h'; simp at h')
   ·exact h.rides
  ·exact h.rides
theorem Zki {w:YWorld} (h:ZmA w) (at_:Int):Zec w at_=some (ZbF w at_)∧ZeD w at_=some (ZbF w at_):=by
 have hlen:=h.inv.orders
 have p1:ZhR (ZS w.network at_) (Zca w.network at_) 0 w.orders w={ w with orders:=w.orders.map (ZS w.network at_),scans:=((Ze0 (Zca w.network at_) 0 w.orders).foldl (ZeI w.skip) (w.scans,w.made)).1,made:=((Ze0 (Zca w.network at_) 0 w.orders).foldl (ZeI w.skip) (w.scans,w.made)).2 }:=by
  have:=Zmd (ZS w.network at_) (Zca w.network at_) w.orders [] w rfl
  simpa using this
 have i1:Zfh w.network 0 (ZhR (ZS w.network at_) (Zca w.network at_) 0 w.orders w):=by
  have:∀ (os:List YOrder) (i:Nat) (v:YWorld),Zfh w.network 0 v→Zfh w.network 0 (ZhR (ZS w.network at_) (Zca w.network at_) i os v):=by
   intro os
   induction os with
   | nil=>intro i v hv; exact hv
   | cons o os ih=>intro i v hv; exact ih (i+1) _ (hv.step _ _ i o)
  exact this _ _ _ h.inv
 have o1:(ZhR (ZS w.network at_) (Zca w.network at_) 0 w.orders w).orders=w.orders.map (ZS w.network at_):=by rw [p1]
 have p2:=Zmd (ZfS w.network at_) (Zfu w.network at_) (w.orders.map (ZS w.network at_)) [] (ZhR (ZS w.network at_) (Zca w.network at_) 0 w.orders w) (by rw [o1]; rfl)
 simp only [List.length_nil,List.nil_append] at p2
 have hgood:∀ (j:Nat) (o:YOrder),w.orders[j]?=some o→ZgC w.network o:=fun j o ho=>h.ord o (List.mem_of_getElem? ho)
 have hgood2:∀ (j:Nat) (o:YOrder),(w.orders.map (ZS w.network at_))[j]?=some o→ZgC w.network o:=fun j o ho=>by
  rw [List.getElem?_map] at ho
  obtain ⟨o0,h0,rfl⟩:=Option.map_eq_some_iff.1 ho
  exact ZoF (hgood j o0 h0)
 have fin:∀ v:YWorld,v=ZhR (ZfS w.network at_) (Zfu w.network at_) 0 (w.orders.map (ZS w.network at_)) (ZhR (ZS w.network at_) (Zca w.network at_) 0 w.orders w)→{ v with now:=at_ }=ZbF w at_:=by
  rintro v rfl
  rw [p2,p1]
  unfold ZbF ZiE Zf2
  simp only [List.map_map,List.foldl_append]
  rfl
 constructor
 ·unfold Zec
  have l1:=Zhp (f:=ZS w.network at_) (g:=Zca w.network at_) (body:=ZbO w at_) (n:=w.orders.length) (Inv:=Zfh w.network 0) (Good:=fun _ o=>ZgC w.network o)
   (fun i o v hv ho hI hG=>⟨ZwI h.net h.isNet w rfl hlen i o v hv ho hI hG,hI.step _ _ i o⟩)
   (fun v hv=>by unfold ZbO twT owT; simp only [decide_eq_false (show ¬ (w.orders.length:Int)<(w.orders.length:Int) by omega),cond_false]) w.orders 0 NN w rfl rfl (Nat.zero_le _) (by unfold NN; omega) h.inv hgood
  have e1:((0:Int),w.network.change,w.now,w.made,w.network.legs,w.network.off,w.orders,w.bookings,w.closed,w.skip,w.scans)=twT ((0:Nat):Int) w:=rfl
  rw [e1,l1,Option.bind_some]
  generalize hv1:ZhR (ZS w.network at_) (Zca w.network at_) 0 w.orders w=v1 at *
  have hl2:v1.orders.length=w.orders.length:=by rw [o1,List.length_map]
  have l2:=Zhp (f:=ZfS w.network at_) (g:=Zfu w.network at_) (body:=ZbP w at_ (owT v1)) (n:=v1.orders.length) (Inv:=Zfh w.network 0) (Good:=fun _ o=>ZgC w.network o)
   (fun i o v hv ho hI hG=>⟨ZwK h.net h.isNet w rfl (owT v1) i o v hv ho hI hG,hI.step _ _ i o⟩)
   (fun v hv=>by unfold ZbP twT owT; simp only [decide_eq_false (show ¬ (v1.orders.length:Int)<(v1.orders.length:Int) by omega),cond_false]) (w.orders.map (ZS w.network at_)) 0 NN v1 (by rw [o1]; rfl) rfl (Nat.zero_le _) (by rw [List.length_map]; unfold NN; omega) i1 hgood2
  have e2:((0:Int),(owT v1).1,(owT v1).2.1,(owT v1).2.2.1,(owT v1).2.2.2.1,(owT v1).2.2.2.2.1,(owT v1).2.2.2.2.2.1,(owT v1).2.2.2.2.2.2.1,(owT v1).2.2.2.2.2.2.2.1,(owT v1).2.2.2.2.2.2.2.2.1,(owT v1).2.2.2.2.2.2.2.2.2)=twT ((0:Nat):Int) v1:=rfl
  rw [e2,l2,Option.bind_some]
  exact congrArg some (fin _ rfl)
 ·unfold ZeD
  have l1:=Zhp (f:=ZS w.network at_) (g:=Zca w.network at_) (body:=Zck at_) (n:=w.orders.length) (Inv:=Zfh w.network 0) (Good:=fun _ o=>ZgC w.network o)
   (fun i o v hv ho hI hG=>⟨ZwJ h.net h.isNet i o v ho hI hG,hI.step _ _ i o⟩)
   (fun v hv=>by unfold Zck twT owT; simp only [decide_eq_false (show ¬ (w.orders.length:Int)<(v.orders.length:Int) by omega),cond_false]) w.orders 0 NN w rfl rfl (Nat.zero_le _) (by unfold NN; omega) h.inv hgood
  have e1:((0:Int),w.network.change,w.now,w.made,w.network.legs,w.network.off,w.orders,w.bookings,w.closed,w.skip,w.scans)=twT ((0:Nat):Int) w:=rfl
  rw [e1,l1,Option.bind_some]
  generalize hv1:ZhR (ZS w.network at_) (Zca w.network at_) 0 w.orders w=v1 at *
  have l2:=Zhp (f:=ZfS w.network at_) (g:=Zfu w.network at_) (body:=Zcl at_) (n:=v1.orders.length) (Inv:=Zfh w.network 0) (Good:=fun _ o=>ZgC w.network o)
   (fun i o v hv ho hI hG=>⟨ZwL h.net h.isNet i o v ho hI hG,hI.step _ _ i o⟩)
   (fun v hv=>by unfold Zcl twT owT; simp only [decide_eq_false (show ¬ (v1.orders.length:Int)<(v.orders.length:Int) by omega),cond_false]) (w.orders.map (ZS w.network at_)) 0 NN v1 (by rw [o1]; rfl) rfl (Nat.zero_le _) (by rw [List.length_map]; unfold NN; omega) i1 hgood2
  have e2:((0:Int),(owT v1).1,(owT v1).2.1,(owT v1).2.2.1,(owT v1).2.2.2.1,(owT v1).2.2.2.2.1,(owT v1).2.2.2.2.2.1,(owT v1).2.2.2.2.2.2.1,(owT v1).2.2.2.2.2.2.2.1,(owT v1).2.2.2.2.2.2.2.2.1,(owT v1).2.2.2.2.2.2.2.2.2)=twT ((0:Nat):Int) v1:=rfl
  rw [e2,l2,Option.bind_some]
  exact congrArg some (fin _ rfl)
set_option maxHeartbeats 16000000
def ZcA (n:YNetwork):Option YNetwork:=
 (chk (appOk ((([]:List YLeg):List YLeg).length+(n.legs:List YLeg).length) 64)).bind fun _=>
 (chk (appOk ((([]:List Int):List Int).length+(n.off:List Int).length) 8)).bind fun _=>
 some (⟨((([]:List YLeg):List YLeg)++n.legs),((([]:List Int):List Int)++n.off),n.change⟩:YNetwork)
instance (n:YNetwork):CT Tryz.prog (ZcA n):=⟨149,[.ag (cNetwork n)],[],fun r=>.ag [.ms 0,.ms 1,vi r.change],fun r=>[some ⟨.of 67,6,r.legs.map cLeg⟩,some ⟨.of 3,1,r.off.map cInt⟩],fun H=>by replace H:=H0 H; unfold ZcA at H; exact callM_of Tryz.func149 rfl Tryz.ntmps149 Tryz.results149 fun Q hQ hQn=>wk3⟩
def Zbg (l:List YBooking):Option (List YBooking):=
 (chk (appOk ((([]:List YBooking):List YBooking).length+(l:List YBooking).length) 32)).bind fun _=>
 some ((([]:List YBooking):List YBooking)++l)
instance (l:List YBooking):CT Tryz.prog (Zbg l):=⟨169,[.sl (l.map cBooking)],[],fun r=>.ms 0,fun r=>[some ⟨.of 135,4,r.map cBooking⟩],fun H=>by replace H:=H0 H; unfold Zbg at H; exact callM_of Tryz.func169 rfl Tryz.ntmps169 Tryz.results169 fun Q hQ hQn=>wk3⟩
def ZaP (l:List YTrip):Option (List YTrip):=
 (chk (appOk ((([]:List YTrip):List YTrip).length+(l:List YTrip).length) 16)).bind fun _=>
 some ((([]:List YTrip):List YTrip)++l)
instance (l:List YTrip):CT Tryz.prog (ZaP l):=⟨137,[.sl (l.map cTrip)],[],fun r=>.ms 0,fun r=>[some ⟨.of 55,2,r.map cTrip⟩],fun H=>by replace H:=H0 H; unfold ZaP at H; exact callM_of Tryz.func137 rfl Tryz.ntmps137 Tryz.results137 fun Q hQ hQn=>wk3⟩
def Zbm (w:YWorld) (y1:YNetwork) (y2:(List YBooking)) (y3:(List YTrip)) (s0:Int × (List YOrder)):Option ((Int × (List YOrder)) ⊕ (List YOrder)):=
 cond (decide (s0.1<(w.orders.length:Int)))
 ((getI w.orders s0.1).bind fun y4=>
 (ZaP y4.way).bind fun y5=>
 (frz (.un::.un::.be 0 0 0::.be 1 0 0::.un::.be 9 0 0::(U 23 (.sl (w.orders.map cOrder)::vi (w.orders.length:Int)::vi s0.1::(U 15 [])))) [some ⟨.of 41,10,[[.v (.slice none 0 0),.v (.slice none 0 0),vi 0,.v (.slice none 0 0),.v (.slice none 0 0),.v (.slice none 0 0),vi 0,.v (.slice none 0 0),.v (.slice none 0 0),vi 0]]⟩,some ⟨.of 41,10,[[.ms 2,.ms 3,vi y1.change,.ms 4,.ms 5,.ms 6,vi w.now,.ms 7,.ms 8,vi w.made]]⟩,some ⟨.of 67,6,y1.legs.map cLeg⟩,some ⟨.of 3,1,y1.off.map cInt⟩,some ⟨.of 62,11,s0.2.map cOrder⟩,some ⟨.of 135,4,y2.map cBooking⟩,some ⟨.of 55,2,y3.map cTrip⟩,some ⟨.of 130,6,((([]:List YScan):List YScan)++w.scans).map cScan⟩,some ⟨.of 3,1,((([]:List Int):List Int)++w.skip).map cInt⟩,some ⟨.of 62,11,[[vs y4.from_,vs y4.to_,vi y4.service,vi y4.weight,vi y4.at_,vi y4.due,.sl (y5.map cTrip),vi y4.gone,vi y4.state,vs y4.place,vi y4.ended]]⟩]).bind fun _=>
 (chk (appOk ((s0.2:List YOrder).length+([(⟨y4.from_,y4.to_,y4.service,y4.weight,y4.at_,y4.due,y5,y4.gone,y4.state,y4.place,y4.ended⟩:YOrder)]:List YOrder).length) 128)).bind fun _=>
 some (.inl ((w64 (s0.1+1)),((s0.2:List YOrder)++[(⟨y4.from_,y4.to_,y4.service,y4.weight,y4.at_,y4.due,y5,y4.gone,y4.state,y4.place,y4.ended⟩:YOrder)]))))
 (some (.inr s0.2))
instance (w:YWorld) (y1:YNetwork) (y2:(List YBooking)) (y3:(List YTrip)):LoopE (Zbm w y1 y2 y3):=⟨fun s0=>(.un::.un::.be 0 0 0::.be 1 0 0::(U 25 (.sl (w.orders.map cOrder)::vi (w.orders.length:Int)::vi s0.1::(U 15 [])))),fun s0=>[some ⟨.of 41,10,[[.v (.slice none 0 0),.v (.slice none 0 0),vi 0,.v (.slice none 0 0),.v (.slice none 0 0),.v (.slice none 0 0),vi 0,.v (.slice none 0 0),.v (.slice none 0 0),vi 0]]⟩,some ⟨.of 41,10,[[.ms 2,.ms 3,vi y1.change,.ms 4,.ms 5,.ms 6,vi w.now,.ms 7,.ms 8,vi w.made]]⟩,some ⟨.of 67,6,y1.legs.map cLeg⟩,some ⟨.of 3,1,y1.off.map cInt⟩,some ⟨.of 62,11,s0.2.map cOrder⟩,some ⟨.of 135,4,y2.map cBooking⟩,some ⟨.of 55,2,y3.map cTrip⟩,some ⟨.of 130,6,((([]:List YScan):List YScan)++w.scans).map cScan⟩,some ⟨.of 3,1,((([]:List Int):List Int)++w.skip).map cInt⟩]⟩
def ZaZ (w:YWorld):Option YWorld:=
 (ZcA w.network).bind fun y1=>
 (Zbg w.bookings).bind fun y2=>
 (ZaP w.closed).bind fun y3=>
 (chk (appOk ((([]:List YScan):List YScan).length+(w.scans:List YScan).length) 56)).bind fun _=>
 (chk (appOk ((([]:List Int):List Int).length+(w.skip:List Int).length) 8)).bind fun _=>
 (iterF (Zbm w y1 y2 y3) NN (0,[])).bind (fun o0=>
 some (⟨y1,o0,y2,y3,w.now,((([]:List YScan):List YScan)++w.scans),((([]:List Int):List Int)++w.skip),w.made⟩:YWorld))
instance (w:YWorld):CT Tryz.prog (ZaZ w):=⟨80,[.ag (cWorld w)],[],fun r=>.ag [.ms 0,.ms 1,vi r.network.change,.ms 2,.ms 3,.ms 4,vi r.now,.ms 5,.ms 6,vi r.made],fun r=>[some ⟨.of 67,6,r.network.legs.map cLeg⟩,some ⟨.of 3,1,r.network.off.map cInt⟩,some ⟨.of 62,11,r.orders.map cOrder⟩,some ⟨.of 135,4,r.bookings.map cBooking⟩,some ⟨.of 55,2,r.closed.map cTrip⟩,some ⟨.of 130,6,r.scans.map cScan⟩,some ⟨.of 3,1,r.skip.map cInt⟩],fun H=>by replace H:=H0 H; unfold ZaZ at H; exact callM_of Tryz.func80 rfl Tryz.ntmps80 Tryz.results80 fun Q hQ hQn=>wk3⟩
def ZdZ (until_:Int) (s0:Int × Int × Int × Int × (List YLeg) × (List Int) × (List YOrder) × (List YBooking) × (List YTrip) × (List YScan) × (List Int)):Option ((Int × Int × Int × Int × (List YLeg) × (List Int) × (List YOrder) × (List YBooking) × (List YTrip) × (List YScan) × (List Int)) ⊕ (Int × Int × Int × (List YLeg) × (List Int) × (List YOrder) × (List YBooking) × (List YTrip) × (List YScan) × (List Int))):=
 cond (decide (0≤s0.1))
 (cond (decide (s0.1≤until_))
 ((rhoM [1,2,3,4,5,6,7,8]).bind fun _=>
 (Zec (⟨(⟨s0.2.2.2.2.1,s0.2.2.2.2.2.1,s0.2.1⟩:YNetwork),s0.2.2.2.2.2.2.1,s0.2.2.2.2.2.2.2.1,s0.2.2.2.2.2.2.2.2.1,s0.2.2.1,s0.2.2.2.2.2.2.2.2.2.1,s0.2.2.2.2.2.2.2.2.2.2,s0.2.2.2.1⟩:YWorld) s0.1).bind fun y5=>
 (ZbC y5).bind fun y6=>
 some (.inl (y6,y5.network.change,y5.now,y5.made,y5.network.legs,y5.network.off,y5.orders,y5.bookings,y5.closed,y5.scans,y5.skip)))
 (some (.inr (s0.2.1,s0.2.2.1,s0.2.2.2.1,s0.2.2.2.2.1,s0.2.2.2.2.2.1,s0.2.2.2.2.2.2.1,s0.2.2.2.2.2.2.2.1,s0.2.2.2.2.2.2.2.2.1,s0.2.2.2.2.2.2.2.2.2.1,s0.2.2.2.2.2.2.2.2.2.2))))
 (some (.inr (s0.2.1,s0.2.2.1,s0.2.2.2.1,s0.2.2.2.2.1,s0.2.2.2.2.2.1,s0.2.2.2.2.2.2.1,s0.2.2.2.2.2.2.2.1,s0.2.2.2.2.2.2.2.2.1,s0.2.2.2.2.2.2.2.2.2.1,s0.2.2.2.2.2.2.2.2.2.2)))
instance (until_:Int):LoopE (ZdZ until_):=⟨fun s0=>(.un::vi until_::.un::.un::.be 0 0 0::.be 1 0 0::vi s0.1::(U 29 [])),fun s0=>[some ⟨.of 41,10,[[.v (.slice none 0 0),.v (.slice none 0 0),vi 0,.v (.slice none 0 0),.v (.slice none 0 0),.v (.slice none 0 0),vi 0,.v (.slice none 0 0),.v (.slice none 0 0),vi 0]]⟩,some ⟨.of 41,10,[[.ms 2,.ms 3,vi s0.2.1,.ms 4,.ms 5,.ms 6,vi s0.2.2.1,.ms 7,.ms 8,vi s0.2.2.2.1]]⟩,some ⟨.of 67,6,s0.2.2.2.2.1.map cLeg⟩,some ⟨.of 3,1,s0.2.2.2.2.2.1.map cInt⟩,some ⟨.of 62,11,s0.2.2.2.2.2.2.1.map cOrder⟩,some ⟨.of 135,4,s0.2.2.2.2.2.2.2.1.map cBooking⟩,some ⟨.of 55,2,s0.2.2.2.2.2.2.2.2.1.map cTrip⟩,some ⟨.of 130,6,s0.2.2.2.2.2.2.2.2.2.1.map cScan⟩,some ⟨.of 3,1,s0.2.2.2.2.2.2.2.2.2.2.map cInt⟩]⟩
def Zd9 (w:YWorld) (until_:Int):Option YWorld:=
 (ZaZ w).bind fun y1=>
 (Za8 w).bind fun y2=>
 cond (!y2)
 (some y1)
 ((Zx until_ w.now 100000).bind fun y3=>
 cond (!y3)
 (some y1)
 ((ZbC y1).bind fun y4=>
 (iterF (ZdZ until_) NN (y4,y1.network.change,y1.now,y1.made,y1.network.legs,y1.network.off,y1.orders,y1.bookings,y1.closed,y1.scans,y1.skip)).bind (fun o0=>
 some (⟨(⟨o0.2.2.2.1,o0.2.2.2.2.1,o0.1⟩:YNetwork),o0.2.2.2.2.2.1,o0.2.2.2.2.2.2.1,o0.2.2.2.2.2.2.2.1,until_,o0.2.2.2.2.2.2.2.2.1,o0.2.2.2.2.2.2.2.2.2,o0.2.2.1⟩:YWorld))))
instance (w:YWorld) (until_:Int):CT Tryz.prog (Zd9 w until_):=⟨18,[.ag (cWorld w),vi until_],[],fun r=>.ag [.sl (r.network.legs.map cLeg),.sl (r.network.off.map cInt),vi r.network.change,.sl (r.orders.map cOrder),.sl (r.bookings.map cBooking),.sl (r.closed.map cTrip),vi r.now,.sl (r.scans.map cScan),.sl (r.skip.map cInt),vi r.made],fun r=>[],fun H=>by replace H:=H0 H; unfold Zd9 at H; exact callM_of Tryz.func18 rfl Tryz.ntmps18 Tryz.results18 fun Q hQ hQn=>wk3⟩
def ZbZ (l:List Int):Option (List Int):=
 (chk (appOk ((([]:List Int):List Int).length+(l:List Int).length) 8)).bind fun _=>
 some ((([]:List Int):List Int)++l)
instance (l:List Int):CT Tryz.prog (ZbZ l):=⟨162,[.sl (l.map cInt)],[],fun r=>.ms 0,fun r=>[some ⟨.of 3,1,r.map cInt⟩],fun H=>by replace H:=H0 H; unfold ZbZ at H; exact callM_of Tryz.func162 rfl Tryz.ntmps162 Tryz.results162 fun Q hQ hQn=>wk3⟩
def Zdj (l:List YBooking):Option (List YBooking):=
 (chk (appOk ((([]:List YBooking):List YBooking).length+(l:List YBooking).length) 32)).bind fun _=>
 some ((([]:List YBooking):List YBooking)++l)
instance (l:List YBooking):CT Tryz.prog (Zdj l):=⟨163,[.sl (l.map cBooking)],[],fun r=>.ms 0,fun r=>[some ⟨.of 135,4,r.map cBooking⟩],fun H=>by replace H:=H0 H; unfold Zdj at H; exact callM_of Tryz.func163 rfl Tryz.ntmps163 Tryz.results163 fun Q hQ hQn=>wk3⟩
def ZbN (w:YWorld) (y1:(List Int)) (s0:Int × (List YOrder)):Option ((Int × (List YOrder)) ⊕ (List YOrder)):=
 cond (decide (s0.1<(w.orders.length:Int)))
 ((getI w.orders s0.1).bind fun y2=>
 (chk (appOk ((([]:List YTrip):List YTrip).length+(y2.way:List YTrip).length) 16)).bind fun _=>
 (frz (.un::.be 0 0 0::.be 1 0 0::.be 2 0 0::vi s0.1::.be 6 0 0::(U 59 [])) [some ⟨.of 41,10,[[.sl (w.network.legs.map cLeg),.sl (w.network.off.map cInt),vi w.network.change,.sl (w.orders.map cOrder),.sl (w.bookings.map cBooking),.sl (w.closed.map cTrip),vi w.now,.sl (w.scans.map cScan),.sl (w.skip.map cInt),vi w.made]]⟩,some ⟨.of 41,10,[[.v (.slice none 0 0),.v (.slice none 0 0),vi 0,.v (.slice none 0 0),.v (.slice none 0 0),.v (.slice none 0 0),vi 0,.v (.slice none 0 0),.v (.slice none 0 0),vi 0]]⟩,some ⟨.of 41,10,[[.ms 3,.ms 4,vi w.network.change,.ms 5,.sl (w.bookings.map cBooking),.sl (w.closed.map cTrip),vi w.now,.sl (w.scans.map cScan),.sl (w.skip.map cInt),vi w.made]]⟩,some ⟨.of 67,6,((([]:List YLeg):List YLeg)++w.network.legs).map cLeg⟩,some ⟨.of 3,1,y1.map cInt⟩,some ⟨.of 62,11,s0.2.map cOrder⟩,some ⟨.of 62,11,[[vs y2.from_,vs y2.to_,vi y2.service,vi y2.weight,vi y2.at_,vi y2.due,.sl (((([]:List YTrip):List YTrip)++y2.way).map cTrip),vi y2.gone,vi y2.state,vs y2.place,vi y2.ended]]⟩]).bind fun _=>
 (chk (appOk ((s0.2:List YOrder).length+([(⟨y2.from_,y2.to_,y2.service,y2.weight,y2.at_,y2.due,((([]:List YTrip):List YTrip)++y2.way),y2.gone,y2.state,y2.place,y2.ended⟩:YOrder)]:List YOrder).length) 128)).bind fun _=>
 some (.inl ((w64 (s0.1+1)),((s0.2:List YOrder)++[(⟨y2.from_,y2.to_,y2.service,y2.weight,y2.at_,y2.due,((([]:List YTrip):List YTrip)++y2.way),y2.gone,y2.state,y2.place,y2.ended⟩:YOrder)]))))
 (some (.inr s0.2))
instance (w:YWorld) (y1:(List Int)):LoopE (ZbN w y1):=⟨fun s0=>(.un::.be 0 0 0::.be 1 0 0::.be 2 0 0::vi s0.1::(U 60 [])),fun s0=>[some ⟨.of 41,10,[[.sl (w.network.legs.map cLeg),.sl (w.network.off.map cInt),vi w.network.change,.sl (w.orders.map cOrder),.sl (w.bookings.map cBooking),.sl (w.closed.map cTrip),vi w.now,.sl (w.scans.map cScan),.sl (w.skip.map cInt),vi w.made]]⟩,some ⟨.of 41,10,[[.v (.slice none 0 0),.v (.slice none 0 0),vi 0,.v (.slice none 0 0),.v (.slice none 0 0),.v (.slice none 0 0),vi 0,.v (.slice none 0 0),.v (.slice none 0 0),vi 0]]⟩,some ⟨.of 41,10,[[.ms 3,.ms 4,vi w.network.change,.ms 5,.sl (w.bookings.map cBooking),.sl (w.closed.map cTrip),vi w.now,.sl (w.scans.map cScan),.sl (w.skip.map cInt),vi w.made]]⟩,some ⟨.of 67,6,((([]:List YLeg):List YLeg)++w.network.legs).map cLeg⟩,some ⟨.of 3,1,y1.map cInt⟩,some ⟨.of 62,11,s0.2.map cOrder⟩]⟩
def Zbf (w:YWorld):Option YWorld:=
 (chk (appOk ((([]:List YLeg):List YLeg).length+(w.network.legs:List YLeg).length) 64)).bind fun _=>
 (ZbZ w.network.off).bind fun y1=>
 (iterF (ZbN w y1) NN (0,([]:List YOrder))).bind (fun o0=>
 (Zdj w.bookings).bind fun y3=>
 (chk (appOk ((([]:List YTrip):List YTrip).length+(w.closed:List YTrip).length) 16)).bind fun _=>
 (chk (appOk ((([]:List YScan):List YScan).length+(w.scans:List YScan).length) 56)).bind fun _=>
 (ZbZ w.skip).bind fun y4=>
 some (⟨(⟨((([]:List YLeg):List YLeg)++w.network.legs),y1,w.network.change⟩:YNetwork),o0,y3,((([]:List YTrip):List YTrip)++w.closed),w.now,((([]:List YScan):List YScan)++w.scans),y4,w.made⟩:YWorld))
instance (w:YWorld):CT Tryz.prog (Zbf w):=⟨70,[.ag (cWorld w)],[],fun r=>.ag [.ms 0,.ms 1,vi r.network.change,.ms 2,.ms 3,.ms 4,vi r.now,.ms 5,.ms 6,vi r.made],fun r=>[some ⟨.of 67,6,r.network.legs.map cLeg⟩,some ⟨.of 3,1,r.network.off.map cInt⟩,some ⟨.of 62,11,r.orders.map cOrder⟩,some ⟨.of 135,4,r.bookings.map cBooking⟩,some ⟨.of 55,2,r.closed.map cTrip⟩,some ⟨.of 130,6,r.scans.map cScan⟩,some ⟨.of 3,1,r.skip.map cInt⟩],fun H=>by replace H:=H0 H; unfold Zbf at H; exact callM_of Tryz.func70 rfl Tryz.ntmps70 Tryz.results70 fun Q hQ hQn=>wk3⟩
def Zdf (until_:Int) (s0:Int × Int × Int × Int × (List YLeg) × (List Int) × (List YOrder) × (List YBooking) × (List YTrip) × (List YScan) × (List Int)):Option ((Int × Int × Int × Int × (List YLeg) × (List Int) × (List YOrder) × (List YBooking) × (List YTrip) × (List YScan) × (List Int)) ⊕ (Int × Int × Int × (List YLeg) × (List Int) × (List YOrder) × (List YBooking) × (List YTrip) × (List YScan) × (List Int))):=
 cond (decide (s0.1<240))
 ((Zeg (⟨(⟨s0.2.2.2.2.1,s0.2.2.2.2.2.1,s0.2.1⟩:YNetwork),s0.2.2.2.2.2.2.1,s0.2.2.2.2.2.2.2.1,s0.2.2.2.2.2.2.2.2.1,s0.2.2.1,s0.2.2.2.2.2.2.2.2.2.1,s0.2.2.2.2.2.2.2.2.2.2,s0.2.2.2.1⟩:YWorld)).bind fun y4=>
 cond (decide (y4<0))
 (some (.inr (s0.2.1,s0.2.2.1,s0.2.2.2.1,s0.2.2.2.2.1,s0.2.2.2.2.2.1,s0.2.2.2.2.2.2.1,s0.2.2.2.2.2.2.2.1,s0.2.2.2.2.2.2.2.2.1,s0.2.2.2.2.2.2.2.2.2.1,s0.2.2.2.2.2.2.2.2.2.2)))
 (cond (decide (until_<y4))
 (some (.inr (s0.2.1,s0.2.2.1,s0.2.2.2.1,s0.2.2.2.2.1,s0.2.2.2.2.2.1,s0.2.2.2.2.2.2.1,s0.2.2.2.2.2.2.2.1,s0.2.2.2.2.2.2.2.2.1,s0.2.2.2.2.2.2.2.2.2.1,s0.2.2.2.2.2.2.2.2.2.2)))
 ((rhoM [1,2,3,4,5,6,7,8]).bind fun _=>
 (ZeD (⟨(⟨s0.2.2.2.2.1,s0.2.2.2.2.2.1,s0.2.1⟩:YNetwork),s0.2.2.2.2.2.2.1,s0.2.2.2.2.2.2.2.1,s0.2.2.2.2.2.2.2.2.1,s0.2.2.1,s0.2.2.2.2.2.2.2.2.2.1,s0.2.2.2.2.2.2.2.2.2.2,s0.2.2.2.1⟩:YWorld) y4).bind fun y5=>
 some (.inl ((w64 (s0.1+1)),y5.network.change,y5.now,y5.made,y5.network.legs,y5.network.off,y5.orders,y5.bookings,y5.closed,y5.scans,y5.skip)))))
 (some (.inr (s0.2.1,s0.2.2.1,s0.2.2.2.1,s0.2.2.2.2.1,s0.2.2.2.2.2.1,s0.2.2.2.2.2.2.1,s0.2.2.2.2.2.2.2.1,s0.2.2.2.2.2.2.2.2.1,s0.2.2.2.2.2.2.2.2.2.1,s0.2.2.2.2.2.2.2.2.2.2)))
instance (until_:Int):LoopE (Zdf until_):=⟨fun s0=>(.un::vi until_::.un::.un::.be 0 0 0::.be 1 0 0::vi s0.1::(U 32 [])),fun s0=>[some ⟨.of 41,10,[[.v (.slice none 0 0),.v (.slice none 0 0),vi 0,.v (.slice none 0 0),.v (.slice none 0 0),.v (.slice none 0 0),vi 0,.v (.slice none 0 0),.v (.slice none 0 0),vi 0]]⟩,some ⟨.of 41,10,[[.ms 2,.ms 3,vi s0.2.1,.ms 4,.ms 5,.ms 6,vi s0.2.2.1,.ms 7,.ms 8,vi s0.2.2.2.1]]⟩,some ⟨.of 67,6,s0.2.2.2.2.1.map cLeg⟩,some ⟨.of 3,1,s0.2.2.2.2.2.1.map cInt⟩,some ⟨.of 62,11,s0.2.2.2.2.2.2.1.map cOrder⟩,some ⟨.of 135,4,s0.2.2.2.2.2.2.2.1.map cBooking⟩,some ⟨.of 55,2,s0.2.2.2.2.2.2.2.2.1.map cTrip⟩,some ⟨.of 130,6,s0.2.2.2.2.2.2.2.2.2.1.map cScan⟩,some ⟨.of 3,1,s0.2.2.2.2.2.2.2.2.2.2.map cInt⟩]⟩
def Za0 (w:YWorld) (until_:Int):Option YWorld:=
 (Zbf w).bind fun y1=>
 (Zbs w).bind fun y2=>
 cond (!y2)
 (some y1)
 ((ZJ until_ w.now 100000).bind fun y3=>
 cond (!y3)
 (some y1)
 ((iterF (Zdf until_) NN (0,y1.network.change,y1.now,y1.made,y1.network.legs,y1.network.off,y1.orders,y1.bookings,y1.closed,y1.scans,y1.skip)).bind (fun o0=>
 some (⟨(⟨o0.2.2.2.1,o0.2.2.2.2.1,o0.1⟩:YNetwork),o0.2.2.2.2.2.1,o0.2.2.2.2.2.2.1,o0.2.2.2.2.2.2.2.1,until_,o0.2.2.2.2.2.2.2.2.1,o0.2.2.2.2.2.2.2.2.2,o0.2.2.1⟩:YWorld))))
instance (w:YWorld) (until_:Int):CT Tryz.prog (Za0 w until_):=⟨16,[.ag (cWorld w),vi until_],[],fun r=>.ag [.ms 0,.ms 1,vi r.network.change,.ms 2,.ms 3,.ms 4,vi r.now,.ms 5,.ms 6,vi r.made],fun r=>[some ⟨.of 67,6,r.network.legs.map cLeg⟩,some ⟨.of 3,1,r.network.off.map cInt⟩,some ⟨.of 62,11,r.orders.map cOrder⟩,some ⟨.of 135,4,r.bookings.map cBooking⟩,some ⟨.of 55,2,r.closed.map cTrip⟩,some ⟨.of 130,6,r.scans.map cScan⟩,some ⟨.of 3,1,r.skip.map cInt⟩],fun H=>by replace H:=H0 H; unfold Za0 at H; exact callM_of Tryz.func16 rfl Tryz.ntmps16 Tryz.results16 fun Q hQ hQn=>wk3⟩
theorem ZbW {σ ο:Type} {body:σ→Option (σ ⊕ ο)} (S:Nat→σ) {n:Nat} {o:ο} (h1:∀ i,i<n→body (S i)=some (.inl (S (i+1)))) (h2:body (S n)=some (.inr o)):∀ N,n<N→iterF body N (S 0)=some o:=by
 have key:∀ d j,j+d=n→∀ N,d<N→iterF body N (S j)=some o:=by
  intro d
  induction d with
  | zero=>
   intro j hj N hN
   obtain ⟨N,rfl⟩:∃ M,N=M+1:=⟨N-1,by omega⟩
   have:j=n:=by omega
   subst this
   unfold iterF; rw [h2]; rfl
  | succ d ih=>
   intro j hj N hN
   obtain ⟨N,rfl⟩:∃ M,N=M+1:=⟨N-1,by omega⟩
   unfold iterF
   rw [h1 j (by omega)]
   exact ih (j+1) (by omega) N (by omega)
 intro N hN
 exact key n 0 (by omega) N hN
theorem ZnA {A α:Type} (f:A→α→A):∀ (xs:List α) (i:Nat) (a:A),runL (fun _ a x=>some (.inl (f a x):A ⊕ A)) some i xs a=some (xs.foldl f a)
 | [],i,a=>rfl
 | x::xs,i,a=>by
  simp only [runL,Option.bind_some,selim,List.foldl_cons]
  exact ZnA f xs (i+1) (f a x)
theorem Zow {w:YWorld} (h:WOk w):ZbC w=some (Zc1 w):=by
 have hnet:=h.net
 have hor:=h.fit.orders
 have e1:iterF (ZaK w) NN ((-1),0)=some (Zc1 w):=by
  rw [ZgI (xs:=w.orders) (A:=Int) (fun a i=>(a,i)) (fun _ a o=>some (.inl (Zha a (Zbj w.network o)))) some (fun a i o ho=>?_) (fun a=>?_) (by unfold NN; omega) (-1)]
  ·exact ZnA (fun a o=>Zha a (Zbj w.network o)) w.orders 0 (-1)
  ·have hlt:=(List.getElem?_eq_some_iff.1 ho).1
   have hg:getI w.orders (i:Int)=some o:=by rw [Zn]; exact ho
   have hi:w64 ((i:Int)+1)=((i+1:Nat):Int):=ZR hlt (by omega)
   have hok:=Zdk h.fit h.ok ho
   unfold ZaK
   simp only [decide_eq_true (show (i:Int)<w.orders.length by omega),cond_true,hg,Option.bind_some,hi,Zei,ZfG]
   by_cases hgl:o.gone<o.way.length
   ·obtain ⟨t,htg,htb⟩:=ZkS h.fit h.ok ho hok.gone.1 hgl
    obtain ⟨t1,t2,t3,t4,t5⟩:=ZI h.fit.net hnet htb
    have ht:o.way[o.gone.toNat]?=some t:=by unfold getI at htg; rwa [if_pos hok.gone.1] at htg
    have ev:Zbj w.network o=some (if o.state=2 then Z7 w.network t else ZM w.network t):=by unfold Zbj; rw [ht]; rfl
    rw [ev]
    simp only [htg,Option.bind_some,t1,t2,decide_eq_true hgl,Zha]
    rcases hok.cases with ⟨c1,_⟩ | ⟨c1,_⟩ | ⟨c1,c2,_⟩
    ·rw [c1]
     simp only [show decide ((1:Int)=2)=false from rfl,show decide ((1:Int)=1)=true from rfl,cond_true,cond_false,decide_eq_true t3,show ¬ ((1:Int)=2) by omega,if_false,selim]
     by_cases ha:a<0
     ·simp [ha]
     ·by_cases hb:ZM w.network t<a <;> simp [ha,hb]
    ·rw [c1]
     simp only [show decide ((2:Int)=2)=true from rfl,cond_true,decide_eq_true (show 0≤Z7 w.network t by omega),if_true,selim]
     by_cases ha:a<0
     ·simp [ha]
     ·by_cases hb:Z7 w.network t<a <;> simp [ha,hb]
    ·omega
   ·have hge:=hok.gone.2
    have ev:Zbj w.network o=none:=by unfold Zbj; rw [List.getElem?_eq_none (by omega)]; rfl
    rw [ev,decide_eq_false hgl]
    rcases hok.cases with ⟨c1,_⟩ | ⟨c1,_⟩ | ⟨c1,c2,_⟩
    ·rw [c1]; rfl
    ·omega
    ·rw [c1]; rfl
  ·unfold ZaK
   simp
 unfold ZbC
 rw [e1]; rfl
theorem ZwB {w:YWorld} (h:WOk w):Zeg w=some (Zc1 w):=by
 have h1:=Zwz h.fit h.ok
 rw [Zow h] at h1
 unfold Zeg
 rw [Zge h.fit,h.ok]
 simp only [Option.bind_some,Bool.not_true,cond_false]
 exact h1.symm
theorem chk0 {n c:Nat} (h:n≤1048576) (hc:c≤1024):chk (appOk (0+n) c)=some ():=ZcC (by omega) hc
theorem chkn {n c:Nat} (h:n≤1048576) (hc:c≤1024):chk (appOk n c)=some ():=by have:=chk0 h hc; rwa [Nat.zero_add] at this
theorem ZrD {n:YNetwork} (h:Z0 n):ZcA n=some n:=by
 unfold ZcA
 simp only [List.length_nil,chk0 h.legs (show 64≤1024 by omega),chk0 h.off (show 8≤1024 by omega),Option.bind_some,List.nil_append]
theorem ZgW {l:List YTrip} (h:l.length≤1048576):ZaP l=some l:=by
 unfold ZaP
 simp only [List.length_nil,chk0 h (show 16≤1024 by omega),Option.bind_some,List.nil_append]
theorem Zqe {l:List YBooking} (h:l.length≤1048576):Zbg l=some l:=by
 unfold Zbg
 simp only [List.length_nil,chk0 h (show 32≤1024 by omega),Option.bind_some,List.nil_append]
theorem ZgR {α:Type} {xs:List α} {i:Nat} {x:α} (h:xs[i]?=some x):xs.take i++[x]=xs.take (i+1):=by
 rw [List.take_add_one,h]; rfl
theorem Zj3 {w:YWorld} (h:WFit w):ZaZ w=some w:=by
 have hor:=h.orders
 unfold ZaZ
 rw [ZrD h.net,Option.bind_some,Zqe h.bookings,Option.bind_some,ZgW h.closed,Option.bind_some]
 have e:iterF (Zbm w w.network w.bookings w.closed) NN (0,[])=some w.orders:=by
  have:=ZbW (body:=Zbm w w.network w.bookings w.closed) (fun i:Nat=>((i:Int),w.orders.take i)) (n:=w.orders.length) (o:=w.orders) (fun i hi=>?_) ?_ NN (by unfold NN; omega)
  ·simpa using this
  ·have ho:w.orders[i]?=some w.orders[i]:=List.getElem?_eq_getElem hi
   have hg:getI w.orders (i:Int)=some w.orders[i]:=by rw [Zn]; exact ho
   have hw:w64 ((i:Int)+1)=((i+1:Nat):Int):=ZR hi (by omega)
   have hl:(w.orders.take i).length+1≤1048576:=by rw [List.length_take]; omega
   unfold Zbm
   simp only [decide_eq_true (show (i:Int)<w.orders.length by omega),cond_true,hg,Option.bind_some,ZgW (h.way _ (List.getElem_mem hi)),frz,List.length_cons,List.length_nil,Nat.zero_add,ZcC hl (show 128≤1024 by omega),hw]
   rw [← ZgR ho]
  ·unfold Zbm
   simp
 simp only [List.length_nil,chk0 h.scans (show 56≤1024 by omega),chk0 h.skip (show 8≤1024 by omega),Option.bind_some,e,List.nil_append]
theorem Zm3 {l:List Int} (h:l.length≤1048576):ZbZ l=some l:=by
 unfold ZbZ
 simp only [List.length_nil,chk0 h (show 8≤1024 by omega),Option.bind_some,List.nil_append]
theorem Zgd {l:List YBooking} (h:l.length≤1048576):Zdj l=some l:=by
 unfold Zdj
 simp only [List.length_nil,chk0 h (show 32≤1024 by omega),Option.bind_some,List.nil_append]
theorem Zj4 {w:YWorld} (h:WFit w):Zbf w=some w:=by
 have hor:=h.orders
 unfold Zbf
 have e:iterF (ZbN w w.network.off) NN (0,([]:List YOrder))=some w.orders:=by
  have:=ZbW (body:=ZbN w w.network.off) (fun i:Nat=>((i:Int),w.orders.take i)) (n:=w.orders.length) (o:=w.orders) (fun i hi=>?_) ?_ NN (by unfold NN; omega)
  ·simpa using this
  ·have ho:w.orders[i]?=some w.orders[i]:=List.getElem?_eq_getElem hi
   have hg:getI w.orders (i:Int)=some w.orders[i]:=by rw [Zn]; exact ho
   have hw:w64 ((i:Int)+1)=((i+1:Nat):Int):=ZR hi (by omega)
   have hl:(w.orders.take i).length+1≤1048576:=by rw [List.length_take]; omega
   unfold ZbN
   simp only [decide_eq_true (show (i:Int)<w.orders.length by omega),cond_true,hg,Option.bind_some,chkn (h.way _ (List.getElem_mem hi)) (show 16≤1024 by omega),frz,List.length_cons,List.length_nil,Nat.zero_add,ZcC hl (show 128≤1024 by omega),hw,List.nil_append]
   rw [← ZgR ho]
  ·unfold ZbN
   simp
 simp only [List.length_nil,chk0 h.net.legs (show 64≤1024 by omega),Zm3 h.net.off,Zm3 h.skip,chk0 h.closed (show 16≤1024 by omega),chk0 h.scans (show 56≤1024 by omega),Option.bind_some,e,Zgd h.bookings,List.nil_append]
abbrev OwA:=Int × Int × Int × (List YLeg) × (List Int) × (List YOrder) × (List YBooking) × (List YTrip) × (List YScan) × (List Int)
def owA (w:YWorld):OwA:=(w.network.change,w.now,w.made,w.network.legs,w.network.off,w.orders,w.bookings,w.closed,w.scans,w.skip)
theorem WOk.pass {w:YWorld} (h:WOk w):ZmA w:=by
 have hp:=h.parts
 refine ⟨h.fit.net,h.net,⟨rfl,⟨h.fit.skip,hp.2.2.2.1,by omega⟩,h.fit.orders⟩,fun o ho=>?_⟩
 obtain ⟨i,hi,rfl⟩:=List.getElem_of_mem ho
 have hok:=Zdk h.fit h.ok (List.getElem?_eq_getElem hi)
 refine ⟨hok.gone,h.fit.way _ ho,hok.trip,fun hs=>?_⟩
 rcases hok.cases with ⟨c,_⟩ | ⟨_,c⟩ | ⟨c,_⟩
 ·omega
 ·exact c
 ·omega
theorem ZjD {k:Nat} {w:YWorld} {u:Int} (h:Zc1 w<0∨u<Zc1 w):runV k w u=w:=by
 cases k with
 | zero=>rfl
 | succ k=>unfold runV; rw [if_pos h]
theorem Zvx {k:Nat} {w:YWorld} {u:Int} (h:WOk w) (hk:Zgc w≤k) (hu:u≤100000) (hc:¬ (Zc1 w<0∨u<Zc1 w)):runV k w u=runV (k-1) (ZbF w (Zc1 w)) u:=by
 have:=Zgj h (by omega)
 cases k with
 | zero=>omega
 | succ k=>
  rw [Nat.add_sub_cancel]
  conv=>lhs; unfold runV; rw [if_neg hc]
theorem Zk4 {u:Int} (hu:u≤100000):∀ (N k:Nat) (w:YWorld),WOk w→Zgc w≤k→k<N→iterF (ZdZ u) N (Zc1 w,owA w)=some (owA (runV k w u))
 | 0,k,w,_,_,hN=>by omega
 | N+1,k,w,h,hk,hN=>by
  simp only [iterF]
  unfold ZdZ
  simp only [owA]
  by_cases h0:0≤Zc1 w
  ·by_cases h1:Zc1 w≤u
   ·obtain ⟨a,b,c⟩:=Zgi h h0
    have ht:=Zgj h h0
    have hb:=(Zki h.pass (Zc1 w)).1
    have hw:(⟨⟨w.network.legs,w.network.off,w.network.change⟩,w.orders,w.bookings,w.closed,w.now,w.scans,w.skip,w.made⟩:YWorld)=w:=rfl
    rw [Zvx h hk hu (by omega)]
    simp only [decide_eq_true h0,decide_eq_true h1,cond_true,rhoM,Option.bind_some,hw,hb,Zow a]
    exact Zk4 hu N (k-1) _ a (by omega) (by omega)
   ·rw [ZjD (.inr (by omega))]
    simp only [decide_eq_true h0,decide_eq_false h1,cond_true,cond_false]
    rfl
  ·rw [ZjD (.inl (by omega))]
   simp only [decide_eq_false h0,cond_false]
   rfl
theorem Zro {w:YWorld} (hf:WFit w) (u:Int):Zd9 w u=some (if ZcB w=true∧w.now≤u∧u≤100000 then advV w u else w):=by
 unfold Zd9
 rw [Zj3 hf,Option.bind_some,ZeM hf,Option.bind_some,Zej,ZbH,Option.bind_some]
 cases hv:ZcB w with
 | false=>simp
 | true=>
  have h:WOk w:=⟨hf,hv⟩
  by_cases h1:w.now≤u
  ·by_cases h2:u≤100000
   ·have e:(Zc1 w,w.network.change,w.now,w.made,w.network.legs,w.network.off,w.orders,w.bookings,w.closed,w.scans,w.skip)=(Zc1 w,owA w):=rfl
    have hp:=h.parts
    have hN:Zgc w<NN:=by
     have:∀ l:List YOrder,(∀ o∈l,o.way.length≤1048576)→(l.map Zeu).sum≤2097152*l.length:=by
      intro l
      induction l with
      | nil=>intro _; simp
      | cons o l ih=>
       intro hl
       have:=ih fun x hx=>hl x (List.mem_cons_of_mem _ hx)
       have h2:=hl o List.mem_cons_self
       have h3:Zeu o≤2*o.way.length:=by unfold Zeu; omega
       simp only [List.map_cons,List.sum_cons,List.length_cons]
       omega
     have:=this w.orders hf.way
     have h3:=hp.2.1
     unfold Zgc NN
     omega
    simp only [Bool.not_true,cond_false,decide_eq_true h1,decide_eq_true h2,Bool.and_self,Zow h,Option.bind_some,h1,h2,and_self,if_true,e,Zk4 h2 NN (Zgc w) w h (Nat.le_refl _) hN]
    rfl
   ·simp [h1,h2]
  ·simp [h1]
theorem ZtB {w:YWorld} (h:WOk w):Zgc w≤240:=by
 have hp:=h.parts
 have hv:=h.ok
 unfold ZcB at hv
 simp only [Bool.and_eq_true,decide_eq_true_iff] at hv
 have ht:=hv.2
 have key:∀ (l:List YOrder) (a:Int),(∀ o∈l,o.way.length≤1048576)→l.length≤30→0≤a→a≤1048576*(30-l.length:Nat)→l.foldl (fun a o=>w64 (a+(o.way.length:Int))) a=a+((l.map fun o=>o.way.length).sum:Nat):=by
  intro l
  induction l with
  | nil=>intro a _ _ _ _; simp
  | cons o l ih=>
   intro a hl hn h0 h1
   have h2:=hl o List.mem_cons_self
   simp only [List.length_cons] at hn h1
   have hw:w64 (a+(o.way.length:Int))=a+(o.way.length:Int):=Zo (by omega)
   simp only [List.foldl_cons,hw]
   rw [ih _ (fun x hx=>hl x (List.mem_cons_of_mem _ hx)) (by omega) (by omega) (by omega)]
   simp only [List.map_cons,List.sum_cons]
   omega
 have hs:=key w.orders 0 h.fit.way hp.2.1 (by omega) (by omega)
 unfold Zjg at ht
 rw [hs] at ht
 have h2:Zgc w≤2*((w.orders.map fun o=>o.way.length).sum):=by
  unfold Zgc
  have:∀ l:List YOrder,(l.map Zeu).sum≤2*(l.map fun o=>o.way.length).sum:=by
   intro l
   induction l with
   | nil=>simp
   | cons o l ih=>
    have:Zeu o≤2*o.way.length:=by unfold Zeu; omega
    simp only [List.map_cons,List.sum_cons]
    omega
  exact this _
 omega
theorem Zk5 {u:Int} (hu:u≤100000):∀ (N k j:Nat) (w:YWorld),WOk w→Zgc w≤k→j+k=240→k<N→iterF (Zdf u) N ((j:Int),owA w)=some (owA (runV k w u))
 | 0,k,j,w,_,_,_,hN=>by omega
 | N+1,k,j,w,h,hk,hj,hN=>by
  simp only [iterF]
  unfold Zdf
  simp only [owA]
  have hw:(⟨⟨w.network.legs,w.network.off,w.network.change⟩,w.orders,w.bookings,w.closed,w.now,w.scans,w.skip,w.made⟩:YWorld)=w:=rfl
  by_cases hj2:j<240
  ·simp only [decide_eq_true (show (j:Int)<240 by omega),cond_true,hw,ZwB h,Option.bind_some]
   by_cases h0:Zc1 w<0
   ·rw [ZjD (.inl h0)]
    simp only [decide_eq_true h0,cond_true]
    rfl
   ·by_cases h1:u<Zc1 w
    ·rw [ZjD (.inr h1)]
     simp only [decide_eq_false h0,decide_eq_true h1,cond_true,cond_false]
     rfl
    ·obtain ⟨a,b,c⟩:=Zgi h (by omega)
     have ht:=Zgj h (by omega)
     have hb:=(Zki h.pass (Zc1 w)).2
     have hw1:w64 ((j:Int)+1)=((j+1:Nat):Int):=by rw [Zo (by omega)]; omega
     rw [Zvx h hk hu (by omega)]
     simp only [decide_eq_false h0,decide_eq_false h1,cond_false,rhoM,Option.bind_some,hb,hw1]
     exact Zk5 hu N (k-1) (j+1) _ a (by omega) (by omega) (by omega)
  ·have hk0:k=0:=by omega
   subst hk0
   simp only [decide_eq_false (show ¬ (j:Int)<240 by omega),cond_false]
   rfl
theorem Zrp {w:YWorld} (hf:WFit w) (u:Int):Za0 w u=some (if ZcB w=true∧w.now≤u∧u≤100000 then advV w u else w):=by
 unfold Za0
 rw [Zj4 hf,Option.bind_some,Zge hf,Option.bind_some,ZbH,Option.bind_some]
 cases hv:ZcB w with
 | false=>simp
 | true=>
  have h:WOk w:=⟨hf,hv⟩
  by_cases h1:w.now≤u
  ·by_cases h2:u≤100000
   ·have e:((0:Int),w.network.change,w.now,w.made,w.network.legs,w.network.off,w.orders,w.bookings,w.closed,w.scans,w.skip)=(((0:Nat):Int),owA w):=rfl
    simp only [Bool.not_true,cond_false,decide_eq_true h1,decide_eq_true h2,Bool.and_self,h1,h2,and_self,if_true,e,Zk5 h2 NN 240 0 w h (ZtB h) rfl (by unfold NN; omega),Option.bind_some]
    rw [Zw6 h (ZtB h) (Nat.le_refl _) h2]
    rfl
   ·simp [h1,h2]
  ·simp [h1]
def ZEC (w:YWorld) (s:YScan):Option YWorld:=
 (Zf8 w.skip (if 1000000000<(w64 (w.made+1)) then 1000000000 else (w64 (w.made+1)))).bind fun y1=>
 cond (!y1)
 (cond (decide ((w.scans.length:Int)<200))
 ((chk (appOk ((w.scans:List YScan).length+([s]:List YScan).length) 56)).bind fun _=>
 some (⟨w.network,w.orders,w.bookings,w.closed,w.now,((w.scans:List YScan)++[s]),w.skip,(if 1000000000<(w64 (w.made+1)) then 1000000000 else (w64 (w.made+1)))⟩:YWorld))
 (some (⟨w.network,w.orders,w.bookings,w.closed,w.now,w.scans,w.skip,(if 1000000000<(w64 (w.made+1)) then 1000000000 else (w64 (w.made+1)))⟩:YWorld)))
 (some (⟨w.network,w.orders,w.bookings,w.closed,w.now,w.scans,w.skip,(if 1000000000<(w64 (w.made+1)) then 1000000000 else (w64 (w.made+1)))⟩:YWorld))
instance (w:YWorld) (s:YScan):CT Tryz.prog (ZEC w s):=⟨138,[.be 0 0 0,.ag (cScan s)],[some ⟨.of 41,10,[[.ms 1,.ms 2,vi w.network.change,.ms 3,.ms 4,.ms 5,vi w.now,.ms 6,.ms 7,vi w.made]]⟩,some ⟨.of 67,6,w.network.legs.map cLeg⟩,some ⟨.of 3,1,w.network.off.map cInt⟩,some ⟨⟨62,some 55⟩,11,w.orders.map cOrder⟩,some ⟨.of 135,4,w.bookings.map cBooking⟩,some ⟨.of 55,2,w.closed.map cTrip⟩,some ⟨.of 130,6,w.scans.map cScan⟩,some ⟨.of 3,1,w.skip.map cInt⟩],fun r=>.tu [],fun r=>[some ⟨.of 41,10,[[.ms 1,.ms 2,vi r.network.change,.ms 3,.ms 4,.ms 5,vi r.now,.ms 8,.ms 7,vi r.made]]⟩,some ⟨.of 67,6,r.network.legs.map cLeg⟩,some ⟨.of 3,1,r.network.off.map cInt⟩,some ⟨⟨62,some 55⟩,11,r.orders.map cOrder⟩,some ⟨.of 135,4,r.bookings.map cBooking⟩,some ⟨.of 55,2,r.closed.map cTrip⟩,none,some ⟨.of 3,1,r.skip.map cInt⟩,some ⟨.of 130,6,r.scans.map cScan⟩],fun H=>by replace H:=H0 H; unfold ZEC at H; exact callM_of Tryz.func138 rfl Tryz.ntmps138 Tryz.results138 fun Q hQ hQn=>wk3⟩
def ZFC (w:YWorld) (at1_:Int) (s0:Int × Int × Int × Int × (List YLeg) × (List Int) × (List YOrder) × (List YBooking) × (List YTrip) × (List Int) × (List YScan)):Option ((Int × Int × Int × Int × (List YLeg) × (List Int) × (List YOrder) × (List YBooking) × (List YTrip) × (List Int) × (List YScan)) ⊕ (Int × Int × Int × (List YLeg) × (List Int) × (List YOrder) × (List YBooking) × (List YTrip) × (List Int) × (List YScan))):=
 cond (decide (s0.1<(w.orders.length:Int)))
 ((getI s0.2.2.2.2.2.2.1 s0.1).bind fun y1=>
 cond (!decide (y1.state=2))
 (some (.inl ((w64 (s0.1+1)),s0.2.1,s0.2.2.1,s0.2.2.2.1,s0.2.2.2.2.1,s0.2.2.2.2.2.1,s0.2.2.2.2.2.2.1,s0.2.2.2.2.2.2.2.1,s0.2.2.2.2.2.2.2.2.1,s0.2.2.2.2.2.2.2.2.2.1,s0.2.2.2.2.2.2.2.2.2.2)))
 ((getI y1.way y1.gone).bind fun y2=>
 (ZO (⟨s0.2.2.2.2.1,s0.2.2.2.2.2.1,w.network.change⟩:YNetwork) y2).bind fun y3=>
 cond (!decide (y3=at1_))
 (some (.inl ((w64 (s0.1+1)),s0.2.1,s0.2.2.1,s0.2.2.2.1,s0.2.2.2.2.1,s0.2.2.2.2.2.1,s0.2.2.2.2.2.2.1,s0.2.2.2.2.2.2.2.1,s0.2.2.2.2.2.2.2.2.1,s0.2.2.2.2.2.2.2.2.2.1,s0.2.2.2.2.2.2.2.2.2.2)))
 ((rgI s0.2.2.2.2.2.2.1 s0.1).bind fun y4=>
 (getI y4.way y4.gone).bind fun y5=>
 (rgI s0.2.2.2.2.2.2.1 s0.1).bind fun y6=>
 (getI s0.2.2.2.2.1 y5.leg).bind fun y7=>
 (rgI s0.2.2.2.2.2.2.1 s0.1).bind fun y8=>
 (frzL (s0.2.2.2.2.2.2.1.set (Int.toNat s0.1) (⟨y6.from_,y6.to_,y6.service,y6.weight,y6.at_,y6.due,y6.way,(w64 (y6.gone+1)),1,y7.to_,y6.ended⟩:YOrder)) (fun y9=>(.be 0 0 0::vi at1_::.un::.un::.be 9 0 0::vi s0.1::.be 3 (Int.toNat s0.1) 0::.be 10 0 0::(U 10 (vi (w.orders.length:Int)::vi s0.1::(U 167 []))))) (fun y9=>[some ⟨.of 41,10,[[.ms 1,.ms 2,vi s0.2.1,.ms 3,.ms 4,.ms 5,vi s0.2.2.1,.ms 8,.ms 7,vi s0.2.2.2.1]]⟩,some ⟨.of 67,6,s0.2.2.2.2.1.map cLeg⟩,some ⟨.of 3,1,s0.2.2.2.2.2.1.map cInt⟩,some ⟨⟨62,some 55⟩,11,y9.map cOrder⟩,some ⟨.of 135,4,s0.2.2.2.2.2.2.2.1.map cBooking⟩,some ⟨.of 55,2,s0.2.2.2.2.2.2.2.2.1.map cTrip⟩,none,some ⟨.of 3,1,s0.2.2.2.2.2.2.2.2.2.1.map cInt⟩,some ⟨.of 130,6,s0.2.2.2.2.2.2.2.2.2.2.map cScan⟩,some ⟨.of 35,3,[[.ms 1,.ms 2,vi w.network.change]]⟩,some ⟨.of 55,2,[[vi y5.leg,vi y5.day]]⟩])).bind fun y9=>
 (rhoM [0,1,2,3,4,5,8,7]).bind fun _=>
 (ZEC (⟨(⟨s0.2.2.2.2.1,s0.2.2.2.2.2.1,s0.2.1⟩:YNetwork),y9,s0.2.2.2.2.2.2.2.1,s0.2.2.2.2.2.2.2.2.1,s0.2.2.1,s0.2.2.2.2.2.2.2.2.2.2,s0.2.2.2.2.2.2.2.2.2.1,s0.2.2.2.1⟩:YWorld) (⟨(w64 (s0.1+1)),at1_,2,⟨#[]⟩,y5⟩:YScan)).bind fun y10=>
 (rgI y10.orders s0.1).bind fun y11=>
 cond (decide (y11.place=y11.to_))
 ((frzL (y10.orders.set (Int.toNat s0.1) (⟨y11.from_,y11.to_,y11.service,y11.weight,y11.at_,y11.due,y11.way,y11.gone,3,y11.place,at1_⟩:YOrder)) (fun y12=>(.be 0 0 0::vi at1_::.un::.un::.be 9 0 0::vi s0.1::.be 3 (Int.toNat s0.1) 0::(U 11 (vi (w.orders.length:Int)::vi s0.1::(U 167 []))))) (fun y12=>[some ⟨.of 41,10,[[.ms 1,.ms 2,vi y10.network.change,.ms 3,.ms 4,.ms 5,vi y10.now,.ms 8,.ms 7,vi y10.made]]⟩,some ⟨.of 67,6,y10.network.legs.map cLeg⟩,some ⟨.of 3,1,y10.network.off.map cInt⟩,some ⟨⟨62,some 55⟩,11,y12.map cOrder⟩,some ⟨.of 135,4,y10.bookings.map cBooking⟩,some ⟨.of 55,2,y10.closed.map cTrip⟩,none,some ⟨.of 3,1,y10.skip.map cInt⟩,some ⟨.of 130,6,y10.scans.map cScan⟩,some ⟨.of 35,3,[[.ms 1,.ms 2,vi w.network.change]]⟩])).bind fun y12=>
 (rgI y12 s0.1).bind fun y13=>
 (rhoM [0,1,2,3,4,5,8,7]).bind fun _=>
 (ZEC (⟨y10.network,y12,y10.bookings,y10.closed,y10.now,y10.scans,y10.skip,y10.made⟩:YWorld) (⟨(w64 (s0.1+1)),at1_,4,y13.place,(⟨0,0⟩:YTrip)⟩:YScan)).bind fun y14=>
 some (.inl ((w64 (s0.1+1)),y14.network.change,y14.now,y14.made,y14.network.legs,y14.network.off,y14.orders,y14.bookings,y14.closed,y14.skip,y14.scans)))
 (some (.inl ((w64 (s0.1+1)),y10.network.change,y10.now,y10.made,y10.network.legs,y10.network.off,y10.orders,y10.bookings,y10.closed,y10.skip,y10.scans))))))
 (some (.inr (s0.2.1,s0.2.2.1,s0.2.2.2.1,s0.2.2.2.2.1,s0.2.2.2.2.2.1,s0.2.2.2.2.2.2.1,s0.2.2.2.2.2.2.2.1,s0.2.2.2.2.2.2.2.2.1,s0.2.2.2.2.2.2.2.2.2.1,s0.2.2.2.2.2.2.2.2.2.2)))
instance (w:YWorld) (at1_:Int):LoopE (ZFC w at1_):=⟨fun s0=>(.be 0 0 0::vi at1_::.un::.un::.be 9 0 0::(U 13 (vi (w.orders.length:Int)::vi s0.1::(U 167 [])))),fun s0=>[some ⟨.of 41,10,[[.ms 1,.ms 2,vi s0.2.1,.ms 3,.ms 4,.ms 5,vi s0.2.2.1,.ms 8,.ms 7,vi s0.2.2.2.1]]⟩,some ⟨.of 67,6,s0.2.2.2.2.1.map cLeg⟩,some ⟨.of 3,1,s0.2.2.2.2.2.1.map cInt⟩,some ⟨⟨62,some 55⟩,11,s0.2.2.2.2.2.2.1.map cOrder⟩,some ⟨.of 135,4,s0.2.2.2.2.2.2.2.1.map cBooking⟩,some ⟨.of 55,2,s0.2.2.2.2.2.2.2.2.1.map cTrip⟩,none,some ⟨.of 3,1,s0.2.2.2.2.2.2.2.2.2.1.map cInt⟩,some ⟨.of 130,6,s0.2.2.2.2.2.2.2.2.2.2.map cScan⟩,some ⟨.of 35,3,[[.ms 1,.ms 2,vi w.network.change]]⟩]⟩
def ZFD (w:YWorld) (at1_:Int) (o0:Int × Int × Int × (List YLeg) × (List Int) × (List YOrder) × (List YBooking) × (List YTrip) × (List Int) × (List YScan)) (s1:Int × Int × Int × Int × (List YLeg) × (List Int) × (List YOrder) × (List YBooking) × (List YTrip) × (List Int) × (List YScan)):Option ((Int × Int × Int × Int × (List YLeg) × (List Int) × (List YOrder) × (List YBooking) × (List YTrip) × (List Int) × (List YScan)) ⊕ (Int × Int × Int × (List YLeg) × (List Int) × (List YOrder) × (List YBooking) × (List YTrip) × (List Int) × (List YScan))):=
 cond (decide (s1.1<(o0.2.2.2.2.2.1.length:Int)))
 ((getI s1.2.2.2.2.2.2.1 s1.1).bind fun y15=>
 cond (decide (y15.state=1))
 (cond (decide (y15.gone<(y15.way.length:Int)))
 ((getI y15.way y15.gone).bind fun y16=>
 (ZH (⟨s1.2.2.2.2.1,s1.2.2.2.2.2.1,w.network.change⟩:YNetwork) y16).bind fun y17=>
 cond (decide (y17=at1_))
 ((rgI s1.2.2.2.2.2.2.1 s1.1).bind fun y18=>
 (frzL (s1.2.2.2.2.2.2.1.set (Int.toNat s1.1) (⟨y18.from_,y18.to_,y18.service,y18.weight,y18.at_,y18.due,y18.way,y18.gone,2,⟨#[]⟩,y18.ended⟩:YOrder)) (fun y19=>(.be 0 0 0::vi at1_::.un::.un::.be 9 0 0::(U 3 (vi s1.1::.be 3 (Int.toNat s1.1) 0::(U 107 (vi (o0.2.2.2.2.2.1.length:Int)::vi s1.1::(U 68 []))))))) (fun y19=>[some ⟨.of 41,10,[[.ms 1,.ms 2,vi s1.2.1,.ms 3,.ms 4,.ms 5,vi s1.2.2.1,.ms 8,.ms 7,vi s1.2.2.2.1]]⟩,some ⟨.of 67,6,s1.2.2.2.2.1.map cLeg⟩,some ⟨.of 3,1,s1.2.2.2.2.2.1.map cInt⟩,some ⟨⟨62,some 55⟩,11,y19.map cOrder⟩,some ⟨.of 135,4,s1.2.2.2.2.2.2.2.1.map cBooking⟩,some ⟨.of 55,2,s1.2.2.2.2.2.2.2.2.1.map cTrip⟩,none,some ⟨.of 3,1,s1.2.2.2.2.2.2.2.2.2.1.map cInt⟩,some ⟨.of 130,6,s1.2.2.2.2.2.2.2.2.2.2.map cScan⟩,some ⟨.of 35,3,[[.ms 1,.ms 2,vi w.network.change]]⟩])).bind fun y19=>
 (drwL 8 [15]).bind fun _=>
 (rgI y19 s1.1).bind fun y20=>
 (getI y20.way y20.gone).bind fun y21=>
 (rhoM [0,1,2,3,4,5,8,7]).bind fun _=>
 (ZEC (⟨(⟨s1.2.2.2.2.1,s1.2.2.2.2.2.1,s1.2.1⟩:YNetwork),y19,s1.2.2.2.2.2.2.2.1,s1.2.2.2.2.2.2.2.2.1,s1.2.2.1,s1.2.2.2.2.2.2.2.2.2.2,s1.2.2.2.2.2.2.2.2.2.1,s1.2.2.2.1⟩:YWorld) (⟨(w64 (s1.1+1)),at1_,3,⟨#[]⟩,y21⟩:YScan)).bind fun y22=>
 some (.inl ((w64 (s1.1+1)),y22.network.change,y22.now,y22.made,y22.network.legs,y22.network.off,y22.orders,y22.bookings,y22.closed,y22.skip,y22.scans)))
 (some (.inl ((w64 (s1.1+1)),s1.2.1,s1.2.2.1,s1.2.2.2.1,s1.2.2.2.2.1,s1.2.2.2.2.2.1,s1.2.2.2.2.2.2.1,s1.2.2.2.2.2.2.2.1,s1.2.2.2.2.2.2.2.2.1,s1.2.2.2.2.2.2.2.2.2.1,s1.2.2.2.2.2.2.2.2.2.2))))
 (some (.inl ((w64 (s1.1+1)),s1.2.1,s1.2.2.1,s1.2.2.2.1,s1.2.2.2.2.1,s1.2.2.2.2.2.1,s1.2.2.2.2.2.2.1,s1.2.2.2.2.2.2.2.1,s1.2.2.2.2.2.2.2.2.1,s1.2.2.2.2.2.2.2.2.2.1,s1.2.2.2.2.2.2.2.2.2.2))))
 (some (.inl ((w64 (s1.1+1)),s1.2.1,s1.2.2.1,s1.2.2.2.1,s1.2.2.2.2.1,s1.2.2.2.2.2.1,s1.2.2.2.2.2.2.1,s1.2.2.2.2.2.2.2.1,s1.2.2.2.2.2.2.2.2.1,s1.2.2.2.2.2.2.2.2.2.1,s1.2.2.2.2.2.2.2.2.2.2))))
 (some (.inr (s1.2.1,s1.2.2.1,s1.2.2.2.1,s1.2.2.2.2.1,s1.2.2.2.2.2.1,s1.2.2.2.2.2.2.1,s1.2.2.2.2.2.2.2.1,s1.2.2.2.2.2.2.2.2.1,s1.2.2.2.2.2.2.2.2.2.1,s1.2.2.2.2.2.2.2.2.2.2)))
instance (w:YWorld) (at1_:Int) (o0:Int × Int × Int × (List YLeg) × (List Int) × (List YOrder) × (List YBooking) × (List YTrip) × (List Int) × (List YScan)):LoopE (ZFD w at1_ o0):=⟨fun s1=>(.be 0 0 0::vi at1_::.un::.un::.be 9 0 0::(U 112 (vi (o0.2.2.2.2.2.1.length:Int)::vi s1.1::(U 68 [])))),fun s1=>[some ⟨.of 41,10,[[.ms 1,.ms 2,vi s1.2.1,.ms 3,.ms 4,.ms 5,vi s1.2.2.1,.ms 8,.ms 7,vi s1.2.2.2.1]]⟩,some ⟨.of 67,6,s1.2.2.2.2.1.map cLeg⟩,some ⟨.of 3,1,s1.2.2.2.2.2.1.map cInt⟩,some ⟨⟨62,some 55⟩,11,s1.2.2.2.2.2.2.1.map cOrder⟩,some ⟨.of 135,4,s1.2.2.2.2.2.2.2.1.map cBooking⟩,some ⟨.of 55,2,s1.2.2.2.2.2.2.2.2.1.map cTrip⟩,none,some ⟨.of 3,1,s1.2.2.2.2.2.2.2.2.2.1.map cInt⟩,some ⟨.of 130,6,s1.2.2.2.2.2.2.2.2.2.2.map cScan⟩,some ⟨.of 35,3,[[.ms 1,.ms 2,vi w.network.change]]⟩]⟩
def ZFz (w:YWorld) (at1_:Int):Option YWorld:=
 (iterF (ZFC w at1_) NN (0,w.network.change,w.now,w.made,w.network.legs,w.network.off,w.orders,w.bookings,w.closed,w.skip,w.scans)).bind (fun o0=>
 (iterF (ZFD w at1_ o0) NN (0,o0.1,o0.2.1,o0.2.2.1,o0.2.2.2.1,o0.2.2.2.2.1,o0.2.2.2.2.2.1,o0.2.2.2.2.2.2.1,o0.2.2.2.2.2.2.2.1,o0.2.2.2.2.2.2.2.2.1,o0.2.2.2.2.2.2.2.2.2)).bind (fun o1=>
 some (⟨(⟨o1.2.2.2.1,o1.2.2.2.2.1,o1.1⟩:YNetwork),o1.2.2.2.2.2.1,o1.2.2.2.2.2.2.1,o1.2.2.2.2.2.2.2.1,at1_,o1.2.2.2.2.2.2.2.2.2,o1.2.2.2.2.2.2.2.2.1,o1.2.2.1⟩:YWorld)))
instance (w:YWorld) (at1_:Int):CT Tryz.prog (ZFz w at1_):=⟨83,[.be 0 0 0,vi at1_],[some ⟨.of 41,10,[[.ms 1,.ms 2,vi w.network.change,.ms 3,.ms 4,.ms 5,vi w.now,.ms 6,.ms 7,vi w.made]]⟩,some ⟨.of 67,6,w.network.legs.map cLeg⟩,some ⟨.of 3,1,w.network.off.map cInt⟩,some ⟨⟨62,some 55⟩,11,w.orders.map cOrder⟩,some ⟨.of 135,4,w.bookings.map cBooking⟩,some ⟨.of 55,2,w.closed.map cTrip⟩,some ⟨.of 130,6,w.scans.map cScan⟩,some ⟨.of 3,1,w.skip.map cInt⟩],fun r=>.tu [],fun r=>[some ⟨.of 41,10,[[.ms 1,.ms 2,vi r.network.change,.ms 3,.ms 4,.ms 5,vi r.now,.ms 8,.ms 7,vi r.made]]⟩,some ⟨.of 67,6,r.network.legs.map cLeg⟩,some ⟨.of 3,1,r.network.off.map cInt⟩,some ⟨⟨62,some 55⟩,11,r.orders.map cOrder⟩,some ⟨.of 135,4,r.bookings.map cBooking⟩,some ⟨.of 55,2,r.closed.map cTrip⟩,none,some ⟨.of 3,1,r.skip.map cInt⟩,some ⟨.of 130,6,r.scans.map cScan⟩],fun H=>by replace H:=H0 H; unfold ZFz at H; exact callM_of Tryz.func83 rfl Tryz.ntmps83 Tryz.results83 fun Q hQ hQn=>wk3⟩
def ZFy (w:YWorld) (y1:YNetwork) (y2:(List YBooking)) (y3:(List YTrip)) (s0:Int × (List YOrder)):Option ((Int × (List YOrder)) ⊕ (List YOrder)):=
 cond (decide (s0.1<(w.orders.length:Int)))
 ((getI w.orders s0.1).bind fun y4=>
 (ZaP y4.way).bind fun y5=>
 (chk (appOk ((s0.2:List YOrder).length+([(⟨y4.from_,y4.to_,y4.service,y4.weight,y4.at_,y4.due,y5,y4.gone,y4.state,y4.place,y4.ended⟩:YOrder)]:List YOrder).length) 128)).bind fun _=>
 some (.inl ((w64 (s0.1+1)),((s0.2:List YOrder)++[(⟨y4.from_,y4.to_,y4.service,y4.weight,y4.at_,y4.due,y5,y4.gone,y4.state,y4.place,y4.ended⟩:YOrder)]))))
 (some (.inr s0.2))
instance (w:YWorld) (y1:YNetwork) (y2:(List YBooking)) (y3:(List YTrip)):LoopE (ZFy w y1 y2 y3):=⟨fun s0=>(.un::.un::.be 0 0 0::.be 1 0 0::(U 25 (.sl (w.orders.map cOrder)::vi (w.orders.length:Int)::vi s0.1::(U 15 [])))),fun s0=>[some ⟨.of 41,10,[[.v (.slice none 0 0),.v (.slice none 0 0),vi 0,.v (.slice none 0 0),.v (.slice none 0 0),.v (.slice none 0 0),vi 0,.v (.slice none 0 0),.v (.slice none 0 0),vi 0]]⟩,some ⟨.of 41,10,[[.ms 2,.ms 3,vi y1.change,.ms 4,.ms 5,.ms 6,vi w.now,.ms 7,.ms 8,vi w.made]]⟩,some ⟨.of 67,6,y1.legs.map cLeg⟩,some ⟨.of 3,1,y1.off.map cInt⟩,some ⟨⟨62,some 55⟩,11,s0.2.map cOrder⟩,some ⟨.of 135,4,y2.map cBooking⟩,some ⟨.of 55,2,y3.map cTrip⟩,some ⟨.of 130,6,((([]:List YScan):List YScan)++w.scans).map cScan⟩,some ⟨.of 3,1,((([]:List Int):List Int)++w.skip).map cInt⟩]⟩
def ZFq (w:YWorld):Option YWorld:=
 (ZcA w.network).bind fun y1=>
 (Zbg w.bookings).bind fun y2=>
 (ZaP w.closed).bind fun y3=>
 (chk (appOk ((([]:List YScan):List YScan).length+(w.scans:List YScan).length) 56)).bind fun _=>
 (chk (appOk ((([]:List Int):List Int).length+(w.skip:List Int).length) 8)).bind fun _=>
 (iterF (ZFy w y1 y2 y3) NN (0,[])).bind (fun o0=>
 some (⟨y1,o0,y2,y3,w.now,((([]:List YScan):List YScan)++w.scans),((([]:List Int):List Int)++w.skip),w.made⟩:YWorld))
instance (w:YWorld):CT Tryz.prog (ZFq w):=⟨80,[.ag (cWorld w)],[],fun r=>.ag [.ms 0,.ms 1,vi r.network.change,.ms 2,.ms 3,.ms 4,vi r.now,.ms 5,.ms 6,vi r.made],fun r=>[some ⟨.of 67,6,r.network.legs.map cLeg⟩,some ⟨.of 3,1,r.network.off.map cInt⟩,some ⟨⟨62,some 55⟩,11,r.orders.map cOrder⟩,some ⟨.of 135,4,r.bookings.map cBooking⟩,some ⟨.of 55,2,r.closed.map cTrip⟩,some ⟨.of 130,6,r.scans.map cScan⟩,some ⟨.of 3,1,r.skip.map cInt⟩],fun H=>by replace H:=H0 H; unfold ZFq at H; exact callM_of Tryz.func80 rfl Tryz.ntmps80 Tryz.results80 fun Q hQ hQn=>wk3⟩
def ZFx (until_:Int) (s0:Int × Int × Int × Int × (List YLeg) × (List Int) × (List YOrder) × (List YBooking) × (List YTrip) × (List YScan) × (List Int)):Option ((Int × Int × Int × Int × (List YLeg) × (List Int) × (List YOrder) × (List YBooking) × (List YTrip) × (List YScan) × (List Int)) ⊕ (Int × Int × Int × (List YLeg) × (List Int) × (List YOrder) × (List YBooking) × (List YTrip) × (List YScan) × (List Int))):=
 cond (decide (0≤s0.1))
 (cond (decide (s0.1≤until_))
 ((rhoM [1,2,3,4,5,6,7,8]).bind fun _=>
 (ZFz (⟨(⟨s0.2.2.2.2.1,s0.2.2.2.2.2.1,s0.2.1⟩:YNetwork),s0.2.2.2.2.2.2.1,s0.2.2.2.2.2.2.2.1,s0.2.2.2.2.2.2.2.2.1,s0.2.2.1,s0.2.2.2.2.2.2.2.2.2.1,s0.2.2.2.2.2.2.2.2.2.2,s0.2.2.2.1⟩:YWorld) s0.1).bind fun y5=>
 (ZbC y5).bind fun y6=>
 some (.inl (y6,y5.network.change,y5.now,y5.made,y5.network.legs,y5.network.off,y5.orders,y5.bookings,y5.closed,y5.scans,y5.skip)))
 (some (.inr (s0.2.1,s0.2.2.1,s0.2.2.2.1,s0.2.2.2.2.1,s0.2.2.2.2.2.1,s0.2.2.2.2.2.2.1,s0.2.2.2.2.2.2.2.1,s0.2.2.2.2.2.2.2.2.1,s0.2.2.2.2.2.2.2.2.2.1,s0.2.2.2.2.2.2.2.2.2.2))))
 (some (.inr (s0.2.1,s0.2.2.1,s0.2.2.2.1,s0.2.2.2.2.1,s0.2.2.2.2.2.1,s0.2.2.2.2.2.2.1,s0.2.2.2.2.2.2.2.1,s0.2.2.2.2.2.2.2.2.1,s0.2.2.2.2.2.2.2.2.2.1,s0.2.2.2.2.2.2.2.2.2.2)))
instance (until_:Int):LoopE (ZFx until_):=⟨fun s0=>(.un::vi until_::.un::.un::.be 0 0 0::.be 1 0 0::vi s0.1::(U 29 [])),fun s0=>[some ⟨.of 41,10,[[.v (.slice none 0 0),.v (.slice none 0 0),vi 0,.v (.slice none 0 0),.v (.slice none 0 0),.v (.slice none 0 0),vi 0,.v (.slice none 0 0),.v (.slice none 0 0),vi 0]]⟩,some ⟨.of 41,10,[[.ms 2,.ms 3,vi s0.2.1,.ms 4,.ms 5,.ms 6,vi s0.2.2.1,.ms 7,.ms 8,vi s0.2.2.2.1]]⟩,some ⟨.of 67,6,s0.2.2.2.2.1.map cLeg⟩,some ⟨.of 3,1,s0.2.2.2.2.2.1.map cInt⟩,some ⟨⟨62,some 55⟩,11,s0.2.2.2.2.2.2.1.map cOrder⟩,some ⟨.of 135,4,s0.2.2.2.2.2.2.2.1.map cBooking⟩,some ⟨.of 55,2,s0.2.2.2.2.2.2.2.2.1.map cTrip⟩,some ⟨.of 130,6,s0.2.2.2.2.2.2.2.2.2.1.map cScan⟩,some ⟨.of 3,1,s0.2.2.2.2.2.2.2.2.2.2.map cInt⟩]⟩
def ZEB (w:YWorld) (until_:Int):Option YWorld:=
 (ZFq w).bind fun y1=>
 (Za8 w).bind fun y2=>
 cond (!y2)
 (some y1)
 ((Zx until_ w.now 100000).bind fun y3=>
 cond (!y3)
 (some y1)
 ((ZbC y1).bind fun y4=>
 (iterF (ZFx until_) NN (y4,y1.network.change,y1.now,y1.made,y1.network.legs,y1.network.off,y1.orders,y1.bookings,y1.closed,y1.scans,y1.skip)).bind (fun o0=>
 some (⟨(⟨o0.2.2.2.1,o0.2.2.2.2.1,o0.1⟩:YNetwork),o0.2.2.2.2.2.1,o0.2.2.2.2.2.2.1,o0.2.2.2.2.2.2.2.1,until_,o0.2.2.2.2.2.2.2.2.1,o0.2.2.2.2.2.2.2.2.2,o0.2.2.1⟩:YWorld))))
instance (w:YWorld) (until_:Int):CT Tryz.prog (ZEB w until_):=⟨18,[.ag (cWorld w),vi until_],[],fun r=>.ag [.ms 0,.ms 1,vi r.network.change,.ms 2,.ms 3,.ms 4,vi r.now,.ms 5,.ms 6,vi r.made],fun r=>[some ⟨.of 67,6,r.network.legs.map cLeg⟩,some ⟨.of 3,1,r.network.off.map cInt⟩,some ⟨⟨62,some 55⟩,11,r.orders.map cOrder⟩,some ⟨.of 135,4,r.bookings.map cBooking⟩,some ⟨.of 55,2,r.closed.map cTrip⟩,some ⟨.of 130,6,r.scans.map cScan⟩,some ⟨.of 3,1,r.skip.map cInt⟩],fun H=>by replace H:=H0 H; unfold ZEB at H; exact callM_of Tryz.func18 rfl Tryz.ntmps18 Tryz.results18 fun Q hQ hQn=>wk3⟩
set_option maxRecDepth 100000
theorem ZIt (w:YWorld) (u:Int):ZEB w u=Zd9 w u:=rfl
theorem ZHt {w:YWorld} (hf:WFit w) (u:Int):ZEB w u=some (if ZcB w=true∧w.now≤u∧u≤100000 then advV w u else w):=(ZIt w u).trans (Zro hf u)
theorem eqrW {x:YWorld} (h:WFit x):ZEn x x=some true:=by
 have e0:ZEr x.network x.network=some true:=by
  have a0:=ZHf x.network.legs h.net.legs (fun y _=>by simp [ZFb])
  have a1:=ZGf x.network.off h.net.off
  simp [ZEr,a0,a1]
 have e1:=ZGA x.orders h.orders (fun y hy=>by
  have:=ZFZ y.way (h.way y hy) (fun y _=>ZFO y)
  simp [ZEO,this])
 have e2:=ZF8 x.bookings h.bookings (fun y _=>ZGl y)
 have e3:=ZFZ x.closed h.closed (fun y _=>ZFO y)
 have e4:=ZGJ x.scans h.scans (fun y _=>by
  have:=ZFO y.trip
  simp [ZEX,this])
 have e5:=ZGf x.skip h.skip
 simp [ZEn,e0,e1,e2,e3,e4,e5]
theorem ZHM:∀ (os:List YOrder) (k:Int),nOr k os=k+10*(os.length:Int)+2*((os.map fun o=>o.way.length).sum:Nat)
 | [],k=>by simp [nOr]
 | o::os,k=>by
  rw [nOr,ZHM os]
  simp only [List.length_cons,List.map_cons,List.sum_cons]
  omega
theorem ZHh {g:YWorld} (h:WFit g) (hs:(g.orders.map fun o=>o.way.length).sum≤31457280):ZGw g 1:=by
 have h1:=h.net.legs
 have h2:=h.net.off
 have h3:=h.orders
 have h4:=h.bookings
 have h5:=h.closed
 have h6:=h.scans
 have h7:=h.skip
 refine ⟨h1,h2,h3,h.way,h4,h5,h6,h7,by omega,?_⟩
 unfold k6W k5W k4W k3W k2W
 rw [ZHM]
 unfold k1W
 omega
theorem ZIo {os:List YOrder} (h:∀ o∈os,o.way.length≤1048576):(os.map fun o=>o.way.length).sum≤1048576*os.length:=by
 induction os with
 | nil=>simp
 | cons o os ih=>
  have:=ih fun x hx=>h x (List.mem_cons_of_mem _ hx)
  have:=h o List.mem_cons_self
  simp only [List.map_cons,List.sum_cons,List.length_cons]
  omega
theorem WOk.mkFit {g:YWorld} (h:WOk g):ZGw g 1:=ZHh h.fit (by
 have h1:=ZIo h.fit.way
 have h2:=h.parts.2.1
 omega)
theorem ZHI {g:YWorld} (ht:totWorld g≤1048576):ZGw g 1:=ZHh (ZHd ht) (by
 have h1:totWorld g=totNetwork g.network+totS totOrder g.orders+g.bookings.length+g.closed.length+totS totScan g.scans+g.skip.length:=rfl
 have h2:totS totOrder g.orders=g.orders.length+(g.orders.map totOrder).sum:=rfl
 have h3:(g.orders.map fun o=>o.way.length).sum≤(g.orders.map totOrder).sum:=by
  generalize g.orders=os
  induction os with
  | nil=>simp
  | cons o os ih=>
   simp only [List.map_cons,List.sum_cons,totOrder]
   omega
 omega)
theorem ZIf {w:YWorld} (ok:okWorld w):ZEz w 1048576=some (-1)∨∃ y,ZEz w 1048576=some y∧¬ y<0∧totWorld w≤1048576:=by
 rw [ZH8 w (by omega) (by omega) ok]
 by_cases h:szTo 1048576 (totWorld w)<0
 ·left
  unfold szTo at *
  split at h
  ·rw [if_pos (by assumption)]
  ·omega
 ·right
  obtain ⟨h1,_⟩:=ZFL h (by omega)
  exact ⟨_,rfl,h,by omega⟩
theorem ZIs {x:YWorld} (ht:totWorld x≤1048576) (u:Int):∃ g,ZEB x u=some g∧Za0 x u=some g∧ZEn g g=some true∧ZGw g 1:=by
 have hf:=ZHd ht
 refine ⟨_,ZHt hf u,Zrp hf u,?_⟩
 split
 ·rename_i h
  have:=(Zrn (u:=u) ⟨hf,h.1⟩ h.2.1 h.2.2).1
  exact ⟨eqrW this.fit,this.mkFit⟩
 ·exact ⟨eqrW hf,ZHI ht⟩
end Go.Proofs.YtmcdjilbkmhfoaaGreat
