/- A part of the proof of the statement in the last file of this claim: texts on the language of the program and on its functions. No condition. -/
import Derived.Test.YtmcdjilbkmhfoaaGreatCFnWorldKeeps10
import Derived.Test.YtmcdjilbkmhfoaaGreatCFnWorldKeeps7
import Derived.Test.YtmcdjilbkmhfoaaGreatCFnWorldKeeps4
import Derived.Test.YtmcdjilbkmhfoaaGreatCFnWorldKeeps5
import Derived.Test.YtmcdjilbkmhfoaaGreatCFnWorldKeeps6
import Derived.Test.YtmcdjilbkmhfoaaGreatCFnWorldKeeps8
import Derived.Test.YtmcdjilbkmhfoaaGreatCFnWorldKeeps9
namespace Go.Proofs.YtmcdjilbkmhfoaaGreat
set_option maxRecDepth 10000
open Go.RowKit
set_option linter.unusedVariables false
set_option linter.unusedSimpArgs false
theorem ZrI {ys:List Zk} (hn:ys.Nodup):∀ k,k≤ys.length→ddV ys k=ys.take k
 | 0,_=>rfl
 | k+1,hk=>by
  have hlt:k<ys.length:=by omega
  rw [ZrJ ys k hlt,ZrI hn k (by omega),if_pos ?_,List.take_succ_eq_append_getElem hlt]
  by_cases h0:k=0
  ·exact .inl h0
  ·refine .inr fun e=>?_
   have h1:k-1<ys.length:=by omega
   rw [List.getElem?_eq_getElem h1] at e
   exact List.pairwise_iff_getElem.1 hn (k-1) k h1 hlt (by omega) (Option.some.inj e)
structure ZjK (n:Za) (l:List Zk):Prop where
 len:l.length≤200
 ok:∀ s∈l,okS1 n s=true
 nodup:l.Nodup
theorem ZoT {n:Za} (hf:Z0 n) {l:List Zk} (h:ZjK n l):Zc3 n l=some (ZfL l):=by
 have hv:Zg9 n l=l:=by
  unfold Zg9
  rw [List.take_of_length_le h.len,List.filter_eq_self]
  exact h.ok
 have hp:=ZhK l
 unfold Zc3
 rw [if_pos ⟨Zim.2 hf,by have:=h.len; omega⟩,hv,ZrI (hp.symm.nodup h.nodup) _ (Nat.le_refl _),List.take_length]
def ofT (th:Int) (l:List Zk):List Zk:=l.filter fun s=>decide (s.thing=th)
theorem Zyl {a b:Zk} (h:scLt a b):leS a b:=Zmo ((ZkG _ _).2 h)
theorem Zs9 {n:Za} (hf:Z0 n) {l:List Zk} (h:ZjK n l) {th:Int} (hs:(ofT th l).Pairwise scLt):Zen n l th=some (ofT th l):=by
 have hp:=ZhK l
 have hlen:(ZfL l).length≤200:=by rw [hp.length_eq]; exact h.len
 have heq:ofT th (ZfL l)=ofT th l:=ZnI (hp.filter _) (List.Pairwise.sublist List.filter_sublist (ZkM l)) (hs.imp fun h=>Zyl h)
 have e:Zj (ZcL th (ZfL l)) NN (0,[])=some (ofT th (ZfL l)):=by
  refine ZbW (body:=ZcL th (ZfL l)) (fun i:Nat=>((i:Int),ofT th ((ZfL l).take i))) (n:=(ZfL l).length) (o:=ofT th (ZfL l)) (fun i hi=>?_) ?_ NN (by unfold NN; omega)
  ·have hg:getI (ZfL l) (i:Int)=some (ZfL l)[i]:=by rw [Zn]; exact List.getElem?_eq_getElem hi
   have hw:w64 ((i:Int)+1)=((i+1:Nat):Int):=ZR hi (by omega)
   have hfl:(ofT th ((ZfL l).take i)).length≤200:=Nat.le_trans (List.length_filter_le _ _) (by rw [List.length_take]; omega)
   have ha:chk (ZQ ((ofT th ((ZfL l).take i)).length+([(ZfL l)[i]]:List Zk).length) 56)=some ():=ZcC (by simp only [List.length_cons,List.length_nil]; omega) (by omega)
   unfold ZcL
   simp only [decide_eq_true (show (i:Int)<(ZfL l).length by omega),cond_true,hg,Option.bind_some,hw,ha]
   have hs:ofT th ((ZfL l).take (i+1))=ofT th ((ZfL l).take i)++(if (ZfL l)[i].thing=th then [(ZfL l)[i]] else []):=by
    unfold ofT
    rw [List.take_succ_eq_append_getElem hi,List.filter_append]
    by_cases h:(ZfL l)[i].thing=th <;> simp [h]
   rw [hs]
   by_cases h:(ZfL l)[i].thing=th
   ·rw [decide_eq_true h,if_pos h]; rfl
   ·rw [decide_eq_false h,if_neg h,List.append_nil]; rfl
  ·unfold ZcL
   simp [List.take_length]
 unfold Zen
 rw [ZoT hf h,Option.bind_some,e,heq]
 rfl
def ZjH (n:Za) (T:List Zk):Prop:=∀ (i:Nat) (a b:Zk),T[i]?=some a→T[i+1]?=some b→Zaj n a b=some true
theorem Zj1 {n:Za} (hf:Z0 n) {l:List Zk} (h:ZjK n l) {th:Int} (hs:(ofT th l).Pairwise scLt) (hF:ZjH n (ofT th l)):Zel n l th=some (ofT th l):=by
 have hfl:(ofT th l).length≤200:=Nat.le_trans (List.length_filter_le _ _) h.len
 generalize hT:ofT th l=T at hs hF hfl
 have e:Zj (ZcK n T) NN (0,[])=some T:=by
  refine ZbW (body:=ZcK n T) (fun i:Nat=>((i:Int),T.take i)) (n:=T.length) (o:=T) (fun i hi=>?_) ?_ NN (by unfold NN; omega)
  ·have hg:getI T (i:Int)=some T[i]:=by rw [Zn]; exact List.getElem?_eq_getElem hi
   have hw:w64 ((i:Int)+1)=((i+1:Nat):Int):=ZR hi (by omega)
   have htl:(T.take i).length=i:=by rw [List.length_take]; omega
   have ha:chk (ZQ ((T.take i).length+([T[i]]:List Zk).length) 56)=some ():=ZcC (by simp only [List.length_cons,List.length_nil]; omega) (by omega)
   rw [htl] at ha
   unfold ZcK
   simp only [decide_eq_true (show (i:Int)<T.length by omega),cond_true,hg,Option.bind_some,hw,htl]
   rw [List.take_succ_eq_append_getElem hi]
   by_cases h0:i=0
   ·rw [decide_eq_true (show (i:Int)=0 by omega),cond_true,ha]; rfl
   ·rw [decide_eq_false (show ¬ (i:Int)=0 by omega),cond_false]
    have w1:w64 ((i:Int)-1)=((i-1:Nat):Int):=by rw [Zo (by omega)]; omega
    have h1:i-1<T.length:=by omega
    have g1:getI (T.take i) ((i-1:Nat):Int)=some T[i-1]:=by rw [Zn,List.getElem?_take_of_lt (by omega)]; exact List.getElem?_eq_getElem h1
    have hc:=hF (i-1) T[i-1] T[i] (List.getElem?_eq_getElem h1) (by rw [show i-1+1=i by omega]; exact List.getElem?_eq_getElem hi)
    rw [w1,g1,Option.bind_some,hc,Option.bind_some,cond_true,ha]
    rfl
  ·unfold ZcK
   simp [List.take_length]
 unfold Zel
 rw [Zs9 hf h (by rw [hT]; exact hs),hT,Option.bind_some,e]
 rfl
theorem ZgN (th:Int) (l l':List Zk):ofT th (l++l')=ofT th l++ofT th l':=by unfold ofT; exact List.filter_append _ _
theorem Ziv {th:Int} {l:List Zk} (h:∀ s∈l,¬ s.thing=th):ofT th l=[]:=by
 unfold ofT
 rw [List.filter_eq_nil_iff]
 exact fun s hs=>by simpa using h s hs
theorem ZwC {th:Int} {l:List Zk} (h:∀ s∈l,s.thing=th):ofT th l=l:=by
 unfold ofT
 rw [List.filter_eq_self]
 exact fun s hs=>by simpa using h s hs
theorem Zh7 {f:Nat→Zf→List Zk} (hf:∀ j o,∀ s∈f j o,s.thing=((j+1:Nat):Int)):∀ (os:List Zf) (b i:Nat) (o:Zf),os[i]?=some o→ofT ((b+i+1:Nat):Int) (Ze0 f b os)=f (b+i) o
 | [],b,i,o,h=>by simp at h
 | x::os,b,0,o,h=>by
  obtain rfl:x=o:=by simpa using h
  unfold Ze0
  rw [ZgN,ZwC (fun s hs=>hf b x s hs),Ziv (l:=Ze0 f (b+1) os) (fun s hs=>?_),List.append_nil]
  ·rfl
  ·obtain ⟨j,o',_,h2⟩:=ZfK hs
   rw [hf _ _ s h2]
   omega
 | x::os,b,i+1,o,h=>by
  have h':os[i]?=some o:=by simpa using h
  unfold Ze0
  rw [ZgN,Ziv (l:=f b x) (fun s hs=>by rw [hf b x s hs]; omega),List.nil_append]
  have:=Zh7 hf os (b+1) i o h'
  rw [show b+(i+1)=b+1+i by omega]
  exact this
theorem Zj5 {n:Za} {a:Int}:∀ (j:Nat) (o:Zf),∀ s∈Zca n a j o,s.thing=((j+1:Nat):Int):=fun j o s hs=>by
 unfold Zca at hs
 split at hs
 ·split at hs
  ·rcases List.mem_cons.1 hs with rfl | hs
   ·rfl
   ·split at hs
    ·obtain rfl:=List.mem_singleton.1 hs; rfl
    ·cases hs
  ·cases hs
 ·cases hs
theorem Zko {n:Za} {a:Int}:∀ (j:Nat) (o:Zf),∀ s∈Zfu n a j o,s.thing=((j+1:Nat):Int):=fun j o s hs=>by
 unfold Zfu at hs
 split at hs
 ·split at hs
  ·obtain rfl:=List.mem_singleton.1 hs; rfl
  ·cases hs
 ·cases hs
structure ZxB (w:Zd):Prop where
 skip:w.skip=[]
 made:w.made=(w.scans.length:Int)
 own:∀ (i:Nat) (o:Zf),w.orders[i]?=some o→ofT ((i+1:Nat):Int) w.scans=Zdr w.network i o
def sumI (f:Nat→Zf→Nat):Nat→List Zf→Nat
 | _,[]=>0
 | i,o::os=>f i o+sumI f (i+1) os
structure ZyY (w:Zd):Prop where
 seen:ZxB w
 len:w.scans.length=sumI (fun j o=>(Zdr w.network j o).length) 0 w.orders
 few:w.orders.length≤4
 way:∀ o∈w.orders,o.way.length≤20
 thing:∀ s∈w.scans,s.thing≤(w.orders.length:Int)
set_option maxHeartbeats 16000000
def Zbu (at3_:Int) (y1:(List Zk)) (s0:Int):Option (Int ⊕ (Unit ⊕ (Zk × Bool))):=
 cond (decide (0≤s0))
 ((getI y1 s0).bind fun y2=>
 cond (decide (y2.at_≤at3_))
 ((getI y1 s0).bind fun y3=>
 some (.inr (.inr (y3,true))))
 (some (.inl (w64 (s0-1)))))
 (some (.inr (.inl ())))
instance (at3_:Int) (y1:(List Zk)):ZP (Zbu at3_ y1):=⟨fun s0=>(U 3 (vi at3_::(U 4 (.be 0 0 0::.un::.ms 1::vi s0::(U 23 []))))),fun s0=>[some ⟨130,6,[[vi 0,vi 0,vi 0,vs (⟨#[]⟩),vi 0,vi 0]]⟩,some ⟨130,6,y1.map ZF⟩]⟩
def Za9 (n:Za) (l:List Zk) (thing:Int) (at3_:Int):Option (Zk × Bool):=
 (Zel n l thing).bind fun y1=>
 (Zj (Zbu at3_ y1) NN (w64 ((y1.length:Int)-1))).bind (ZY (fun o0=>
 some ((⟨0,0,0,⟨#[]⟩,(⟨0,0⟩:Ze)⟩:Zk),false)) (fun r=>some r))
instance (n:Za) (l:List Zk) (thing:Int) (at3_:Int):CT Tryz.prog (Za9 n l thing at3_):=⟨144,[.ag (Zr n),.sl (l.map ZF),vi thing,vi at3_],[],fun r=>.tu [.ag [vi r.1.thing,vi r.1.at_,vi r.1.kind,vs r.1.place,vi r.1.trip.leg,vi r.1.trip.day],vb r.2],fun r=>[],fun H=>by replace H:=H0 H; unfold Za9 at H; exact Zh Tryz.func144 rfl Tryz.ntmps144 Tryz.results144 fun Q hQ hQn=>wk3⟩
def Zch (at3_:Int) (y1:(List Zk)) (s0:Int):Option (Int ⊕ (Unit ⊕ (Zk × Bool))):=
 cond (decide (s0<(y1.length:Int)))
 ((getI y1 s0).bind fun y2=>
 cond (decide (at3_<y2.at_))
 (some (.inr (.inr (y2,true))))
 (some (.inl (w64 (s0+1)))))
 (some (.inr (.inl ())))
instance (at3_:Int) (y1:(List Zk)):ZP (Zch at3_ y1):=⟨fun s0=>(U 3 (vi at3_::(U 4 (.be 0 0 0::(U 6 (.ms 1::vi (y1.length:Int)::vi s0::(U 10 []))))))),fun s0=>[some ⟨130,6,[[vi 0,vi 0,vi 0,vs (⟨#[]⟩),vi 0,vi 0]]⟩,some ⟨130,6,y1.map ZF⟩]⟩
def Zex (n:Za) (l:List Zk) (thing:Int) (at3_:Int):Option (Zk × Bool):=
 (Zel n l thing).bind fun y1=>
 (Zj (Zch at3_ y1) NN 0).bind (ZY (fun o0=>
 some ((⟨0,0,0,⟨#[]⟩,(⟨0,0⟩:Ze)⟩:Zk),false)) (fun r=>some r))
instance (n:Za) (l:List Zk) (thing:Int) (at3_:Int):CT Tryz.prog (Zex n l thing at3_):=⟨225,[.ag (Zr n),.sl (l.map ZF),vi thing,vi at3_],[],fun r=>.tu [.ag [vi r.1.thing,vi r.1.at_,vi r.1.kind,vs r.1.place,vi r.1.trip.leg,vi r.1.trip.day],vb r.2],fun r=>[],fun H=>by replace H:=H0 H; unfold Zex at H; exact Zh Tryz.func225 rfl Tryz.ntmps225 Tryz.results225 fun Q hQ hQn=>wk3⟩
section
variable {n:Za} (hf:Z0 n) {l:List Zk} (h:ZjK n l) {th:Int} (hs:(ofT th l).Pairwise scLt) (hF:ZjH n (ofT th l)) {at_:Int} (hat:∀ s∈ofT th l,s.at_≤at_)
include hf h hs hF hat
theorem Zpz {s:Zk} (hl:(ofT th l).getLast?=some s):Za9 n l th at_=some (s,true):=by
 have hfl:(ofT th l).length≤200:=Nat.le_trans (List.length_filter_le _ _) h.len
 have hc:=Zj1 hf h hs hF
 generalize ofT th l=T at *
 rw [List.getLast?_eq_getElem?] at hl
 have hlt:=(List.getElem?_eq_some_iff.1 hl).1
 have hw:w64 ((T.length:Int)-1)=((T.length-1:Nat):Int):=by rw [Zo (by omega)]; omega
 have hg:getI T ((T.length-1:Nat):Int)=some s:=by rw [Zn]; exact hl
 have hb:Zbu at_ T ((T.length-1:Nat):Int)=some (.inr (.inr (s,true))):=by
  unfold Zbu
  simp only [decide_eq_true (show (0:Int)≤((T.length-1:Nat):Int) by omega),cond_true,hg,Option.bind_some,decide_eq_true (hat s (List.mem_of_getElem? hl))]
 have e:Zj (Zbu at_ T) NN ((T.length-1:Nat):Int)=some (.inr (s,true)):=by
  obtain ⟨N,hN⟩:∃ N,NN=N+1:=⟨NN-1,by unfold NN; omega⟩
  rw [hN]
  unfold Zj
  rw [hb]
  rfl
 unfold Za9
 rw [hc,Option.bind_some,hw,e]
 rfl
theorem Zkw:Zex n l th at_=some ((⟨0,0,0,⟨#[]⟩,(⟨0,0⟩:Ze)⟩:Zk),false):=by
 have hfl:(ofT th l).length≤200:=Nat.le_trans (List.length_filter_le _ _) h.len
 have hc:=Zj1 hf h hs hF
 generalize ofT th l=T at *
 have e:Zj (Zch at_ T) NN 0=some (.inl ()):=by
  refine ZbW (body:=Zch at_ T) (fun i:Nat=>(i:Int)) (n:=T.length) (o:=.inl ()) (fun i hi=>?_) ?_ NN (by unfold NN; omega)
  ·have hg:getI T (i:Int)=some T[i]:=by rw [Zn]; exact List.getElem?_eq_getElem hi
   unfold Zch
   simp only [decide_eq_true (show (i:Int)<T.length by omega),cond_true,hg,Option.bind_some,decide_eq_false (show ¬ at_<T[i].at_ by have:=hat _ (List.getElem_mem hi); omega),cond_false,ZR hi (by omega)]
  ·unfold Zch
   simp
 unfold Zex
 rw [hc,Option.bind_some,e]
 rfl
end
theorem Ze3 {n:Za} (hf:Z0 n) (s:Zk):Zbd n s=some (okS1 n s):=by
 rw [Zkn hf]
 obtain ⟨b,hb⟩:=ZgZ hf s
 unfold okS1
 rw [hb]; rfl
section
variable {n:Za} (hf:Z0 n) {a b:Zk} (ha:okS1 n a=true) (hb:okS1 n b=true) (ht:a.thing=b.thing) (hlt:scLt a b) (h4:¬ a.kind=4)
include hf ha hb ht hlt h4
theorem Zkd {p q:Ze1} (hp:Zu n a=some p) (hq:Zt n b=some q) (hpl:p.place=q.place) (hat:p.at_≤q.at_):Zaj n a b=some true:=by
 obtain ⟨v,hv,hvl⟩:=ZhA a b
 have hv0:v<0:=hvl.2 hlt
 have har:ZaA n p q=some true:=by
  unfold ZaA
  rw [decide_eq_true hpl,cond_true,decide_eq_true hat]
 unfold Zaj
 simp only [Ze3 hf,ha,hb,Option.bind_some,Bool.not_true,cond_false,decide_eq_true ht,hv,decide_eq_false (show ¬ 0≤v by omega),decide_eq_false h4,hp,hq,har]
 cases decide (b.kind=2) <;> cases decide (a.kind=3) <;> cases decide (a.trip=b.trip) <;> rfl
theorem Zke (h3:a.kind=3) (h2:b.kind=2) (htr:a.trip=b.trip):Zaj n a b=some true:=by
 obtain ⟨v,hv,hvl⟩:=ZhA a b
 have hv0:v<0:=hvl.2 hlt
 unfold Zaj
 simp only [Ze3 hf,ha,hb,Option.bind_some,Bool.not_true,cond_false,decide_eq_true ht,hv,decide_eq_false (show ¬ 0≤v by omega),decide_eq_false h4,decide_eq_true h3,decide_eq_true h2,decide_eq_true htr,cond_true]
end
section
variable {n:Za} (hf:Z0 n) {s:Zk} (hs:okS1 n s=true)
include hf hs
theorem Zob {y:YLeg} (h3:s.kind=3) (hy:getI n.legs s.trip.leg=some y) {e:Int} (he:Zq n s.trip=some e):Zu n s=some ⟨y.to_,e⟩:=by
 unfold Zu
 simp only [Ze3 hf,hs,Option.bind_some,Bool.not_true,cond_false,decide_eq_true h3,cond_true,hy,ZfG,he]
theorem ZjQ {y:YLeg} (h2:s.kind=2) (hy:getI n.legs s.trip.leg=some y):Zu n s=some ⟨y.to_,s.at_⟩:=by
 unfold Zu Ze4
 simp only [Ze3 hf,hs,Option.bind_some,Bool.not_true,cond_false,decide_eq_false (show ¬ s.kind=3 by omega),decide_eq_true h2,cond_true,hy]
theorem ZjR (h2:¬ s.kind=2) (h3:¬ s.kind=3):Zu n s=some ⟨s.place,s.at_⟩:=by
 unfold Zu Ze4
 simp only [Ze3 hf,hs,Option.bind_some,Bool.not_true,cond_false,decide_eq_false h3,decide_eq_false h2]
theorem ZjP {y:YLeg} (h3:s.kind=3) (hy:getI n.legs s.trip.leg=some y) {e:Int} (he:Zp n s.trip=some e):Zt n s=some ⟨y.from_,e⟩:=by
 unfold Zt
 simp only [Ze3 hf,hs,Option.bind_some,Bool.not_true,cond_false,decide_eq_true h3,cond_true,hy,Zei,he]
theorem Zh0 (h2:¬ s.kind=2) (h3:¬ s.kind=3):Zt n s=some ⟨s.place,s.at_⟩:=by
 unfold Zt
 simp only [Ze3 hf,hs,Option.bind_some,Bool.not_true,cond_false,decide_eq_false h3,decide_eq_false h2]
end
def ZaR (n:Za) (l:List Zk) (thing:Int) (at3_:Int):Option Zai:=
 (Za9 n l thing at3_).bind fun y1=>
 (Zex n l thing at3_).bind fun y2=>
 cond (!y1.2)
 (some (⟨n,at3_,false,⟨#[]⟩,(⟨0,0⟩:Ze),false,false,(⟨⟨#[]⟩,0⟩:Ze1),(⟨⟨#[]⟩,0⟩:Ze1),false⟩:Zai))
 (cond (decide (y1.1.kind=4))
 (some (⟨n,at3_,false,⟨#[]⟩,(⟨0,0⟩:Ze),false,false,(⟨⟨#[]⟩,0⟩:Ze1),(⟨⟨#[]⟩,0⟩:Ze1),false⟩:Zai))
 (cond y2.2
 (cond (decide (y2.1.kind=2))
 ((ZH n y2.1.trip).bind fun y3=>
 cond (decide (y3≤at3_))
 ((ZO n y2.1.trip).bind fun y4=>
 (getI n.legs y2.1.trip.leg).bind fun y5=>
 some (⟨n,at3_,true,y5.to_,y2.1.trip,(decide (at3_<y4)),false,(⟨⟨#[]⟩,0⟩:Ze1),(⟨⟨#[]⟩,0⟩:Ze1),false⟩:Zai))
 (cond (decide (y1.1.kind=3))
 ((ZO n y1.1.trip).bind fun y6=>
 cond (decide (at3_<y6))
 ((ZH n y1.1.trip).bind fun y7=>
 (getI n.legs y1.1.trip.leg).bind fun y8=>
 some (⟨n,at3_,true,y8.from_,y1.1.trip,(decide (y7≤at3_)),false,(⟨⟨#[]⟩,0⟩:Ze1),(⟨⟨#[]⟩,0⟩:Ze1),false⟩:Zai))
 ((Zu n y1.1).bind fun y9=>
 (Zt n y2.1).bind fun y10=>
 some (⟨n,at3_,false,⟨#[]⟩,(⟨0,0⟩:Ze),false,true,y9,y10,y2.2⟩:Zai)))
 ((Zu n y1.1).bind fun y11=>
 (Zt n y2.1).bind fun y12=>
 some (⟨n,at3_,false,⟨#[]⟩,(⟨0,0⟩:Ze),false,true,y11,y12,y2.2⟩:Zai))))
 (cond (decide (y1.1.kind=3))
 ((ZO n y1.1.trip).bind fun y13=>
 cond (decide (at3_<y13))
 ((ZH n y1.1.trip).bind fun y14=>
 (getI n.legs y1.1.trip.leg).bind fun y15=>
 some (⟨n,at3_,true,y15.from_,y1.1.trip,(decide (y14≤at3_)),false,(⟨⟨#[]⟩,0⟩:Ze1),(⟨⟨#[]⟩,0⟩:Ze1),false⟩:Zai))
 ((Zu n y1.1).bind fun y16=>
 (Zt n y2.1).bind fun y17=>
 some (⟨n,at3_,false,⟨#[]⟩,(⟨0,0⟩:Ze),false,true,y16,y17,y2.2⟩:Zai)))
 ((Zu n y1.1).bind fun y18=>
 (Zt n y2.1).bind fun y19=>
 some (⟨n,at3_,false,⟨#[]⟩,(⟨0,0⟩:Ze),false,true,y18,y19,y2.2⟩:Zai))))
 (cond (decide (y1.1.kind=3))
 ((ZO n y1.1.trip).bind fun y20=>
 cond (decide (at3_<y20))
 ((ZH n y1.1.trip).bind fun y21=>
 (getI n.legs y1.1.trip.leg).bind fun y22=>
 some (⟨n,at3_,true,y22.from_,y1.1.trip,(decide (y21≤at3_)),false,(⟨⟨#[]⟩,0⟩:Ze1),(⟨⟨#[]⟩,0⟩:Ze1),false⟩:Zai))
 ((Zu n y1.1).bind fun y23=>
 (Zt n y2.1).bind fun y24=>
 some (⟨n,at3_,false,⟨#[]⟩,(⟨0,0⟩:Ze),false,true,y23,y24,y2.2⟩:Zai)))
 ((Zu n y1.1).bind fun y25=>
 (Zt n y2.1).bind fun y26=>
 some (⟨n,at3_,false,⟨#[]⟩,(⟨0,0⟩:Ze),false,true,y25,y26,y2.2⟩:Zai)))))
instance (n:Za) (l:List Zk) (thing:Int) (at3_:Int):CT Tryz.prog (ZaR n l thing at3_):=⟨155,[.ag (Zr n),.sl (l.map ZF),vi thing,vi at3_],[],fun r=>.ag [.sl (r.n.legs.map cLeg),.sl (r.n.off.map cInt),vi r.n.change,vi r.at_,vb r.known,vs r.place,vi r.ride.leg,vi r.ride.day,vb r.rides,vb r.free,vs r.from_.place,vi r.from_.at_,vs r.to_.place,vi r.to_.at_,vb r.more],fun r=>[],fun H=>by replace H:=H0 H; unfold ZaR at H; exact Zh Tryz.func155 rfl Tryz.ntmps155 Tryz.results155 fun Q hQ hQn=>wk3⟩
def ZaI (k:Zai) (place_:ByteArray):Option Bool:=
 cond k.known
 (cond (!k.rides)
 (some (decide (k.place=place_)))
 (some false))
 (cond k.free
 ((Zbe k.n k.from_.place k.from_.at_ place_ k.at_).bind fun y1=>
 cond y1
 (cond (!k.more)
 (some true)
 ((Zbe k.n place_ k.at_ k.to_.place k.to_.at_).bind fun y2=>
 some y2))
 (some false))
 (some false))
instance (k:Zai) (place_:ByteArray):CT Tryz.prog (ZaI k place_):=⟨156,[.ag (Zlk k),vs place_],[],fun r=>vb r,fun r=>[],fun H=>by replace H:=H0 H; unfold ZaI at H; exact Zh Tryz.func156 rfl Tryz.ntmps156 Tryz.results156 fun Q hQ hQn=>wk3⟩
def Zem (n:Za) (l:List Zk) (thing:Int) (at3_:Int) (place_:ByteArray):Option Bool:=
 (Z8 n).bind fun y1=>
 cond y1
 ((Z4 n).bind fun y2=>
 (Zz y2 place_).bind fun y3=>
 cond (decide (0≤y3))
 ((ZaR n l thing at3_).bind fun y4=>
 (ZaI y4 place_).bind fun y5=>
 some y5)
 (some false))
 (some false)
instance (n:Za) (l:List Zk) (thing:Int) (at3_:Int) (place_:ByteArray):CT Tryz.prog (Zem n l thing at3_ place_):=⟨145,[.ag (Zr n),.sl (l.map ZF),vi thing,vi at3_,vs place_],[],fun r=>vb r,fun r=>[],fun H=>by replace H:=H0 H; unfold Zem at H; exact Zh Tryz.func145 rfl Tryz.ntmps145 Tryz.results145 fun Q hQ hQn=>wk3⟩
def Z3 (k:Zai) (t:Ze):Option Bool:=
 cond k.known
 (cond k.rides
 (some (decide (k.ride=t)))
 (some false))
 ((getI k.n.legs t.leg).bind fun y1=>
 cond (!k.free)
 (some false)
 ((ZH k.n t).bind fun y2=>
 cond (decide (k.at_<y2))
 (some false)
 ((ZO k.n t).bind fun y3=>
 cond (decide (y3≤k.at_))
 (some false)
 ((ZH k.n t).bind fun y4=>
 (Zbe k.n k.from_.place k.from_.at_ y1.from_ y4).bind fun y5=>
 cond (!y5)
 (some false)
 (cond (!k.more)
 (some true)
 ((ZO k.n t).bind fun y6=>
 (Zbe k.n y1.to_ y6 k.to_.place k.to_.at_).bind fun y7=>
 some y7))))))
instance (k:Zai) (t:Ze):CT Tryz.prog (Z3 k t):=⟨158,[.ag (Zlk k),.ag (Zs t)],[],fun r=>vb r,fun r=>[],fun H=>by replace H:=H0 H; unfold Z3 at H; exact Zh Tryz.func158 rfl Tryz.ntmps158 Tryz.results158 fun Q hQ hQn=>wk3⟩
def ZbX (n:Za) (l:List Zk) (thing:Int) (at3_:Int) (t:Ze):Option Bool:=
 (Zad n t).bind fun y1=>
 cond y1
 ((ZaR n l thing at3_).bind fun y2=>
 (Z3 y2 t).bind fun y3=>
 some y3)
 (some false)
instance (n:Za) (l:List Zk) (thing:Int) (at3_:Int) (t:Ze):CT Tryz.prog (ZbX n l thing at3_ t):=⟨146,[.ag (Zr n),.sl (l.map ZF),vi thing,vi at3_,.ag (Zs t)],[],fun r=>vb r,fun r=>[],fun H=>by replace H:=H0 H; unfold ZbX at H; exact Zh Tryz.func146 rfl Tryz.ntmps146 Tryz.results146 fun Q hQ hQn=>wk3⟩
set_option linter.unusedSectionVars false
def zS:Ze1:=⟨⟨#[]⟩,0⟩
section
variable {n:Za} (hf:Z0 n) (hn:Zi n=some true) {l:List Zk} (h:ZjK n l) {th:Int} (hs:(ofT th l).Pairwise scLt) (hF:ZjH n (ofT th l)) {at_:Int} (hat:∀ s∈ofT th l,s.at_≤at_) {s:Zk} (hl:(ofT th l).getLast?=some s)
include hf hn h hs hF hat hl
theorem Zqq {y:YLeg} (h3:s.kind=3) (hy:getI n.legs s.trip.leg=some y) {a e:Int} (ha:Zp n s.trip=some a) (he:Zq n s.trip=some e) (h1:a≤at_) (h2:at_<e):ZaR n l th at_=some ⟨n,at_,true,y.from_,s.trip,true,false,zS,zS,false⟩:=by
 unfold ZaR
 simp only [Zpz hf h hs hF hat hl,Zkw hf h hs hF hat,Option.bind_some,Bool.not_true,cond_false,decide_eq_false (show ¬ s.kind=4 by omega),decide_eq_true h3,cond_true,ZfG,he,decide_eq_true h2,Zei,ha,hy,decide_eq_true h1]
 rfl
omit hn h hs hF hat hl in
theorem Zn3 (hn:Zi n=some true):Zt n ⟨0,0,0,⟨#[]⟩,⟨0,0⟩⟩=some zS:=by
 have hz:okS1 n ⟨0,0,0,⟨#[]⟩,⟨0,0⟩⟩=false:=by
  unfold okS1 ZB
  rw [hn]
  simp only [Option.bind_some,Bool.not_true,cond_false,ZbH]
  rfl
 unfold Zt
 rw [Ze3 hf,hz]
 rfl
theorem Zqp (h3:¬ s.kind=3) (h4:¬ s.kind=4) {p:Ze1} (hp:Zu n s=some p):ZaR n l th at_=some ⟨n,at_,false,⟨#[]⟩,⟨0,0⟩,false,true,p,zS,false⟩:=by
 unfold ZaR
 simp only [Zpz hf h hs hF hat hl,Zkw hf h hs hF hat,Option.bind_some,Bool.not_true,cond_false,decide_eq_false h4,decide_eq_false h3,hp,Zn3 hf hn]
end
def Zce (n:Za) (y2:Zai) (y3:List ByteArray) (s0:Int × (List ByteArray)):Option ((Int × (List ByteArray)) ⊕ (List ByteArray)):=
 cond (decide (s0.1<(y3.length:Int)))
 ((getI y3 s0.1).bind fun y4=>
 (ZaI y2 y4).bind fun y5=>
 cond y5
 ((chk (ZQ ((s0.2:List ByteArray).length+([y4]:List ByteArray).length) 16)).bind fun _=>
 some (.inl ((w64 (s0.1+1)),((s0.2:List ByteArray)++[y4]))))
 (some (.inl ((w64 (s0.1+1)),s0.2))))
 (some (.inr s0.2))
instance (n:Za) (y2:Zai) (y3:List ByteArray):ZP (Zce n y2 y3):=⟨fun s0=>(U 4 (.be 0 0 0::(U 3 (.be 1 0 0::.be 2 0 0::.be 4 0 0::(U 16 (.ms 5::vi (y3.length:Int)::vi s0.1::(U 49 []))))))),fun s0=>[some ⟨35,3,[[.sl (n.legs.map cLeg),.sl (n.off.map cInt),vi n.change]]⟩,some ⟨92,2,[[.v (.slice none 0 0),.v (.slice none 0 0)]]⟩,some ⟨92,2,[[.ms 3,.v (.slice none 0 0)]]⟩,some ⟨9,1,s0.2.map cStr⟩,some ⟨162,15,[[.sl (y2.n.legs.map cLeg),.sl (y2.n.off.map cInt),vi y2.n.change,vi y2.at_,vb y2.known,vs y2.place,vi y2.ride.leg,vi y2.ride.day,vb y2.rides,vb y2.free,vs y2.from_.place,vi y2.from_.at_,vs y2.to_.place,vi y2.to_.at_,vb y2.more]]⟩,some ⟨9,1,y3.map cStr⟩]⟩
def Zcg (n:Za) (y2:Zai) (o0:(List ByteArray)) (s1:Int × (List Ze)) (s2:Int × (List Ze)):Option ((Int × (List Ze)) ⊕ (List Ze)):=
 cond (decide (s2.1<(n.legs.length:Int)))
 (cond (decide ((s2.2.length:Int)<60))
 ((Zd4 n s2.1 s1.1).bind fun y6=>
 cond y6
 ((Z3 y2 (⟨s2.1,s1.1⟩:Ze)).bind fun y7=>
 cond y7
 ((chk (ZQ ((s2.2:List Ze).length+([(⟨s2.1,s1.1⟩:Ze)]:List Ze).length) 16)).bind fun _=>
 some (.inl ((w64 (s2.1+1)),((s2.2:List Ze)++[(⟨s2.1,s1.1⟩:Ze)]))))
 (some (.inl ((w64 (s2.1+1)),s2.2))))
 (some (.inl ((w64 (s2.1+1)),s2.2))))
 (some (.inl ((w64 (s2.1+1)),s2.2))))
 (some (.inr s2.2))
instance (n:Za) (y2:Zai) (o0:(List ByteArray)) (s1:Int × (List Ze)):ZP (Zcg n y2 o0 s1):=⟨fun s2=>(U 4 (.be 0 0 0::(U 3 (.be 1 0 0::.be 2 0 0::.be 5 0 0::.un::.un::vi s1.1::(U 35 (vi (n.legs.length:Int)::vi s2.1::(U 28 []))))))),fun s2=>[some ⟨35,3,[[.sl (n.legs.map cLeg),.sl (n.off.map cInt),vi n.change]]⟩,some ⟨92,2,[[.v (.slice none 0 0),.v (.slice none 0 0)]]⟩,some ⟨92,2,[[.ms 3,.ms 4]]⟩,some ⟨9,1,o0.map cStr⟩,some ⟨55,2,s2.2.map Zs⟩,some ⟨162,15,[[.sl (y2.n.legs.map cLeg),.sl (y2.n.off.map cInt),vi y2.n.change,vi y2.at_,vb y2.known,vs y2.place,vi y2.ride.leg,vi y2.ride.day,vb y2.rides,vb y2.free,vs y2.from_.place,vi y2.from_.at_,vs y2.to_.place,vi y2.to_.at_,vb y2.more]]⟩]⟩
def Zcf (n:Za) (y2:Zai) (o0:(List ByteArray)) (s1:Int × (List Ze)):Option ((Int × (List Ze)) ⊕ (List Ze)):=
 cond (decide (s1.1≤60))
 ((Zj (Zcg n y2 o0 s1) NN (0,s1.2)).bind (fun o2=>
 some (.inl ((w64 (s1.1+1)),o2))))
 (some (.inr s1.2))
instance (n:Za) (y2:Zai) (o0:(List ByteArray)):ZP (Zcf n y2 o0):=⟨fun s1=>(U 4 (.be 0 0 0::(U 3 (.be 1 0 0::.be 2 0 0::.be 5 0 0::.un::.un::vi s1.1::(U 65 []))))),fun s1=>[some ⟨35,3,[[.sl (n.legs.map cLeg),.sl (n.off.map cInt),vi n.change]]⟩,some ⟨92,2,[[.v (.slice none 0 0),.v (.slice none 0 0)]]⟩,some ⟨92,2,[[.ms 3,.ms 4]]⟩,some ⟨9,1,o0.map cStr⟩,some ⟨55,2,s1.2.map Zs⟩,some ⟨162,15,[[.sl (y2.n.legs.map cLeg),.sl (y2.n.off.map cInt),vi y2.n.change,vi y2.at_,vb y2.known,vs y2.place,vi y2.ride.leg,vi y2.ride.day,vb y2.rides,vb y2.free,vs y2.from_.place,vi y2.from_.at_,vs y2.to_.place,vi y2.to_.at_,vb y2.more]]⟩]⟩
def ZcQ (n:Za) (l:List Zk) (thing:Int) (at3_:Int):Option ZjL:=
 (Z8 n).bind fun y1=>
 cond (!y1)
 (some (⟨[],[]⟩:ZjL))
 ((ZaR n l thing at3_).bind fun y2=>
 (Z4 n).bind fun y3=>
 (Zj (Zce n y2 y3) NN (0,[])).bind (fun o0=>
 (Zj (Zcf n y2 o0) NN (0,[])).bind (fun o1=>
 some (⟨o0,o1⟩:ZjL))))
instance (n:Za) (l:List Zk) (thing:Int) (at3_:Int):CT Tryz.prog (ZcQ n l thing at3_):=⟨62,[.ag (Zr n),.sl (l.map ZF),vi thing,vi at3_],[],fun r=>.ag [.sl (r.places.map cStr),.sl (r.rides.map Zs)],fun r=>[],fun H=>by replace H:=H0 H; unfold ZcQ at H; exact Zh Tryz.func62 rfl Tryz.ntmps62 Tryz.results62 fun Q hQ hQn=>wk3⟩
def gotW (want:Option Ze) (d i:Int):List Ze:=match want with
 | some r=>if r.day<d∨(r.day=d∧r.leg<i) then [r] else []
 | none=>[]
theorem Zuj (want:Option Ze) (d i:Int):(gotW want d i).length≤1:=by
 unfold gotW
 split
 ·split <;> simp
 ·simp
section
variable {n:Za} (hf:Z0 n) (hn:Zi n=some true) {k:Zai} {want:Option Ze} (hp:∀ p,ZaI k p=some false) (hr:∀ t,(∃ y,getI n.legs t.leg=some y)→Z3 k t=some (decide (want=some t))) (hw:∀ r,want=some r→ZbJ n r=true)
include hf hn hp hr hw
theorem Zse (o0:List ByteArray) (d:Nat) (hd:d≤60):Zj (Zcg n k o0 ((d:Int),gotW want d 0)) NN (0,gotW want d 0)=some (gotW want ((d+1:Nat):Int) 0):=by
 have hlg:=Zff hn
 have hend:gotW want (d:Int) (n.legs.length:Int)=gotW want ((d+1:Nat):Int) 0:=by
  unfold gotW
  cases hwt:want with
  | none=>rfl
  | some r=>
   obtain ⟨y,hy,_⟩:=Zah hf (hw r hwt)
   obtain ⟨a,b⟩:=Zdb hy
   have:=(List.getElem?_eq_some_iff.1 b).1
   simp only
   by_cases h:r.day<(d:Int)∨(r.day=(d:Int)∧r.leg<(n.legs.length:Int))
   ·rw [if_pos h,if_pos (by omega)]
   ·rw [if_neg h,if_neg (by omega)]
 rw [← hend]
 refine ZbW (body:=Zcg n k o0 ((d:Int),gotW want d 0)) (fun i:Nat=>((i:Int),gotW want (d:Int) (i:Int))) (n:=n.legs.length) (o:=gotW want (d:Int) (n.legs.length:Int)) (fun i hi=>?_) ?_ NN (by unfold NN; omega)
 ·have hwi:w64 ((i:Int)+1)=((i+1:Nat):Int):=ZR hi (by omega)
  have hlen:=Zuj want (d:Int) (i:Int)
  have hrun:Zd4 n (i:Int) (d:Int)=some (ZbJ n ⟨(i:Int),(d:Int)⟩):=by rw [(Zf1 hf _ _).1]; exact ZgB hf ⟨(i:Int),(d:Int)⟩
  have hride:=hr ⟨(i:Int),(d:Int)⟩ ⟨n.legs[i],by rw [Zn]; exact List.getElem?_eq_getElem hi⟩
  unfold Zcg
  simp only [decide_eq_true (show (i:Int)<(n.legs.length:Int) by omega),cond_true,decide_eq_true (show (((gotW want (d:Int) (i:Int)).length:Int)<60) by omega),hrun,Option.bind_some,hwi]
  by_cases hwt:want=some ⟨(i:Int),(d:Int)⟩
  ·have e1:gotW want (d:Int) (i:Int)=[]:=by unfold gotW; rw [hwt]; simp
   have e2:gotW want (d:Int) ((i+1:Nat):Int)=[⟨(i:Int),(d:Int)⟩]:=by
    have hlt:(i:Int)<((i+1:Nat):Int):=by omega
    unfold gotW
    rw [hwt]
    exact if_pos (.inr ⟨rfl,hlt⟩)
   rw [hw _ hwt,cond_true,hride,Option.bind_some,decide_eq_true hwt,cond_true,e1,e2]
   rfl
  ·have e2:gotW want (d:Int) ((i+1:Nat):Int)=gotW want (d:Int) (i:Int):=by
    unfold gotW
    cases hwt2:want with
    | none=>rfl
    | some r=>
     have hne:¬ (r.leg=(i:Int)∧r.day=(d:Int)):=fun ⟨a,b⟩=>hwt (by rw [hwt2]; obtain ⟨x,y⟩:=r; simp only at a b; rw [a,b])
     simp only
     by_cases h:r.day<(d:Int)∨(r.day=(d:Int)∧r.leg<(i:Int))
     ·rw [if_pos h,if_pos (by omega)]
     ·rw [if_neg h,if_neg (by omega)]
   rw [hride,decide_eq_false hwt,e2]
   cases ZbJ n ⟨(i:Int),(d:Int)⟩ <;> rfl
 ·unfold Zcg
  simp only [decide_eq_false (show ¬ (n.legs.length:Int)<(n.legs.length:Int) by omega),cond_false]
theorem ZtR {l:List Zk} {th at_:Int} (hk:ZaR n l th at_=some k):ZcQ n l th at_=some ⟨[],want.toList⟩:=by
 have hlg:=Zff hn
 have hpl:(Zb n).length≤40:=by have:=Zaz n; omega
 have hi:Z8 n=some true:=by rw [(Zb2 hf).1]; exact hn
 have e0:Zj (Zce n k (Zb n)) NN (0,[])=some []:=by
  refine ZbW (body:=Zce n k (Zb n)) (fun i:Nat=>((i:Int),([]:List ByteArray))) (n:=(Zb n).length) (o:=[]) (fun i hi=>?_) ?_ NN (by unfold NN; omega)
  ·have hg:getI (Zb n) (i:Int)=some (Zb n)[i]:=by rw [Zn]; exact List.getElem?_eq_getElem hi
   unfold Zce
   simp only [decide_eq_true (show (i:Int)<((Zb n).length:Int) by omega),cond_true,hg,Option.bind_some,hp,cond_false,ZR hi (by omega)]
  ·unfold Zce
   simp
 have e1:Zj (Zcf n k []) NN (0,[])=some want.toList:=by
  have h0:gotW want 0 0=[]:=by
   unfold gotW
   cases hwt:want with
   | none=>rfl
   | some r=>
    have:=ZiH (hw r hwt)
    obtain ⟨y,hy,_⟩:=Zah hf (hw r hwt)
    have:=(Zdb hy).1
    simp only
    rw [if_neg (by omega)]
  have h61:gotW want ((61:Nat):Int) 0=want.toList:=by
   unfold gotW
   cases hwt:want with
   | none=>rfl
   | some r=>
    have:=ZiH (hw r hwt)
    simp only
    rw [if_pos (by omega)]; rfl
  have:=ZbW (body:=Zcf n k []) (fun d:Nat=>((d:Int),gotW want (d:Int) 0)) (n:=61) (o:=want.toList) (fun d hd=>?_) ?_ NN (by unfold NN; omega)
  ·rw [show ((0:Nat):Int)=0 from rfl,h0] at this
   exact this
  ·unfold Zcf
   rw [decide_eq_true (show (d:Int)≤60 by omega),cond_true,Zse hf hn hp hr hw [] d (by omega),Option.bind_some,Zo (by omega)]
   rfl
  ·unfold Zcf
   rw [← h61]
   rfl
 unfold ZcQ
 rw [hi,hk,(Zac hf).1,(Zac hf).2]
 simp only [Option.bind_some,Bool.not_true,cond_false,e0,e1]
end
section
variable {n:Za} (hf:Z0 n) (hn:Zi n=some true) {l:List Zk} (h:ZjK n l) {th:Int} (hs:(ofT th l).Pairwise scLt) (hF:ZjH n (ofT th l)) {at_:Int} (hat:∀ s∈ofT th l,s.at_≤at_) {s:Zk} (hl:(ofT th l).getLast?=some s)
include hf hn h hs hF hat hl
theorem Zoc (h3:s.kind=3) (ht:ZbJ n s.trip=true) (h1:ZM n s.trip≤at_) (h2:at_<Z7 n s.trip):ZcQ n l th at_=some ⟨[],[s.trip]⟩∧ZbX n l th at_ s.trip=some true:=by
 obtain ⟨y,hy,_⟩:=Zah hf ht
 obtain ⟨t1,t2,_⟩:=ZI hf hn ht
 have hk:=Zqq hf hn h hs hF hat hl h3 hy t1 t2 h1 h2
 refine ⟨ZtR hf hn (want:=some s.trip) (fun p=>rfl) (fun t _=>?_) (fun r e=>by rw [← Option.some.inj e]; exact ht) hk,?_⟩
 ·unfold Z3
  simp only [cond_true,Option.some.injEq]
 ·have hit:Zad n s.trip=some true:=by rw [ZhF hf hn,ZgB hf,ht]
  unfold ZbX Z3
  simp only [hit,Option.bind_some,cond_true,hk,decide_true]
end
def AdjL {α:Type} (R:α→α→Prop):List α→Prop
 | []=>True
 | [_]=>True
 | a::b::l=>R a b∧AdjL R (b::l)
theorem Zrm {α:Type} {R Q:α→α→Prop} (h:∀ a b,R a b→Q a b):∀ {l:List α},AdjL R l→AdjL Q l
 | [],_=>trivial
 | [_],_=>trivial
 | a::b::l,k=>⟨h a b k.1,Zrm h k.2⟩
theorem Zo3 {α:Type} {R:α→α→Prop} (ht:∀ a b c,R a b→R b c→R a c):∀ {l:List α},AdjL R l→l.Pairwise R
 | [],_=>.nil
 | [a],_=>List.pairwise_singleton R a
 | a::b::l,h=>by
  have ih:=Zo3 ht h.2
  refine List.pairwise_cons.2 ⟨fun x hx=>?_,ih⟩
  rcases List.mem_cons.1 hx with rfl | hx
  ·exact h.1
  ·exact ht _ _ _ h.1 ((List.pairwise_cons.1 ih).1 x hx)
theorem ZuU (a b c:Zk) (h1:scLt a b) (h2:scLt b c):scLt a c:=(ZkG _ _).1 (ZnP.trans _ _ _ ((ZkG _ _).2 h1) ((ZkG _ _).2 h2))
theorem ZyC (a:Zk):¬ scLt a a:=(ZkH _ _).1 (ZnP.irrefl a)
def FolS (n:Za) (a b:Zk):Prop:=scLt a b∧(okS1 n a=true→okS1 n b=true→Zaj n a b=some true)
structure Std (n:Za) (i:Nat) (b:Zk) (q:ByteArray):Prop where
 thing:b.thing=((i+1:Nat):Int)
 kind:b.kind=1∨b.kind=2
 spot:okS1 n b=true→Zu n b=some ⟨q,b.at_⟩
section
variable {n:Za} (hf:Z0 n) (hn:Zi n=some true) {i:Nat}
include hf hn
theorem ZpA {b:Zk} {q:ByteArray} (hb:Std n i b q) {t:Ze} (ht:ZbJ n t=true) (hq:ZbL n t=q) (hl:b.at_≤ZM n t):FolS n b (Zcc n i t):=by
 obtain ⟨y,hy,_⟩:=Zah hf ht
 obtain ⟨t1,_⟩:=ZI hf hn ht
 have f1:ZbL n t=y.from_:=by unfold ZbL; rw [hy]; rfl
 have hk:=hb.kind
 have e1:(Zcc n i t).at_=ZM n t:=rfl
 have e2:(Zcc n i t).thing=((i+1:Nat):Int):=rfl
 have e3:(Zcc n i t).kind=3:=rfl
 have hlt:scLt b (Zcc n i t):=by
  unfold scLt
  rw [e1,e2,e3,hb.thing]
  omega
 refine ⟨hlt,fun h1 h2=>?_⟩
 exact Zkd hf h1 h2 (hb.thing.trans e2.symm) hlt (by omega) (hb.spot h1) (ZjP hf h2 (y:=y) e3 hy t1) (by rw [← hq,f1]) hl
theorem Zsg {t:Ze} (ht:ZbJ n t=true):FolS n (Zcc n i t) (ZeU n i t):=by
 obtain ⟨_,_,t3,t4,_⟩:=ZI hf hn ht
 have e1:(Zcc n i t).at_=ZM n t:=rfl
 have e2:(ZeU n i t).at_=Z7 n t:=rfl
 have hlt:scLt (Zcc n i t) (ZeU n i t):=by
  unfold scLt
  rw [e1,e2]
  exact .inl t4
 exact ⟨hlt,fun h1 h2=>Zke hf h1 h2 rfl hlt (by show ¬ (3:Int)=4; omega) rfl rfl rfl⟩
theorem Zud {t:Ze} (ht:ZbJ n t=true):Std n i (ZeU n i t) (ZL n t):=by
 obtain ⟨y,hy,_⟩:=Zah hf ht
 have f2:ZL n t=y.to_:=by unfold ZL; rw [hy]; rfl
 refine ⟨rfl,.inr rfl,fun h=>?_⟩
 rw [f2]
 exact ZjQ hf h rfl hy
theorem Zub {b:Zk} {q:ByteArray} (hb:Std n i b q) (hk:b.kind=2) {e:Int} (he:b.at_=e):FolS n b ⟨((i+1:Nat):Int),e,4,q,⟨0,0⟩⟩:=by
 have hlt:scLt b ⟨((i+1:Nat):Int),e,4,q,⟨0,0⟩⟩:=by
  unfold scLt
  simp only
  rw [hb.thing,hk,he]
  omega
 refine ⟨hlt,fun h1 h2=>?_⟩
 exact Zkd hf h1 h2 hb.thing hlt (by omega) (hb.spot h1) (Zh0 hf h2 (by simp only; omega) (by simp only; omega)) rfl (by simp only; omega)
theorem ZnV {tl:List Zk} {more:List Ze}:∀ (ts:List Ze) (a:Zk) (p:ByteArray) (z:Int),Std n i a p→a.at_≤z→ZbG n p z (ts++more)→
 (∀ b q z',Std n i b q→b.at_≤z'→ZbG n q z' more→((ts=[]∧b=a∧q=p)∨∃ t,ts.getLast?=some t∧b=ZeU n i t∧q=ZL n t)→AdjL (FolS n) (b::tl))→
 AdjL (FolS n) (a::(ts.flatMap fun t=>[Zcc n i t,ZeU n i t])++tl)
 | [],a,p,z,ha,hz,hc,hT=>hT a p z ha hz hc (.inl ⟨rfl,rfl,rfl⟩)
 | x::ts,a,p,z,ha,hz,hc,hT=>by
  obtain ⟨c1,c2,c3,c4⟩:=hc
  have hch:=(ZbB hn).1
  have ih:=ZnV ts (ZeU n i x) (ZL n x) (Z7 n x+n.change) (Zud hf hn c1) (by show Z7 n x≤_; omega) c4 fun b q z' hb hz' hc' hl=>hT b q z' hb hz' hc' (.inr (by
   rcases hl with ⟨rfl,rfl,rfl⟩ | ⟨t,h1,h2,h3⟩
   ·exact ⟨x,rfl,rfl,rfl⟩
   ·refine ⟨t,?_,h2,h3⟩
    cases ts with
    | nil=>simp at h1
    | cons y ts=>rw [List.getLast?_cons_cons]; exact h1))
  rw [List.flatMap_cons]
  exact ⟨ZpA hf hn ha c1 c2 (by omega),Zsg hf hn c1,ih⟩
end
theorem Ztz {α:Type} {l:List α} {g:Int} (h0:0<g) (h1:g≤l.length):(l.take g.toNat).getLast?=l[(g-1).toNat]?:=by
 rw [List.getLast?_eq_getElem?,List.length_take,Nat.min_eq_left (by omega),List.getElem?_take_of_lt (by omega),show g.toNat-1=(g-1).toNat by omega]
section
variable {w:Zd} (h:WOk w) {i:Nat} {o:Zf} (ho:w.orders[i]?=some o)
include h ho
theorem ZuW:AdjL (FolS w.network) (Zdr w.network i o):=by
 have hok:=Zdk h.fit h.ok ho
 have hst:=h.state ho
 have hf:=h.fit.net
 have hp:=h.parts
 have hch:=Zh6 hf h.net (h.fit.way o (List.mem_of_getElem? ho)) hok.isWay
 have hat:=hok.at_
 rw [Zo (by omega),← List.take_append_drop o.gone.toNat o.way] at hch
 have hs0:Std w.network i (⟨((i+1:Nat):Int),o.at_,1,o.from_,⟨0,0⟩⟩:Zk) o.from_:=⟨rfl,.inl rfl,fun hk=>ZjR hf hk (by simp) (by simp)⟩
 unfold Zdr
 refine ZnV hf h.net (more:=o.way.drop o.gone.toNat) _ _ o.from_ (o.at_+1) hs0 (by simp only; omega) hch fun b q z hb hz hc hl=>?_
 by_cases h2:o.state=2
 ·rw [if_pos h2]
  rcases hst.cases with k | ⟨_,_,_,t,k1,k2,k3⟩ | k
  ·omega
  ·obtain ⟨hlt,hte⟩:=List.getElem?_eq_some_iff.1 k1
   rw [List.drop_eq_getElem_cons hlt,hte] at hc
   rw [k1]
   have:=hc.2.2.1
   exact ⟨ZpA hf h.net hb hc.1 hc.2.1 (by omega),trivial⟩
  ·omega
 rw [if_neg h2]
 by_cases h3:o.state=3
 ·rw [if_pos h3]
  rcases hst.cases with k | k | ⟨_,_,e1,e2,e3,e4⟩
  ·omega
  ·omega
  ·have htl:=Ztz (l:=o.way) e3 (by omega)
   rcases hl with ⟨hl,_⟩ | ⟨t,ht,rfl,rfl⟩
   ·exfalso
    rw [hl] at htl
    have hlt:(o.gone-1).toNat<o.way.length:=by omega
    rw [List.getElem?_eq_getElem hlt] at htl
    simp at htl
   ·rw [htl] at ht
    have hto:ZL w.network t=o.to_:=by
     unfold ZfY at e1
     rw [if_pos e3,ht] at e1
     exact e1
    rw [← hto]
    exact ⟨Zub hf h.net hb rfl (e4 t ht).symm,trivial⟩
 ·rw [if_neg h3]; exact trivial
end
theorem Znf:∀ {l:List Zk},(∀ th,(ofT th l).Nodup)→l.Nodup
 | [],_=>.nil
 | x::l,h=>by
  refine List.nodup_cons.2 ⟨fun hx=>?_,Znf fun th=>?_⟩
  ·have h1:=h x.thing
   unfold ofT at h1
   rw [List.filter_cons_of_pos (by simp)] at h1
   exact (List.nodup_cons.1 h1).1 (List.mem_filter.2 ⟨hx,by simp⟩)
  ·have h1:=h th
   unfold ofT at h1 ⊢
   by_cases hx:x.thing=th
   ·rw [List.filter_cons_of_pos (by simpa using hx)] at h1
    exact (List.nodup_cons.1 h1).2
   ·rw [List.filter_cons_of_neg (by simpa using hx)] at h1
    exact h1
theorem ZqX {n:Za} {s:Zk} (hn:Zi n=some true) (h:ZB n s=some true):1≤s.thing:=by
 by_cases h1:1≤s.thing
 ·exact h1
 ·exfalso
  unfold ZB at h
  rw [hn] at h
  simp only [Option.bind_some,Bool.not_true,cond_false,ZbH,decide_eq_false h1,Bool.false_and,Bool.not_false,cond_true] at h
  cases h
section
variable {w:Zd} (h:WOk w) (hs:ZyY w)
include h hs
structure Told (w:Zd) (i:Nat) (o:Zf):Prop where
 clash:Zgz w.network w.scans ((i+1:Nat):Int)=some []
 last:∃ s,Za9 w.network w.scans ((i+1:Nat):Int) w.now=some (s,true)
 ride:o.state=2→∃ t,getI o.way o.gone=some t∧ZcQ w.network w.scans ((i+1:Nat):Int) w.now=some ⟨[],[t]⟩∧ZbX w.network w.scans ((i+1:Nat):Int) w.now t=some true
 done:o.state=3→ZcQ w.network w.scans ((i+1:Nat):Int) w.now=some ⟨[],[]⟩
 wait:o.state=1→Zem w.network w.scans ((i+1:Nat):Int) w.now o.place=some true
 state:o.state=1∨o.state=2∨o.state=3
end
theorem Zjy {α:Type} {body:Int→Option (Int ⊕ (Unit ⊕ Bool))} {xs:List α} (h1:∀ (i:Nat) x,xs[i]?=some x→body (i:Int)=some (.inl (w64 ((i:Int)+1)))) (h2:body (xs.length:Int)=some (.inr (.inl ()))) (hl:xs.length≤1048576):Zj body NN 0=some (.inl ()):=by
 exact ZbW (body:=body) (fun i:Nat=>(i:Int)) (n:=xs.length) (o:=.inl ()) (fun i hi=>by rw [h1 i _ (List.getElem?_eq_getElem hi),ZR hi (by omega)]) h2 NN (by unfold NN; omega)
theorem ZlH {α:Type} [DecidableEq α] {F:List α→List α→Option Bool} {B:List α→List α→Int→Option (Int ⊕ (Unit ⊕ Bool))}
 (hF:∀ a b,F a b=cond (!decide ((a.length:Int)=(b.length:Int))) (some false) ((Zj (B a b) NN 0).bind (ZY (fun _=>some true) (fun r=>some r))))
 (hB:∀ a b s0,B a b s0=cond (decide (s0<(a.length:Int))) ((getI a s0).bind fun y1=>(getI b s0).bind fun y2=>cond (!decide (y1=y2)) (some (.inr (.inr false))) (some (.inl (w64 (s0+1))))) (some (.inr (.inl ())))) {l:List α} (hl:l.length≤1048576):F l l=some true:=by
 have e:Zj (B l l) NN 0=some (.inl ()):=by
  refine Zjy (xs:=l) (fun i x hx=>?_) ?_ hl
  ·have hlt:=(List.getElem?_eq_some_iff.1 hx).1
   have hg:getI l (i:Int)=some x:=by rw [Zn]; exact hx
   rw [hB,decide_eq_true (show (i:Int)<l.length by omega),hg]
   simp
  ·rw [hB]; simp
 rw [hF,e]
 simp [ZY]
def Zcz (w:Zd) (from1_:ByteArray) (to_:ByteArray) (service:Int) (weight:Int):Option (Zd × Int × Bool):=
 (ZaZ w).bind fun y1=>
 (Za8 w).bind fun y2=>
 cond (!y2)
 (some (y1,0,false))
 (cond (decide (30≤(w.orders.length:Int)))
 (some (y1,0,false))
 (cond (decide (from1_=to_))
 (some (y1,0,false))
 ((Zx service 1 3).bind fun y3=>
 cond (!y3)
 (some (y1,0,false))
 ((Zx weight 1 30000).bind fun y4=>
 cond (!y4)
 (some (y1,0,false))
 ((Zb3 w.network w.bookings w.closed from1_ to_ (w64 (w.now+1)) weight).bind fun y5=>
 cond (!y5.2)
 (some (y1,0,false))
 ((Za7 w.network w.bookings (w64 ((w.orders.length:Int)+1)) weight y5.1).bind fun y6=>
 cond (!y6.2)
 (some (y1,0,false))
 ((frz (.un::vs from1_::vs to_::vi service::vi weight::.be 0 0 0::(U 4 (.be 1 0 0::.un::.un::.be 2 0 0::vi (w64 ((w.orders.length:Int)+1))::.sl (y5.1.map Zs)::(U 101 [])))) [some ⟨41,10,[[.sl (w.network.legs.map cLeg),.sl (w.network.off.map cInt),vi w.network.change,.sl (w.orders.map Zw),.sl (w.bookings.map Zg),.sl (w.closed.map Zs),vi w.now,.sl (w.scans.map ZF),.sl (w.skip.map cInt),vi w.made]]⟩,some ⟨41,10,[[.v (.slice none 0 0),.v (.slice none 0 0),vi 0,.v (.slice none 0 0),.v (.slice none 0 0),.v (.slice none 0 0),vi 0,.v (.slice none 0 0),.v (.slice none 0 0),vi 0]]⟩,some ⟨41,10,[[.ms 3,.ms 4,vi y1.network.change,.ms 5,.ms 6,.ms 7,vi y1.now,.ms 8,.ms 9,vi y1.made]]⟩,some ⟨67,6,y1.network.legs.map cLeg⟩,some ⟨3,1,y1.network.off.map cInt⟩,some ⟨62,11,y1.orders.map Zw⟩,some ⟨135,4,y6.1.map Zg⟩,some ⟨55,2,y1.closed.map Zs⟩,some ⟨130,6,y1.scans.map ZF⟩,some ⟨3,1,y1.skip.map cInt⟩]).bind fun _=>
 (ZaO w.network service from1_ to_ (w64 (w.now+1))).bind fun y7=>
 (ZcP y5.1).bind fun y8=>
 (chk (ZQ ((y1.orders:List Zf).length+([(⟨from1_,to_,service,weight,w.now,y7,y8,0,1,from1_,0⟩:Zf)]:List Zf).length) 128)).bind fun _=>
 (rhoM [2,3,4,98,6,7,8,9]).bind fun _=>
 (Za1 (⟨y1.network,((y1.orders:List Zf)++[(⟨from1_,to_,service,weight,w.now,y7,y8,0,1,from1_,0⟩:Zf)]),y6.1,y1.closed,y1.now,y1.scans,y1.skip,y1.made⟩:Zd) (⟨(w64 ((w.orders.length:Int)+1)),w.now,1,from1_,(⟨0,0⟩:Ze)⟩:Zk)).bind fun y9=>
 some (y9,(w64 ((w.orders.length:Int)+1)),true))))))))
instance (w:Zd) (from1_:ByteArray) (to_:ByteArray) (service:Int) (weight:Int):CT Tryz.prog (Zcz w from1_ to_ service weight):=⟨47,[.ag (Zbt w),vs from1_,vs to_,vi service,vi weight],[],fun r=>.tu [.ag [.ms 0,.ms 1,vi r.1.network.change,.ms 2,.ms 3,.ms 4,vi r.1.now,.ms 5,.ms 6,vi r.1.made],vi r.2.1,vb r.2.2],fun r=>[some ⟨67,6,r.1.network.legs.map cLeg⟩,some ⟨3,1,r.1.network.off.map cInt⟩,some ⟨62,11,r.1.orders.map Zw⟩,some ⟨135,4,r.1.bookings.map Zg⟩,some ⟨55,2,r.1.closed.map Zs⟩,some ⟨130,6,r.1.scans.map ZF⟩,some ⟨3,1,r.1.skip.map cInt⟩],fun H=>by replace H:=H0 H; unfold Zcz at H; exact Zh Tryz.func47 rfl Tryz.ntmps47 Tryz.results47 fun Q hQ hQn=>wk3⟩
def Zrc (w:Zd) (from_ to_:ByteArray) (service weight:Int):Prop:=
 30≤w.orders.length∨from_=to_∨¬ (1≤service∧service≤3)∨¬ (1≤weight∧weight≤30000)∨(∃ x,Zy w.network w.bookings w.closed from_ to_ (w.now+1) weight=some (x,false))∨
  ∃ way l,Zy w.network w.bookings w.closed from_ to_ (w.now+1) weight=some (way,true)∧ZN w.network w.bookings ((w.orders.length:Int)+1) weight way=some (l,false)
structure ZxC (w:Zd) (from_ to_:ByteArray) (service weight:Int) (r:Zd × Int × Bool) (way:List Ze) (ys:List Zc) (due:Int):Prop where
 room:Zy w.network w.bookings w.closed from_ to_ (w.now+1) weight=some (way,true)
 book:ZN w.network w.bookings ((w.orders.length:Int)+1) weight way=some (ys,true)
 prom:ZaO w.network service from_ to_ (w.now+1)=some due
 res:r=(accV w (newO w from_ to_ service weight due way) ys,(w.orders.length:Int)+1,true)
 ne:¬ from_=to_
 ok:WOk (accV w (newO w from_ to_ service weight due way) ys)
theorem ZtK {w:Zd} (h:WOk w) (from_ to_:ByteArray) (service weight:Int) (hpr:∀ way,Zy w.network w.bookings w.closed from_ to_ (w.now+1) weight=some (way,true)→1≤service∧service≤3→∃ d,ZaO w.network service from_ to_ (w.now+1)=some d∧0≤d∧d≤200000):
 ∃ r,Zcz w from_ to_ service weight=some r∧(r=(w,0,false)∧Zrc w from_ to_ service weight∨∃ way ys due,ZxC w from_ to_ service weight r way ys due):=by
 have hf:=h.fit
 obtain ⟨p1,p2,p3,p4,p5,p6,p7⟩:=h.parts
 have hw1:w64 (w.now+1)=w.now+1:=Zo (by omega)
 have hw2:w64 ((w.orders.length:Int)+1)=(w.orders.length:Int)+1:=Zo (by omega)
 unfold Zcz
 rw [Zj3 hf,Option.bind_some,ZeM hf,h.ok,Option.bind_some,Zej,hw1,hw2]
 simp only [Bool.not_true,cond_false,ZbH,Option.bind_some]
 by_cases c1:30≤w.orders.length
 ·exact ⟨_,by rw [decide_eq_true (show (30:Int)≤(w.orders.length:Int) by omega)]; rfl,.inl ⟨rfl,.inl c1⟩⟩
 rw [decide_eq_false (show ¬ (30:Int)≤(w.orders.length:Int) by omega),cond_false]
 by_cases c2:from_=to_
 ·exact ⟨_,by rw [decide_eq_true c2]; rfl,.inl ⟨rfl,.inr (.inl c2)⟩⟩
 rw [decide_eq_false c2,cond_false]
 by_cases c3:1≤service∧service≤3
 case neg=>
  refine ⟨(w,0,false),?_,.inl ⟨rfl,.inr (.inr (.inl c3))⟩⟩
  have:(decide (1≤service) && decide (service≤3))=false:=by rw [← Bool.decide_and]; exact decide_eq_false c3
  rw [this]; rfl
 rw [decide_eq_true c3.1,decide_eq_true c3.2]
 by_cases c4:1≤weight∧weight≤30000
 case neg=>
  refine ⟨(w,0,false),?_,.inl ⟨rfl,.inr (.inr (.inr (.inl c4)))⟩⟩
  have:(decide (1≤weight) && decide (weight≤30000))=false:=by rw [← Bool.decide_and]; exact decide_eq_false c4
  rw [this]; rfl
 rw [decide_eq_true c4.1,decide_eq_true c4.2]
 simp only [Bool.and_self,Bool.not_true,cond_false]
 obtain ⟨⟨way,b⟩,e1,e2⟩:=Zf5 hf.net hf.bookings hf.closed from_ to_ (w.now+1) weight
 rw [e1,Option.bind_some]
 cases b with
 | false=>exact ⟨(w,0,false),rfl,.inl ⟨rfl,.inr (.inr (.inr (.inr (.inl ⟨way,e2⟩))))⟩⟩
 | true=>
 have hR:=ZfW hf.net hf.bookings hf.closed e2
 have hlen:=hR.len
 simp only [Bool.not_true,cond_false]
 have hnl:(ZdR ((w.orders.length:Int)+1) weight way).length=way.length:=by unfold ZdR; rw [List.length_map]
 obtain ⟨d,d1,d2⟩:=Zp1 (w.bookings++ZdR ((w.orders.length:Int)+1) weight way) (by rw [List.length_append,hnl]; omega)
 have hbk:Za7 w.network w.bookings ((w.orders.length:Int)+1) weight way=ZN w.network w.bookings ((w.orders.length:Int)+1) weight way:=by
  unfold Za7
  rw [if_pos ⟨Zim.2 hf.net,by omega,by omega⟩]
 have hsp:=Zhe hf.net (show w.bookings.length≤1048000 by omega) ((w.orders.length:Int)+1) weight d1 d2
 rw [hbk]
 by_cases hbd:ZZ w.network d=true
 case neg=>
  rw [if_neg (fun hx=>hbd hx.2.2)] at hsp
  refine ⟨(w,0,false),?_,.inl ⟨rfl,.inr (.inr (.inr (.inr (.inr ⟨way,w.bookings,e2,hsp⟩))))⟩⟩
  rw [hsp]; rfl
 rw [if_pos ⟨hR.hC.1,hlen,hbd⟩] at hsp
 obtain ⟨due,q1,q2,q3⟩:=hpr way e2 c3
 have hacc:=ZxE h (by omega) c2 c3 c4 ⟨q2,q3⟩ hR d1 hbd
 have ha:chk (ZQ (w.orders.length+([newO w from_ to_ service weight due way]:List Zf).length) 128)=some ():=ZcC (by simp only [List.length_cons,List.length_nil]; omega) (by omega)
 have hct:ZcP way=some way:=by
  unfold ZcP
  exact ZgW (by omega)
 have hsi:=ZpT (w:=⟨w.network,w.orders++[newO w from_ to_ service weight due way],d,w.closed,w.now,w.scans,w.skip,w.made⟩) ⟨by simp only; omega,p4,by simp only; omega⟩ ⟨(w.orders.length:Int)+1,w.now,1,from_,⟨0,0⟩⟩
 refine ⟨(accV w (newO w from_ to_ service weight due way) d,(w.orders.length:Int)+1,true),?_,.inr ⟨way,d,due,e2,hsp,q1,rfl,c2,hacc⟩⟩
 rw [hsp]
 simp only [Option.bind_some,Bool.not_true,cond_false,frz,q1,hct,rhoM]
 unfold newO at ha hsi ⊢
 rw [ha]
 simp only [Option.bind_some]
 rw [hsi]
 rfl
def ZcI (w:Za) (o:Zf):Option ByteArray:=
 cond (decide (o.state=2))
 ((getI o.way o.gone).bind fun y1=>
 (getI w.legs y1.leg).bind fun y2=>
 some y2.to_)
 (some o.place)
instance (w:Za) (o:Zf):CT Tryz.prog (ZcI w o):=⟨189,[.ag [.sl (w.legs.map cLeg),.sl (w.off.map cInt),vi w.change,.un,.un,.un,.un,.un,.un,.un],.ag (Zw o)],[],fun r=>vs r,fun r=>[],fun H=>by replace H:=H0 H; unfold ZcI at H; exact Zh Tryz.func189 rfl Tryz.ntmps189 Tryz.results189 fun Q hQ hQn=>wk3⟩
def Zcj (w:Zd) (id:Int) (y2:Int) (s0:Int × (List Zc)):Option ((Int × (List Zc)) ⊕ (List Zc)):=
 cond (decide (s0.1<(w.bookings.length:Int)))
 ((getI w.bookings s0.1).bind fun y3=>
 cond (!decide (y3.thing=id))
 ((chk (ZQ ((s0.2:List Zc).length+([y3]:List Zc).length) 32)).bind fun _=>
 some (.inl ((w64 (s0.1+1)),((s0.2:List Zc)++[y3]))))
 ((rgI w.orders (w64 (id-1))).bind fun y4=>
 (chk (slOk y2 (y4.way.length:Int) y4.way.length)).bind fun _=>
 (ZaQ (subL y4.way y2 (y4.way.length:Int)) y3.trip).bind fun y5=>
 cond (!y5)
 ((chk (ZQ ((s0.2:List Zc).length+([y3]:List Zc).length) 32)).bind fun _=>
 some (.inl ((w64 (s0.1+1)),((s0.2:List Zc)++[y3]))))
 (some (.inl ((w64 (s0.1+1)),s0.2)))))
 (some (.inr s0.2))
instance (w:Zd) (id:Int) (y2:Int):ZP (Zcj w id y2):=⟨fun s0=>(.be 0 0 0::vi id::.un::.un::.be 3 (Int.toNat (w64 (id-1))) 0::vi y2::.ms 8::(U 22 (.ms 4::vi (w.bookings.length:Int)::vi s0.1::(U 132 [])))),fun s0=>[some ⟨41,10,[[.ms 1,.ms 2,vi w.network.change,.ms 3,.ms 4,.ms 5,vi w.now,.ms 6,.ms 7,vi w.made]]⟩,some ⟨67,6,w.network.legs.map cLeg⟩,some ⟨3,1,w.network.off.map cInt⟩,some ⟨62,11,w.orders.map Zw⟩,some ⟨135,4,w.bookings.map Zg⟩,some ⟨55,2,w.closed.map Zs⟩,some ⟨130,6,w.scans.map ZF⟩,some ⟨3,1,w.skip.map cInt⟩,some ⟨135,4,s0.2.map Zg⟩]⟩
def Zbb (w:Zd) (id:Int):Option Zd:=
 (getI w.orders (w64 (id-1))).bind fun y1=>
 (ZbY y1).bind fun y2=>
 (Zj (Zcj w id y2) NN (0,([]:List Zc))).bind (fun o0=>
 (rgI w.orders (w64 (id-1))).bind fun y6=>
 (chk (slOk 0 y2 y6.way.length)).bind fun _=>
 (ZaP (subL y6.way 0 y2)).bind fun y7=>
 (rgI w.orders (w64 (id-1))).bind fun y8=>
 cond (decide (0<y2))
 ((getI y7 (w64 (y2-1))).bind fun y9=>
 (ZO w.network y9).bind fun y10=>
 (rgI w.orders (w64 (id-1))).bind fun y11=>
 (ZcI w.network (⟨y8.from_,y8.to_,y8.service,y8.weight,y8.at_,y8.due,y7,y8.gone,y8.state,y8.place,y8.ended⟩:Zf)).bind fun y12=>
 (rgI w.orders (w64 (id-1))).bind fun y13=>
 (Zb3 w.network o0 w.closed y12 y8.to_ (if (w64 (y10+w.network.change)) > (w64 (w.now+1)) then (w64 (y10+w.network.change)) else (w64 (w.now+1))) y8.weight).bind fun y14=>
 cond (!y14.2)
 (some (⟨w.network,(w.orders.set (Int.toNat (w64 (id-1))) (⟨y8.from_,y8.to_,y8.service,y8.weight,y8.at_,y8.due,y7,y8.gone,y8.state,y8.place,y8.ended⟩:Zf)),o0,w.closed,w.now,w.scans,w.skip,w.made⟩:Zd))
 ((rgI w.orders (w64 (id-1))).bind fun y15=>
 (Za7 w.network o0 id y8.weight y14.1).bind fun y16=>
 cond y16.2
 ((rgI w.orders (w64 (id-1))).bind fun y17=>
 (chk (ZQ ((y7:List Ze).length+(y14.1:List Ze).length) 16)).bind fun _=>
 some (⟨w.network,(w.orders.set (Int.toNat (w64 (id-1))) (⟨y8.from_,y8.to_,y8.service,y8.weight,y8.at_,y8.due,((y7:List Ze)++y14.1),y8.gone,y8.state,y8.place,y8.ended⟩:Zf)),y16.1,w.closed,w.now,w.scans,w.skip,w.made⟩:Zd))
 (some (⟨w.network,(w.orders.set (Int.toNat (w64 (id-1))) (⟨y8.from_,y8.to_,y8.service,y8.weight,y8.at_,y8.due,y7,y8.gone,y8.state,y8.place,y8.ended⟩:Zf)),o0,w.closed,w.now,w.scans,w.skip,w.made⟩:Zd))))
 ((ZcI w.network (⟨y8.from_,y8.to_,y8.service,y8.weight,y8.at_,y8.due,y7,y8.gone,y8.state,y8.place,y8.ended⟩:Zf)).bind fun y18=>
 (rgI w.orders (w64 (id-1))).bind fun y19=>
 (Zb3 w.network o0 w.closed y18 y8.to_ (w64 (w.now+1)) y8.weight).bind fun y20=>
 cond (!y20.2)
 (some (⟨w.network,(w.orders.set (Int.toNat (w64 (id-1))) (⟨y8.from_,y8.to_,y8.service,y8.weight,y8.at_,y8.due,y7,y8.gone,y8.state,y8.place,y8.ended⟩:Zf)),o0,w.closed,w.now,w.scans,w.skip,w.made⟩:Zd))
 ((rgI w.orders (w64 (id-1))).bind fun y21=>
 (Za7 w.network o0 id y8.weight y20.1).bind fun y22=>
 cond y22.2
 ((rgI w.orders (w64 (id-1))).bind fun y23=>
 (chk (ZQ ((y7:List Ze).length+(y20.1:List Ze).length) 16)).bind fun _=>
 some (⟨w.network,(w.orders.set (Int.toNat (w64 (id-1))) (⟨y8.from_,y8.to_,y8.service,y8.weight,y8.at_,y8.due,((y7:List Ze)++y20.1),y8.gone,y8.state,y8.place,y8.ended⟩:Zf)),y22.1,w.closed,w.now,w.scans,w.skip,w.made⟩:Zd))
 (some (⟨w.network,(w.orders.set (Int.toNat (w64 (id-1))) (⟨y8.from_,y8.to_,y8.service,y8.weight,y8.at_,y8.due,y7,y8.gone,y8.state,y8.place,y8.ended⟩:Zf)),o0,w.closed,w.now,w.scans,w.skip,w.made⟩:Zd)))))
instance (w:Zd) (id:Int):CT Tryz.prog (Zbb w id):=⟨128,[.be 0 0 0,vi id],[some ⟨41,10,[[.ms 1,.ms 2,vi w.network.change,.ms 3,.ms 4,.ms 5,vi w.now,.ms 6,.ms 7,vi w.made]]⟩,some ⟨67,6,w.network.legs.map cLeg⟩,some ⟨3,1,w.network.off.map cInt⟩,some ⟨62,11,w.orders.map Zw⟩,some ⟨135,4,w.bookings.map Zg⟩,some ⟨55,2,w.closed.map Zs⟩,some ⟨130,6,w.scans.map ZF⟩,some ⟨3,1,w.skip.map cInt⟩],fun r=>.tu [],fun r=>[some ⟨41,10,[[.ms 1,.ms 2,vi r.network.change,.ms 3,.ms 8,.ms 5,vi r.now,.ms 6,.ms 7,vi r.made]]⟩,some ⟨67,6,r.network.legs.map cLeg⟩,some ⟨3,1,r.network.off.map cInt⟩,some ⟨62,11,r.orders.map Zw⟩,none,some ⟨55,2,r.closed.map Zs⟩,some ⟨130,6,r.scans.map ZF⟩,some ⟨3,1,r.skip.map cInt⟩,some ⟨135,4,r.bookings.map Zg⟩],fun H=>by replace H:=H0 H; unfold Zbb at H; exact Zh Tryz.func128 rfl Tryz.ntmps128 Tryz.results128 fun Q hQ hQn=>wk3⟩
def Zb8 (n:Za) (o:Zf):ByteArray:=if o.state=2 then ((o.way[o.gone.toNat]?).map (ZL n)).getD ⟨#[]⟩ else o.place
def ZT (o:Zf):List Ze:=o.way.take (Zm o).toNat
def Zfl (o:Zf):List Ze:=o.way.drop (Zm o).toNat
def atR (n:Za) (now:Int) (o:Zf):Int:=match (ZT o).getLast? with
 | some t=>if Z7 n t+n.change > now+1 then Z7 n t+n.change else now+1
 | none=>now+1
def Zds (w:Zd) (i:Nat) (o:Zf):List Zc:=Zgh ((i+1:Nat):Int) (Zfl o) w.bookings
def Zbq (o:Zf) (ts:List Ze):Zf:=⟨o.from_,o.to_,o.service,o.weight,o.at_,o.due,ts,o.gone,o.state,o.place,o.ended⟩
def newW (w:Zd) (i:Nat) (o:Zf) (ts:List Ze) (bs:List Zc):Zd:=⟨w.network,w.orders.set i (Zbq o ts),bs,w.closed,w.now,w.scans,w.skip,w.made⟩
def ZvH (w:Zd) (i:Nat) (o:Zf):Prop:=(∃ x,Zy w.network (Zds w i o) w.closed (Zb8 w.network o) o.to_ (atR w.network w.now o) o.weight=some (x,false))∨
 ∃ way,Zy w.network (Zds w i o) w.closed (Zb8 w.network o) o.to_ (atR w.network w.now o) o.weight=some (way,true)∧ZN w.network (Zds w i o) ((i+1:Nat):Int) o.weight way=some (Zds w i o,false)
structure Zu8 (w:Zd) (i:Nat) (o:Zf) (way:List Ze) (bs:List Zc):Prop where
 room:Zy w.network (Zds w i o) w.closed (Zb8 w.network o) o.to_ (atR w.network w.now o) o.weight=some (way,true)
 book:ZN w.network (Zds w i o) ((i+1:Nat):Int) o.weight way=some (bs,true)
 wayR:WayR w.network (Zds w i o) w.closed o.weight (Zb8 w.network o) o.to_ (atR w.network w.now o) way
 perm:bs.Perm (Zds w i o++ZdR ((i+1:Nat):Int) o.weight way)
 books:ZZ w.network bs=true
def Zie (w:Zd) (i:Nat) (o:Zf) (w':Zd):Prop:=(ZvH w i o∧w'=newW w i o (ZT o) (Zds w i o))∨∃ way bs,Zu8 w i o way bs∧w'=newW w i o (ZT o++way) bs
section
variable {w:Zd} {i:Nat} {o:Zf}
theorem Zsd (hb:w.bookings.length≤1000) (ho:getI w.orders (i:Int)=some o) (hl:o.way.length≤1048576) (hi:i≤1000) {k:Int} (hk:0≤k∧k≤o.way.length):
 Zj (Zcj w ((i+1:Nat):Int) k) NN (0,[])=some (Zgh ((i+1:Nat):Int) (o.way.drop k.toNat) w.bookings):=by
 have hid:w64 (((i+1:Nat):Int)-1)=(i:Int):=by rw [Zo (by omega)]; omega
 have hsub:subL o.way k (o.way.length:Int)=o.way.drop k.toNat:=by
  unfold subL
  rw [List.take_of_length_le (by rw [List.length_drop]; omega)]
 have hsl:chk (slOk k (o.way.length:Int) o.way.length)=some ():=Zjh (by unfold slOk; exact decide_eq_true ⟨hk.1,hk.2,Int.le_refl _⟩)
 refine ZbW (body:=Zcj w ((i+1:Nat):Int) k) (fun j:Nat=>((j:Int),Zgh ((i+1:Nat):Int) (o.way.drop k.toNat) (w.bookings.take j))) (n:=w.bookings.length) (fun j hj=>?_) ?_ NN (by unfold NN; omega)
 ·have hg:getI w.bookings (j:Int)=some w.bookings[j]:=by rw [Zn]; exact List.getElem?_eq_getElem hj
  have hw:w64 ((j:Int)+1)=((j+1:Nat):Int):=ZR hj (by omega)
  have hfl:(Zgh ((i+1:Nat):Int) (o.way.drop k.toNat) (w.bookings.take j)).length≤1000:=Nat.le_trans (List.length_filter_le _ _) (by rw [List.length_take]; omega)
  have ha:chk (ZQ ((Zgh ((i+1:Nat):Int) (o.way.drop k.toNat) (w.bookings.take j)).length+([w.bookings[j]]:List Zc).length) 32)=some ():=ZcC (by simp only [List.length_cons,List.length_nil]; omega) (by omega)
  have hs:Zgh ((i+1:Nat):Int) (o.way.drop k.toNat) (w.bookings.take (j+1))=Zgh ((i+1:Nat):Int) (o.way.drop k.toNat) (w.bookings.take j)++(if (decide (w.bookings[j].thing=((i+1:Nat):Int)) && Z2 (o.way.drop k.toNat) w.bookings[j].trip)=true then [] else [w.bookings[j]]):=by
   unfold Zgh
   rw [List.take_succ_eq_append_getElem hj,List.filter_append]
   simp only [List.filter_cons,List.filter_nil]
   cases decide (w.bookings[j].thing=((i+1:Nat):Int)) && Z2 (o.way.drop k.toNat) w.bookings[j].trip <;> rfl
  unfold Zcj
  simp only [decide_eq_true (show (j:Int)<w.bookings.length by omega),cond_true,hg,Option.bind_some,hw,ha]
  rw [hs]
  by_cases h:w.bookings[j].thing=((i+1:Nat):Int)
  ·rw [decide_eq_true h]
   simp only [Bool.not_true,cond_false,rgI,hid,ho,Option.bind_some,hsl,hsub,Zb1 (show (o.way.drop k.toNat).length≤1048576 by rw [List.length_drop]; omega),Bool.true_and]
   have e:((o.way.drop k.toNat).any fun y=>decide (y=w.bookings[j].trip))=Z2 (o.way.drop k.toNat) w.bookings[j].trip:=rfl
   rw [e]
   cases Z2 (o.way.drop k.toNat) w.bookings[j].trip with
   | true=>simp
   | false=>rfl
  ·rw [decide_eq_false h]; rfl
 ·unfold Zcj
  simp [List.take_length]
variable (hf:WFit w) (hn:Zi w.network=some true) (hb:ZZ w.network w.bookings=true) (hnow:0≤w.now∧w.now≤100000) (hi:i≤1000)
 (ho:w.orders[i]?=some o) (hg:0≤o.gone∧o.gone≤o.way.length) (h2:o.state=2→o.gone<o.way.length) (ht:∀ t∈o.way,ZbJ w.network t=true) (hwl:o.way.length≤1000)
include hf hn hb hnow hi ho hg h2 ht hwl
theorem ZwX:∃ w',Zbb w ((i+1:Nat):Int)=some w'∧Zie w i o w':=by
 have hl:=hf.way o (List.mem_of_getElem? ho)
 obtain ⟨_,hbl⟩:=Zav hb
 obtain ⟨c0,c1⟩:=ZbB hn
 have hoi:getI w.orders (i:Int)=some o:=by rw [Zn]; exact ho
 have hid:w64 (((i+1:Nat):Int)-1)=(i:Int):=by rw [Zo (by omega)]; omega
 have hk:0≤Zm o∧Zm o≤o.way.length:=by
  unfold Zm
  by_cases h:o.state=2
  ·rw [if_pos h]; have:=h2 h; omega
  ·rw [if_neg h]; exact hg
 have hcome:ZbY o=some (Zm o):=by
  rw [(Zhh hg hl).2.2,if_neg (by omega)]
 have hkl:(ZT o).length=(Zm o).toNat:=by unfold ZT; rw [List.length_take]; omega
 have hsub:subL o.way 0 (Zm o)=ZT o:=by unfold subL ZT; simp
 have hsl:chk (slOk 0 (Zm o) o.way.length)=some ():=Zjh (by unfold slOk; exact decide_eq_true ⟨Int.le_refl _,hk.1,hk.2⟩)
 have hct:ZaP (ZT o)=some (ZT o):=ZgW (by omega)
 have hw1:w64 (w.now+1)=w.now+1:=Zo (by omega)
 have hll:(Zds w i o).length≤120:=Nat.le_trans (Zhj _ _ _).length_le hbl
 have hlv:=ZjT hf.net hb (Zhj ((i+1:Nat):Int) (Zfl o) w.bookings)
 have hat:ZcI w.network (Zbq o (ZT o))=some (Zb8 w.network o):=by
  have e0:ZcI w.network (Zbq o (ZT o))=cond (decide (o.state=2)) ((getI (ZT o) o.gone).bind fun y1=>(getI w.network.legs y1.leg).bind fun y2=>some y2.to_) (some o.place):=rfl
  rw [e0]
  unfold Zb8
  by_cases h:o.state=2
  ·have h3:=h2 h
   have hgt:o.gone.toNat<o.way.length:=by omega
   have e1:getI (ZT o) o.gone=some o.way[o.gone.toNat]:=by
    unfold getI ZT Zm
    rw [if_pos hg.1,if_pos h,List.getElem?_take,if_pos (by omega)]
    exact List.getElem?_eq_getElem hgt
   obtain ⟨y,hy,_⟩:=Zah hf.net (ht _ (List.getElem_mem hgt))
   rw [decide_eq_true h,cond_true,e1,Option.bind_some,hy,Option.bind_some,if_pos h,List.getElem?_eq_getElem hgt,Option.map_some,Option.getD_some]
   unfold ZL
   rw [hy]; rfl
  ·rw [decide_eq_false h,cond_false,if_neg h]
 obtain ⟨⟨way,b⟩,e1,e2⟩:=Zf5 hf.net (l:=Zds w i o) (by omega) hf.closed (Zb8 w.network o) o.to_ (atR w.network w.now o) o.weight
 -- what follows when the way was looked for
 have tail:∀ a,a=atR w.network w.now o→∃ w',((Zb3 w.network (Zds w i o) w.closed (Zb8 w.network o) o.to_ a o.weight).bind fun y14=>
  cond (!y14.2) (some (newW w i o (ZT o) (Zds w i o)))
  ((rgI w.orders (w64 (((i+1:Nat):Int)-1))).bind fun y15=>
  (Za7 w.network (Zds w i o) ((i+1:Nat):Int) o.weight y14.1).bind fun y16=>
  cond y16.2
  ((rgI w.orders (w64 (((i+1:Nat):Int)-1))).bind fun y17=>
  (chk (ZQ (((ZT o):List Ze).length+(y14.1:List Ze).length) 16)).bind fun _=>
  some (newW w i o (ZT o++y14.1) y16.1))
  (some (newW w i o (ZT o) (Zds w i o)))))=some w'∧Zie w i o w':=by
  rintro a rfl
  rw [e1,Option.bind_some]
  cases b with
  | false=>exact ⟨_,rfl,.inl ⟨.inl ⟨way,e2⟩,rfl⟩⟩
  | true=>
  have hR:=ZfW hf.net (show (Zds w i o).length≤1048576 by omega) hf.closed e2
  have hlen:=hR.len
  have hnl:(ZdR ((i+1:Nat):Int) o.weight way).length=way.length:=by unfold ZdR; rw [List.length_map]
  obtain ⟨d,d1,d2⟩:=Zp1 (Zds w i o++ZdR ((i+1:Nat):Int) o.weight way) (by rw [List.length_append,hnl]; omega)
  have hbk:Za7 w.network (Zds w i o) ((i+1:Nat):Int) o.weight way=ZN w.network (Zds w i o) ((i+1:Nat):Int) o.weight way:=by
   unfold Za7
   rw [if_pos ⟨Zim.2 hf.net,by omega,by omega⟩]
  have hsp:=Zhe hf.net (show (Zds w i o).length≤1048000 by omega) ((i+1:Nat):Int) o.weight d1 d2
  simp only [Bool.not_true,cond_false,rgI,hid,hoi,Option.bind_some]
  rw [hbk]
  by_cases hbd:ZZ w.network d=true
  ·rw [if_pos ⟨hlv,hlen,hbd⟩] at hsp
   have ha:chk (ZQ ((ZT o).length+way.length) 16)=some ():=ZcC (by omega) (by omega)
   exact ⟨_,by rw [hsp]; simp only [Option.bind_some,cond_true,ha],.inr ⟨way,d,⟨e2,hsp,hR,d1,hbd⟩,rfl⟩⟩
  ·rw [if_neg (fun hx=>hbd hx.2.2)] at hsp
   exact ⟨_,by rw [hsp]; rfl,.inl ⟨.inr ⟨way,e2,hsp⟩,rfl⟩⟩
 unfold Zbb
 simp only [rgI,hid,hoi,Option.bind_some,hcome,Zsd (show w.bookings.length≤1000 by omega) hoi hl hi hk,hsl,hsub,hct]
 have hdl:Zgh ((i+1:Nat):Int) (List.drop (Zm o).toNat o.way) w.bookings=Zds w i o:=rfl
 rw [hdl]
 by_cases h0:0<Zm o
 ·have hkt:(Zm o).toNat-1<o.way.length:=by omega
  have hlast:(ZT o).getLast?=some o.way[(Zm o).toNat-1]:=by
   unfold ZT
   rw [ZdV (by omega) (by omega)]
   exact List.getElem?_eq_getElem hkt
  have hgk:getI (ZT o) (w64 (Zm o-1))=some o.way[(Zm o).toNat-1]:=by
   rw [Zo (by omega)]
   unfold getI ZT
   rw [if_pos (by omega),List.getElem?_take,if_pos (by omega),show (Zm o-1).toNat=(Zm o).toNat-1 by omega]
   exact List.getElem?_eq_getElem hkt
  obtain ⟨t1,t2,t3,t4,t5⟩:=ZI hf.net hn (ht _ (List.getElem_mem hkt))
  have he:ZO w.network o.way[(Zm o).toNat-1]=some (Z7 w.network o.way[(Zm o).toNat-1]):=by rw [ZfG]; exact t2
  have hwe:w64 (Z7 w.network o.way[(Zm o).toNat-1]+w.network.change)=Z7 w.network o.way[(Zm o).toNat-1]+w.network.change:=Zo (by omega)
  have hate:(if Z7 w.network o.way[(Zm o).toNat-1]+w.network.change > w.now+1 then Z7 w.network o.way[(Zm o).toNat-1]+w.network.change else w.now+1)=atR w.network w.now o:=by
   unfold atR; rw [hlast]
  rw [decide_eq_true h0,cond_true,hgk]
  simp only [Option.bind_some,he,hw1,hwe]
  have hat':ZcI w.network ⟨o.from_,o.to_,o.service,o.weight,o.at_,o.due,ZT o,o.gone,o.state,o.place,o.ended⟩=some (Zb8 w.network o):=hat
  rw [hat',Option.bind_some]
  obtain ⟨w',q1,q2⟩:=tail _ hate
  refine ⟨w',?_,q2⟩
  rw [← q1]
  simp only [rgI,hid,hoi,Option.bind_some,newW,Zbq,Int.toNat_natCast]
 ·have hlast:(ZT o).getLast?=none:=by
   unfold ZT
   rw [show (Zm o).toNat=0 by omega]; rfl
  have hate:w.now+1=atR w.network w.now o:=by unfold atR; rw [hlast]
  rw [decide_eq_false h0,cond_false]
  have hat':ZcI w.network ⟨o.from_,o.to_,o.service,o.weight,o.at_,o.due,ZT o,o.gone,o.state,o.place,o.ended⟩=some (Zb8 w.network o):=hat
  rw [hat',Option.bind_some,hw1]
  obtain ⟨w',q1,q2⟩:=tail _ hate
  refine ⟨w',?_,q2⟩
  rw [← q1]
  simp only [rgI,hid,hoi,Option.bind_some,newW,Zbq,Int.toNat_natCast]
end
def Zja (n:Za) (bs:List Zc) (cl:List Ze) (now:Int) (i:Nat) (o:Zf):Bool:=ZcY ⟨n,[],bs,cl,now,[],[],0⟩ i o
theorem Zsx (w:Zd) (i:Nat) (o:Zf):ZcY w i o=Zja w.network w.bookings w.closed w.now i o:=rfl
structure ZjJ (w:Zd) (c:Nat→List Ze):Prop where
 fit:WFit w
 books:ZZ w.network w.bookings=true
 now:0≤w.now∧w.now≤100000
 olen:w.orders.length≤30
 ord:∀ (i:Nat) (o:Zf),w.orders[i]?=some o→Zja w.network w.bookings (c i) w.now i o=true
 sum:(w.orders.map fun o=>o.way.length).sum=w.bookings.length
 cl:∀ i,(c i).length≤1048576
theorem Zvq {α:Type} (f:α→Nat):∀ {l:List α} {x:α},x∈l→f x≤(l.map f).sum
 | a::l,x,h=>by
  simp only [List.map_cons,List.sum_cons]
  rcases List.mem_cons.1 h with rfl | h
  ·omega
  ·have:=Zvq f h; omega
theorem ZtD {w:Zd} (hf:WFit w) (ho:w.orders.length≤1000):Zjg w=((w.orders.map fun o=>o.way.length).sum:Nat):=by
 have:=ZnW w.orders 0 hf.way (by omega)
 rw [Nat.zero_add] at this
 exact this
structure Zmz (w:Zd):Prop where
 closed:w.closed.length≤20
 scans:w.scans.length≤200
 skip:w.skip.length≤50
 made:w.scans.length≤w.made∧w.made≤1000000000
 cl:allI (ZgV w) 0 w.closed=true
 sc:allI (Zk0 w) 0 w.scans=true
theorem Zcv {w:Zd} (h:WOk w):ZjJ w (fun _=>w.closed)∧Zmz w:=by
 obtain ⟨p1,p2,p3,p4,p5,p6,p7⟩:=h.parts
 have hv:=h.ok
 unfold ZcB at hv
 simp only [Bool.and_eq_true,Bool.not_eq_true',decide_eq_true_iff,decide_eq_false_iff_not] at hv
 obtain ⟨⟨⟨⟨⟨⟨⟨⟨⟨⟨h1,h2⟩,h3⟩,h4⟩,h5⟩,h6⟩,h7⟩,h8⟩,h9⟩,h10⟩,h11⟩:=hv
 refine ⟨⟨h.fit,h1,p1,p2,fun i o ho=>?_,?_,fun _=>h.fit.closed⟩,⟨p3,p4,p5,p6,h8,h9⟩⟩
 ·rw [← Zsx]; exact Zd8 h.ok ho
 ·have:=ZtD h.fit (by omega)
  rw [this] at h11
  omega
theorem Zp9 {w:Zd} (h:ZjJ w (fun _=>w.closed)) (k:Zmz w):WOk w:=by
 refine ⟨h.fit,?_⟩
 have:=h.olen
 have:=k.closed
 have:=k.scans
 have:=k.skip
 unfold ZcB
 simp only [Bool.and_eq_true,Bool.not_eq_true',decide_eq_true_iff,decide_eq_false_iff_not]
 refine ⟨⟨⟨⟨⟨⟨⟨⟨⟨⟨h.books,h.now⟩,by omega⟩,by omega⟩,by omega⟩,by omega⟩,k.made⟩,k.cl⟩,k.sc⟩,?_⟩,?_⟩
 ·refine Zas.2 fun i o ho=>?_
  rw [Nat.zero_add]
  exact h.ord i o ho
 ·rw [ZtD h.fit (by omega),h.sum]
structure OrdP (n:Za) (bs:List Zc) (cl:List Ze) (now:Int) (i:Nat) (o:Zf):Prop where
 ok:Zn5 ⟨n,[],bs,cl,now,[],[],0⟩ i o
 chain:ZbG n o.from_ (o.at_+1) o.way
 st:Zfi n o now
section
variable {w:Zd} {c:Nat→List Ze} (h:ZjJ w c) {i:Nat} {o:Zf} (ho:w.orders[i]?=some o)
include h ho
theorem ZhI:o.way.length≤120:=by
 have:=Zvq (fun o:Zf=>o.way.length) (List.mem_of_getElem? ho)
 have:=(Zav h.books).2
 have:=h.sum
 omega
theorem ZaV:OrdP w.network w.bookings (c i) w.now i o:=by
 have hn:=(Zav h.books).1
 have hl:=ZhI h ho
 have hO:=ZpI (w:=⟨w.network,[],w.bookings,c i,w.now,[],[],0⟩) ⟨h.fit.net,by simp,h.fit.bookings,h.cl i,by simp,by simp,by simp⟩ (i:=i) (o:=o) (by omega) (h.ord i o ho)
 have hw:w64 (o.at_+1)=o.at_+1:=by
  have h1:0≤o.at_:=hO.at_.1
  have h2:o.at_≤w.now:=hO.at_.2
  have:=h.now
  rw [Zo (by omega)]
 have hc:=Zh6 h.fit.net hn (by omega) hO.isWay
 rw [hw] at hc
 exact ⟨hO,hc,(Zhu h.fit.net hn hO.gone (by omega) hO.trip w.now).1 hO.st⟩
theorem ZcO:0≤Zm o∧Zm o≤o.way.length∧(ZT o).length=(Zm o).toNat∧o.gone≤Zm o:=by
 have hO:=(ZaV h ho).ok
 obtain ⟨g0,g1⟩:=hO.gone
 have hk:0≤Zm o∧Zm o≤o.way.length∧o.gone≤Zm o:=by
  unfold Zm
  by_cases hs:o.state=2
  ·rw [if_pos hs]
   rcases hO.cases with c1 | c1 | c1
   ·have:=c1.1; omega
   ·have:=c1.2; omega
   ·have:=c1.1; omega
  ·rw [if_neg hs]; omega
 refine ⟨hk.1,hk.2.1,?_,hk.2.2⟩
 unfold ZT
 rw [List.length_take]; omega
theorem Zgu:o.way=ZT o++Zfl o:=(List.take_append_drop _ _).symm
theorem Zl6 {j:Nat} (hj:j<(ZT o).length):(ZT o)[j]?=o.way[j]?:=by
 have:=(ZcO h ho).2.2.1
 unfold ZT
 rw [List.getElem?_take,if_pos (by omega)]
theorem Zj7 (hs:¬ o.state=3):endP w.network o.from_ (ZT o)=Zb8 w.network o:=by
 have hP:=ZaV h ho
 obtain ⟨k0,k1,k2,k3⟩:=ZcO h ho
 obtain ⟨g0,g1⟩:=hP.ok.gone
 unfold Zb8
 rcases hP.st.cases with ⟨s1,s2,s3,s4,s5⟩ | ⟨s1,s2,s3,t,t1,t2,t3⟩ | s
 ·rw [if_neg (by omega),s2]
  unfold ZfY
  have hcv:Zm o=o.gone:=by unfold Zm; rw [if_neg (by omega)]
  by_cases hg:0<o.gone
  ·have hlt:(o.gone-1).toNat<o.way.length:=by omega
   rw [if_pos hg,List.getElem?_eq_getElem hlt]
   refine Zfq ?_
   unfold ZT
   rw [hcv,ZdV (by omega) (by omega),show o.gone.toNat-1=(o.gone-1).toNat by omega,List.getElem?_eq_getElem hlt]
  ·rw [if_neg hg]
   unfold ZT
   rw [hcv,show o.gone.toNat=0 by omega]; rfl
 ·rw [if_pos s1,t1]
  refine Zfq ?_
  have hcv:Zm o=o.gone+1:=by unfold Zm; rw [if_pos s1]
  have hlt:=(List.getElem?_eq_some_iff.1 t1).1
  unfold ZT
  rw [hcv,ZdV (by omega) (by omega),show (o.gone+1).toNat-1=o.gone.toNat by omega,t1]
 ·exact absurd s.1 hs
theorem ZrN:endA w.network (o.at_+1) (ZT o)≤atR w.network w.now o∧w.now+1≤atR w.network w.now o∧0≤atR w.network w.now o:=by
 have hP:=ZaV h ho
 have hnow:=h.now
 have h2:o.at_≤w.now:=hP.ok.at_.2
 unfold atR
 cases hl:(ZT o).getLast? with
 | none=>
  rw [List.getLast?_eq_none_iff] at hl
  rw [hl]
  refine ⟨?_,?_,?_⟩ <;> simp only [endA,List.foldl_nil] <;> omega
 | some t=>
  rw [Zj6 hl]
  simp only
  split <;> omega
theorem Zne {more:List Ze} {bs:List Zc} (hs:¬ o.state=3) (hne:¬ Zb8 w.network o=o.to_)
 (hb1:∀ t∈ZT o,ZcD bs ((i+1:Nat):Int) t o.weight=true) (hb2:∀ t∈more,ZcD bs ((i+1:Nat):Int) t o.weight=true)
 (hc:ZbG w.network (Zb8 w.network o) (atR w.network w.now o) more) (hl:more.length≤20) (hend:more=[]∨(Zb8 w.network o::more.map (ZL w.network)).Nodup∧(Zb8 w.network o::more.map (ZL w.network)).getLast?=some o.to_)
 (hopen:more.any (Z2 w.closed)=false):Zja w.network bs w.closed w.now i (Zbq o (ZT o++more))=true:=by
 have hP:=ZaV h ho
 have hn:=(Zav h.books).1
 have hlen:=ZhI h ho
 obtain ⟨k0,k1,k2,k3⟩:=ZcO h ho
 obtain ⟨g0,g1⟩:=hP.ok.gone
 have hnow:=h.now
 obtain ⟨a1,a2,a3⟩:=ZrN h ho
 have hep:=Zj7 h ho hs
 have hv:=h.ord i o ho
 unfold Zja ZcY at hv ⊢
 simp only [Bool.and_eq_true,Bool.not_eq_true',decide_eq_true_iff,decide_eq_false_iff_not] at hv ⊢
 obtain ⟨⟨⟨⟨⟨⟨⟨⟨⟨⟨⟨h1,h2⟩,h3⟩,h4⟩,h5⟩,h6⟩,h7⟩,h8⟩,h9⟩,h10⟩,h11⟩,h12⟩:=hv
 have hch:ZbG w.network o.from_ (o.at_+1) (ZT o++more):=by
  have:=hP.chain
  rw [Zgu h ho] at this
  refine (Zhf _).2 ⟨((Zhf _).1 this).1,?_⟩
  rw [hep]
  exact Zi7 hc a1
 have htr:=Zek hch
 have hget:∀ (j:Nat),j<(ZT o).length→(ZT o++more)[j]?=o.way[j]?:=fun j hj=>by
  rw [List.getElem?_append_left hj]
  exact Zl6 h ho hj
 refine ⟨⟨⟨⟨⟨⟨⟨⟨⟨⟨⟨h1,h2⟩,h3⟩,h4⟩,h5⟩,h6⟩,h7⟩,?_⟩,?_⟩,?_⟩,?_⟩,?_⟩
 ·simp only [Zbq,List.length_append]; omega
 ·refine Zas.2 fun j t hj=>?_
  have hj':(ZT o++more)[j]?=some t:=hj
  have htm:=List.mem_of_getElem? hj'
  unfold wayC
  simp only [Bool.and_eq_true,Bool.not_eq_true',Bool.and_eq_false_imp,decide_eq_true_iff,decide_eq_false_iff_not,Nat.zero_add]
  refine ⟨⟨htr t htm,?_⟩,fun he hj1=>?_⟩
  ·rcases List.mem_append.1 htm with hm | hm
   ·exact hb1 t hm
   ·exact hb2 t hm
  ·have hj1':j+1<(ZT o++more).length:=hj1
   have he':ZL w.network t=o.to_:=he
   rw [List.length_append] at hj1'
   by_cases hjk:j<(ZT o).length
   ·rw [hget j hjk] at hj'
    have:=Zas.1 h9 j t hj'
    unfold wayC at this
    simp only [Bool.and_eq_true,Bool.not_eq_true',Bool.and_eq_false_imp,decide_eq_true_iff,decide_eq_false_iff_not,Nat.zero_add] at this
    have hno:=this.2 he'
    have hjl:=(List.getElem?_eq_some_iff.1 hj').1
    refine hne ?_
    rw [← hep,← he']
    refine Zfq ?_
    unfold ZT
    rw [ZdV (by omega) (by omega),show (Zm o).toNat-1=j by omega,hj']
   ·rw [List.getElem?_append_right (by omega)] at hj'
    rcases hend with rfl | ⟨hnd,hla⟩
    ·simp at hj'
    rw [List.getLast?_eq_getElem?,List.length_cons,List.length_map,Nat.add_sub_cancel] at hla
    have q1:(Zb8 w.network o::more.map (ZL w.network))[j-(ZT o).length+1]?=some o.to_:=by rw [List.getElem?_cons_succ,List.getElem?_map,hj',Option.map_some,he']
    have q2:=List.pairwise_iff_getElem.1 hnd (j-(ZT o).length+1) more.length (by simp; omega) (by simp) (by omega)
    exact q2 ((List.getElem?_eq_some_iff.1 q1).2.trans (List.getElem?_eq_some_iff.1 hla).2.symm)
 ·have hw:w64 (o.at_+1)=o.at_+1:=by
   have q1:0≤o.at_:=h6.1
   have q2:o.at_≤w.now:=h6.2
   rw [Zo (by omega)]
  show (ZaN w.network (ZT o++more) o.from_ (endP w.network o.from_ (ZT o++more)) (w64 (o.at_+1))).getD false=true
  have hl2:(ZT o++more).length≤1048576:=by rw [List.length_append]; omega
  rw [hw,Zj0 h.fit.net hn hl2 (by omega) (Zme h.fit.net hn (by omega) htr) hch rfl]; rfl
 ·have hS:Zfi w.network (Zbq o (ZT o++more)) w.now:=by
   refine ⟨fun t hg ht=>?_,?_⟩
   ·have hg':0<o.gone:=hg
    have ht':(ZT o++more)[(o.gone-1).toNat]?=some t:=ht
    rw [hget _ (by omega)] at ht'
    exact hP.st.past t hg' ht'
   ·have hhere:ZfY w.network (Zbq o (ZT o++more))=ZfY w.network o:=by
     unfold ZfY
     by_cases hg:0<o.gone
     ·rw [if_pos hg,if_pos (show 0<(Zbq o (ZT o++more)).gone from hg)]
      show (((ZT o++more)[(o.gone-1).toNat]?).map (ZL w.network)).getD ⟨#[]⟩=_
      rw [hget _ (by omega)]
     ·rw [if_neg hg,if_neg (show ¬ 0<(Zbq o (ZT o++more)).gone from hg)]; rfl
    rcases hP.st.cases with ⟨s1,s2,s3,s4,s5⟩ | ⟨s1,s2,s3,t,t1,t2,t3⟩ | s
    ·refine .inl ⟨s1,by rw [hhere]; exact s2,by rw [hhere]; exact s3,s4,fun t ht=>?_⟩
     have ht':(ZT o++more)[o.gone.toNat]?=some t:=ht
     have hcv:Zm o=o.gone:=by unfold Zm; rw [if_neg (by omega)]
     rw [List.getElem?_append_right (by omega),show o.gone.toNat-(ZT o).length=0 by omega] at ht'
     cases more with
     | nil=>simp at ht'
     | cons x xs=>
      obtain rfl:x=t:=by simpa using ht'
      have:=hc.2.2.1
      omega
    ·have hcv:Zm o=o.gone+1:=by unfold Zm; rw [if_pos s1]
     refine .inr (.inl ⟨s1,s2,s3,t,?_,t2,t3⟩)
     show (ZT o++more)[o.gone.toNat]?=some t
     rw [hget _ (by omega)]; exact t1
    ·exact absurd s.1 hs
  show (ZC w.network (Zbq o (ZT o++more)) w.now).getD false=true
  rw [(Zhu h.fit.net hn (o:=Zbq o (ZT o++more)) ⟨g0,by simp only [Zbq,List.length_append]; omega⟩ (by simp only [Zbq,List.length_append]; omega) htr w.now).2 hS]; rfl
 ·have hd:((Zbq o (ZT o++more)).way.drop (Zm (Zbq o (ZT o++more))).toNat)=more:=by
   show (ZT o++more).drop (Zm o).toNat=more
   rw [← k2,List.drop_left]
  rw [hd]; exact hopen
theorem Zg0 {t:Ze} (ht:t∈o.way):(⟨((i+1:Nat):Int),t,o.weight⟩:Zc)∈w.bookings:=by
 obtain ⟨j,hj,rfl⟩:=List.getElem_of_mem ht
 have:=Zas.1 (ZaV h ho).ok.way j _ (List.getElem?_eq_getElem hj)
 unfold wayC at this
 simp only [Bool.and_eq_true] at this
 have:=this.1.2
 unfold ZcD at this
 obtain ⟨x,h1,h2⟩:=List.any_eq_true.1 this
 rw [← of_decide_eq_true h2]; exact h1
theorem Zm9 {t:Ze} (ht:t∈ZT o):(⟨((i+1:Nat):Int),t,o.weight⟩:Zc)∈Zds w i o:=by
 have hP:=ZaV h ho
 have hn:=(Zav h.books).1
 have hnd:=Zh1 h.fit.net hn hP.chain
 rw [Zgu h ho] at hnd
 have hw:t∈o.way:=by rw [Zgu h ho]; exact List.mem_append_left _ ht
 exact Znb.2 ⟨Zg0 h ho hw,fun hx=>(List.nodup_append.1 hnd).2.2 t ht t hx.2 rfl⟩
theorem Zur:(Zds w i o).length+(Zfl o).length=w.bookings.length:=by
 have hP:=ZaV h ho
 have hn:=(Zav h.books).1
 have hnd:=Zh1 h.fit.net hn hP.chain
 rw [Zgu h ho] at hnd
 exact ZrL h.books (List.nodup_append.1 hnd).2.1 fun t ht=>Zg0 h ho (by rw [Zgu h ho]; exact List.mem_append_right _ ht)
theorem ZpF {more:List Ze} {bs:List Zc} (hb:ZZ w.network bs=true) (hl:bs.length=(Zds w i o).length+more.length) (hin:∀ b∈Zds w i o,b∈bs)
 (hO:Zja w.network bs w.closed w.now i (Zbq o (ZT o++more))=true) (hm:more.length≤20):ZjJ (newW w i o (ZT o++more) bs) (fun j=>if j=i then w.closed else c j):=by
 have hlen:=ZhI h ho
 obtain ⟨k0,k1,k2,k3⟩:=ZcO h ho
 have hbl:=(Zav hb).2
 have hil:=(List.getElem?_eq_some_iff.1 ho).1
 have hwl:(ZT o).length+(Zfl o).length=o.way.length:=by
  have:=congrArg List.length (Zgu h ho)
  rw [List.length_append] at this; omega
 refine ⟨⟨h.fit.net,?_,?_,h.fit.closed,h.fit.scans,h.fit.skip,fun x hx=>?_⟩,hb,h.now,?_,fun j x hx=>?_,?_,fun j=>?_⟩
 ·simp only [newW,List.length_set]; exact h.fit.orders
 ·simp only [newW]; omega
 ·rcases List.mem_or_eq_of_mem_set hx with hx | rfl
  ·exact h.fit.way x hx
  ·simp only [Zbq,List.length_append]; omega
 ·simp only [newW,List.length_set]; exact h.olen
 ·have hx':(w.orders.set i (Zbq o (ZT o++more)))[j]?=some x:=hx
  show Zja w.network bs (if j=i then w.closed else c j) w.now j x=true
  by_cases hji:j=i
  ·subst hji
   rw [List.getElem?_set_self hil] at hx'
   obtain rfl:=Option.some.inj hx'
   rw [if_pos rfl]; exact hO
  ·rw [if_neg hji]
   rw [List.getElem?_set_ne (fun e=>hji e.symm)] at hx'
   have hv:=h.ord j x hx'
   unfold Zja ZcY at hv ⊢
   simp only [Bool.and_eq_true,Bool.not_eq_true',decide_eq_true_iff,decide_eq_false_iff_not] at hv ⊢
   obtain ⟨⟨⟨⟨⟨⟨⟨⟨⟨⟨⟨h1,h2⟩,h3⟩,h4⟩,h5⟩,h6⟩,h7⟩,h8⟩,h9⟩,h10⟩,h11⟩,h12⟩:=hv
   refine ⟨⟨⟨⟨⟨⟨⟨⟨⟨⟨⟨h1,h2⟩,h3⟩,h4⟩,h5⟩,h6⟩,h7⟩,h8⟩,?_⟩,h10⟩,h11⟩,h12⟩
   refine Zas.2 fun a t ha=>?_
   have:=Zas.1 h9 a t ha
   unfold wayC at this ⊢
   simp only [Bool.and_eq_true] at this ⊢
   refine ⟨⟨this.1.1,?_⟩,this.2⟩
   have hbk:=this.1.2
   unfold ZcD at hbk ⊢
   obtain ⟨y,y1,y2⟩:=List.any_eq_true.1 hbk
   obtain rfl:=of_decide_eq_true y2
   exact List.any_eq_true.2 ⟨_,hin _ (Znb.2 ⟨y1,fun e=>hji (by have:=e.1; simp only at this; omega)⟩),y2⟩
 ·have:=Ztx (fun o:Zf=>o.way.length) (Zbq o (ZT o++more)) ho
  have e:(Zbq o (ZT o++more)).way.length=(ZT o).length+more.length:=List.length_append
  simp only [e] at this
  have hs:=h.sum
  have hll:=Zur h ho
  show ((w.orders.set i (Zbq o (ZT o++more))).map fun o=>o.way.length).sum=bs.length
  omega
 ·show (if j=i then w.closed else c j).length≤1048576
  split
  ·exact h.fit.closed
  ·exact h.cl j
theorem ZqN (hs:¬ o.state=3) (hne:¬ Zb8 w.network o=o.to_):∃ w',Zbb w ((i+1:Nat):Int)=some w'∧Zie w i o w'∧ZjJ w' (fun j=>if j=i then w.closed else c j):=by
 have hP:=ZaV h ho
 have hn:=(Zav h.books).1
 have hlen:=ZhI h ho
 have hil:=(List.getElem?_eq_some_iff.1 ho).1
 have hol:=h.olen
 obtain ⟨w',e,hR⟩:=ZwX h.fit hn h.books h.now (by omega) ho hP.ok.gone (fun h2=>by
  rcases hP.ok.cases with c1 | c1 | c1
  ·have:=c1.1; omega
  ·exact c1.2
  ·have:=c1.1; omega) hP.ok.trip (by omega)
 refine ⟨w',e,hR,?_⟩
 rcases hR with ⟨_,rfl⟩ | ⟨way,bs,hN,rfl⟩
 ·have hO:=Zne h ho (more:=[]) (bs:=Zds w i o) hs hne (fun t ht=>?_) (by simp) trivial (by simp) (.inl rfl) rfl
  ·have:=ZpF h ho (more:=[]) (bs:=Zds w i o) (ZjT h.fit.net h.books (Zhj _ _ _)) (by simp) (fun b hb=>hb) hO (by simp)
   rw [List.append_nil] at this
   exact this
  ·unfold ZcD
   exact List.any_eq_true.2 ⟨_,Zm9 h ho ht,decide_eq_true rfl⟩
 ·obtain ⟨a1,a2,a3⟩:=ZrN h ho
  have hat:(if 0 > atR w.network w.now o then 0 else atR w.network w.now o)=atR w.network w.now o:=if_neg (by omega)
  have hch:=hN.wayR.chain
  rw [hat] at hch
  have hpl:=hN.perm.length_eq
  have hnl:(ZdR ((i+1:Nat):Int) o.weight way).length=way.length:=by unfold ZdR; rw [List.length_map]
  rw [List.length_append,hnl] at hpl
  have hO:=Zne h ho (more:=way) (bs:=bs) hs hne (fun t ht=>?_) (fun t ht=>?_) hch hN.wayR.len (.inr ⟨hN.wayR.nodup,hN.wayR.last⟩) ?_
  ·exact ZpF h ho hN.books hpl (fun b hb=>hN.perm.mem_iff.2 (List.mem_append_left _ hb)) hO hN.wayR.len
  ·unfold ZcD
   exact List.any_eq_true.2 ⟨_,hN.perm.mem_iff.2 (List.mem_append_left _ (Zm9 h ho ht)),decide_eq_true rfl⟩
  ·unfold ZcD
   refine List.any_eq_true.2 ⟨⟨((i+1:Nat):Int),t,o.weight⟩,hN.perm.mem_iff.2 (List.mem_append_right _ ?_),decide_eq_true rfl⟩
   unfold ZdR; exact List.mem_map_of_mem ht
  ·refine List.any_eq_false.2 fun t ht=>?_
   have:=(hN.wayR.found t ht).1
   rw [Zcs,Zb1 h.fit.closed] at this
   have:=Option.some.inj this
   show ¬ Z2 w.closed t=true
   unfold Z2
   rw [this]; simp
end
def Zde (w:Zd) (s0:Int):Option (Int ⊕ (Unit ⊕ Bool)):=
 cond (decide (s0<(w.orders.length:Int)))
 ((getI w.orders s0).bind fun y1=>
 (Za9 w.network w.scans (w64 (s0+1)) w.now).bind fun y2=>
 cond (!y2.2)
 (some (.inl (w64 (s0+1))))
 (cond (decide (y1.state=3))
 (some (.inl (w64 (s0+1))))
 (cond (decide (y1.state=1))
 ((Zem w.network w.scans (w64 (s0+1)) w.now y1.place).bind fun y3=>
 cond (!y3)
 (some (.inr (.inr false)))
 (cond (decide (y1.state=2))
 ((getI y1.way y1.gone).bind fun y4=>
 (ZbX w.network w.scans (w64 (s0+1)) w.now y4).bind fun y5=>
 cond (!y5)
 (some (.inr (.inr false)))
 (some (.inl (w64 (s0+1)))))
 (some (.inl (w64 (s0+1))))))
 (cond (decide (y1.state=2))
 ((getI y1.way y1.gone).bind fun y6=>
 (ZbX w.network w.scans (w64 (s0+1)) w.now y6).bind fun y7=>
 cond (!y7)
 (some (.inr (.inr false)))
 (some (.inl (w64 (s0+1)))))
 (some (.inl (w64 (s0+1))))))))
 (some (.inr (.inl ())))
instance (w:Zd):ZP (Zde w):=⟨fun s0=>(.un::.be 0 0 0::.un::vi s0::(U 72 [])),fun s0=>[some ⟨41,10,[[.sl (w.network.legs.map cLeg),.sl (w.network.off.map cInt),vi w.network.change,.sl (w.orders.map Zw),.sl (w.bookings.map Zg),.sl (w.closed.map Zs),vi w.now,.sl (w.scans.map ZF),.sl (w.skip.map cInt),vi w.made]]⟩]⟩
def ZeB (w:Zd):Option Bool:=
 (Zj (Zde w) NN 0).bind (ZY (fun o0=>
 some true) (fun r=>some r))
instance (w:Zd):CT Tryz.prog (ZeB w):=⟨51,[.ag (Zbt w)],[],fun r=>vb r,fun r=>[],fun H=>by replace H:=H0 H; unfold ZeB at H; exact Zh Tryz.func51 rfl Tryz.ntmps51 Tryz.results51 fun Q hQ hQn=>wk3⟩
structure Zfn (w:Zd):Prop where
 thing:∀ s∈w.scans,s.thing≤(w.orders.length:Int)
 sub:∀ (i:Nat) (o:Zf),w.orders[i]?=some o→(ofT ((i+1:Nat):Int) w.scans).Sublist (Zdr w.network i o)
/-! An order's scans with the stages of its way: before a scan,and behind it. -/
def stg (n:Za) (i:Nat):Nat→List Ze→List (Zk × Nat × Nat)
 | _,[]=>[]
 | k,t::ts=>(Zcc n i t,k,k+1)::(ZeU n i t,k,k+1)::stg n i (k+1) ts
def stgR (n:Za) (i:Nat) (x y:Zk × Nat × Nat):Prop:=¬ x.1.kind=4∧(x.2.2≤y.2.1∨∃ t,x.1=Zcc n i t∧y.1=ZeU n i t)
theorem Zi3 {n:Za} {i:Nat} {x:Zk × Nat × Nat}:∀ {ts:List Ze} {k:Nat},x∈stg n i k ts→∃ (j:Nat) (t:Ze),ts[j]?=some t∧x.2=(k+j,k+j+1)∧(x.1=Zcc n i t∨x.1=ZeU n i t)
 | [],k,h=>by simp [stg] at h
 | t::ts,k,h=>by
  unfold stg at h
  rcases List.mem_cons.1 h with rfl | h
  ·exact ⟨0,t,rfl,rfl,.inl rfl⟩
  rcases List.mem_cons.1 h with rfl | h
  ·exact ⟨0,t,rfl,rfl,.inr rfl⟩
  obtain ⟨j,t',h1,h2,h3⟩:=Zi3 h
  exact ⟨j+1,t',by simpa using h1,by rw [h2,show k+1+j=k+(j+1) by omega],h3⟩
theorem ZvB (n:Za) (i:Nat):∀ (ts:List Ze) (k:Nat),(stg n i k ts).Pairwise (stgR n i)
 | [],_=>List.Pairwise.nil
 | t::ts,k=>by
  have hin:∀ y∈stg n i (k+1) ts,k+1≤y.2.1:=fun y hy=>by
   obtain ⟨j,_,_,h2,_⟩:=Zi3 hy
   rw [h2]; simp only; omega
  unfold stg
  refine List.pairwise_cons.2 ⟨fun y hy=>⟨by simp [Zcc],?_⟩,List.pairwise_cons.2 ⟨fun y hy=>⟨by simp [ZeU],.inl (hin y hy)⟩,ZvB n i ts (k+1)⟩⟩
  rcases List.mem_cons.1 hy with rfl | hy
  ·exact .inr ⟨t,rfl,rfl⟩
  ·exact .inl (hin y hy)
theorem Ztu (n:Za) (i:Nat):∀ (ts:List Ze) (k:Nat),(stg n i k ts).map Prod.fst=ts.flatMap fun t=>[Zcc n i t,ZeU n i t]
 | [],_=>rfl
 | t::ts,k=>by
  unfold stg
  rw [List.map_cons,List.map_cons,Ztu n i ts,List.flatMap_cons]; rfl
def stgT (n:Za) (i:Nat) (o:Zf):List (Zk × Nat × Nat):=if o.state=2 then ((o.way[o.gone.toNat]?).map fun t=>(Zcc n i t,o.gone.toNat,o.gone.toNat+1)).toList else if o.state=3 then [((⟨((i+1:Nat):Int),o.ended,4,o.to_,⟨0,0⟩⟩:Zk),o.gone.toNat,o.gone.toNat)] else []
def stgA (n:Za) (i:Nat) (o:Zf):List (Zk × Nat × Nat):=((⟨((i+1:Nat):Int),o.at_,1,o.from_,⟨0,0⟩⟩:Zk),0,0)::stg n i 0 (o.way.take o.gone.toNat)++stgT n i o
theorem Zp3 (n:Za) (i:Nat) (o:Zf):(stgA n i o).map Prod.fst=Zdr n i o:=by
 unfold stgA Zdr stgT
 rw [List.map_append,List.map_cons,Ztu]
 congr 1
 by_cases h2:o.state=2
 ·rw [if_pos h2,if_pos h2]
  cases o.way[o.gone.toNat]? <;> rfl
 ·rw [if_neg h2,if_neg h2]
  by_cases h3:o.state=3
  ·rw [if_pos h3,if_pos h3]; rfl
  ·rw [if_neg h3,if_neg h3]; rfl
def plS (n:Za) (o:Zf) (k:Nat):ByteArray:=endP n o.from_ (o.way.take k)
def arS (n:Za) (o:Zf) (k:Nat):Int:=match (o.way.take k).getLast? with
 | some t=>Z7 n t
 | none=>o.at_
theorem Zql {n:Za} (hf:Z0 n) {a b:Zk} (ha:okS1 n a=true) (hb:okS1 n b=true) (ht:a.thing=b.thing) (hlt:scLt a b) (h4:¬ a.kind=4) {p q:Ze1} (hp:Zu n a=some p) (hq:Zt n b=some q) (har:ZaA n p q=some true):Zaj n a b=some true:=by
 obtain ⟨v,hv,hvl⟩:=ZhA a b
 have hv0:v<0:=hvl.2 hlt
 unfold Zaj
 simp only [Ze3 hf,ha,hb,Option.bind_some,Bool.not_true,cond_false,decide_eq_true ht,hv,decide_eq_false (show ¬ 0≤v by omega),decide_eq_false h4,hp,hq,har]
 cases decide (b.kind=2) <;> cases decide (a.kind=3) <;> cases decide (a.trip=b.trip) <;> rfl
structure ZvI (n:Za) (i:Nat) (o:Zf) (x:Zk × Nat × Nat):Prop where
 thing:x.1.thing=((i+1:Nat):Int)
 behind:¬ x.1.kind=4→okS1 n x.1=true→Zu n x.1=some ⟨plS n o x.2.2,arS n o x.2.2⟩
 before:okS1 n x.1=true→∃ s,Zt n x.1=some ⟨plS n o x.2.1,s⟩∧arS n o x.2.1≤s
 le:x.2.1≤o.way.length∧x.2.2≤o.way.length
 kind:x.1.kind=1∨x.1.kind=2∨x.1.kind=3∨x.1.kind=4
 load:x.1.kind=3→∃ t,o.way[x.2.1]?=some t∧x.1=Zcc n i t∧x.2.2=x.2.1+1
section
variable {w:Zd} (h:WOk w) {i:Nat} {o:Zf} (ho:w.orders[i]?=some o)
include h ho
theorem ZkQ {k:Nat} (hk:k≤o.way.length):ZbG w.network (plS w.network o k) (endA w.network (o.at_+1) (o.way.take k)) (o.way.drop k)∧arS w.network o k≤endA w.network (o.at_+1) (o.way.take k)∧0≤arS w.network o k∧arS w.network o k≤100000∧0≤idxV (Zb w.network) (plS w.network o k):=by
 obtain ⟨hP,_⟩:=Zcv h
 have hO:=ZaV hP ho
 have hnow:=h.parts.1
 obtain ⟨c0,c1⟩:=ZbB h.net
 have hat:0≤o.at_∧o.at_≤w.now:=hO.ok.at_
 have hc:=hO.chain
 rw [← List.take_append_drop k o.way] at hc
 have hv:=Zd8 h.ok ho
 unfold ZcY at hv
 simp only [Bool.and_eq_true,Bool.not_eq_true',decide_eq_true_iff,decide_eq_false_iff_not] at hv
 have hfr:=hv.1.1.1.1.1.1.1.1.1.1.1
 have hpl:=Zme h.fit.net h.net (p:=o.from_) (by omega) (ts:=o.way.take k) fun t ht=>hO.ok.trip t (List.mem_of_mem_take ht)
 refine ⟨((Zhf _).1 hc).2,?_⟩
 unfold arS
 cases hl:(o.way.take k).getLast? with
 | none=>
  have e:o.way.take k=[]:=List.getLast?_eq_none_iff.1 hl
  rw [e]
  refine ⟨?_,?_,?_,?_⟩
  ·show o.at_≤o.at_+1; omega
  ·show 0≤o.at_; omega
  ·show o.at_≤100000; omega
  ·exact hpl
 | some t=>
  rw [Zj6 hl]
  obtain ⟨t1,t2,t3,t4,t5⟩:=ZI h.fit.net h.net (hO.ok.trip t (List.mem_of_mem_take (List.mem_of_getLast? hl)))
  refine ⟨?_,?_,?_,?_⟩
  ·show Z7 w.network t≤Z7 w.network t+w.network.change; omega
  ·show 0≤Z7 w.network t; omega
  ·exact t5
  ·exact hpl
theorem ZhL {k:Nat} {t:Ze} (ht:o.way[k]?=some t):ZbL w.network t=plS w.network o k∧arS w.network o k≤ZM w.network t∧plS w.network o (k+1)=ZL w.network t∧arS w.network o (k+1)=Z7 w.network t∧ZbJ w.network t=true:=by
 have hk:=(List.getElem?_eq_some_iff.1 ht).1
 obtain ⟨s1,s2,s3,s4,s5⟩:=ZkQ h ho (k:=k) (by omega)
 rw [List.drop_eq_getElem_cons hk,(List.getElem?_eq_some_iff.1 ht).2] at s1
 have hl:(o.way.take (k+1)).getLast?=some t:=by rw [ZdV (by omega) (by omega),Nat.add_sub_cancel,ht]
 refine ⟨s1.2.1,by have:=s1.2.2.1; omega,Zfq hl,?_,s1.1⟩
 unfold arS
 rw [hl]
theorem ZpB {k:Nat} {t:Ze} (ht:o.way[k]?=some t):ZvI w.network i o (Zcc w.network i t,k,k+1):=by
 have hk:=(List.getElem?_eq_some_iff.1 ht).1
 obtain ⟨a1,a2,a3,a4,a5⟩:=ZhL h ho ht
 obtain ⟨y,hy,_⟩:=Zah h.fit.net a5
 obtain ⟨t1,t2,_⟩:=ZI h.fit.net h.net a5
 have f1:ZbL w.network t=y.from_:=by unfold ZbL; rw [hy]; rfl
 have f2:ZL w.network t=y.to_:=by unfold ZL; rw [hy]; rfl
 refine ⟨rfl,fun _ hs=>?_,fun hs=>⟨ZM w.network t,?_,a2⟩,⟨by simp only; omega,by simp only; omega⟩,.inr (.inr (.inl rfl)),fun _=>⟨t,ht,rfl,rfl⟩⟩
 ·show Zu w.network (Zcc w.network i t)=some ⟨plS w.network o (k+1),arS w.network o (k+1)⟩
  rw [a3,a4,f2]
  exact Zob h.fit.net hs rfl hy t2
 ·show Zt w.network (Zcc w.network i t)=some ⟨plS w.network o k,ZM w.network t⟩
  rw [← a1,f1]
  exact ZjP h.fit.net hs rfl hy t1
theorem Zoa {s:Zk} (hs:okS1 w.network s=true) (h2:s.kind=2) {y:YLeg} (hy:getI w.network.legs s.trip.leg=some y) {e:Int} (he:Zp w.network s.trip=some e):Zt w.network s=some ⟨y.from_,e⟩:=by
 unfold Zt
 simp only [Ze3 h.fit.net,hs,Option.bind_some,Bool.not_true,cond_false,decide_eq_false (show ¬ s.kind=3 by omega),decide_eq_true h2,cond_true,hy,Zei,he]
theorem Zue {k:Nat} {t:Ze} (ht:o.way[k]?=some t):ZvI w.network i o (ZeU w.network i t,k,k+1):=by
 have hk:=(List.getElem?_eq_some_iff.1 ht).1
 obtain ⟨a1,a2,a3,a4,a5⟩:=ZhL h ho ht
 obtain ⟨y,hy,_⟩:=Zah h.fit.net a5
 obtain ⟨t1,t2,_⟩:=ZI h.fit.net h.net a5
 have f1:ZbL w.network t=y.from_:=by unfold ZbL; rw [hy]; rfl
 have f2:ZL w.network t=y.to_:=by unfold ZL; rw [hy]; rfl
 refine ⟨rfl,fun _ hs=>?_,fun hs=>⟨ZM w.network t,?_,a2⟩,⟨by simp only; omega,by simp only; omega⟩,.inr (.inl rfl),fun hk=>by simp [ZeU] at hk⟩
 ·show Zu w.network (ZeU w.network i t)=some ⟨plS w.network o (k+1),arS w.network o (k+1)⟩
  rw [a3,a4,f2]
  exact ZjQ h.fit.net hs rfl hy
 ·show Zt w.network (ZeU w.network i t)=some ⟨plS w.network o k,ZM w.network t⟩
  rw [← a1,f1]
  exact Zoa h ho hs rfl hy t1
theorem Zls:ZfY w.network o=plS w.network o o.gone.toNat∧(0<o.gone→∀ t,o.way[(o.gone-1).toNat]?=some t→arS w.network o o.gone.toNat=Z7 w.network t):=by
 obtain ⟨hP,_⟩:=Zcv h
 have hg:=(ZaV hP ho).ok.gone
 unfold ZfY plS arS
 by_cases h0:0<o.gone
 ·have hlt:(o.gone-1).toNat<o.way.length:=by omega
  have hl:(o.way.take o.gone.toNat).getLast?=some o.way[(o.gone-1).toNat]:=by
   rw [ZdV (by omega) (by omega),show o.gone.toNat-1=(o.gone-1).toNat by omega]
   exact List.getElem?_eq_getElem hlt
  rw [if_pos h0,List.getElem?_eq_getElem hlt,Zfq hl,hl]
  exact ⟨rfl,fun _ t ht=>by rw [Option.some.inj ht]⟩
 ·rw [if_neg h0,show o.gone.toNat=0 by omega]
  exact ⟨rfl,fun hx=>absurd hx h0⟩
theorem Ztt:∀ x∈stgA w.network i o,ZvI w.network i o x:=fun x hx=>by
 obtain ⟨hP,_⟩:=Zcv h
 have hO:=ZaV hP ho
 have hg:=hO.ok.gone
 obtain ⟨g1,g2⟩:=Zls h ho
 unfold stgA at hx
 rw [List.cons_append] at hx
 rcases List.mem_cons.1 hx with rfl | hx
 ·refine ⟨rfl,fun _ hs=>ZjR h.fit.net hs (by simp) (by simp),fun hs=>⟨o.at_,Zh0 h.fit.net hs (by simp) (by simp),Int.le_refl _⟩,⟨Nat.zero_le _,Nat.zero_le _⟩,.inl rfl,fun hk=>by simp at hk⟩
 rcases List.mem_append.1 hx with hx | hx
 ·obtain ⟨j,t,h1,h2,h3⟩:=Zi3 hx
  have ht:o.way[j]?=some t:=by
   rw [List.getElem?_take] at h1
   split at h1
   ·exact h1
   ·cases h1
  rw [Nat.zero_add] at h2
  obtain ⟨x1,x2⟩:=x
  simp only at h2 h3
  subst h2
  rcases h3 with rfl | rfl
  ·exact ZpB h ho ht
  ·exact Zue h ho ht
 ·unfold stgT at hx
  by_cases h2:o.state=2
  ·rw [if_pos h2] at hx
   rcases hO.st.cases with ⟨c,_⟩ | ⟨_,_,_,t,u1,_⟩ | ⟨c,_⟩
   ·omega
   ·rw [u1] at hx
    obtain rfl:x=(Zcc w.network i t,o.gone.toNat,o.gone.toNat+1):=by simpa using hx
    exact ZpB h ho u1
   ·omega
  ·rw [if_neg h2] at hx
   by_cases h3:o.state=3
   ·rw [if_pos h3] at hx
    obtain rfl:=List.mem_singleton.1 hx
    rcases hO.st.cases with ⟨c,_⟩ | ⟨c,_⟩ | ⟨_,e1,e2,e3,e4,e5⟩
    ·omega
    ·omega
    ·have hlt:(o.gone-1).toNat<o.way.length:=by omega
     have hw:=List.getElem?_eq_getElem hlt
     refine ⟨rfl,fun hk=>absurd rfl hk,fun hs=>⟨o.ended,?_,?_⟩,⟨by simp only; omega,by simp only; omega⟩,.inr (.inr (.inr rfl)),fun hk=>by simp at hk⟩
     ·show Zt w.network _=some ⟨plS w.network o o.gone.toNat,o.ended⟩
      rw [← g1,e2]
      exact Zh0 h.fit.net hs (by simp) (by simp)
     ·rw [g2 e4 _ hw,e5 _ hw]; exact Int.le_refl _
   ·rw [if_neg h3] at hx; cases hx
theorem Zxo:(stgA w.network i o).Pairwise (stgR w.network i):=by
 obtain ⟨hP,_⟩:=Zcv h
 have hg:=(ZaV hP ho).ok.gone
 have htl:∀ y∈stgT w.network i o,y.2.1=o.gone.toNat:=fun y hy=>by
  unfold stgT at hy
  by_cases h2:o.state=2
  ·rw [if_pos h2] at hy
   cases hw:o.way[o.gone.toNat]? with
   | none=>rw [hw] at hy; cases hy
   | some t=>rw [hw] at hy; obtain rfl:y=(Zcc w.network i t,o.gone.toNat,o.gone.toNat+1):=by simpa using hy
             rfl
  ·rw [if_neg h2] at hy
   by_cases h3:o.state=3
   ·rw [if_pos h3] at hy; obtain rfl:=List.mem_singleton.1 hy; rfl
   ·rw [if_neg h3] at hy; cases hy
 unfold stgA
 refine List.pairwise_append.2 ⟨List.pairwise_cons.2 ⟨fun y hy=>⟨by simp,.inl (Nat.zero_le _)⟩,ZvB _ _ _ _⟩,?_,fun x hx y hy=>?_⟩
 ·unfold stgT
  by_cases h2:o.state=2
  ·rw [if_pos h2]
   cases o.way[o.gone.toNat]? <;> simp
  ·rw [if_neg h2]
   by_cases h3:o.state=3
   ·rw [if_pos h3]; simp
   ·rw [if_neg h3]; simp
 ·rcases List.mem_cons.1 hx with rfl | hx
  ·exact ⟨by simp,.inl (Nat.zero_le _)⟩
  ·obtain ⟨j,t,h1,h2,h3⟩:=Zi3 hx
   have hj:=(List.getElem?_eq_some_iff.1 h1).1
   rw [List.length_take] at hj
   refine ⟨by rcases h3 with e | e <;> rw [e] <;> simp [Zcc,ZeU],.inl ?_⟩
   rw [htl y hy,h2]
   simp only; omega
theorem ZkP {j k:Nat} (hjk:j≤k) (hk:k≤o.way.length) {s:Int} (hs:arS w.network o k≤s):ZaA w.network ⟨plS w.network o j,arS w.network o j⟩ ⟨plS w.network o k,s⟩=some true∧Zbe w.network (plS w.network o j) (arS w.network o j) (plS w.network o k) s=some true:=by
 obtain ⟨s1,s2,s3,s4,s5⟩:=ZkQ h ho (k:=j) (by omega)
 have hsplit:o.way.take k=o.way.take j++(o.way.drop j).take (k-j):=by
  rw [List.take_drop,show j+(k-j)=k by omega]
  have:(o.way.take k).take j=o.way.take j:=by rw [List.take_take,Nat.min_eq_left hjk]
  rw [← this,List.take_append_drop]
 have hmid:ZbG w.network (plS w.network o j) (endA w.network (o.at_+1) (o.way.take j)) ((o.way.drop j).take (k-j)):=by
  have:=s1
  rw [← List.take_append_drop (k-j) (o.way.drop j)] at this
  exact ((Zhf _).1 this).1
 have hend:endP w.network (plS w.network o j) ((o.way.drop j).take (k-j))=plS w.network o k:=by
  unfold plS endP
  rw [hsplit,List.foldl_append]
 have hlast:∀ t,((o.way.drop j).take (k-j)).getLast?=some t→arS w.network o k=Z7 w.network t:=fun t ht=>by
  unfold arS
  rw [hsplit,List.getLast?_append,ht]; rfl
 have hle:arS w.network o j≤s:=by
  cases hl:((o.way.drop j).take (k-j)).getLast? with
  | none=>
   have e:(o.way.drop j).take (k-j)=[]:=List.getLast?_eq_none_iff.1 hl
   have:arS w.network o k=arS w.network o j:=by unfold arS; rw [hsplit,e,List.append_nil]
   omega
  | some t=>
   have hm:=List.mem_of_getLast? hl
   have:=Zhz h.fit.net h.net hmid t hm
   obtain ⟨_,_,_,t4,_⟩:=ZI h.fit.net h.net (Zek hmid t hm)
   have:=hlast t hl
   omega
 exact Zrr h.fit.net h.net s5 ⟨s3,s4⟩ hmid s2 hend hle fun t ht=>by have:=hlast t ht; omega
theorem Zxe:(Zdr w.network i o).Pairwise fun a b=>scLt a b∧(okS1 w.network a=true→okS1 w.network b=true→Zaj w.network a b=some true):=by
 have hlt:(Zdr w.network i o).Pairwise scLt:=Zo3 ZuU (Zrm (fun a b k=>k.1) (ZuW h ho))
 have hok:=Ztt h ho
 have hpw:=Zxo h ho
 rw [← Zp3] at hlt ⊢
 rw [List.pairwise_map] at hlt ⊢
 refine (List.Pairwise.and hlt hpw).imp_of_mem fun {x y} hx hy hxy=>⟨hxy.1,fun ha hb=>?_⟩
 obtain ⟨h1,h2,h3⟩:=hxy
 have ox:=hok x hx
 have oy:=hok y hy
 rcases h3 with h3 | ⟨t,e1,e2⟩
 ·obtain ⟨s,b1,b2⟩:=oy.before hb
  exact Zql h.fit.net ha hb (ox.thing.trans oy.thing.symm) h1 h2 (ox.behind h2 ha) b1 (ZkP h ho h3 oy.le.1 b2).1
 ·exact Zke h.fit.net ha hb (ox.thing.trans oy.thing.symm) h1 h2 (by rw [e1]; rfl) (by rw [e2]; rfl) (by rw [e1,e2]; rfl)
end
section
variable {w:Zd} (h:WOk w) (hs:Zfn w)
include h hs
theorem ZjF:∀ s∈w.scans,okS1 w.network s=true:=fun s hm=>by
 unfold okS1
 rw [(ZgS h.fit h.ok hm).1]; rfl
theorem Zp4 {i:Nat} {o:Zf} (ho:w.orders[i]?=some o):(ofT ((i+1:Nat):Int) w.scans).Pairwise scLt∧ZjH w.network (ofT ((i+1:Nat):Int) w.scans):=by
 have hp:=List.Pairwise.sublist (hs.sub i o ho) (Zxe h ho)
 refine ⟨hp.imp fun k=>k.1,fun j a b ha hb=>?_⟩
 have h1:=ZjF h hs a (List.mem_filter.1 (List.mem_of_getElem? ha)).1
 have h2:=ZjF h hs b (List.mem_filter.1 (List.mem_of_getElem? hb)).1
 obtain ⟨l1,e1⟩:=List.getElem?_eq_some_iff.1 ha
 obtain ⟨l2,e2⟩:=List.getElem?_eq_some_iff.1 hb
 have:=List.pairwise_iff_getElem.1 hp j (j+1) l1 l2 (by omega)
 rw [e1,e2] at this
 exact this.2 h1 h2
theorem ZnL:ZjK w.network w.scans:=by
 refine ⟨h.parts.2.2.2.1,ZjF h hs,Znf fun th=>?_⟩
 by_cases hth:1≤th∧th≤(w.orders.length:Int)
 ·have hi:th.toNat-1<w.orders.length:=by omega
  have:=(Zp4 h hs (List.getElem?_eq_getElem hi)).1
  rw [show ((th.toNat-1+1:Nat):Int)=th by omega] at this
  exact this.imp fun {a b} hab e=>by subst e; exact ZyC a hab
 ·rw [Ziv fun s hm e=>hth ⟨by rw [← e]; exact ZqX h.net (ZgS h.fit h.ok hm).1,by rw [← e]; exact hs.thing s hm⟩]
  exact .nil
theorem Zq4 {i:Nat} {o:Zf} (ho:w.orders[i]?=some o):(∃ z,Za9 w.network w.scans ((i+1:Nat):Int) w.now=some (z,false))∨
 ∃ s,Za9 w.network w.scans ((i+1:Nat):Int) w.now=some (s,true)∧(o.state=1→Zem w.network w.scans ((i+1:Nat):Int) w.now o.place=some true)∧
  (o.state=2→∃ t,getI o.way o.gone=some t∧ZbX w.network w.scans ((i+1:Nat):Int) w.now t=some true):=by
 obtain ⟨hP,_⟩:=Zcv h
 have hO:=ZaV hP ho
 have hg:=hO.ok.gone
 have hF:=ZnL h hs
 obtain ⟨h1,h2⟩:=Zp4 h hs ho
 have h3:∀ s∈ofT ((i+1:Nat):Int) w.scans,s.at_≤w.now:=fun s hm=>(ZgS h.fit h.ok (List.mem_filter.1 hm).1).2
 have hf:=h.fit.net
 cases hl:(ofT ((i+1:Nat):Int) w.scans).getLast? with
 | none=>
  left
  have hc:=Zj1 hf hF h1 h2
  have e:ofT ((i+1:Nat):Int) w.scans=[]:=List.getLast?_eq_none_iff.1 hl
  rw [e] at hc
  have e2:Zj (Zbu w.now []) NN (w64 ((([]:List Zk).length:Int)-1))=some (.inl ()):=by
   obtain ⟨N,hN⟩:∃ N,NN=N+1:=⟨NN-1,by unfold NN; omega⟩
   rw [hN,show w64 ((([]:List Zk).length:Int)-1)=-1 by rw [Zo (by simp)]; simp]
   unfold Zj Zbu
   rfl
  unfold Za9
  rw [hc,Option.bind_some,e2]
  exact ⟨_,rfl⟩
 | some s=>
  right
  have hsm:=List.mem_of_getLast? hl
  have hsk:=ZjF h hs s (List.mem_filter.1 hsm).1
  have hss:s∈Zdr w.network i o:=(hs.sub i o ho).subset hsm
  rw [← Zp3] at hss
  obtain ⟨x,hx,rfl⟩:=List.mem_map.1 hss
  have ox:=Ztt h ho x hx
  obtain ⟨g1,g2⟩:=Zls h ho
  -- where x stands among the stages
  have hxg:¬ o.state=3→x.2.2≤o.gone.toNat∨o.state=2∧∃ t,o.way[o.gone.toNat]?=some t∧x.1=Zcc w.network i t:=fun hn3=>by
   unfold stgA at hx
   rw [List.cons_append] at hx
   rcases List.mem_cons.1 hx with rfl | hx
   ·exact .inl (Nat.zero_le _)
   rcases List.mem_append.1 hx with hx | hx
   ·obtain ⟨j,t,q1,q2,q3⟩:=Zi3 hx
    have hj:=(List.getElem?_eq_some_iff.1 q1).1
    rw [List.length_take] at hj
    rw [q2]
    exact .inl (by simp only; omega)
   ·unfold stgT at hx
    by_cases e2:o.state=2
    ·rw [if_pos e2] at hx
     cases hw:o.way[o.gone.toNat]? with
     | none=>rw [hw] at hx; cases hx
     | some t=>
      rw [hw] at hx
      obtain rfl:x=(Zcc w.network i t,o.gone.toNat,o.gone.toNat+1):=by simpa using hx
      exact .inr ⟨e2,t,rfl,rfl⟩
    ·rw [if_neg e2,if_neg hn3] at hx; cases hx
  -- the scan of a trip that has ended,or of none: the order is free behind it
  have free:¬ o.state=3→x.2.2≤o.gone.toNat→ZaR w.network w.scans ((i+1:Nat):Int) w.now=some ⟨w.network,w.now,false,⟨#[]⟩,⟨0,0⟩,false,true,⟨plS w.network o x.2.2,arS w.network o x.2.2⟩,zS,false⟩:=fun hn3 hle=>by
   have h4:¬ x.1.kind=4:=fun h4=>by
    unfold stgA at hx
    rw [List.cons_append] at hx
    rcases List.mem_cons.1 hx with rfl | hx
    ·simp at h4
    rcases List.mem_append.1 hx with hx | hx
    ·obtain ⟨j,t,q1,q2,q3⟩:=Zi3 hx
     rcases q3 with e | e <;> rw [e] at h4 <;> simp [Zcc,ZeU] at h4
    ·unfold stgT at hx
     by_cases e2:o.state=2
     ·rw [if_pos e2] at hx
      cases hw:o.way[o.gone.toNat]? with
      | none=>rw [hw] at hx; cases hx
      | some t=>
       rw [hw] at hx
       obtain rfl:x=(Zcc w.network i t,o.gone.toNat,o.gone.toNat+1):=by simpa using hx
       simp [Zcc] at h4
     ·rw [if_neg e2,if_neg hn3] at hx; cases hx
   have hbh:=ox.behind h4 hsk
   by_cases hk3:x.1.kind=3
   ·obtain ⟨t,l1,l2,l3⟩:=ox.load hk3
    have hlt:x.2.1<o.gone.toNat:=by omega
    have hend:Z7 w.network t≤w.now:=by
     have hgl:(o.gone-1).toNat<o.way.length:=by omega
     have hp:=hO.st.past _ (by omega) (List.getElem?_eq_getElem hgl)
     by_cases hag:x.2.1=(o.gone-1).toNat
     ·rw [hag,List.getElem?_eq_getElem hgl] at l1
      rw [← Option.some.inj l1]; exact hp
     ·have hlp:=Zig hf h.net hO.chain
      have hn1:=(h.way ho).next
      have hx1:o.way[x.2.1+1]?=some o.way[x.2.1+1]:=List.getElem?_eq_getElem (by omega)
      have:=hn1 _ _ _ l1 hx1
      have hx2:=(h.way ho).trip _ (List.getElem_mem (show (o.gone-1).toNat<o.way.length from hgl))
      by_cases hag2:x.2.1+1=(o.gone-1).toNat
      ·have e:o.way[x.2.1+1]=o.way[(o.gone-1).toNat]:=by congr 1
       rw [e] at this
       omega
      ·have:=List.pairwise_iff_getElem.1 hlp (x.2.1+1) (o.gone-1).toNat (by omega) hgl (by omega)
       omega
    obtain ⟨_,_,_,_,tb⟩:=ZhL h ho l1
    obtain ⟨t1,t2,_⟩:=ZI hf h.net tb
    have htr:x.1.trip=t:=by rw [l2]; rfl
    unfold ZaR
    simp only [Zpz hf hF h1 h2 h3 hl,Zkw hf hF h1 h2 h3,Option.bind_some,Bool.not_true,cond_false,decide_eq_false h4,decide_eq_true hk3,cond_true,ZfG,htr,t2,decide_eq_false (show ¬ w.now<Z7 w.network t by omega),hbh,Zn3 hf h.net]
   ·exact Zqp hf h.net hF h1 h2 h3 hl hk3 h4 hbh
  refine ⟨x.1,Zpz hf hF h1 h2 h3 hl,fun s1=>?_,fun s2=>?_⟩
  ·have hxl:x.2.2≤o.gone.toNat:=by
    rcases hxg (by omega) with hxl | ⟨e,_⟩
    ·exact hxl
    ·omega
   have hk:=free (by omega) hxl
   rcases hO.st.cases with ⟨_,e1,_⟩ | ⟨c,_⟩ | ⟨c,_⟩
   ·have hpl:o.place=plS w.network o o.gone.toNat:=e1.trans g1
    obtain ⟨_,_,_,_,hi⟩:=ZkQ h ho (k:=o.gone.toNat) (by omega)
    have hnow:arS w.network o o.gone.toNat≤w.now:=by
     by_cases h0:0<o.gone
     ·have hlt:(o.gone-1).toNat<o.way.length:=by omega
      have hw:=List.getElem?_eq_getElem hlt
      rw [g2 h0 _ hw]
      exact hO.st.past _ h0 hw
     ·unfold arS
      rw [show o.gone.toNat=0 by omega]
      exact hO.ok.at_.2
    have hr:=(ZkP h ho hxl (by omega) hnow).2
    have hii:Z8 w.network=some true:=by rw [(Zb2 hf).1]; exact h.net
    have hpa:Zz (Zb w.network) (plS w.network o o.gone.toNat)=some (idxV (Zb w.network) (plS w.network o o.gone.toNat)):=by rw [ZdT]; exact Zgk hf _
    rw [hpl]
    unfold Zem ZaI
    rw [hii,(Zac hf).1,(Zac hf).2]
    simp only [Option.bind_some,cond_true,hpa,decide_eq_true hi,hk,cond_false,hr,Bool.not_false]
   ·omega
   ·omega
  ·rcases hO.st.cases with ⟨c,_⟩ | ⟨_,_,_,t,u1,u2,u3⟩ | ⟨c,_⟩
   ·omega
   ·refine ⟨t,by unfold getI; rw [if_pos hg.1]; exact u1,?_⟩
    obtain ⟨a1,a2,a3,a4,a5⟩:=ZhL h ho u1
    rcases hxg (by omega) with hxl | ⟨_,t',v1,v2⟩
    ·have hk:=free (by omega) hxl
     obtain ⟨y,hy,_⟩:=Zah hf a5
     obtain ⟨t1,t2,_⟩:=ZI hf h.net a5
     have f1:ZbL w.network t=y.from_:=by unfold ZbL; rw [hy]; rfl
     have hr:=(ZkP h ho hxl (by omega) a2).2
     rw [← a1,f1] at hr
     have hit:Zad w.network t=some true:=by rw [ZhF hf h.net,ZgB hf,a5]
     unfold ZbX Z3
     simp only [hit,Option.bind_some,cond_true,hk,cond_false,hy,Bool.not_true,Zei,ZfG,t1,t2,decide_eq_false (show ¬ w.now<ZM w.network t by omega),decide_eq_false (show ¬ Z7 w.network t≤w.now by omega),hr,Bool.not_false]
    ·rw [u1] at v1
     obtain rfl:=Option.some.inj v1
     have htr:x.1.trip=t:=by rw [v2]; rfl
     have hb:=(Zoc hf h.net hF h1 h2 h3 hl (by rw [v2]; rfl) (by rw [htr]; exact a5) (by rw [htr]; exact u2) (by rw [htr]; exact u3)).2
     rw [htr] at hb
     exact hb
   ·omega
theorem Zk2:ZeB w=some true:=by
 have e:Zj (Zde w) NN 0=some (.inl ()):=by
  refine Zjy (xs:=w.orders) (fun i o ho=>?_) ?_ h.fit.orders
  ·have hlt:=(List.getElem?_eq_some_iff.1 ho).1
   have hol:=h.fit.orders
   have hw:w64 ((i:Int)+1)=((i+1:Nat):Int):=ZR hlt (by omega)
   have hg:getI w.orders (i:Int)=some o:=by rw [Zn]; exact ho
   unfold Zde
   rw [decide_eq_true (show (i:Int)<w.orders.length by omega),cond_true,hg,Option.bind_some,hw]
   rcases Zq4 h hs ho with ⟨z,hz⟩ | ⟨s,hl,k1,k2⟩
   ·rw [hz]; rfl
   ·rw [hl,Option.bind_some]
    rcases (h.state ho).cases with ⟨k,_⟩ | ⟨k,_⟩ | ⟨k,_⟩
    ·rw [decide_eq_false (show ¬ o.state=3 by omega),decide_eq_true k,decide_eq_false (show ¬ o.state=2 by omega),k1 k]
     rfl
    ·obtain ⟨t,t1,t3⟩:=k2 k
     rw [decide_eq_false (show ¬ o.state=3 by omega),decide_eq_true k,decide_eq_false (show ¬ o.state=1 by omega),t1]
     simp only [Option.bind_some,t3]
     rfl
    ·rw [decide_eq_true k]
     rfl
  ·unfold Zde
   simp
 unfold ZeB
 rw [e]
 rfl
end
/-! The bookings are those of the ways. -/
def allN:Nat→List Zf→List Zc
 | _,[]=>[]
 | i,o::os=>ZdR ((i+1:Nat):Int) o.weight o.way++allN (i+1) os
theorem Zo5:∀ (os:List Zf) (i:Nat),(allN i os).length=(os.map fun o=>o.way.length).sum
 | [],_=>rfl
 | o::os,i=>by
  unfold allN ZdR
  rw [List.length_append,List.length_map,Zo5 os,List.map_cons,List.sum_cons]
theorem Zjp {b:Zc}:∀ {os:List Zf} {i:Nat},b∈allN i os↔∃ (j:Nat) (o:Zf) (t:Ze),os[j]?=some o∧t∈o.way∧b=⟨((i+j+1:Nat):Int),t,o.weight⟩
 | [],i=>by simp [allN]
 | o::os,i=>by
  unfold allN ZdR
  rw [List.mem_append,Zjp (os:=os) (i:=i+1),List.mem_map]
  constructor
  ·rintro (⟨t,h1,h2⟩ | ⟨j,o',t,h1,h2,h3⟩)
   ·exact ⟨0,o,t,rfl,h1,h2.symm⟩
   ·exact ⟨j+1,o',t,by simpa using h1,h2,by rw [h3,show i+1+j+1=i+(j+1)+1 by omega]⟩
  ·rintro ⟨j,o',t,h1,h2,h3⟩
   cases j with
   | zero=>
    obtain rfl:o=o':=by simpa using h1
    exact .inl ⟨t,h2,h3.symm⟩
   | succ j=>exact .inr ⟨j,o',t,by simpa using h1,h2,by rw [h3,show i+1+j+1=i+(j+1)+1 by omega]⟩
theorem Zk7:∀ {os:List Zf} {i:Nat},(∀ o∈os,o.way.Nodup)→(allN i os).Nodup
 | [],i,_=>List.nodup_nil
 | o::os,i,h=>by
  unfold allN
  refine List.nodup_append.2 ⟨?_,Zk7 fun x hx=>h x (by simp [hx]),fun a ha b hb e=>?_⟩
  ·unfold ZdR List.Nodup
   rw [List.pairwise_map]
   exact (h o (by simp)).imp fun {a b} hne e=>hne (by simpa using e)
  ·obtain ⟨j,o',t,_,_,h3⟩:=Zjp.1 hb
   unfold ZdR at ha
   obtain ⟨t',_,rfl⟩:=List.mem_map.1 ha
   rw [h3] at e
   have:=congrArg Zc.thing e
   simp only at this
   omega
theorem Zle {w:Zd} {c:Nat→List Ze} (h:ZjJ w c) {b:Zc} (hb:b∈w.bookings):∃ (j:Nat) (o:Zf) (t:Ze),w.orders[j]?=some o∧t∈o.way∧b=⟨((j+1:Nat):Int),t,o.weight⟩:=by
 have hn:=(Zav h.books).1
 have hnd:(allN 0 w.orders).Nodup:=Zk7 fun o ho=>by
  obtain ⟨i,hi,rfl⟩:=List.getElem_of_mem ho
  exact Zh1 h.fit.net hn (ZaV h (List.getElem?_eq_getElem hi)).chain
 have hsub:∀ x∈allN 0 w.orders,x∈w.bookings:=fun x hx=>by
  obtain ⟨j,o,t,h1,h2,rfl⟩:=Zjp.1 hx
  rw [Nat.zero_add]
  exact Zg0 h h1 h2
 have hlen:(allN 0 w.orders).length=w.bookings.length:=by rw [Zo5,h.sum]
 have hin:b∈allN 0 w.orders:=Classical.byContradiction fun hx=>by
  have:=ZgM (xs:=b::allN 0 w.orders) (ys:=w.bookings) (List.nodup_cons.2 ⟨hx,hnd⟩) fun x hm=>by
   rcases List.mem_cons.1 hm with rfl | hm
   ·exact hb
   ·exact hsub x hm
  simp only [List.length_cons] at this
  omega
 obtain ⟨j,o,t,h1,h2,h3⟩:=Zjp.1 hin
 rw [Nat.zero_add] at h3
 exact ⟨j,o,t,h1,h2,h3⟩
theorem ZqP {w:Zd} {c:Nat→List Ze} (h:ZjJ w c) {i:Nat} {o:Zf} (ho:w.orders[i]?=some o) (hr:¬ Zfl o=[]):¬ o.state=3∧¬ Zb8 w.network o=o.to_:=by
 have hP:=ZaV h ho
 obtain ⟨k0,k1,k2,k3⟩:=ZcO h ho
 have hlt:Zm o<o.way.length:=by
  rcases Int.lt_or_le (Zm o) o.way.length with hx | hx
  ·exact hx
  ·exact absurd (List.drop_eq_nil_of_le (by omega)) hr
 have hs:¬ o.state=3:=fun hs=>by
  rcases hP.ok.cases with ⟨c1,_⟩ | ⟨c1,_⟩ | ⟨c1,c2,_⟩
  ·omega
  ·omega
  ·have:Zm o=o.gone:=by unfold Zm; rw [if_neg (by omega)]
   omega
 refine ⟨hs,fun he=>?_⟩
 rw [← Zj7 h ho hs] at he
 by_cases h0:0<Zm o
 ·have hkt:(Zm o).toNat-1<o.way.length:=by omega
  have hlast:(ZT o).getLast?=some o.way[(Zm o).toNat-1]:=by
   unfold ZT
   rw [ZdV (by omega) (by omega)]
   exact List.getElem?_eq_getElem hkt
  rw [Zfq hlast] at he
  have:=Zas.1 hP.ok.way _ _ (List.getElem?_eq_getElem hkt)
  unfold wayC at this
  simp only [Bool.and_eq_true,Bool.not_eq_true',Bool.and_eq_false_imp,decide_eq_true_iff,decide_eq_false_iff_not,Nat.zero_add] at this
  exact this.2 he (by omega)
 ·have:ZT o=[]:=by unfold ZT; rw [show (Zm o).toNat=0 by omega]; rfl
  rw [this] at he
  exact hP.ok.fromto he
structure ZgT (w w':Zd):Prop where
 network:w'.network=w.network
 now:w'.now=w.now
 closed:w'.closed=w.closed
 scans:w'.scans=w.scans
 skip:w'.skip=w.skip
 made:w'.made=w.made
 len:w'.orders.length=w.orders.length
theorem ZgT.refl (w:Zd):ZgT w w:=⟨rfl,rfl,rfl,rfl,rfl,rfl,rfl⟩
theorem ZgT.trans {a b c:Zd} (h:ZgT a b) (k:ZgT b c):ZgT a c:=⟨k.1.trans h.1,k.2.trans h.2,k.3.trans h.3,k.4.trans h.4,k.5.trans h.5,k.6.trans h.6,k.7.trans h.7⟩
theorem ZgT.new (w:Zd) (i:Nat) (o:Zf) (ts:List Ze) (bs:List Zc):ZgT w (newW w i o ts bs):=⟨rfl,rfl,rfl,rfl,rfl,rfl,by simp only [newW,List.length_set]⟩
theorem ZtG {n:Za} (hf:Z0 n) {l:List Zc} {closed:List Ze} {weight at_:Int} {from_ to_:ByteArray} {way:List Ze} (h:WayR n l closed weight from_ to_ at_ way):way.length≤(Zb n).length-1:=by
 have:=ZgM (xs:=from_::way.map (ZL n)) (ys:=Zb n) h.nodup fun p hp=>by
  rcases List.mem_cons.1 hp with rfl | hp
  ·exact Zvp h.hC.2.1
  ·obtain ⟨t,ht,rfl⟩:=List.mem_map.1 hp
   obtain ⟨y,hy,hym⟩:=Zah hf (Zek h.chain t ht)
   have f2:ZL n t=y.to_:=by unfold ZL; rw [hy]; rfl
   rw [f2]
   exact (Zf0 hym).2
 simp only [List.length_cons,List.length_map] at this
 omega
def Zgf (n:Za) (o o':Zf):Prop:=o'=o∨∃ more,more.length≤(Zb n).length-1∧o'=Zbq o (ZT o++more)
theorem ZpR {w w':Zd} (hf:Z0 w.network) {i:Nat} {o:Zf} (hR:Zie w i o w') (ho:w.orders[i]?=some o):ZgT w w'∧(∃ o',w'.orders[i]?=some o'∧Zgf w.network o o')∧∀ j,¬ j=i→w'.orders[j]?=w.orders[j]?:=by
 have hil:=(List.getElem?_eq_some_iff.1 ho).1
 rcases hR with ⟨_,rfl⟩ | ⟨way,bs,hN,rfl⟩
 ·refine ⟨ZgT.new _ _ _ _ _,⟨Zbq o (ZT o),?_,.inr ⟨[],by simp,by rw [List.append_nil]⟩⟩,fun j hj=>?_⟩
  ·show (w.orders.set i _)[i]?=_
   rw [List.getElem?_set_self hil]
  ·show (w.orders.set i _)[j]?=_
   rw [List.getElem?_set_ne (fun e=>hj e.symm)]
 ·refine ⟨ZgT.new _ _ _ _ _,⟨_,?_,.inr ⟨way,ZtG hf hN.wayR,rfl⟩⟩,fun j hj=>?_⟩
  ·show (w.orders.set i _)[i]?=_
   rw [List.getElem?_set_self hil]
  ·show (w.orders.set i _)[j]?=_
   rw [List.getElem?_set_ne (fun e=>hj e.symm)]
def tupS (w:Zd):Int × Int × Int × (List YLeg) × (List Int) × (List Zf) × (List Zc) × (List Ze) × (List Zk) × (List Int):=(w.network.change,w.now,w.made,w.network.legs,w.network.off,w.orders,w.bookings,w.closed,w.scans,w.skip)
theorem Zkc (skip:List Int):∀ (l:List Zk) (p:List Zk × Int),∃ L,(l.foldl (ZeI skip) p).1=p.1++L∧L.Sublist l
 | [],p=>⟨[],by simp,.slnil⟩
 | s::l,p=>by
  rw [List.foldl_cons]
  obtain ⟨L,h1,h2⟩:=Zkc skip l (ZeI skip p s)
  have h3:(ZeI skip p s).1=p.1++[s]∨(ZeI skip p s).1=p.1:=by
   unfold ZeI
   simp only
   by_cases hm:(skip.any fun y=>decide (y=(if p.2<1000000000 then p.2+1 else p.2)))=false∧p.1.length<200
   ·rw [if_pos hm]; exact .inl rfl
   ·rw [if_neg hm]; exact .inr rfl
  rcases h3 with h3 | h3
  ·exact ⟨s::L,by rw [h1,h3,List.append_assoc]; rfl,h2.cons_cons s⟩
  ·exact ⟨L,by rw [h1,h3],h2.cons s⟩
theorem ZwD (th:Int) {a b:List Zk} (h:a.Sublist b):(ofT th a).Sublist (ofT th b):=h.filter _
theorem Zm0 {w:Zd} {a:Int} (h:WOk w) (hs:Zfn w):Zfn (ZbF w a):=by
 obtain ⟨L,h1,h2⟩:=Zkc w.skip (ZiE w a) (w.scans,w.made)
 have hsc:(ZbF w a).scans=w.scans++L:=h1
 refine ⟨fun s hm=>?_,fun i o' ho'=>?_⟩
 ·show s.thing≤((w.orders.map (Zf2 w.network a)).length:Int)
  rw [List.length_map]
  rw [hsc] at hm
  rcases List.mem_append.1 hm with hm | hm
  ·exact hs.thing s hm
  ·have hm:=h2.subset hm
   unfold ZiE at hm
   rcases List.mem_append.1 hm with hm | hm
   ·obtain ⟨j,o,h1,h3⟩:=ZfK hm
    have:=(List.getElem?_eq_some_iff.1 h1).1
    rw [Zj5 _ _ s h3]; omega
   ·obtain ⟨j,o,h1,h3⟩:=ZfK hm
    have:=(List.getElem?_eq_some_iff.1 h1).1
    rw [List.length_map] at this
    rw [Zko _ _ s h3]; omega
 ·have ho2:(w.orders.map (Zf2 w.network a))[i]?=some o':=ho'
  rw [List.getElem?_map] at ho2
  obtain ⟨o,ho,rfl⟩:=Option.map_eq_some_iff.1 ho2
  have e1:=Zh7 (f:=Zca w.network a) Zj5 w.orders 0 i o ho
  have e2:=Zh7 (f:=Zfu w.network a) Zko (w.orders.map (ZS w.network a)) 0 i (ZS w.network a o) (by rw [List.getElem?_map,ho]; rfl)
  simp only [Nat.zero_add] at e1 e2
  have hL:=ZwD ((i+1:Nat):Int) h2
  unfold ZiE at hL
  rw [ZgN,e1,e2] at hL
  rw [hsc,ZgN]
  show (ofT _ w.scans++ofT _ L).Sublist (Zdr w.network i (Zf2 w.network a o))
  unfold Zf2
  rw [Zta,ZoR (h.way ho).gone.1,List.append_assoc]
  exact (hs.sub i o ho).append hL
theorem ZnB:∀ (k:Nat) (w:Zd) (u:Int),WOk w→Zfn w→u≤100000→Zfn (runV k w u)
 | 0,w,u,_,hs,_=>hs
 | k+1,w,u,h,hs,hu=>by
  unfold runV
  split
  ·exact hs
  ·rename_i hc
   obtain ⟨a,_,_⟩:=Zgi h (by omega)
   exact ZnB k _ u a (Zm0 h hs) hu
theorem ZmB {w:Zd} (h:WOk w) (hs:Zfn w) {u:Int} (hu:u≤100000):Zfn (advV w u):=by
 have hr:=ZnB (Zgc w) w u h hs hu
 exact ⟨hr.thing,hr.sub⟩
theorem Zrk {w:Zd} (hs:Zfn w) {from_ to_:ByteArray} {service weight due:Int} {way:List Ze} (ys:List Zc):Zfn (accV w (newO w from_ to_ service weight due way) ys):=by
 obtain ⟨L,h1,h2⟩:=Zkc w.skip [(⟨(w.orders.length:Int)+1,w.now,1,from_,⟨0,0⟩⟩:Zk)] (w.scans,w.made)
 have hsc:(accV w (newO w from_ to_ service weight due way) ys).scans=w.scans++L:=h1
 have hord:(accV w (newO w from_ to_ service weight due way) ys).orders=w.orders++[newO w from_ to_ service weight due way]:=rfl
 have hthing:=hs.thing
 have hnew:∀ i,Zdr w.network i (newO w from_ to_ service weight due way)=[⟨((i+1:Nat):Int),w.now,1,from_,⟨0,0⟩⟩]:=fun i=>by
  unfold Zdr newO
  simp
 refine ⟨fun s hm=>?_,fun i o ho=>?_⟩
 ·rw [hsc] at hm
  rw [hord,List.length_append]
  rcases List.mem_append.1 hm with hm | hm
  ·have:=hthing s hm; simp only [List.length_cons,List.length_nil]; omega
  ·obtain rfl:=List.mem_singleton.1 (h2.subset hm); simp
 ·rw [hsc,ZgN]
  show (_:List Zk).Sublist (Zdr w.network i o)
  rw [hord] at ho
  by_cases hi:i<w.orders.length
  ·rw [List.getElem?_append_left hi] at ho
   rw [Ziv (l:=L) (fun s hm=>by obtain rfl:=List.mem_singleton.1 (h2.subset hm); simp only; omega),List.append_nil]
   exact hs.sub i o ho
  ·have hie:i=w.orders.length:=by
    have:=(List.getElem?_eq_some_iff.1 ho).1
    simp only [List.length_append,List.length_cons,List.length_nil] at this; omega
   subst hie
   rw [List.getElem?_append_right (Nat.le_refl _),Nat.sub_self] at ho
   obtain rfl:newO w from_ to_ service weight due way=o:=by simpa using ho
   rw [hnew,Ziv (l:=w.scans) (fun s hm=>by have:=hthing s hm; omega),List.nil_append]
   refine List.Sublist.trans (List.filter_sublist) (h2.trans ?_)
   rw [show ((w.orders.length+1:Nat):Int)=(w.orders.length:Int)+1 by omega]
   exact List.Sublist.refl _
theorem ZnC {n:Za} {i:Nat} {o o':Zf} (h:Zgf n o o') (hg:0≤o.gone∧o.gone≤Zm o∧Zm o≤o.way.length):Zdr n i o'=Zdr n i o:=by
 rcases h with rfl | ⟨more,_,rfl⟩
 ·rfl
 have hk:(ZT o).length=(Zm o).toNat:=by unfold ZT; rw [List.length_take]; omega
 have e1:(ZT o++more).take o.gone.toNat=o.way.take o.gone.toNat:=by
  rw [List.take_append_of_le_length (by omega)]
  unfold ZT
  rw [List.take_take,Nat.min_eq_left (by omega)]
 have e2:o.state=2→(ZT o++more)[o.gone.toNat]?=o.way[o.gone.toNat]?:=fun h2=>by
  have hcv:Zm o=o.gone+1:=by unfold Zm; rw [if_pos h2]
  rw [List.getElem?_append_left (by omega)]
  unfold ZT
  rw [List.getElem?_take,if_pos (by omega)]
 unfold Zdr
 show (⟨((i+1:Nat):Int),o.at_,1,o.from_,⟨0,0⟩⟩:Zk)::(((ZT o++more).take o.gone.toNat).flatMap fun t=>[Zcc n i t,ZeU n i t])++(if o.state=2 then (((ZT o++more)[o.gone.toNat]?).map (Zcc n i)).toList else if o.state=3 then [⟨((i+1:Nat):Int),o.ended,4,o.to_,⟨0,0⟩⟩] else [])=_
 rw [e1]
 by_cases h2:o.state=2
 ·rw [if_pos h2,if_pos h2,e2 h2]
 ·rw [if_neg h2,if_neg h2]
theorem Zg4 {w x:Zd} (h:WOk w) (hs:Zfn w) (hn:x.network=w.network) (hsc:x.scans=w.scans) (hl:x.orders.length=w.orders.length) (hr:∀ (i:Nat) (o:Zf),w.orders[i]?=some o→∃ o',x.orders[i]?=some o'∧Zgf w.network o o'):Zfn x:=by
 obtain ⟨hP,_⟩:=Zcv h
 refine ⟨fun s hm=>by rw [hl]; rw [hsc] at hm; exact hs.thing s hm,fun i o' ho'=>?_⟩
 have hi:i<w.orders.length:=by rw [← hl]; exact (List.getElem?_eq_some_iff.1 ho').1
 have ho:=List.getElem?_eq_getElem hi
 obtain ⟨o2,e,hR⟩:=hr i _ ho
 rw [ho'] at e
 obtain rfl:=Option.some.inj e
 have hc:=ZcO hP ho
 rw [hn,hsc,ZnC hR ⟨(ZaV hP ho).ok.gone.1,hc.2.2.2,hc.2.1⟩]
 exact hs.sub i _ ho
end Go.Proofs.YtmcdjilbkmhfoaaGreat
