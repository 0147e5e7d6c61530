/- A part of the proof of the statement in the last file of this claim: texts on the language of the program and on its functions. No condition. -/
import Derived.Test.YtkcnllbmpbhndaaGreatCNewOffice4
import Derived.Test.YtkcnllbmpbhndaaGreatCNewOffice6
import Derived.Test.YtkcnllbmpbhndaaGreatCNewOffice5
namespace Go.Proofs.YtkcnllbmpbhndaaGreat
set_option maxRecDepth 10000
open Go.RowKit
set_option linter.unusedVariables false
set_option maxHeartbeats 16000000
def ZQ (n:YNetwork) (x:Zr) (now:Int):Option Bool:=
 cond (decide (0<x.gone))
 ((getI x.way (w64 (x.gone-1))).bind fun y1=>
 (getI n.legs y1.leg).bind fun y2=>
 (getI x.way (w64 (x.gone-1))).bind fun y3=>
 (ZD n y3).bind fun y4=>
 cond (decide (now<y4))
 (some false)
 (cond (decide (x.state=1))
 (cond (decide (x.place=y2.to_))
 (cond (!decide (y2.to_=x.to_))
 (cond (decide (x.ended=0))
 (cond (decide (x.gone=(x.way.length:Int)))
 (some true)
 ((getI x.way x.gone).bind fun y5=>
 (Zs n y5).bind fun y6=>
 some (decide (now<y6))))
 (some false))
 (some false))
 (some false))
 (cond (decide (x.state=2))
 (cond (decide (x.place=⟨#[]⟩))
 (cond (decide (x.ended=0))
 (cond (decide (x.gone<(x.way.length:Int)))
 ((getI x.way x.gone).bind fun y7=>
 (Zs n y7).bind fun y8=>
 cond (decide (y8≤now))
 ((getI x.way x.gone).bind fun y9=>
 (ZD n y9).bind fun y10=>
 some (decide (now<y10)))
 (some false))
 (some false))
 (some false))
 (some false))
 (cond (decide (x.state=3))
 (cond (decide (x.place=x.to_))
 (cond (decide (y2.to_=x.to_))
 (cond (decide (x.gone=(x.way.length:Int)))
 (cond (decide (0<x.gone))
 ((getI x.way (w64 (x.gone-1))).bind fun y11=>
 (ZD n y11).bind fun y12=>
 some (decide (x.ended=y12)))
 (some false))
 (some false))
 (some false))
 (some false))
 (some false)))))
 (cond (decide (x.state=1))
 (cond (decide (x.place=x.from_))
 (cond (!decide (x.from_=x.to_))
 (cond (decide (x.ended=0))
 (cond (decide (x.gone=(x.way.length:Int)))
 (some true)
 ((getI x.way x.gone).bind fun y13=>
 (Zs n y13).bind fun y14=>
 some (decide (now<y14))))
 (some false))
 (some false))
 (some false))
 (cond (decide (x.state=2))
 (cond (decide (x.place=⟨#[]⟩))
 (cond (decide (x.ended=0))
 (cond (decide (x.gone<(x.way.length:Int)))
 ((getI x.way x.gone).bind fun y15=>
 (Zs n y15).bind fun y16=>
 cond (decide (y16≤now))
 ((getI x.way x.gone).bind fun y17=>
 (ZD n y17).bind fun y18=>
 some (decide (now<y18)))
 (some false))
 (some false))
 (some false))
 (some false))
 (cond (decide (x.state=3))
 (cond (decide (x.place=x.to_))
 (cond (decide (x.from_=x.to_))
 (cond (decide (x.gone=(x.way.length:Int)))
 (cond (decide (0<x.gone))
 ((getI x.way (w64 (x.gone-1))).bind fun y19=>
 (ZD n y19).bind fun y20=>
 some (decide (x.ended=y20)))
 (some false))
 (some false))
 (some false))
 (some false))
 (some false))))
instance (n:YNetwork) (x:Zr) (now:Int):CT Tryz.prog (ZQ n x now):=⟨147,[.ag (cNetwork n),.ag (Zz x),vi now],[],fun r=>vb r,fun r=>[],fun H=>by replace H:=H0 H; unfold ZQ at H; exact Za Tryz.func147 rfl Tryz.ntmps147 Tryz.results147 fun Q hQ hQn=>wk3⟩
def ZfB (places:List ByteArray) (s:ByteArray) (s0:Int):Option (Int ⊕ (Unit ⊕ Int)):=
 cond (decide (s0<(places.length:Int)))
 ((getI places s0).bind fun y1=>
 cond (decide (y1=s))
 (some (.inr (.inr s0)))
 (some (.inl (w64 (s0+1)))))
 (some (.inr (.inl ())))
instance (places:List ByteArray) (s:ByteArray):Zo (ZfB places s):=⟨fun s0=>(.un::vs s::(U 5 (.sl (places.map cStr)::vi (places.length:Int)::vi s0::(U 9 [])))),fun s0=>[]⟩
def Zaz (places:List ByteArray) (s:ByteArray):Option Int:=
 (Zc (ZfB places s) NN 0).bind (Zp (fun o0=>
 some (-1)) (fun r=>some r))
instance (places:List ByteArray) (s:ByteArray):CT Tryz.prog (Zaz places s):=⟨158,[.sl (places.map cStr),vs s],[],fun r=>vi r,fun r=>[],fun H=>by replace H:=H0 H; unfold Zaz at H; exact Za Tryz.func158 rfl Tryz.ntmps158 Tryz.results158 fun Q hQ hQn=>wk3⟩
def ZdD (l:List ByteArray) (p:ByteArray) (s0:Int):Option (Int ⊕ (Unit ⊕ Int)):=
 cond (decide (s0<(l.length:Int)))
 ((getI l s0).bind fun y1=>
 cond (decide (y1=p))
 (some (.inr (.inr s0)))
 (some (.inl (w64 (s0+1)))))
 (some (.inr (.inl ())))
instance (l:List ByteArray) (p:ByteArray):Zo (ZdD l p):=⟨fun s0=>(.sl (l.map cStr)::vs p::(U 3 (vi s0::(U 13 [])))),fun s0=>[]⟩
def ZX (l:List ByteArray) (p:ByteArray):Option Int:=
 (Zc (ZdD l p) NN 0).bind (Zp (fun o0=>
 some (-1)) (fun r=>some r))
instance (l:List ByteArray) (p:ByteArray):CT Tryz.prog (ZX l p):=⟨140,[.sl (l.map cStr),vs p],[],fun r=>vi r,fun r=>[],fun H=>by replace H:=H0 H; unfold ZX at H; exact Za Tryz.func140 rfl Tryz.ntmps140 Tryz.results140 fun Q hQ hQn=>wk3⟩
set_option linter.unusedSimpArgs false
theorem Zhq:@Zaz=@ZX:=rfl
theorem Zo3 {n:YNetwork} {t:Zm} (h:getI n.legs t.leg=none):ZD n t=none:=by
 unfold ZD Zs; rw [h]; rfl
theorem ZfV {n:YNetwork} {t:Zm} {y:YLeg} (h:getI n.legs t.leg=some y):∃ v,ZD n t=some v:=by
 unfold ZD Zs; rw [h]; exact ⟨_,rfl⟩
theorem ZrJ (w:Zf) (o:Zr):ZdR w o=ZQ w.network o w.now:=by
 unfold ZdR ZQ
 rw [ZlQ,ZiY]
 cases decide (0<o.gone) with
 | false=>
  simp only [cond_false]
  cases decide (o.state=1) <;> cases decide (o.state=2) <;> cases decide (o.state=3) <;> try rfl
  all_goals cases decide (o.gone=(o.way.length:Int)) <;> cases decide (o.place=o.to_) <;> cases decide (o.from_=o.to_) <;> rfl
 | true=>
  simp only [cond_true]
  cases hg:getI o.way (w64 (o.gone-1)) with
  | none=>rfl
  | some y1=>
   simp only [Option.bind_some,hg]
   cases hl:getI w.network.legs y1.leg with
   | none=>rw [Zo3 hl]; rfl
   | some y2=>
    obtain ⟨v,hv⟩:=ZfV hl
    simp only [hv,Option.bind_some]
    cases decide (w.now<v) <;> try rfl
    simp only [cond_false]
    cases decide (o.state=1) <;> cases decide (o.state=2) <;> cases decide (o.state=3) <;> try rfl
    all_goals cases decide (o.gone=(o.way.length:Int)) <;> cases decide (o.place=o.to_) <;> cases decide (y2.to_=o.to_) <;> rfl
def ZaR (w:Zf) (id:Int) (t:Zm) (s0:Int):Option (Int ⊕ (Unit ⊕ Bool)):=
 cond (decide (s0<(w.bookings.length:Int)))
 ((getI w.bookings s0).bind fun y1=>
 cond (decide (y1.thing=id))
 (cond (decide (y1.trip=t))
 ((getI w.orders (w64 (id-1))).bind fun y2=>
 some (.inr (.inr (decide (y1.weight=y2.weight)))))
 (some (.inl (w64 (s0+1)))))
 (some (.inl (w64 (s0+1)))))
 (some (.inr (.inl ())))
instance (w:Zf) (id:Int) (t:Zm):Zo (ZaR w id t):=⟨fun s0=>(.un::vi id::.un::.be 0 0 0::.un::.be 1 0 0::(U 4 (.sl (w.bookings.map Zd)::vi (w.bookings.length:Int)::vi s0::(U 24 [])))),fun s0=>[some ⟨.of 39,10,[[.sl (w.network.legs.map cLeg),.sl (w.network.off.map cInt),vi w.network.change,.sl (w.orders.map Zz),.sl (w.bookings.map Zd),.sl (w.closed.map Zv),vi w.now,.sl (w.scans.map ZK),.sl (w.skip.map cInt),vi w.made]]⟩,some ⟨.of 104,2,[[vi t.leg,vi t.day]]⟩]⟩
def Zb8 (w:Zf) (id:Int) (t:Zm):Option Bool:=
 (Zc (ZaR w id t) NN 0).bind (Zp (fun o0=>
 some false) (fun r=>some r))
instance (w:Zf) (id:Int) (t:Zm):CT Tryz.prog (Zb8 w id t):=⟨162,[.ag (ZeG w),vi id,.ag (Zv t)],[],fun r=>vb r,fun r=>[],fun H=>by replace H:=H0 H; unfold Zb8 at H; exact Za Tryz.func162 rfl Tryz.ntmps162 Tryz.results162 fun Q hQ hQn=>wk3⟩
def ZcG (l:List Zb) (thing:Int) (t:Zm) (weight:Int) (s0:Int):Option (Int ⊕ (Unit ⊕ Bool)):=
 cond (decide (s0<(l.length:Int)))
 ((getI l s0).bind fun y1=>
 cond (decide (y1=(⟨thing,t,weight⟩:Zb)))
 (some (.inr (.inr true)))
 (some (.inl (w64 (s0+1)))))
 (some (.inr (.inl ())))
instance (l:List Zb) (thing:Int) (t:Zm) (weight:Int):Zo (ZcG l thing t weight):=⟨fun s0=>(.sl (l.map Zd)::vi thing::.un::vi weight::.un::.un::.be 0 0 0::.un::.un::vi s0::(U 15 [])),fun s0=>[some ⟨.of 104,2,[[vi t.leg,vi t.day]]⟩]⟩
def Zc0 (l:List Zb) (thing:Int) (t:Zm) (weight:Int):Option Bool:=
 (Zc (ZcG l thing t weight) NN 0).bind (Zp (fun o0=>
 some false) (fun r=>some r))
instance (l:List Zb) (thing:Int) (t:Zm) (weight:Int):CT Tryz.prog (Zc0 l thing t weight):=⟨145,[.sl (l.map Zd),vi thing,.ag (Zv t),vi weight],[],fun r=>vb r,fun r=>[],fun H=>by replace H:=H0 H; unfold Zc0 at H; exact Za Tryz.func145 rfl Tryz.ntmps145 Tryz.results145 fun Q hQ hQn=>wk3⟩
def Zem (o:Zr):Option Int:=
 cond (decide (o.state=2))
 (some (if (o.way.length:Int)<(w64 (o.gone+1)) then (o.way.length:Int) else (w64 (o.gone+1))))
 (some o.gone)
instance (o:Zr):CT Tryz.prog (Zem o):=⟨163,[.ag (Zz o)],[],fun r=>vi r,fun r=>[],fun H=>by replace H:=H0 H; unfold Zem at H; exact Za Tryz.func163 rfl Tryz.ntmps163 Tryz.results163 fun Q hQ hQn=>wk3⟩
def Zc1 (x:Zr):Option Int:=
 cond (decide (x.state=2))
 (some (w64 (x.gone+1)))
 (some x.gone)
instance (x:Zr):CT Tryz.prog (Zc1 x):=⟨148,[.ag (Zz x)],[],fun r=>vi r,fun r=>[],fun H=>by replace H:=H0 H; unfold Zc1 at H; exact Za Tryz.func148 rfl Tryz.ntmps148 Tryz.results148 fun Q hQ hQn=>wk3⟩
theorem Zpo {α ο:Type} {xs:List α} {p:α→Bool} {body:Int→Option (Int ⊕ ο)} {f:Nat→ο} {e:ο} (h1:∀ i (hi:i<xs.length),body (i:Int)=some (if p xs[i]=true then .inr (f i) else .inl ((i+1:Nat):Int))) (h2:body (xs.length:Int)=some (.inr e)) (hN:xs.length<NN):
 Zc body NN 0=some ((xs.findIdx? p).elim e f):=by
 have key:∀ (ys:List α) (i N:Nat),xs.drop i=ys→i≤xs.length→ys.length<N→Zc body N (i:Int)=some ((ys.findIdx? p).elim e fun k=>f (i+k)):=by
  intro ys
  induction ys with
  | nil=>
   intro i N hd hi hN
   cases N with
   | zero=>omega
   | succ N=>
    have:i=xs.length:=by have:=congrArg List.length hd; simp at this; omega
    subst this
    simp only [Zc,h2]
    rfl
  | cons y ys ih=>
   intro i N hd hi hN
   cases N with
   | zero=>simp at hN
   | succ N=>
    have hy:xs[i]?=some y:=by
     have:=congrArg (fun l=>l[0]?) hd
     simpa using this
    have hlt:i<xs.length:=(List.getElem?_eq_some_iff.1 hy).1
    have hyv:xs[i]=y:=(List.getElem?_eq_some_iff.1 hy).2
    have hd':xs.drop (i+1)=ys:=by
     have:=congrArg (List.drop 1) hd
     simpa [List.drop_drop] using this
    simp only [Zc,h1 i hlt,hyv]
    rw [List.findIdx?_cons]
    cases hp:p y with
    | true=>simp
    | false=>
     simp only [Bool.false_eq_true,if_false]
     have:=ih (i+1) N hd' hlt (by simp at hN; omega)
     refine this.trans ?_
     cases ys.findIdx? p with
     | none=>rfl
     | some k=>simp only [Option.map_some,Option.elim_some]; congr 2; omega
 have:=key xs 0 NN rfl (Nat.zero_le _) hN
 simpa using this
def idxV (l:List ByteArray) (p:ByteArray):Int:=(l.findIdx? fun y=>decide (y=p)).elim (-1) fun k=>(k:Int)
theorem ZgW {l:List ByteArray} (h:l.length≤4194304) (p:ByteArray):ZX l p=some (idxV l p):=by
 unfold ZX
 rw [Zpo (xs:=l) (p:=fun y=>decide (y=p)) (f:=fun i=>.inr (i:Int)) (e:=.inl ()) (fun i hi=>?_) (by simp [ZdD]) (by unfold NN; omega)]
 ·unfold idxV
  cases l.findIdx? fun y=>decide (y=p) <;> rfl
 ·have hw:=Zq hi (by omega)
  have hg:getI l (i:Int)=some l[i]:=by rw [Zi]; exact List.getElem?_eq_getElem hi
  simp only [ZdD,decide_eq_true (show (i:Int)<l.length by omega),cond_true,hg,Option.bind_some,hw]
  cases decide (l[i]=p) <;> rfl
/-! Bookings: one for a thing and a trip. -/
def ZtG (l:List Zb):Prop:=∀ x∈l,∀ y∈l,x.thing=y.thing→x.trip=y.trip→x=y
theorem Zss {a b c:Zb} (h:befB a b=true) (h':befB b c=true):befB a c=true:=by
 unfold befB at *
 split at h
 ·have h1:=of_decide_eq_true h
  split at h'
  ·have h2:=of_decide_eq_true h'
   rw [if_pos (by omega)]; exact decide_eq_true (by omega)
  ·rename_i h2
   rw [if_pos (by omega)]; exact decide_eq_true (by omega)
 ·rename_i h0
  split at h
  ·have h1:=of_decide_eq_true h
   split at h'
   ·have h2:=of_decide_eq_true h'
    rw [if_pos (by omega)]; exact decide_eq_true (by omega)
   ·rename_i h2
    rw [if_neg (by omega)]
    split at h'
    ·have h3:=of_decide_eq_true h'
     rw [if_pos (by omega)]; exact decide_eq_true (by omega)
    ·rename_i h3
     rw [if_pos (by omega)]; exact decide_eq_true (by omega)
  ·rename_i h00
   have h1:=of_decide_eq_true h
   split at h'
   ·have h2:=of_decide_eq_true h'
    rw [if_pos (by omega)]; exact decide_eq_true (by omega)
   ·rename_i h2
    rw [if_neg (by omega)]
    split at h'
    ·have h3:=of_decide_eq_true h'
     rw [if_pos (by omega)]; exact decide_eq_true (by omega)
    ·rename_i h3
     have h4:=of_decide_eq_true h'
     rw [if_neg (by omega)]; exact decide_eq_true (by omega)
theorem Zku {n:YNetwork} {l:List Zb} (h:ZeV n l=true):Zx n=some true∧l.length≤120:=by
 unfold ZeV at h
 simp only [Bool.and_eq_true,decide_eq_true_iff] at h
 refine ⟨?_,by omega⟩
 cases hn:Zx n with
 | none=>rw [hn] at h; cases h.1.1
 | some b=>rw [hn] at h; have:=h.1.1; simp at this; rw [this]
theorem ZqI {n:YNetwork} {l:List Zb} (h:ZeV n l=true) {i:Nat} (hi:i<l.length):bk1 n l i=true∧bk2 n l i=true:=by
 unfold ZeV at h
 simp only [Bool.and_eq_true] at h
 have:=List.all_eq_true.1 h.2 i (List.mem_range.2 hi)
 simpa only [Bool.and_eq_true] using this
theorem ZmL {n:YNetwork} {l:List Zb} (h:ZeV n l=true):∀ (j i:Nat) (hj:j<l.length) (hij:i<j),befB (l[i]'(by omega)) l[j]=true:=by
 intro j
 induction j with
 | zero=>intro i hj hij; omega
 | succ j ih=>
  intro i hj hij
  have h1:=(ZqI h hj).1
  unfold bk1 at h1
  rw [List.getElem?_eq_getElem hj] at h1
  simp only [Nat.add_sub_cancel,List.getElem?_eq_getElem (show j<l.length by omega),Bool.and_eq_true,Bool.or_eq_true,decide_eq_true_iff] at h1
  have h2:befB l[j] l[j+1]=true:=by
   rcases h1.2 with h3 | h3
   ·omega
   ·exact h3
  rcases Nat.lt_or_ge i j with h3 | h3
  ·exact Zss (ih i (by omega) h3) h2
  ·have:i=j:=by omega
   subst this; exact h2
theorem ZmI {a b:Zb} (h1:a.thing=b.thing) (h2:a.trip=b.trip):befB a b=false:=by
 unfold befB
 rw [h2,h1]
 simp
theorem ZnL {n:YNetwork} {l:List Zb} (h:ZeV n l=true):ZtG l:=by
 intro x hx y hy ht htr
 obtain ⟨i,hi,rfl⟩:=List.getElem_of_mem hx
 obtain ⟨j,hj,rfl⟩:=List.getElem_of_mem hy
 rcases Nat.lt_trichotomy i j with h1 | h1 | h1
 ·have:=ZmL h j i hj h1
  rw [ZmI ht htr] at this; cases this
 ·subst h1; rfl
 ·have:=ZmL h i j hi h1
  rw [ZmI ht.symm htr.symm] at this; cases this
def ZeT (l:List Zb) (thing:Int) (t:Zm) (wt:Int):Bool:=l.any fun y=>decide (y=(⟨thing,t,wt⟩:Zb))
theorem ZqH {l:List Zb} (h:l.length≤1048576) (thing:Int) (t:Zm) (wt:Int):Zc0 l thing t wt=some (ZeT l thing t wt):=by
 unfold Zc0
 rw [ZfX (xs:=l) (p:=fun y=>decide (y=(⟨thing,t,wt⟩:Zb))) (r:=.inr true) (e:=.inl ()) (fun i hi=>?_) (by simp [ZcG]) (by unfold NN; omega)]
 ·unfold ZeT
  cases l.any fun y=>decide (y=(⟨thing,t,wt⟩:Zb)) <;> rfl
 ·have hw:=Zq hi (by omega)
  have hg:getI l (i:Int)=some l[i]:=by rw [Zi]; exact List.getElem?_eq_getElem hi
  simp only [ZcG,decide_eq_true (show (i:Int)<l.length by omega),cond_true,hg,Option.bind_some,hw]
  cases decide (l[i]=(⟨thing,t,wt⟩:Zb)) <;> rfl
theorem ZkS {w:Zf} (h:w.bookings.length≤1048576) (hu:ZtG w.bookings) {id:Int} {o:Zr} (ho:getI w.orders (w64 (id-1))=some o) (t:Zm):Zb8 w id t=some (ZeT w.bookings id t o.weight):=by
 unfold Zb8
 have e:Zc (ZaR w id t) NN 0=runL (fun _ (_:Unit) (x:Zb)=>some (if x.thing=id∧x.trip=t then .inr (.inr (decide (x.weight=o.weight))) else .inl ())) (fun _=>some (.inl ())) 0 w.bookings ():=by
  refine Ziu (A:=Unit) (fun _ i=>i) _ _ (fun _ i x hx=>?_) (fun _=>?_) (by unfold NN; omega) ()
  ·have hi:=(List.getElem?_eq_some_iff.1 hx).1
   have hw:=Zq hi (by omega)
   have hg:getI w.bookings (i:Int)=some x:=by rw [Zi]; exact hx
   simp only [ZaR,decide_eq_true (show (i:Int)<w.bookings.length by omega),cond_true,hg,Option.bind_some,hw,ho]
   by_cases h1:x.thing=id
   ·by_cases h2:x.trip=t
    ·simp [h1,h2]
    ·simp [h1,h2]
   ·simp [h1]
  ·simp [ZaR]
 have key:∀ (l:List Zb) (i:Nat),(∀ x∈l,x∈w.bookings)→runL (fun _ (_:Unit) (x:Zb)=>some (if x.thing=id∧x.trip=t then (.inr (.inr (decide (x.weight=o.weight))):Unit ⊕ (Unit ⊕ Bool)) else .inl ())) (fun _=>some (Sum.inl ():Unit ⊕ Bool)) i l ()=some (if l.any (fun y=>decide (y.thing=id∧y.trip=t))=true then Sum.inr (ZeT l id t o.weight) else Sum.inl ()):=by
  intro l
  induction l with
  | nil=>intro i _; rfl
  | cons x l ih=>
   intro i hm
   simp only [runL]
   by_cases hc:x.thing=id∧x.trip=t
   ·rw [if_pos hc]
    simp only [Option.bind_some,List.any_cons,decide_eq_true hc,Bool.true_or,if_true]
    show some (Sum.inr (decide (x.weight=o.weight)):Unit ⊕ Bool)=_
    congr 2
    unfold ZeT
    rw [List.any_cons]
    by_cases hw:x.weight=o.weight
    ·rw [decide_eq_true hw]
     have:x=(⟨id,t,o.weight⟩:Zb):=by obtain ⟨a,b,c⟩:=x; simp at hc hw ⊢; exact ⟨hc.1,hc.2,hw⟩
     rw [decide_eq_true this]; rfl
    ·rw [decide_eq_false hw]
     symm
     rw [Bool.or_eq_false_iff]
     refine ⟨decide_eq_false (fun e=>hw (by rw [e])),?_⟩
     rw [Bool.eq_false_iff]
     intro h3
     obtain ⟨y,hy,he⟩:=List.any_eq_true.1 h3
     have he:=of_decide_eq_true he
     have:=hu x (hm x (List.mem_cons_self ..)) y (hm y (List.mem_cons_of_mem _ hy)) (by rw [he]; exact hc.1) (by rw [he]; exact hc.2)
     exact hw (by rw [this,he])
   ·rw [if_neg hc]
    simp only [Option.bind_some,Zp]
    rw [ih (i+1) (fun y hy=>hm y (List.mem_cons_of_mem _ hy))]
    simp only [List.any_cons,decide_eq_false hc,Bool.false_or]
    have:ZeT (x::l) id t o.weight=ZeT l id t o.weight:=by
     unfold ZeT
     rw [List.any_cons,decide_eq_false (fun e=>hc (by rw [e]; exact ⟨rfl,rfl⟩)),Bool.false_or]
    rw [this]
 rw [e,key w.bookings 0 (fun x h=>h)]
 cases ha:w.bookings.any (fun y=>decide (y.thing=id∧y.trip=t)) with
 | true=>rfl
 | false=>
  show some false=_
  congr 1
  symm
  unfold ZeT
  rw [Bool.eq_false_iff]
  intro h3
  obtain ⟨y,hy,he⟩:=List.any_eq_true.1 h3
  have he:=of_decide_eq_true he
  have:=List.any_eq_false.1 ha y hy
  apply this
  rw [he]; simp
def Zej (n:YNetwork) (way:List Zm) (to_:ByteArray) (s0:Int × ByteArray × Int):Option ((Int × ByteArray × Int) ⊕ (ByteArray ⊕ Bool)):=
 cond (decide (s0.2.2<(way.length:Int)))
 ((getI way s0.2.2).bind fun y5=>
 (ZL n y5).bind fun y6=>
 cond (!y6)
 (some (.inr (.inr false)))
 ((getI n.legs y5.leg).bind fun y7=>
 cond (!decide (y7.from_=s0.2.1))
 (some (.inr (.inr false)))
 ((Zaa n y5).bind fun y8=>
 cond (decide (y8<s0.1))
 (some (.inr (.inr false)))
 ((getI n.legs y5.leg).bind fun y9=>
 (getI way s0.2.2).bind fun y10=>
 (Za8 n y10).bind fun y11=>
 some (.inl ((w64 (y11+n.change)),y9.to_,(w64 (s0.2.2+1))))))))
 (some (.inr (.inl s0.2.1)))
instance (n:YNetwork) (way:List Zm) (to_:ByteArray):Zo (Zej n way to_):=⟨fun s0=>(.un::.sl (way.map Zv)::.un::vs to_::vi s0.1::.be 0 0 0::(U 6 (vs s0.2.1::(U 20 (.sl (way.map Zv)::vi (way.length:Int)::vi s0.2.2::(U 46 [])))))),fun s0=>[some ⟨.of 33,3,[[.sl (n.legs.map cLeg),.sl (n.off.map cInt),vi n.change]]⟩]⟩
def ZeM (n:YNetwork) (way:List Zm) (from2_:ByteArray) (to_:ByteArray) (at4_:Int):Option Bool:=
 (ZV n).bind fun y1=>
 (Zah n).bind fun y2=>
 cond (!y2)
 (some false)
 ((Zaz y1 from2_).bind fun y3=>
 cond (decide (y3<0))
 (some false)
 ((Zaz y1 to_).bind fun y4=>
 cond (decide (y4<0))
 (some false)
 ((Zc (Zej n way to_) NN (at4_,from2_,0)).bind (Zp (fun o0=>
 some (decide (o0=to_))) (fun r=>some r)))))
instance (n:YNetwork) (way:List Zm) (from2_:ByteArray) (to_:ByteArray) (at4_:Int):CT Tryz.prog (ZeM n way from2_ to_ at4_):=⟨164,[.ag (cNetwork n),.sl (way.map Zv),vs from2_,vs to_,vi at4_],[],fun r=>vb r,fun r=>[],fun H=>by replace H:=H0 H; unfold ZeM at H; exact Za Tryz.func164 rfl Tryz.ntmps164 Tryz.results164 fun Q hQ hQn=>wk3⟩
def Zbl (n:YNetwork) (way:List Zm) (to_:ByteArray) (s0:ByteArray × Int × Int):Option ((ByteArray × Int × Int) ⊕ (ByteArray ⊕ Bool)):=
 cond (decide (s0.2.2<(way.length:Int)))
 ((getI way s0.2.2).bind fun y5=>
 (ZN n y5).bind fun y6=>
 cond (!y6)
 (some (.inr (.inr false)))
 ((getI way s0.2.2).bind fun y7=>
 (getI n.legs y7.leg).bind fun y8=>
 cond (!decide (y8.from_=s0.1))
 (some (.inr (.inr false)))
 ((getI way s0.2.2).bind fun y9=>
 (Zs n y9).bind fun y10=>
 cond (decide (y10<s0.2.1))
 (some (.inr (.inr false)))
 ((getI way s0.2.2).bind fun y11=>
 (getI n.legs y11.leg).bind fun y12=>
 (getI way s0.2.2).bind fun y13=>
 (ZD n y13).bind fun y14=>
 some (.inl (y12.to_,(w64 (y14+n.change)),(w64 (s0.2.2+1))))))))
 (some (.inr (.inl s0.1)))
instance (n:YNetwork) (way:List Zm) (to_:ByteArray):Zo (Zbl n way to_):=⟨fun s0=>(.un::.sl (way.map Zv)::.un::vs to_::.un::.be 0 0 0::(U 6 (vs s0.1::vi s0.2.1::vi s0.2.2::(U 78 [])))),fun s0=>[some ⟨.of 33,3,[[.sl (n.legs.map cLeg),.sl (n.off.map cInt),vi n.change]]⟩]⟩
def Zcv (n:YNetwork) (way:List Zm) (from2_:ByteArray) (to_:ByteArray) (at4_:Int):Option Bool:=
 (ZW n).bind fun y1=>
 (Zx n).bind fun y2=>
 cond (!y2)
 (some false)
 ((ZX y1 from2_).bind fun y3=>
 cond (decide (y3<0))
 (some false)
 ((ZX y1 to_).bind fun y4=>
 cond (decide (y4<0))
 (some false)
 ((Zc (Zbl n way to_) NN (from2_,at4_,0)).bind (Zp (fun o0=>
 some (decide (o0=to_))) (fun r=>some r)))))
instance (n:YNetwork) (way:List Zm) (from2_:ByteArray) (to_:ByteArray) (at4_:Int):CT Tryz.prog (Zcv n way from2_ to_ at4_):=⟨146,[.ag (cNetwork n),.sl (way.map Zv),vs from2_,vs to_,vi at4_],[],fun r=>vb r,fun r=>[],fun H=>by replace H:=H0 H; unfold Zcv at H; exact Za Tryz.func146 rfl Tryz.ntmps146 Tryz.results146 fun Q hQ hQn=>wk3⟩
def Zei (n:YNetwork) (s:Z2):Option Bool:=
 (Zah n).bind fun y1=>
 cond (!y1)
 (some false)
 ((Ze s.thing 1 9999).bind fun y2=>
 cond (!y2)
 (some false)
 ((Ze s.at_ 0 100000).bind fun y3=>
 cond (!y3)
 (some false)
 (cond (decide (s.kind=1))
 (cond (decide (s.kind=1))
 ((ZV n).bind fun y4=>
 (Zaz y4 s.place).bind fun y5=>
 cond (decide (0≤y5))
 (some (decide (s.trip=(⟨0,0⟩:Zm))))
 (some false))
 (cond (decide (s.kind=3))
 (cond (decide (s.place=⟨#[]⟩))
 ((ZL n s.trip).bind fun y6=>
 cond y6
 ((Zaa n s.trip).bind fun y7=>
 some (decide (s.at_≤y7)))
 (some false))
 (some false))
 (cond (decide (s.kind=2))
 (cond (decide (s.place=⟨#[]⟩))
 ((ZL n s.trip).bind fun y8=>
 cond y8
 ((Za8 n s.trip).bind fun y9=>
 some (decide (y9≤s.at_)))
 (some false))
 (some false))
 (some false))))
 (cond (decide (s.kind=4))
 ((ZV n).bind fun y10=>
 (Zaz y10 s.place).bind fun y11=>
 cond (decide (0≤y11))
 (some (decide (s.trip=(⟨0,0⟩:Zm))))
 (some false))
 (cond (decide (s.kind=3))
 (cond (decide (s.place=⟨#[]⟩))
 ((ZL n s.trip).bind fun y12=>
 cond y12
 ((Zaa n s.trip).bind fun y13=>
 some (decide (s.at_≤y13)))
 (some false))
 (some false))
 (cond (decide (s.kind=2))
 (cond (decide (s.place=⟨#[]⟩))
 ((ZL n s.trip).bind fun y14=>
 cond y14
 ((Za8 n s.trip).bind fun y15=>
 some (decide (y15≤s.at_)))
 (some false))
 (some false))
 (some false)))))))
instance (n:YNetwork) (s:Z2):CT Tryz.prog (Zei n s):=⟨117,[.ag (cNetwork n),.ag (ZK s)],[],fun r=>vb r,fun r=>[],fun H=>by replace H:=H0 H; unfold Zei at H; exact Za Tryz.func117 rfl Tryz.ntmps117 Tryz.results117 fun Q hQ hQn=>wk3⟩
def ZZ (n:YNetwork) (s:Z2):Option Bool:=
 (Zx n).bind fun y1=>
 cond (!y1)
 (some false)
 ((Zl s.thing 1 9999).bind fun y2=>
 cond (!y2)
 (some false)
 ((Zl s.at_ 0 100000).bind fun y3=>
 cond (!y3)
 (some false)
 (cond (decide (s.kind=1))
 (cond (decide (s.kind=1))
 ((ZW n).bind fun y4=>
 (ZX y4 s.place).bind fun y5=>
 cond (decide (0≤y5))
 (some (decide (s.trip=(⟨0,0⟩:Zm))))
 (some false))
 (cond (decide (s.kind=3))
 (cond (decide (s.place=⟨#[]⟩))
 ((ZN n s.trip).bind fun y6=>
 cond y6
 ((Zs n s.trip).bind fun y7=>
 some (decide (s.at_≤y7)))
 (some false))
 (some false))
 (cond (decide (s.kind=2))
 (cond (decide (s.place=⟨#[]⟩))
 ((ZN n s.trip).bind fun y8=>
 cond y8
 ((ZD n s.trip).bind fun y9=>
 some (decide (y9≤s.at_)))
 (some false))
 (some false))
 (some false))))
 (cond (decide (s.kind=4))
 ((ZW n).bind fun y10=>
 (ZX y10 s.place).bind fun y11=>
 cond (decide (0≤y11))
 (some (decide (s.trip=(⟨0,0⟩:Zm))))
 (some false))
 (cond (decide (s.kind=3))
 (cond (decide (s.place=⟨#[]⟩))
 ((ZN n s.trip).bind fun y12=>
 cond y12
 ((Zs n s.trip).bind fun y13=>
 some (decide (s.at_≤y13)))
 (some false))
 (some false))
 (cond (decide (s.kind=2))
 (cond (decide (s.place=⟨#[]⟩))
 ((ZN n s.trip).bind fun y14=>
 cond y14
 ((ZD n s.trip).bind fun y15=>
 some (decide (y15≤s.at_)))
 (some false))
 (some false))
 (some false)))))))
instance (n:YNetwork) (s:Z2):CT Tryz.prog (ZZ n s):=⟨104,[.ag (cNetwork n),.ag (ZK s)],[],fun r=>vb r,fun r=>[],fun H=>by replace H:=H0 H; unfold ZZ at H; exact Za Tryz.func104 rfl Tryz.ntmps104 Tryz.results104 fun Q hQ hQn=>wk3⟩
theorem Znl {σ τ ο:Type} {f:σ→Option (σ ⊕ ο)} {g:τ→Option (τ ⊕ ο)} (φ:σ→τ) (h:∀ s,g (φ s)=(f s).bind (Zp (fun s'=>some (.inl (φ s'))) (fun r=>some (.inr r)))):∀ (N:Nat) (s:σ),Zc g N (φ s)=Zc f N s
 | 0,s=>rfl
 | N+1,s=>by
  simp only [Zc,h]
  cases f s with
  | none=>rfl
  | some o=>
   cases o with
   | inl s'=>exact Znl φ h N s'
   | inr r=>rfl
theorem ZnJ {n:YNetwork} (h:Zax n) {t:Zm} (ht:ZN n t=some true):∃ y,getI n.legs t.leg=some y:=by
 unfold ZN ZbO at ht
 obtain ⟨_,b,hb⟩:=Zcu h
 obtain ⟨_,b2,hb2⟩:=ZgF h t.leg t.day
 rw [hb] at ht
 simp only [Option.bind_some,hb2] at ht
 cases b with
 | false=>simp at ht
 | true=>
  simp at ht
  subst ht
  exact Zh6 h hb2
theorem ZgH {n:YNetwork} {t:Zm} {y:YLeg} (h:getI n.legs t.leg=some y):∃ v,Zs n t=some v:=by
 unfold Zs; rw [h]; exact ⟨_,rfl⟩
theorem Zpn {n:YNetwork} (h:Zax n) (s:Z2):Zei n s=ZZ n s:=by
 unfold Zei ZZ
 rw [(Zcu h).1,Zct,(Zf3 h).1,(ZfW h s.trip).1,ZiY,ZlQ,Zhq]
theorem ZlZ {n:YNetwork} (h:Zax n) (s:Z2):∃ b,ZZ n s=some b:=by
 obtain ⟨_,b,hb⟩:=Zcu h
 have hp:=(Zf3 h).2
 have hpl:=ZfK n
 have hl:=h.legs
 obtain ⟨_,b2,hb2⟩:=ZfW h s.trip
 unfold ZZ
 rw [hb,hp,hb2]
 simp only [Option.bind_some,ZcK,ZgW (show (ZbW n).length≤4194304 by omega)]
 cases b with
 | false=>exact ⟨_,rfl⟩
 | true=>
  cases decide (1≤s.thing) && decide (s.thing≤9999) <;> try exact ⟨_,rfl⟩
  cases decide (0≤s.at_) && decide (s.at_≤100000) <;> try exact ⟨_,rfl⟩
  cases decide (0≤idxV (ZbW n) s.place)
  all_goals
   cases b2 with
   | false=>cases decide (s.kind=1) <;> cases decide (s.kind=3) <;> cases decide (s.kind=2) <;> cases decide (s.kind=4) <;> cases decide (s.place=⟨#[]⟩) <;> exact ⟨_,rfl⟩
   | true=>
    obtain ⟨y,hy⟩:=ZnJ h hb2
    obtain ⟨v1,hv1⟩:=ZgH hy
    obtain ⟨v2,hv2⟩:=ZfV hy
    rw [hv1,hv2]
    cases decide (s.kind=1) <;> cases decide (s.kind=3) <;> cases decide (s.kind=2) <;> cases decide (s.kind=4) <;> cases decide (s.place=⟨#[]⟩) <;> exact ⟨_,rfl⟩
theorem Zq8 {n:YNetwork} (h:Zax n) (way:List Zm) (a b:ByteArray) (t:Int):ZeM n way a b t=Zcv n way a b t:=by
 have e:Zc (Zej n way b) NN (t,a,0)=Zc (Zbl n way b) NN (a,t,0):=by
  refine Znl (f:=Zbl n way b) (fun s:ByteArray × Int × Int=>(s.2.1,s.1,s.2.2)) (fun s=>?_) NN (a,t,0)
  unfold Zej Zbl
  simp only
  cases decide (s.2.2<(way.length:Int)) with
  | false=>rfl
  | true=>
   simp only [cond_true]
   cases hg:getI way s.2.2 with
   | none=>rfl
   | some y=>
    simp only [Option.bind_some,(ZfW h y).1,ZiY,ZlQ]
    cases ZN n y with
    | none=>rfl
    | some c=>
     cases c with
     | false=>rfl
     | true=>
      simp only [Option.bind_some,Bool.not_true,cond_false]
      cases getI n.legs y.leg with
      | none=>rfl
      | some g=>
       simp only [Option.bind_some]
       cases decide (g.from_=s.1) with
       | false=>rfl
       | true=>
        simp only [Bool.not_true,cond_false]
        cases Zs n y with
        | none=>rfl
        | some v=>
         simp only [Option.bind_some]
         cases decide (v<s.2.1) with
         | true=>rfl
         | false=>
          simp only [cond_false]
          cases ZD n y <;> rfl
 unfold ZeM Zcv
 rw [(Zcu h).1,(Zf3 h).1,Zhq,e]
theorem Zjt {n:YNetwork} (h:Zax n) {way:List Zm} (hw:way.length≤1048576) (a b:ByteArray) (t:Int):∃ r,Zcv n way a b t=some r:=by
 obtain ⟨_,b1,hb⟩:=Zcu h
 have hp:=(Zf3 h).2
 have hpl:=ZfK n
 have hl:=h.legs
 have e:∃ o,Zc (Zbl n way b) NN (a,t,0)=some o:=by
  refine Zh3 (fun k s=>∃ i:Nat,i+k=way.length∧s.2.2=(i:Int)) ?_ NN way.length _ ⟨0,by omega,rfl⟩ (by unfold NN; omega)
  rintro k ⟨p,r,s⟩ ⟨i,hi,hs⟩
  simp only at hs
  subst hs
  unfold Zbl
  rcases Nat.lt_or_ge i way.length with hlt | hge
  ·have hw:=Zq hlt (by omega)
   have hg:getI way (i:Int)=some way[i]:=by rw [Zi]; exact List.getElem?_eq_getElem hlt
   obtain ⟨_,c,hc⟩:=ZfW h way[i]
   simp only [decide_eq_true (show (i:Int)<way.length by omega),cond_true,hg,Option.bind_some,hc,hw]
   cases c with
   | false=>exact ⟨_,rfl,fun s' e=>by cases e⟩
   | true=>
    obtain ⟨y,hy⟩:=ZnJ h hc
    obtain ⟨v1,hv1⟩:=ZgH hy
    obtain ⟨v2,hv2⟩:=ZfV hy
    simp only [hy,hv1,hv2,Option.bind_some,Bool.not_true,cond_false]
    cases decide (y.from_=p) with
    | false=>exact ⟨_,rfl,fun s' e=>by cases e⟩
    | true=>
     simp only [Bool.not_true,cond_false]
     cases decide (v1<r) with
     | true=>exact ⟨_,rfl,fun s' e=>by cases e⟩
     | false=>exact ⟨_,rfl,fun s' e=>by cases e; exact ⟨k-1,by omega,i+1,by omega,rfl⟩⟩
  ·simp only [decide_eq_false (show ¬ (i:Int)<way.length by omega),cond_false]
   exact ⟨_,rfl,fun s' e=>by cases e⟩
 obtain ⟨o,ho⟩:=e
 unfold Zcv
 rw [hp,hb]
 simp only [Option.bind_some,ZgW (show (ZbW n).length≤4194304 by omega),ho]
 cases b1 with
 | false=>exact ⟨_,rfl⟩
 | true=>cases decide (idxV (ZbW n) a<0) <;> cases decide (idxV (ZbW n) b<0) <;> cases o <;> exact ⟨_,rfl⟩
def Zb9 (w:Zf) (id:Int) (y1:Zr) (s0:ByteArray × Int):Option ((ByteArray × Int) ⊕ (ByteArray ⊕ Bool)):=
 cond (decide (s0.2<(y1.way.length:Int)))
 ((getI y1.way s0.2).bind fun y9=>
 (ZL w.network y9).bind fun y10=>
 cond (!y10)
 (some (.inr (.inr false)))
 ((Zb8 w id y9).bind fun y11=>
 cond (!y11)
 (some (.inr (.inr false)))
 ((Zem y1).bind fun y12=>
 cond (decide (y12≤s0.2))
 ((ZbT w.closed y9).bind fun y13=>
 cond y13
 (some (.inr (.inr false)))
 ((getI w.network.legs y9.leg).bind fun y14=>
 cond (decide (y14.to_=y1.to_))
 (cond (decide (s0.2<(w64 ((y1.way.length:Int)-1))))
 (some (.inr (.inr false)))
 (some (.inl (y14.to_,(w64 (s0.2+1))))))
 (some (.inl (y14.to_,(w64 (s0.2+1)))))))
 ((getI w.network.legs y9.leg).bind fun y15=>
 cond (decide (y15.to_=y1.to_))
 (cond (decide (s0.2<(w64 ((y1.way.length:Int)-1))))
 (some (.inr (.inr false)))
 (some (.inl (y15.to_,(w64 (s0.2+1))))))
 (some (.inl (y15.to_,(w64 (s0.2+1)))))))))
 (some (.inr (.inl s0.1)))
instance (w:Zf) (id:Int) (y1:Zr):Zo (Zb9 w id y1):=⟨fun s0=>(.un::vi id::.un::.be 0 0 0::(U 3 (.be 1 0 0::vs s0.1::(U 65 (.sl (y1.way.map Zv)::vi (y1.way.length:Int)::vi s0.2::(U 65 [])))))),fun s0=>[some ⟨.of 39,10,[[.sl (w.network.legs.map cLeg),.sl (w.network.off.map cInt),vi w.network.change,.sl (w.orders.map Zz),.sl (w.bookings.map Zd),.sl (w.closed.map Zv),vi w.now,.sl (w.scans.map ZK),.sl (w.skip.map cInt),vi w.made]]⟩,some ⟨.of 120,11,[[vs y1.from_,vs y1.to_,vi y1.service,vi y1.weight,vi y1.at_,vi y1.due,.sl (y1.way.map Zv),vi y1.gone,vi y1.state,vs y1.place,vi y1.ended]]⟩]⟩
def ZdQ (w:Zf) (id:Int) (places:List ByteArray):Option Bool:=
 (getI w.orders (w64 (id-1))).bind fun y1=>
 cond (decide (y1.from_=y1.to_))
 (some false)
 ((Zaz places y1.from_).bind fun y2=>
 cond (decide (y2<0))
 (some false)
 ((Zaz places y1.to_).bind fun y3=>
 cond (decide (y3<0))
 (some false)
 ((Ze y1.service 1 3).bind fun y4=>
 cond (!y4)
 (some false)
 ((Ze y1.weight 1 30000).bind fun y5=>
 cond (!y5)
 (some false)
 ((Ze y1.at_ 0 w.now).bind fun y6=>
 cond (!y6)
 (some false)
 ((Ze y1.due 0 200000).bind fun y7=>
 cond (!y7)
 (some false)
 ((Ze y1.gone 0 (y1.way.length:Int)).bind fun y8=>
 cond (!y8)
 (some false)
 ((Zc (Zb9 w id y1) NN (y1.from_,0)).bind (Zp (fun o0=>
 (ZeM w.network y1.way y1.from_ o0 (w64 (y1.at_+1))).bind fun y16=>
 cond y16
 ((ZdR w y1).bind fun y17=>
 some y17)
 (some false)) (fun r=>some r))))))))))
instance (w:Zf) (id:Int) (places:List ByteArray):CT Tryz.prog (ZdQ w id places):=⟨119,[.ag (ZeG w),vi id,.sl (places.map cStr)],[],fun r=>vb r,fun r=>[],fun H=>by replace H:=H0 H; unfold ZdQ at H; exact Za Tryz.func119 rfl Tryz.ntmps119 Tryz.results119 fun Q hQ hQn=>wk3⟩
def ZbP (w:Zf) (i:Int) (y1:Zr) (s0:ByteArray × Int):Option ((ByteArray × Int) ⊕ (ByteArray ⊕ Bool)):=
 cond (decide (s0.2<(y1.way.length:Int)))
 ((getI y1.way s0.2).bind fun y10=>
 (getI y1.way s0.2).bind fun y11=>
 (ZJ w.network y10.leg y11.day).bind fun y12=>
 cond (!y12)
 (some (.inr (.inr false)))
 ((getI y1.way s0.2).bind fun y13=>
 (Zc0 w.bookings (w64 (i+1)) y13 y1.weight).bind fun y14=>
 cond (!y14)
 (some (.inr (.inr false)))
 ((getI y1.way s0.2).bind fun y15=>
 (getI w.network.legs y15.leg).bind fun y16=>
 cond (decide (y16.to_=y1.to_))
 (cond (decide ((w64 (s0.2+1))<(y1.way.length:Int)))
 (some (.inr (.inr false)))
 (some (.inl (y16.to_,(w64 (s0.2+1))))))
 (some (.inl (y16.to_,(w64 (s0.2+1))))))))
 (some (.inr (.inl s0.1)))
instance (w:Zf) (i:Int) (y1:Zr):Zo (ZbP w i y1):=⟨fun s0=>(.un::vi i::.be 0 0 0::.un::.un::.be 1 0 0::.be 2 0 0::.un::vs s0.1::vi s0.2::(U 162 [])),fun s0=>[some ⟨.of 39,10,[[.sl (w.network.legs.map cLeg),.sl (w.network.off.map cInt),vi w.network.change,.sl (w.orders.map Zz),.sl (w.bookings.map Zd),.sl (w.closed.map Zv),vi w.now,.sl (w.scans.map ZK),.sl (w.skip.map cInt),vi w.made]]⟩,some ⟨.of 33,3,[[.sl (w.network.legs.map cLeg),.sl (w.network.off.map cInt),vi w.network.change]]⟩,some ⟨.of 120,11,[[vs y1.from_,vs y1.to_,vi y1.service,vi y1.weight,vi y1.at_,vi y1.due,.sl (y1.way.map Zv),vi y1.gone,vi y1.state,vs y1.place,vi y1.ended]]⟩]⟩
def ZaM (w:Zf) (y1:Zr) (s1:Int):Option (Int ⊕ (Unit ⊕ Bool)):=
 cond (decide (s1<(y1.way.length:Int)))
 ((getI y1.way s1).bind fun y20=>
 (Zdn w.closed y20).bind fun y21=>
 cond y21
 (some (.inr (.inr false)))
 (some (.inl (w64 (s1+1)))))
 (some (.inr (.inl ())))
instance (w:Zf) (y1:Zr):Zo (ZaM w y1):=⟨fun s1=>(.un::.un::.be 0 0 0::(U 3 (.be 1 0 0::(U 3 (vi s1::(U 161 [])))))),fun s1=>[some ⟨.of 39,10,[[.sl (w.network.legs.map cLeg),.sl (w.network.off.map cInt),vi w.network.change,.sl (w.orders.map Zz),.sl (w.bookings.map Zd),.sl (w.closed.map Zv),vi w.now,.sl (w.scans.map ZK),.sl (w.skip.map cInt),vi w.made]]⟩,some ⟨.of 120,11,[[vs y1.from_,vs y1.to_,vi y1.service,vi y1.weight,vi y1.at_,vi y1.due,.sl (y1.way.map Zv),vi y1.gone,vi y1.state,vs y1.place,vi y1.ended]]⟩]⟩
def Zdl (w:Zf) (i:Int):Option Bool:=
 (getI w.orders i).bind fun y1=>
 (ZW w.network).bind fun y2=>
 (ZX y2 y1.from_).bind fun y3=>
 cond (decide (y3<0))
 (some false)
 ((ZX y2 y1.to_).bind fun y4=>
 cond (decide (y4<0))
 (some false)
 (cond (decide (y1.from_=y1.to_))
 (some false)
 ((Zl y1.service 1 3).bind fun y5=>
 cond (!y5)
 (some false)
 ((Zl y1.weight 1 30000).bind fun y6=>
 cond (!y6)
 (some false)
 ((Zl y1.at_ 0 w.now).bind fun y7=>
 cond (!y7)
 (some false)
 ((Zl y1.due 0 200000).bind fun y8=>
 cond (!y8)
 (some false)
 ((Zl y1.gone 0 (y1.way.length:Int)).bind fun y9=>
 cond (!y9)
 (some false)
 ((Zc (ZbP w i y1) NN (y1.from_,0)).bind (Zp (fun o0=>
 (Zcv w.network y1.way y1.from_ o0 (w64 (y1.at_+1))).bind fun y17=>
 cond (!y17)
 (some false)
 ((ZQ w.network y1 w.now).bind fun y18=>
 cond (!y18)
 (some false)
 ((Zc1 y1).bind fun y19=>
 (Zc (ZaM w y1) NN y19).bind (Zp (fun o1=>
 some true) (fun r=>some r))))) (fun r=>some r))))))))))
instance (w:Zf) (i:Int):CT Tryz.prog (Zdl w i):=⟨105,[.ag (ZeG w),vi i],[],fun r=>vb r,fun r=>[],fun H=>by replace H:=H0 H; unfold Zdl at H; exact Za Tryz.func105 rfl Tryz.ntmps105 Tryz.results105 fun Q hQ hQn=>wk3⟩
def Zb4 (w:Zf) (s0:Int):Option (Int ⊕ (Unit ⊕ Bool)):=
 cond (decide (s0<(w.closed.length:Int)))
 ((getI w.closed s0).bind fun y4=>
 (ZL w.network y4).bind fun y5=>
 cond (!y5)
 (some (.inr (.inr false)))
 ((chk (slOk 0 s0 w.closed.length)).bind fun _=>
 (ZbT (subL w.closed 0 s0) y4).bind fun y6=>
 cond y6
 (some (.inr (.inr false)))
 (some (.inl (w64 (s0+1))))))
 (some (.inr (.inl ())))
instance (w:Zf):Zo (Zb4 w):=⟨fun s0=>(.un::.be 0 0 0::.un::.be 1 0 0::(U 55 (.sl (w.closed.map Zv)::vi (w.closed.length:Int)::vi s0::(U 63 [])))),fun s0=>[some ⟨.of 39,10,[[.sl (w.network.legs.map cLeg),.sl (w.network.off.map cInt),vi w.network.change,.sl (w.orders.map Zz),.sl (w.bookings.map Zd),.sl (w.closed.map Zv),vi w.now,.sl (w.scans.map ZK),.sl (w.skip.map cInt),vi w.made]]⟩,some ⟨.of 33,3,[[.sl (w.network.legs.map cLeg),.sl (w.network.off.map cInt),vi w.network.change]]⟩]⟩
def Zb5 (w:Zf) (s1:Int):Option (Int ⊕ (Unit ⊕ Bool)):=
 cond (decide (s1<(w.scans.length:Int)))
 ((getI w.scans s1).bind fun y7=>
 (Zei w.network y7).bind fun y8=>
 cond (!y8)
 (some (.inr (.inr false)))
 (cond (decide (w.now<y7.at_))
 (some (.inr (.inr false)))
 (some (.inl (w64 (s1+1))))))
 (some (.inr (.inl ())))
instance (w:Zf):Zo (Zb5 w):=⟨fun s1=>(.un::.be 0 0 0::.un::.be 1 0 0::(U 76 (.sl (w.scans.map ZK)::vi (w.scans.length:Int)::vi s1::(U 42 [])))),fun s1=>[some ⟨.of 39,10,[[.sl (w.network.legs.map cLeg),.sl (w.network.off.map cInt),vi w.network.change,.sl (w.orders.map Zz),.sl (w.bookings.map Zd),.sl (w.closed.map Zv),vi w.now,.sl (w.scans.map ZK),.sl (w.skip.map cInt),vi w.made]]⟩,some ⟨.of 33,3,[[.sl (w.network.legs.map cLeg),.sl (w.network.off.map cInt),vi w.network.change]]⟩]⟩
def Zb6 (w:Zf) (y9:List ByteArray) (s2:Int × Int):Option ((Int × Int) ⊕ (Int ⊕ Bool)):=
 cond (decide (s2.2<(w.orders.length:Int)))
 ((getI w.orders s2.2).bind fun y10=>
 (ZdQ w (w64 (s2.2+1)) y9).bind fun y11=>
 cond (!y11)
 (some (.inr (.inr false)))
 (some (.inl ((w64 (s2.1+(y10.way.length:Int))),(w64 (s2.2+1))))))
 (some (.inr (.inl s2.1)))
instance (w:Zf) (y9:List ByteArray):Zo (Zb6 w y9):=⟨fun s2=>(.un::.be 0 0 0::(U 6 (.ms 1::vi s2.1::(U 91 (.sl (w.orders.map Zz)::vi (w.orders.length:Int)::vi s2.2::(U 21 [])))))),fun s2=>[some ⟨.of 39,10,[[.sl (w.network.legs.map cLeg),.sl (w.network.off.map cInt),vi w.network.change,.sl (w.orders.map Zz),.sl (w.bookings.map Zd),.sl (w.closed.map Zv),vi w.now,.sl (w.scans.map ZK),.sl (w.skip.map cInt),vi w.made]]⟩,some ⟨.of 9,1,y9.map cStr⟩]⟩
def ZbS (w:Zf):Option Bool:=
 (Zbr w.network w.bookings).bind fun y1=>
 cond (!y1)
 (some false)
 ((Ze w.now 0 100000).bind fun y2=>
 cond (!y2)
 (some false)
 (cond (decide (30<(w.orders.length:Int)))
 (some false)
 (cond (decide (20<(w.closed.length:Int)))
 (some false)
 (cond (decide (200<(w.scans.length:Int)))
 (some false)
 (cond (decide (50<(w.skip.length:Int)))
 (some false)
 ((Ze w.made (w.scans.length:Int) 1000000000).bind fun y3=>
 cond (!y3)
 (some false)
 ((Zc (Zb4 w) NN 0).bind (Zp (fun o0=>
 (Zc (Zb5 w) NN 0).bind (Zp (fun o1=>
 (ZV w.network).bind fun y9=>
 (Zc (Zb6 w y9) NN (0,0)).bind (Zp (fun o2=>
 some (decide (o2=(w.bookings.length:Int)))) (fun r=>some r))) (fun r=>some r))) (fun r=>some r)))))))))
instance (w:Zf):CT Tryz.prog (ZbS w):=⟨70,[.ag (ZeG w)],[],fun r=>vb r,fun r=>[],fun H=>by replace H:=H0 H; unfold ZbS at H; exact Za Tryz.func70 rfl Tryz.ntmps70 Tryz.results70 fun Q hQ hQn=>wk3⟩
def Zcm (w:Zf) (s0:Int):Option (Int ⊕ (Unit ⊕ Bool)):=
 cond (decide (s0<(w.closed.length:Int)))
 ((getI w.closed s0).bind fun y4=>
 (getI w.closed s0).bind fun y5=>
 (ZJ w.network y4.leg y5.day).bind fun y6=>
 cond (!y6)
 (some (.inr (.inr false)))
 ((chk (slOk 0 s0 w.closed.length)).bind fun _=>
 (getI w.closed s0).bind fun y7=>
 (Zdn (subL w.closed 0 s0) y7).bind fun y8=>
 cond y8
 (some (.inr (.inr false)))
 (some (.inl (w64 (s0+1))))))
 (some (.inr (.inl ())))
instance (w:Zf):Zo (Zcm w):=⟨fun s0=>(.un::.be 0 0 0::.un::vi s0::(U 135 [])),fun s0=>[some ⟨.of 39,10,[[.sl (w.network.legs.map cLeg),.sl (w.network.off.map cInt),vi w.network.change,.sl (w.orders.map Zz),.sl (w.bookings.map Zd),.sl (w.closed.map Zv),vi w.now,.sl (w.scans.map ZK),.sl (w.skip.map cInt),vi w.made]]⟩]⟩
def Zcn (w:Zf) (s1:Int):Option (Int ⊕ (Unit ⊕ Bool)):=
 cond (decide (s1<(w.scans.length:Int)))
 ((getI w.scans s1).bind fun y9=>
 (ZZ w.network y9).bind fun y10=>
 cond (!y10)
 (some (.inr (.inr false)))
 ((getI w.scans s1).bind fun y11=>
 cond (decide (w.now<y11.at_))
 (some (.inr (.inr false)))
 (some (.inl (w64 (s1+1))))))
 (some (.inr (.inl ())))
instance (w:Zf):Zo (Zcn w):=⟨fun s1=>(.un::.be 0 0 0::.un::.un::vi s1::(U 134 [])),fun s1=>[some ⟨.of 39,10,[[.sl (w.network.legs.map cLeg),.sl (w.network.off.map cInt),vi w.network.change,.sl (w.orders.map Zz),.sl (w.bookings.map Zd),.sl (w.closed.map Zv),vi w.now,.sl (w.scans.map ZK),.sl (w.skip.map cInt),vi w.made]]⟩]⟩
def Zco (w:Zf) (s2:Int × Int):Option ((Int × Int) ⊕ (Int ⊕ Bool)):=
 cond (decide (s2.2<(w.orders.length:Int)))
 ((Zdl w s2.2).bind fun y12=>
 cond (!y12)
 (some (.inr (.inr false)))
 ((getI w.orders s2.2).bind fun y13=>
 some (.inl ((w64 (s2.1+(y13.way.length:Int))),(w64 (s2.2+1))))))
 (some (.inr (.inl s2.1)))
instance (w:Zf):Zo (Zco w):=⟨fun s2=>(.un::.be 0 0 0::(U 3 (vi s2.1::vi s2.2::(U 132 [])))),fun s2=>[some ⟨.of 39,10,[[.sl (w.network.legs.map cLeg),.sl (w.network.off.map cInt),vi w.network.change,.sl (w.orders.map Zz),.sl (w.bookings.map Zd),.sl (w.closed.map Zv),vi w.now,.sl (w.scans.map ZK),.sl (w.skip.map cInt),vi w.made]]⟩]⟩
def Zc8 (w:Zf):Option Bool:=
 (ZbG w.network w.bookings).bind fun y1=>
 cond (!y1)
 (some false)
 ((Zl w.now 0 100000).bind fun y2=>
 cond (!y2)
 (some false)
 (cond (decide (30<(w.orders.length:Int)))
 (some false)
 (cond (decide (20<(w.closed.length:Int)))
 (some false)
 (cond (decide (200<(w.scans.length:Int)))
 (some false)
 (cond (decide (50<(w.skip.length:Int)))
 (some false)
 ((Zl w.made (w.scans.length:Int) 1000000000).bind fun y3=>
 cond (!y3)
 (some false)
 ((Zc (Zcm w) NN 0).bind (Zp (fun o0=>
 (Zc (Zcn w) NN 0).bind (Zp (fun o1=>
 (Zc (Zco w) NN (0,0)).bind (Zp (fun o2=>
 some (decide (o2=(w.bookings.length:Int)))) (fun r=>some r))) (fun r=>some r))) (fun r=>some r)))))))))
instance (w:Zf):CT Tryz.prog (Zc8 w):=⟨58,[.ag (ZeG w)],[],fun r=>vb r,fun r=>[],fun H=>by replace H:=H0 H; unfold Zc8 at H; exact Za Tryz.func58 rfl Tryz.ntmps58 Tryz.results58 fun Q hQ hQn=>wk3⟩
set_option linter.unusedSectionVars false
def allI {α:Type} (c:Nat→α→Bool):Nat→List α→Bool
 | _,[]=>true
 | i,x::xs=>c i x && allI c (i+1) xs
theorem ZmC {α:Type} {c:Nat→α→Bool}:∀ {xs:List α} {i:Nat},allI c i xs=true↔∀ (j:Nat) (x:α),xs[j]?=some x→c (i+j) x=true
 | [],i=>by simp [allI]
 | x::xs,i=>by
  simp only [allI,Bool.and_eq_true,ZmC]
  constructor
  ·rintro ⟨h1,h2⟩ j y hj
   cases j with
   | zero=>obtain rfl:x=y:=by simpa using hj
           exact h1
   | succ j=>have:=h2 j y (by simpa using hj); rwa [Nat.add_right_comm] at this
  ·intro h
   exact ⟨h 0 x rfl,fun j y hj=>by have:=h (j+1) y (by simpa using hj); rwa [← Nat.add_assoc,Nat.add_right_comm] at this⟩
theorem ZmB {α:Type} (c d:Nat→α→Bool):∀ (xs:List α) (i:Nat),allI (fun i x=>c i x && d i x) i xs=(allI c i xs && allI d i xs)
 | [],i=>rfl
 | x::xs,i=>by
  simp only [allI,ZmB c d xs (i+1)]
  cases c i x <;> cases d i x <;> cases allI c (i+1) xs <;> cases allI d (i+1) xs <;> rfl
theorem Zak {A α σ γ:Type} {xs:List α} {body:σ→Option (σ ⊕ (γ ⊕ Bool))} (mk:A→Int→σ) (c:Nat→α→Bool) (f:A→α→A) (g:A→γ)
 (h1:∀ a (i:Nat) x,xs[i]?=some x→body (mk a i)=some (if c i x=true then .inl (mk (f a x) ((i+1:Nat):Int)) else .inr (.inr false)))
 (h2:∀ a,body (mk a (xs.length:Int))=some (.inr (.inl (g a)))) (hN:xs.length<NN) (a:A):Zc body NN (mk a 0)=some (if allI c 0 xs=true then .inl (g (xs.foldl f a)) else .inr false):=by
 rw [Ziu mk (fun i a x=>some (if c i x=true then .inl (f a x) else .inr (.inr false))) (fun a=>some (.inl (g a))) (fun a i x hx=>by rw [h1 a i x hx]; cases c i x <;> rfl) (fun a=>by rw [h2 a]; rfl) hN a]
 have key:∀ (xs:List α) (i:Nat) (a:A),runL (fun i a x=>some (if c i x=true then (.inl (f a x):A ⊕ (γ ⊕ Bool)) else .inr (.inr false))) (fun a=>some (.inl (g a))) i xs a=some (if allI c i xs=true then .inl (g (xs.foldl f a)) else .inr false):=by
  intro xs
  induction xs with
  | nil=>intro i a; rfl
  | cons x xs ih=>
   intro i a
   simp only [runL,allI]
   by_cases hcx:c i x=true
   ·simp only [hcx,if_true,Option.bind_some,Zp,ih,Bool.true_and,List.foldl_cons]
   ·simp only [Bool.not_eq_true] at hcx
    simp [hcx]
 exact key xs 0 a
/-! The parts of an order's test. -/
def Zkq (n:YNetwork) (t:Zm):Bool:=(ZJ n t.leg t.day).getD false
def Zk0 (n:YNetwork) (t:Zm):ByteArray:=((getI n.legs t.leg).map (·.to_)).getD ⟨#[]⟩
def ZdI (l:List Zm) (t:Zm):Bool:=l.any fun y=>decide (y=t)
theorem Zi3 {n:YNetwork} (h:Zax n) (t:Zm):ZJ n t.leg t.day=some (Zkq n t):=by
 obtain ⟨_,b,hb⟩:=ZgF h t.leg t.day
 unfold Zkq; rw [hb]; rfl
theorem Zi2 {n:YNetwork} (h:Zax n) {t:Zm} (ht:Zkq n t=true):∃ y,getI n.legs t.leg=some y∧y∈n.legs:=by
 have:=Zi3 h t
 rw [ht] at this
 obtain ⟨y,hy⟩:=Zh6 h this
 exact ⟨y,hy,Zh0 hy⟩
def wayC (w:Zf) (id:Int) (o:Zr) (i:Nat) (t:Zm):Bool:=Zkq w.network t && ZeT w.bookings id t o.weight && !(decide (Zk0 w.network t=o.to_) && decide (i+1<o.way.length))
def endV (n:YNetwork) (o:Zr):ByteArray:=o.way.foldl (fun _ t=>Zk0 n t) o.from_
def Zfh (o:Zr):Int:=if o.state=2 then o.gone+1 else o.gone
def Zg1 (w:Zf) (i:Nat) (o:Zr):Bool:=
 !decide (idxV (ZbW w.network) o.from_<0) && !decide (idxV (ZbW w.network) o.to_<0) && !decide (o.from_=o.to_) && (decide (1≤o.service) && decide (o.service≤3)) && (decide (1≤o.weight) && decide (o.weight≤30000)) && (decide (0≤o.at_) && decide (o.at_≤w.now)) && (decide (0≤o.due) && decide (o.due≤200000)) && (decide (0≤o.gone) && decide (o.gone≤(o.way.length:Int))) &&
  allI (wayC w ((i+1:Nat):Int) o) 0 o.way && (Zcv w.network o.way o.from_ (endV w.network o) (w64 (o.at_+1))).getD false && (ZQ w.network o w.now).getD false && !((o.way.drop (Zfh o).toNat).any (ZdI w.closed))
structure WFit (w:Zf):Prop where
 net:Zax w.network
 orders:w.orders.length≤1048576
 bookings:w.bookings.length≤1048576
 closed:w.closed.length≤1048576
 scans:w.scans.length≤1048576
 skip:w.skip.length≤1048576
 way:∀ o∈w.orders,o.way.length≤1048576
theorem Zok {n:YNetwork} {o:Zr} (hg:0≤o.gone∧o.gone≤o.way.length) (hl:o.way.length≤1048576) (hw:∀ t∈o.way,∃ y,getI n.legs t.leg=some y) (now:Int):∃ b,ZQ n o now=some b:=by
 have hat:∀ (i:Int),0≤i→i<o.way.length→∃ t y,getI o.way i=some t∧getI n.legs t.leg=some y:=by
  intro i h0 h1
  have hlt:i.toNat<o.way.length:=by omega
  obtain ⟨y,hy⟩:=hw o.way[i.toNat] (List.getElem_mem hlt)
  exact ⟨o.way[i.toNat],y,by unfold getI; rw [if_pos h0]; exact List.getElem?_eq_getElem hlt,hy⟩
 have hw1:w64 (o.gone-1)=o.gone-1:=Zy (by omega)
 have hend:o.gone<o.way.length→∃ t s e,getI o.way o.gone=some t∧Zs n t=some s∧ZD n t=some e:=by
  intro h1
  obtain ⟨t,y,ht,hy⟩:=hat o.gone hg.1 h1
  obtain ⟨s,hs⟩:=ZgH hy
  obtain ⟨e,he⟩:=ZfV hy
  exact ⟨t,s,e,ht,hs,he⟩
 unfold ZQ
 rw [hw1]
 by_cases h0:0<o.gone
 ·rw [decide_eq_true h0,cond_true]
  obtain ⟨t,y,ht,hy⟩:=hat (o.gone-1) (by omega) (by omega)
  obtain ⟨e,he⟩:=ZfV hy
  simp only [ht,hy,he,Option.bind_some]
  cases decide (now<e) with
  | true=>exact ⟨_,rfl⟩
  | false=>
   simp only [cond_false]
   by_cases h1:o.gone<o.way.length
   ·obtain ⟨t2,s2,e2,ht2,hs2,he2⟩:=hend h1
    simp only [ht2,hs2,he2,Option.bind_some]
    cases decide (o.state=1) <;> cases decide (o.state=2) <;> cases decide (o.state=3) <;> cases decide (o.place=y.to_) <;> cases decide (y.to_=o.to_) <;> cases decide (o.ended=0) <;> cases decide (o.gone=(o.way.length:Int)) <;> cases decide (o.place=⟨#[]⟩) <;> cases decide (o.gone<(o.way.length:Int)) <;> cases decide (s2≤now) <;> cases decide (o.place=o.to_) <;> exact ⟨_,rfl⟩
   ·rw [decide_eq_true (show o.gone=(o.way.length:Int) by omega),decide_eq_false h1]
    cases decide (o.state=1) <;> cases decide (o.state=2) <;> cases decide (o.state=3) <;> cases decide (o.place=y.to_) <;> cases decide (y.to_=o.to_) <;> cases decide (o.ended=0) <;> cases decide (o.place=⟨#[]⟩) <;> cases decide (o.place=o.to_) <;> exact ⟨_,rfl⟩
 ·rw [decide_eq_false h0,cond_false]
  by_cases h1:o.gone<o.way.length
  ·obtain ⟨t2,s2,e2,ht2,hs2,he2⟩:=hend h1
   simp only [ht2,hs2,he2,Option.bind_some]
   cases decide (o.state=1) <;> cases decide (o.state=2) <;> cases decide (o.state=3) <;> cases decide (o.place=o.from_) <;> cases decide (o.from_=o.to_) <;> cases decide (o.ended=0) <;> cases decide (o.gone=(o.way.length:Int)) <;> cases decide (o.place=⟨#[]⟩) <;> cases decide (o.gone<(o.way.length:Int)) <;> cases decide (s2≤now) <;> cases decide (o.place=o.to_) <;> exact ⟨_,rfl⟩
  ·rw [decide_eq_true (show o.gone=(o.way.length:Int) by omega),decide_eq_false h1]
   cases decide (o.state=1) <;> cases decide (o.state=2) <;> cases decide (o.state=3) <;> cases decide (o.place=o.from_) <;> cases decide (o.from_=o.to_) <;> cases decide (o.ended=0) <;> cases decide (o.place=⟨#[]⟩) <;> cases decide (o.place=o.to_) <;> exact ⟨_,rfl⟩
theorem ZlL {w:Zf} (hc:w.closed.length≤1048576) {o:Zr} (hl:o.way.length≤1048576) {k:Int} (h0:0≤k):Zc (ZaM w o) NN k=some (if (o.way.drop k.toNat).any (ZdI w.closed)=true then .inr false else .inl ()):=by
 have key:∀ (ts:List Zm) (i N:Nat),o.way.drop i=ts→ts.length<N→Zc (ZaM w o) N (i:Int)=some (if ts.any (ZdI w.closed)=true then .inr false else .inl ()):=by
  intro ts
  induction ts with
  | nil=>
   intro i N hd hN
   cases N with
   | zero=>omega
   | succ N=>
    have:o.way.length≤i:=by have:=congrArg List.length hd; simp at this; omega
    simp only [Zc,ZaM]
    rw [decide_eq_false (show ¬ (i:Int)<o.way.length by omega)]
    rfl
  | cons t ts ih=>
   intro i N hd hN
   cases N with
   | zero=>simp at hN
   | succ N=>
    have ht:o.way[i]?=some t:=by
     have:=congrArg (fun l:List Zm=>l[0]?) hd
     simpa using this
    have hlt:=(List.getElem?_eq_some_iff.1 ht).1
    have hd':o.way.drop (i+1)=ts:=by
     have:=congrArg (List.drop 1) hd
     simpa [List.drop_drop] using this
    have hg:getI o.way (i:Int)=some t:=by rw [Zi]; exact ht
    simp only [Zc,ZaM]
    rw [decide_eq_true (show (i:Int)<o.way.length by omega),cond_true,hg]
    simp only [Option.bind_some]
    rw [Ziv,ZgU hc,Zq hlt (by omega)]
    have hcd:(w.closed.any fun y=>decide (y=t))=ZdI w.closed t:=rfl
    rw [hcd]
    by_cases hcl:ZdI w.closed t=true
    ·simp [hcl,List.any_cons]
    ·simp only [Bool.not_eq_true] at hcl
     simp only [hcl,List.any_cons,Option.bind_some,cond_false,Zp,Bool.false_or]
     exact ih (i+1) N hd' (by simp at hN; omega)
 have:=key (o.way.drop k.toNat) k.toNat NN rfl (by simp; unfold NN; omega)
 rw [show ((k.toNat:Nat):Int)=k by omega] at this
 exact this
theorem Zig (cl:Zm→Bool) (k:Int):∀ (ts:List Zm) (i:Nat),allI (fun i t=>!(decide (k≤(i:Int)) && cl t)) i ts=!((ts.drop (k-i).toNat).any cl)
 | [],i=>by simp [allI]
 | t::ts,i=>by
  simp only [allI,Zig cl k ts (i+1)]
  by_cases h:k≤(i:Int)
  ·rw [decide_eq_true h,show (k-(i:Int)).toNat=0 by omega,show (k-((i+1:Nat):Int)).toNat=0 by omega]
   simp
  ·rw [decide_eq_false h]
   obtain ⟨m,hm⟩:∃ m,(k-(i:Int)).toNat=m+1:=⟨(k-(i:Int)).toNat-1,by omega⟩
   rw [hm,show (k-((i+1:Nat):Int)).toNat=m by omega]
   simp
theorem ZoJ {o:Zr} (h:0≤o.gone∧o.gone≤o.way.length) (hl:o.way.length≤1048576):Zc1 o=some (Zfh o)∧0≤Zfh o∧Zem o=some (if (o.way.length:Int)<Zfh o then (o.way.length:Int) else Zfh o):=by
 unfold Zc1 Zem Zfh
 have hw:w64 (o.gone+1)=o.gone+1:=Zy (by omega)
 simp only [hw]
 by_cases h2:o.state=2
 ·rw [decide_eq_true h2,if_pos h2]; exact ⟨rfl,by omega,rfl⟩
 ·rw [decide_eq_false h2,if_neg h2]; exact ⟨rfl,by omega,by rw [if_neg (show ¬ (o.way.length:Int)<o.gone by omega)]; rfl⟩
section
variable {w:Zf} (hf:WFit w) (hb:ZeV w.network w.bookings=true)
include hf hb
theorem ZrN {o:Zr} (hl:o.way.length≤1048576) (i:Nat) (hi:i<1048576):Zc (ZbP w (i:Int) o) NN (o.from_,0)=some (if allI (wayC w ((i+1:Nat):Int) o) 0 o.way=true then .inl (endV w.network o) else .inr false):=by
 refine Zak (A:=ByteArray) (fun a i=>(a,i)) _ (fun _ t=>Zk0 w.network t) id (fun a j t ht=>?_) (fun a=>?_) (by unfold NN; omega) o.from_
 ·have hlt:=(List.getElem?_eq_some_iff.1 ht).1
  have hg:getI o.way (j:Int)=some t:=by rw [Zi]; exact ht
  have hj:w64 ((j:Int)+1)=((j+1:Nat):Int):=Zq hlt (by omega)
  have hi1:w64 ((i:Int)+1)=((i+1:Nat):Int):=by rw [Zy (by omega)]; omega
  unfold ZbP
  simp only [decide_eq_true (show (j:Int)<o.way.length by omega),cond_true,hg,Option.bind_some,hj,hi1,Zi3 hf.net,ZqH hf.bookings]
  unfold wayC
  cases ht':Zkq w.network t with
  | false=>simp
  | true=>
   obtain ⟨y,hy,_⟩:=Zi2 hf.net ht'
   have hlt':Zk0 w.network t=y.to_:=by unfold Zk0; rw [hy]; rfl
   simp only [hy,Option.bind_some,hlt',Bool.not_true,cond_false]
   cases ZeT w.bookings ((i+1:Nat):Int) t o.weight with
   | false=>simp
   | true=>
    simp only [Bool.not_true,cond_false,Bool.true_and]
    by_cases h1:y.to_=o.to_
    ·by_cases h2:j+1<o.way.length
     ·simp [h1,h2,show ((j:Int)+1)<o.way.length by omega]
     ·simp [h1,h2,show ¬ ((j:Int)+1)<o.way.length by omega]
    ·simp [h1]
 ·unfold ZbP
  simp
theorem ZrM {o:Zr} (hl:o.way.length≤1048576) (i:Nat) (hi:i<1048576) (ho:getI w.orders (i:Int)=some o) (hg0:0≤o.gone∧o.gone≤o.way.length):
 Zc (Zb9 w ((i+1:Nat):Int) o) NN (o.from_,0)=some (if (allI (wayC w ((i+1:Nat):Int) o) 0 o.way && !((o.way.drop (Zfh o).toNat).any (ZdI w.closed)))=true then .inl (endV w.network o) else .inr false):=by
 obtain ⟨c1,c2,c3⟩:=ZoJ hg0 hl
 have hcl:(!((o.way.drop (Zfh o).toNat).any (ZdI w.closed)))=allI (fun j t=>!(decide ((if (o.way.length:Int)<Zfh o then (o.way.length:Int) else Zfh o)≤(j:Int)) && ZdI w.closed t)) 0 o.way:=by
  rw [Zig]
  congr 2
  split
  ·rename_i h
   rw [List.drop_eq_nil_of_le (by omega),List.drop_eq_nil_of_le (by omega)]
  ·congr 1; omega
 rw [hcl,← ZmB]
 have hnet:=(Zku hb).1
 refine Zak (A:=ByteArray) (fun a i=>(a,i)) _ (fun _ t=>Zk0 w.network t) id (fun a j t ht=>?_) (fun a=>?_) (by unfold NN; omega) o.from_
 ·have hlt:=(List.getElem?_eq_some_iff.1 ht).1
  have hg:getI o.way (j:Int)=some t:=by rw [Zi]; exact ht
  have hj:w64 ((j:Int)+1)=((j+1:Nat):Int):=Zq hlt (by omega)
  have hw1:w64 ((o.way.length:Int)-1)=(o.way.length:Int)-1:=Zy (by omega)
  have ho':getI w.orders (w64 (((i+1:Nat):Int)-1))=some o:=by rw [Zy (by omega),show ((i+1:Nat):Int)-1=(i:Int) by omega]; exact ho
  unfold Zb9
  simp only [decide_eq_true (show (j:Int)<o.way.length by omega),cond_true,hg,Option.bind_some,hj,hw1,ZjY hf.net hnet,Zi3 hf.net,ZkS hf.bookings (ZnL hb) ho',c3,ZgU hf.closed]
  unfold wayC
  cases ht':Zkq w.network t with
  | false=>simp
  | true=>
   obtain ⟨y,hy,_⟩:=Zi2 hf.net ht'
   have hlt':Zk0 w.network t=y.to_:=by unfold Zk0; rw [hy]; rfl
   simp only [hy,Option.bind_some,hlt',Bool.not_true,cond_false]
   cases ZeT w.bookings ((i+1:Nat):Int) t o.weight with
   | false=>simp
   | true=>
    simp only [Bool.not_true,cond_false,Bool.true_and]
    generalize (if (o.way.length:Int)<Zfh o then (o.way.length:Int) else Zfh o)=k
    have hcc:ZdI w.closed t=w.closed.any fun y=>decide (y=t):=rfl
    rw [hcc]
    by_cases h3:k≤(j:Int)
    ·rw [decide_eq_true h3,cond_true]
     cases w.closed.any fun y=>decide (y=t) with
     | true=>simp
     | false=>
      simp only [cond_false]
      by_cases h1:y.to_=o.to_
      ·by_cases h2:j+1<o.way.length
       ·simp [h1,h2,show (j:Int)<(o.way.length:Int)-1 by omega]
       ·simp [h1,h2,show ¬ (j:Int)<(o.way.length:Int)-1 by omega]
      ·simp [h1]
    ·rw [decide_eq_false h3,cond_false]
     by_cases h1:y.to_=o.to_
     ·by_cases h2:j+1<o.way.length
      ·simp [h1,h2,show (j:Int)<(o.way.length:Int)-1 by omega]
      ·simp [h1,h2,show ¬ (j:Int)<(o.way.length:Int)-1 by omega]
     ·simp [h1]
 ·unfold Zb9
  simp
theorem ZlG {o:Zr} (hl:o.way.length≤1048576) {i:Nat} (hg0:0≤o.gone∧o.gone≤o.way.length) (h:allI (wayC w ((i+1:Nat):Int) o) 0 o.way=true):ZQ w.network o w.now=some ((ZQ w.network o w.now).getD false):=by
 obtain ⟨b,hb'⟩:=Zok (n:=w.network) hg0 hl (fun t ht=>by
  obtain ⟨j,hj,rfl⟩:=List.getElem_of_mem ht
  have:=ZmC.1 h j _ (List.getElem?_eq_getElem hj)
  unfold wayC at this
  simp only [Bool.and_eq_true] at this
  obtain ⟨y,hy,_⟩:=Zi2 hf.net this.1.1
  exact ⟨y,hy⟩) w.now
 rw [hb']; rfl
theorem Zoi {o:Zr} {i:Nat} (ho:getI w.orders (i:Int)=some o):Zdl w (i:Int)=some (Zg1 w i o):=by
 have hl:=hf.way o (Zh0 ho)
 have hi:i<1048576:=by have:=(List.getElem?_eq_some_iff.1 (by rw [← Zi]; exact ho)).1; have:=hf.orders; omega
 have hp:=(Zf3 hf.net).2
 have hpl:=ZfK w.network
 have hll:=hf.net.legs
 unfold Zdl Zg1
 rw [ho,hp]
 simp only [Option.bind_some,ZcK,ZgW (show (ZbW w.network).length≤4194304 by omega)]
 cases decide (idxV (ZbW w.network) o.from_<0) with
 | true=>rfl
 | false=>
 cases decide (idxV (ZbW w.network) o.to_<0) with
 | true=>rfl
 | false=>
 cases decide (o.from_=o.to_) with
 | true=>rfl
 | false=>
 simp only [cond_false,Bool.not_false,Bool.true_and]
 cases decide (1≤o.service) && decide (o.service≤3) with
 | false=>rfl
 | true=>
 cases decide (1≤o.weight) && decide (o.weight≤30000) with
 | false=>rfl
 | true=>
 cases decide (0≤o.at_) && decide (o.at_≤w.now) with
 | false=>rfl
 | true=>
 cases decide (0≤o.due) && decide (o.due≤200000) with
 | false=>rfl
 | true=>
 simp only [cond_false,Bool.not_true,Bool.true_and]
 cases hg:decide (0≤o.gone) && decide (o.gone≤(o.way.length:Int)) with
 | false=>rfl
 | true=>
 simp only [Bool.and_eq_true,decide_eq_true_iff] at hg
 obtain ⟨c1,c2,c3⟩:=ZoJ hg hl
 simp only [Bool.not_true,cond_false,Bool.true_and]
 rw [ZrN hf hb hl i hi]
 cases hal:allI (wayC w ((i+1:Nat):Int) o) 0 o.way with
 | false=>rfl
 | true=>
 have hst:=ZlG hf hb hl hg hal
 obtain ⟨r,hr⟩:=Zjt hf.net hl o.from_ (endV w.network o) (w64 (o.at_+1))
 simp only [if_true,Option.bind_some,Zp,hr,Option.getD_some,Bool.true_and]
 cases r with
 | false=>rfl
 | true=>
 rw [hst]
 simp only [Option.getD_some]
 cases (ZQ w.network o w.now).getD false with
 | false=>rfl
 | true=>
 simp only [Bool.not_true,cond_false,Option.bind_some,c1,ZlL hf.closed hl c2,Bool.true_and]
 cases (o.way.drop (Zfh o).toNat).any (ZdI w.closed) <;> rfl
theorem ZnU {o:Zr} {i:Nat} (ho:getI w.orders (i:Int)=some o):ZdQ w ((i+1:Nat):Int) (ZbW w.network)=some (Zg1 w i o):=by
 have hl:=hf.way o (Zh0 ho)
 have hi:i<1048576:=by have:=(List.getElem?_eq_some_iff.1 (by rw [← Zi]; exact ho)).1; have:=hf.orders; omega
 have hpl:=ZfK w.network
 have hll:=hf.net.legs
 have ho':getI w.orders (w64 (((i+1:Nat):Int)-1))=some o:=by rw [Zy (by omega),show ((i+1:Nat):Int)-1=(i:Int) by omega]; exact ho
 unfold ZdQ Zg1
 rw [ho',Zct,Zhq]
 simp only [Option.bind_some,ZcK,ZgW (show (ZbW w.network).length≤4194304 by omega)]
 cases decide (o.from_=o.to_) with
 | true=>simp only [cond_true,Bool.not_true,Bool.and_false,Bool.false_and]
 | false=>
 cases decide (idxV (ZbW w.network) o.from_<0) with
 | true=>rfl
 | false=>
 cases decide (idxV (ZbW w.network) o.to_<0) with
 | true=>rfl
 | false=>
 simp only [cond_false,Bool.not_false,Bool.true_and]
 cases decide (1≤o.service) && decide (o.service≤3) with
 | false=>rfl
 | true=>
 cases decide (1≤o.weight) && decide (o.weight≤30000) with
 | false=>rfl
 | true=>
 cases decide (0≤o.at_) && decide (o.at_≤w.now) with
 | false=>rfl
 | true=>
 cases decide (0≤o.due) && decide (o.due≤200000) with
 | false=>rfl
 | true=>
 simp only [cond_false,Bool.not_true,Bool.true_and]
 cases hg:decide (0≤o.gone) && decide (o.gone≤(o.way.length:Int)) with
 | false=>rfl
 | true=>
 simp only [Bool.and_eq_true,decide_eq_true_iff] at hg
 simp only [Bool.not_true,cond_false,Bool.true_and]
 rw [ZrM hf hb hl i hi ho hg]
 cases hal:allI (wayC w ((i+1:Nat):Int) o) 0 o.way with
 | false=>rfl
 | true=>
 have hst:=ZlG hf hb hl hg hal
 obtain ⟨r,hr⟩:=Zjt hf.net hl o.from_ (endV w.network o) (w64 (o.at_+1))
 simp only [Bool.true_and]
 rw [hr]
 cases (o.way.drop (Zfh o).toNat).any (ZdI w.closed) with
 | true=>simp
 | false=>
 simp only [Bool.not_false,if_true,Option.bind_some,Zp,Zq8 hf.net,hr,Option.getD_some,Bool.true_and,ZrJ,Bool.and_true]
 cases r with
 | false=>rfl
 | true=>
 rw [hst]
 rfl
end
def Zbu (l:List YZone) (s0:Int):Option (Int ⊕ (Unit ⊕ Bool)):=
 cond (decide (s0<(l.length:Int)))
 ((jn 3 6 (
 (getI l s0).bind fun y1=>
 (ZF y1.first).bind fun y2=>
 cond (!y2)
 (some (.inr false))
 ((ZF y1.last).bind fun y3=>
 cond (!y3)
 (some (.inr false))
 (cond (!sLe y1.first y1.last)
 (some (.inr false))
 (cond (decide (0<s0))
 ((getI l (w64 (s0-1))).bind fun y4=>
 cond (sLe y1.first y4.last)
 (some (.inr false))
 (some (.inl ())))
 (some (.inl ()))))):Option (Unit ⊕ Bool)) (fun z5=>(.sl (l.map cZone)::(U 4 (.sl (l.map cZone)::vi (l.length:Int)::vi s0::(U 40 []))))) (fun z5=>[])).bind (Zp (fun z5=>
 some (.inl (w64 (s0+1)))) (fun r=>some (.inr (.inr r)))))
 (some (.inr (.inl ())))
instance (l:List YZone):Zo (Zbu l):=⟨fun s0=>(.sl (l.map cZone)::(U 4 (.sl (l.map cZone)::vi (l.length:Int)::vi s0::(U 40 [])))),fun s0=>[]⟩
def Za6 (l:List YZone):Option Bool:=
 (Zc (Zbu l) NN 0).bind (Zp (fun o0=>
 some (decide ((l.length:Int)≤8))) (fun r=>some r))
instance (l:List YZone):CT Tryz.prog (Za6 l):=⟨75,[.sl (l.map cZone)],[],fun r=>vb r,fun r=>[],fun H=>by replace H:=H0 H; unfold Za6 at H; exact Za Tryz.func75 rfl Tryz.ntmps75 Tryz.results75 fun Q hQ hQn=>wk3⟩
def Zbt (l:List YRate) (zones:Int) (s0:Int):Option (Int ⊕ (Unit ⊕ Bool)):=
 cond (decide (s0<(l.length:Int)))
 ((jn 3 12 (
 (getI l s0).bind fun y1=>
 cond (decide (y1.zone<0))
 (some (.inr false))
 (cond (decide (zones≤y1.zone))
 (some (.inr false))
 ((Ze y1.service 1 3).bind fun y2=>
 cond (!y2)
 (some (.inr false))
 ((Ze y1.limit 1 1000000000).bind fun y3=>
 cond (!y3)
 (some (.inr false))
 ((Ze y1.price 0 100000).bind fun y4=>
 cond (!y4)
 (some (.inr false))
 (cond (decide (s0=0))
 (some (.inl ()))
 ((getI l (w64 (s0-1))).bind fun y5=>
 (ZG y5.zone y1.zone).bind fun y6=>
 (ZG y5.service y1.service).bind fun y7=>
 (ZG y5.limit y1.limit).bind fun y8=>
 (Zd9 ([y6,y7,y8])).bind fun y9=>
 cond (decide (0≤y9))
 (some (.inr false))
 (cond (decide (y5.zone=y1.zone))
 (cond (decide (y5.service=y1.service))
 (cond (decide (y1.price<y5.price))
 (some (.inr false))
 (some (.inl ())))
 (some (.inl ())))
 (some (.inl ()))))))))):Option (Unit ⊕ Bool)) (fun z10=>(.sl (l.map cRate)::vi zones::(U 6 (.sl (l.map cRate)::vi (l.length:Int)::vi s0::(U 79 []))))) (fun z10=>[])).bind (Zp (fun z10=>
 some (.inl (w64 (s0+1)))) (fun r=>some (.inr (.inr r)))))
 (some (.inr (.inl ())))
instance (l:List YRate) (zones:Int):Zo (Zbt l zones):=⟨fun s0=>(.sl (l.map cRate)::vi zones::(U 6 (.sl (l.map cRate)::vi (l.length:Int)::vi s0::(U 79 [])))),fun s0=>[]⟩
def Zb2 (l:List YRate) (zones:Int):Option Bool:=
 (Zc (Zbt l zones) NN 0).bind (Zp (fun o0=>
 some (decide ((l.length:Int)≤24))) (fun r=>some r))
instance (l:List YRate) (zones:Int):CT Tryz.prog (Zb2 l zones):=⟨76,[.sl (l.map cRate),vi zones],[],fun r=>vb r,fun r=>[],fun H=>by replace H:=H0 H; unfold Zb2 at H; exact Za Tryz.func76 rfl Tryz.ntmps76 Tryz.results76 fun Q hQ hQn=>wk3⟩
def Zd1 (l:List YZone) (place_:ByteArray) (s0:Int):Option (Int ⊕ (Unit ⊕ Int)):=
 cond (decide (s0<(l.length:Int)))
 ((jn 5 8 (
 (getI l s0).bind fun y3=>
 cond (sLe y3.first place_)
 (cond (sLe place_ y3.last)
 (some (.inr s0))
 (some (.inl ())))
 (some (.inl ())):Option (Unit ⊕ Int)) (fun z4=>(.un::vs place_::(U 13 (.sl (l.map cZone)::vi (l.length:Int)::vi s0::(U 16 []))))) (fun z4=>[])).bind (Zp (fun z4=>
 some (.inl (w64 (s0+1)))) (fun r=>some (.inr (.inr r)))))
 (some (.inr (.inl ())))
instance (l:List YZone) (place_:ByteArray):Zo (Zd1 l place_):=⟨fun s0=>(.un::vs place_::(U 13 (.sl (l.map cZone)::vi (l.length:Int)::vi s0::(U 16 [])))),fun s0=>[]⟩
def Zel (l:List YZone) (place_:ByteArray):Option Int:=
 (Za6 l).bind fun y1=>
 cond (!y1)
 (some (-1))
 ((ZF place_).bind fun y2=>
 cond (!y2)
 (some (-1))
 ((Zc (Zd1 l place_) NN 0).bind (Zp (fun o0=>
 some (-1)) (fun r=>some r))))
instance (l:List YZone) (place_:ByteArray):CT Tryz.prog (Zel l place_):=⟨127,[.sl (l.map cZone),vs place_],[],fun r=>vi r,fun r=>[],fun H=>by replace H:=H0 H; unfold Zel at H; exact Za Tryz.func127 rfl Tryz.ntmps127 Tryz.results127 fun Q hQ hQn=>wk3⟩
def Zdd (sides:List Int):Option Int:=
 (Zar sides).bind fun y1=>
 cond (!y1)
 (some 0)
 ((getI sides 0).bind fun y2=>
 (getI sides 1).bind fun y3=>
 (getI sides 2).bind fun y4=>
 some (w64 ((w64 (y2*y3))*y4)))
instance (sides:List Int):CT Tryz.prog (Zdd sides):=⟨169,[.sl (sides.map cInt)],[],fun r=>vi r,fun r=>[],fun H=>by replace H:=H0 H; unfold Zdd at H; exact Za Tryz.func169 rfl Tryz.ntmps169 Tryz.results169 fun Q hQ hQn=>wk3⟩
def Zaq (p:Zt):Option Int:=
 (Za7 p).bind fun y1=>
 cond (!y1)
 (some 0)
 ((Zdd p.sides).bind fun y2=>
 some (if (IntKind.i64.wrap (Int.tdiv (w64 (y2+4999)) 5000)) > p.weight then (IntKind.i64.wrap (Int.tdiv (w64 (y2+4999)) 5000)) else p.weight))
instance (p:Zt):CT Tryz.prog (Zaq p):=⟨128,[.ag (Z9 p)],[],fun r=>vi r,fun r=>[],fun H=>by replace H:=H0 H; unfold Zaq at H; exact Za Tryz.func128 rfl Tryz.ntmps128 Tryz.results128 fun Q hQ hQn=>wk3⟩
def Zdt (rates:List YRate) (p:Zt) (y4:Int) (s0:Int):Option (Int ⊕ (Unit ⊕ (Int × Bool))):=
 cond (decide (s0<(rates.length:Int)))
 ((jn 6 9 (
 (getI rates s0).bind fun y5=>
 cond (decide (y5.zone=y4))
 (cond (decide (y5.service=p.label.service))
 ((Zaq p).bind fun y6=>
 cond (decide (y6≤y5.limit))
 (some (.inr (y5.price,true)))
 (some (.inl ())))
 (some (.inl ())))
 (some (.inl ())):Option (Unit ⊕ (Int × Bool))) (fun z7=>(U 5 (.be 0 0 0::.un::.un::vi y4::(U 22 (.sl (rates.map cRate)::vi (rates.length:Int)::vi s0::(U 25 [])))))) (fun z7=>[some ⟨.of 101,7,[[vi p.label.service,vi p.label.serial,vs p.label.to_,vs p.from_,vi p.weight,.sl (p.sides.map cInt),vi p.value]]⟩])).bind (Zp (fun z7=>
 some (.inl (w64 (s0+1)))) (fun r=>some (.inr (.inr r)))))
 (some (.inr (.inl ())))
instance (rates:List YRate) (p:Zt) (y4:Int):Zo (Zdt rates p y4):=⟨fun s0=>(U 5 (.be 0 0 0::.un::.un::vi y4::(U 22 (.sl (rates.map cRate)::vi (rates.length:Int)::vi s0::(U 25 []))))),fun s0=>[some ⟨.of 101,7,[[vi p.label.service,vi p.label.serial,vs p.label.to_,vs p.from_,vi p.weight,.sl (p.sides.map cInt),vi p.value]]⟩]⟩
def ZdP (zones:List YZone) (rates:List YRate) (p:Zt):Option (Int × Bool):=
 (Za6 zones).bind fun y1=>
 cond (!y1)
 (some (0,false))
 ((Zb2 rates (zones.length:Int)).bind fun y2=>
 cond (!y2)
 (some (0,false))
 ((Za7 p).bind fun y3=>
 cond (!y3)
 (some (0,false))
 ((Zel zones p.label.to_).bind fun y4=>
 (Zc (Zdt rates p y4) NN 0).bind (Zp (fun o0=>
 some (0,false)) (fun r=>some r)))))
instance (zones:List YZone) (rates:List YRate) (p:Zt):CT Tryz.prog (ZdP zones rates p):=⟨79,[.sl (zones.map cZone),.sl (rates.map cRate),.ag (Z9 p)],[],fun r=>.tu [vi r.1,vb r.2],fun r=>[],fun H=>by replace H:=H0 H; unfold ZdP at H; exact Za Tryz.func79 rfl Tryz.ntmps79 Tryz.results79 fun Q hQ hQn=>wk3⟩
def ZbJ (l:List YZone) (s0:Int):Option (Int ⊕ (Unit ⊕ Bool)):=
 cond (decide (s0<(l.length:Int)))
 ((jn 4 3 (
 (getI l s0).bind fun y1=>
 (Zw y1.first).bind fun y2=>
 cond (!y2)
 (some (.inr false))
 ((getI l s0).bind fun y3=>
 (Zw y3.last).bind fun y4=>
 cond (!y4)
 (some (.inr false))
 ((getI l s0).bind fun y5=>
 (getI l s0).bind fun y6=>
 cond (!sLe y5.first y6.last)
 (some (.inr false))
 (cond (decide (0<s0))
 ((getI l (w64 (s0-1))).bind fun y7=>
 (getI l s0).bind fun y8=>
 cond (!sLt y7.last y8.first)
 (some (.inr false))
 (some (.inl ())))
 (some (.inl ()))))):Option (Unit ⊕ Bool)) (fun z9=>(.sl (l.map cZone)::.un::.un::vi s0::(U 56 []))) (fun z9=>[])).bind (Zp (fun z9=>
 some (.inl (w64 (s0+1)))) (fun r=>some (.inr (.inr r)))))
 (some (.inr (.inl ())))
instance (l:List YZone):Zo (ZbJ l):=⟨fun s0=>(.sl (l.map cZone)::.un::.un::vi s0::(U 56 [])),fun s0=>[]⟩
def Zbk (l:List YZone):Option Bool:=
 (Zc (ZbJ l) NN 0).bind (Zp (fun o0=>
 some (decide ((l.length:Int)≤8))) (fun r=>some r))
instance (l:List YZone):CT Tryz.prog (Zbk l):=⟨62,[.sl (l.map cZone)],[],fun r=>vb r,fun r=>[],fun H=>by replace H:=H0 H; unfold Zbk at H; exact Za Tryz.func62 rfl Tryz.ntmps62 Tryz.results62 fun Q hQ hQn=>wk3⟩
def ZdY (a:YRate) (b:YRate):Option Bool:=
 cond (decide (a.zone<b.zone))
 (some true)
 (cond (decide (b.zone=a.zone))
 (cond (decide (a.service<b.service))
 (some true)
 (cond (decide (b.service=a.service))
 (cond (decide (a.limit<b.limit))
 (some (decide (a.price≤b.price)))
 (some false))
 (some false)))
 (some false))
instance (a:YRate) (b:YRate):CT Tryz.prog (ZdY a b):=⟨107,[.ag (cRate a),.ag (cRate b)],[],fun r=>vb r,fun r=>[],fun H=>by replace H:=H0 H; unfold ZdY at H; exact Za Tryz.func107 rfl Tryz.ntmps107 Tryz.results107 fun Q hQ hQn=>wk3⟩
def ZbI (l:List YRate) (zones:Int) (s0:Int):Option (Int ⊕ (Unit ⊕ Bool)):=
 cond (decide (s0<(l.length:Int)))
 ((jn 4 3 (
 (getI l s0).bind fun y1=>
 cond (decide (y1.zone<0))
 (some (.inr false))
 ((getI l s0).bind fun y2=>
 cond (decide (zones≤y2.zone))
 (some (.inr false))
 ((getI l s0).bind fun y3=>
 (Zl y3.service 1 3).bind fun y4=>
 cond (!y4)
 (some (.inr false))
 ((getI l s0).bind fun y5=>
 (Zl y5.limit 1 1000000000).bind fun y6=>
 cond (!y6)
 (some (.inr false))
 ((getI l s0).bind fun y7=>
 (Zl y7.price 0 100000).bind fun y8=>
 cond (!y8)
 (some (.inr false))
 (cond (decide (0<s0))
 ((getI l (w64 (s0-1))).bind fun y9=>
 (getI l s0).bind fun y10=>
 (ZdY y9 y10).bind fun y11=>
 cond (!y11)
 (some (.inr false))
 (some (.inl ())))
 (some (.inl ()))))))):Option (Unit ⊕ Bool)) (fun z12=>(.sl (l.map cRate)::vi zones::(U 3 (vi s0::(U 68 []))))) (fun z12=>[])).bind (Zp (fun z12=>
 some (.inl (w64 (s0+1)))) (fun r=>some (.inr (.inr r)))))
 (some (.inr (.inl ())))
instance (l:List YRate) (zones:Int):Zo (ZbI l zones):=⟨fun s0=>(.sl (l.map cRate)::vi zones::(U 3 (vi s0::(U 68 [])))),fun s0=>[]⟩
def Zck (l:List YRate) (zones:Int):Option Bool:=
 (Zc (ZbI l zones) NN 0).bind (Zp (fun o0=>
 some (decide ((l.length:Int)≤24))) (fun r=>some r))
instance (l:List YRate) (zones:Int):CT Tryz.prog (Zck l zones):=⟨63,[.sl (l.map cRate),vi zones],[],fun r=>vb r,fun r=>[],fun H=>by replace H:=H0 H; unfold Zck at H; exact Za Tryz.func63 rfl Tryz.ntmps63 Tryz.results63 fun Q hQ hQn=>wk3⟩
def ZaQ (l:List YZone) (place_:ByteArray) (s0:Int):Option (Int ⊕ (Unit ⊕ Int)):=
 cond (decide (s0<(l.length:Int)))
 ((jn 6 5 (
 (getI l s0).bind fun y3=>
 cond (sLe y3.first place_)
 ((getI l s0).bind fun y4=>
 cond (sLe place_ y4.last)
 (some (.inr s0))
 (some (.inl ())))
 (some (.inl ())):Option (Unit ⊕ Int)) (fun z5=>(.sl (l.map cZone)::vs place_::(U 3 (vi s0::(U 31 []))))) (fun z5=>[])).bind (Zp (fun z5=>
 some (.inl (w64 (s0+1)))) (fun r=>some (.inr (.inr r)))))
 (some (.inr (.inl ())))
instance (l:List YZone) (place_:ByteArray):Zo (ZaQ l place_):=⟨fun s0=>(.sl (l.map cZone)::vs place_::(U 3 (vi s0::(U 31 [])))),fun s0=>[]⟩
def ZdB (l:List YZone) (place_:ByteArray):Option Int:=
 (Zbk l).bind fun y1=>
 cond (!y1)
 (some (-1))
 ((Zw place_).bind fun y2=>
 cond (!y2)
 (some (-1))
 ((Zc (ZaQ l place_) NN 0).bind (Zp (fun o0=>
 some (-1)) (fun r=>some r))))
instance (l:List YZone) (place_:ByteArray):CT Tryz.prog (ZdB l place_):=⟨149,[.sl (l.map cZone),vs place_],[],fun r=>vi r,fun r=>[],fun H=>by replace H:=H0 H; unfold ZdB at H; exact Za Tryz.func149 rfl Tryz.ntmps149 Tryz.results149 fun Q hQ hQn=>wk3⟩
def Zcp (sides:List Int):Option Int:=
 (ZaA sides).bind fun y1=>
 cond (!y1)
 (some 0)
 ((getI sides 0).bind fun y2=>
 (getI sides 1).bind fun y3=>
 (getI sides 2).bind fun y4=>
 some (w64 ((w64 (y2*y3))*y4)))
instance (sides:List Int):CT Tryz.prog (Zcp sides):=⟨173,[.sl (sides.map cInt)],[],fun r=>vi r,fun r=>[],fun H=>by replace H:=H0 H; unfold Zcp at H; exact Za Tryz.func173 rfl Tryz.ntmps173 Tryz.results173 fun Q hQ hQn=>wk3⟩
def Z3 (p:Zt):Option Int:=
 (ZaH p).bind fun y1=>
 cond (!y1)
 (some 0)
 ((Zcp p.sides).bind fun y2=>
 cond (decide (p.weight<(IntKind.i64.wrap (Int.tdiv (w64 (y2+4999)) 5000))))
 (some (IntKind.i64.wrap (Int.tdiv (w64 (y2+4999)) 5000)))
 (some p.weight))
instance (p:Zt):CT Tryz.prog (Z3 p):=⟨150,[.ag (Z9 p)],[],fun r=>vi r,fun r=>[],fun H=>by replace H:=H0 H; unfold Z3 at H; exact Za Tryz.func150 rfl Tryz.ntmps150 Tryz.results150 fun Q hQ hQn=>wk3⟩
def Zav (rates:List YRate) (p:Zt) (y4:Int) (s0:Int):Option (Int ⊕ (Unit ⊕ (Int × Bool))):=
 cond (decide (s0<(rates.length:Int)))
 ((jn 7 6 (
 (getI rates s0).bind fun y5=>
 cond (decide (y5.zone=y4))
 ((getI rates s0).bind fun y6=>
 cond (decide (y6.service=p.label.service))
 ((Z3 p).bind fun y7=>
 (getI rates s0).bind fun y8=>
 cond (decide (y7≤y8.limit))
 ((getI rates s0).bind fun y9=>
 some (.inr (y9.price,true)))
 (some (.inl ())))
 (some (.inl ())))
 (some (.inl ())):Option (Unit ⊕ (Int × Bool))) (fun z10=>(.un::.sl (rates.map cRate)::(U 3 (.be 0 0 0::.un::.un::vi y4::vi s0::(U 59 []))))) (fun z10=>[some ⟨.of 101,7,[[vi p.label.service,vi p.label.serial,vs p.label.to_,vs p.from_,vi p.weight,.sl (p.sides.map cInt),vi p.value]]⟩])).bind (Zp (fun z10=>
 some (.inl (w64 (s0+1)))) (fun r=>some (.inr (.inr r)))))
 (some (.inr (.inl ())))
instance (rates:List YRate) (p:Zt) (y4:Int):Zo (Zav rates p y4):=⟨fun s0=>(.un::.sl (rates.map cRate)::(U 3 (.be 0 0 0::.un::.un::vi y4::vi s0::(U 59 [])))),fun s0=>[some ⟨.of 101,7,[[vi p.label.service,vi p.label.serial,vs p.label.to_,vs p.from_,vi p.weight,.sl (p.sides.map cInt),vi p.value]]⟩]⟩
def ZbV (zones:List YZone) (rates:List YRate) (p:Zt):Option (Int × Bool):=
 (Zbk zones).bind fun y1=>
 cond (!y1)
 (some (0,false))
 ((Zck rates (zones.length:Int)).bind fun y2=>
 cond (!y2)
 (some (0,false))
 ((ZaH p).bind fun y3=>
 cond (!y3)
 (some (0,false))
 ((ZdB zones p.label.to_).bind fun y4=>
 (Zc (Zav rates p y4) NN 0).bind (Zp (fun o0=>
 some (0,false)) (fun r=>some r)))))
instance (zones:List YZone) (rates:List YRate) (p:Zt):CT Tryz.prog (ZbV zones rates p):=⟨111,[.sl (zones.map cZone),.sl (rates.map cRate),.ag (Z9 p)],[],fun r=>.tu [vi r.1,vb r.2],fun r=>[],fun H=>by replace H:=H0 H; unfold ZbV at H; exact Za Tryz.func111 rfl Tryz.ntmps111 Tryz.results111 fun Q hQ hQn=>wk3⟩
set_option maxHeartbeats 1000000
def plB (s:ByteArray):Bool:=(Zw s).getD false
theorem Zrp {s:ByteArray} (h:s.size≤B60):Zw s=some (plB s):=by
 obtain ⟨_,b,hb⟩:=Ze3 h
 unfold plB; rw [hb]; rfl
theorem Ztd {s:ByteArray} (h:s.size≤B60):ZF s=some (plB s):=(Ze3 h).1.trans (Zrp h)
theorem Ztn (a b:ByteArray):sLe a b=!sLt b a:=by
 have h1:sLe a b=(sLt a b || (a.toList == b.toList)):=rfl
 rw [h1,baB]
 by_cases e:a=b
 ·subst e
  have:=Zqd a
  simp [this]
 ·rw [decide_eq_false e,Bool.or_false]
  cases h:sLt a b with
  | true=>
   have:=Zsk a b h
   simp [this]
  | false=>
   have:=Zqe (a:=a) (b:=b) (by simp [h]) e
   simp [this]
def Zux (o:Option YZone) (z:YZone):Bool:=match o with
 | some y=>sLt y.last z.first
 | none=>false
theorem ZqA (y z:YZone):Zux (some y) z=sLt y.last z.first:=rfl
def Zmy (l:List YZone) (i:Nat) (z:YZone):Bool:=
 plB z.first && (plB z.last && (sLe z.first z.last && (decide (i=0) || Zux l[i-1]? z)))
def Zg9 (l:List YZone):Bool:=allI (Zmy l) 0 l && decide ((l.length:Int)≤8)
def Ze2 (l:List YZone):Prop:=l.length≤1048576∧∀ z∈l,z.first.size≤B60∧z.last.size≤B60
theorem Zh8 {i n:Nat} (h0:0<i) (hi:i<n) (hn:n≤1048576):w64 ((i:Int)-1)=((i-1:Nat):Int):=by
 rw [Zy (by omega)]; omega
theorem ZmA {l:List YZone} (hf:Ze2 l):Zbk l=some (Zg9 l):=by
 have e:Zc (ZbJ l) NN 0=some (if allI (Zmy l) 0 l=true then .inl () else .inr false):=by
  refine Zak (A:=Unit) (fun _ i=>i) _ (fun a _=>a) (fun _=>()) (fun a i z hz=>?_) (fun a=>?_) (by have:=hf.1; unfold NN; omega) ()
  ·have hlt:=(List.getElem?_eq_some_iff.1 hz).1
   have hl:=hf.1
   obtain ⟨p1,p2⟩:=hf.2 z (List.mem_of_getElem? hz)
   have hg:getI l (i:Int)=some z:=by rw [Zi]; exact hz
   have hi:w64 ((i:Int)+1)=((i+1:Nat):Int):=Zq hlt (by omega)
   unfold ZbJ
   simp only [Zgz,decide_eq_true (show (i:Int)<l.length by omega),cond_true,hg,Option.bind_some,hi,Zrp p1,Zrp p2]
   unfold Zmy
   by_cases h0:i=0
   ·subst h0
    rw [decide_eq_false (show ¬ (0<((0:Nat):Int)) by omega)]
    cases plB z.first <;> cases plB z.last <;> cases sLe z.first z.last <;> rfl
   ·have hp:=Zh8 (Nat.pos_of_ne_zero h0) hlt hl
    obtain ⟨y,hy⟩:∃ y,l[i-1]?=some y:=⟨_,List.getElem?_eq_getElem (by omega)⟩
    have hgy:getI l ((i-1:Nat):Int)=some y:=by rw [Zi]; exact hy
    rw [decide_eq_true (show 0<(i:Int) by omega),decide_eq_false h0,hp,hgy,hy,ZqA]
    simp only [Option.bind_some]
    cases plB z.first <;> cases plB z.last <;> cases sLe z.first z.last <;> cases sLt y.last z.first <;> rfl
  ·unfold ZbJ
   simp
 unfold Zbk Zg9
 rw [e]
 cases allI (Zmy l) 0 l <;> rfl
theorem Zmz {l:List YZone} (hf:Ze2 l):Za6 l=some (Zg9 l):=by
 have e:Zc (Zbu l) NN 0=some (if allI (Zmy l) 0 l=true then .inl () else .inr false):=by
  refine Zak (A:=Unit) (fun _ i=>i) _ (fun a _=>a) (fun _=>()) (fun a i z hz=>?_) (fun a=>?_) (by have:=hf.1; unfold NN; omega) ()
  ·have hlt:=(List.getElem?_eq_some_iff.1 hz).1
   have hl:=hf.1
   obtain ⟨p1,p2⟩:=hf.2 z (List.mem_of_getElem? hz)
   have hg:getI l (i:Int)=some z:=by rw [Zi]; exact hz
   have hi:w64 ((i:Int)+1)=((i+1:Nat):Int):=Zq hlt (by omega)
   unfold Zbu
   simp only [Zgz,decide_eq_true (show (i:Int)<l.length by omega),cond_true,hg,Option.bind_some,hi,Ztd p1,Ztd p2]
   unfold Zmy
   by_cases h0:i=0
   ·subst h0
    rw [decide_eq_false (show ¬ (0<((0:Nat):Int)) by omega)]
    cases plB z.first <;> cases plB z.last <;> cases sLe z.first z.last <;> rfl
   ·have hp:=Zh8 (Nat.pos_of_ne_zero h0) hlt hl
    obtain ⟨y,hy⟩:∃ y,l[i-1]?=some y:=⟨_,List.getElem?_eq_getElem (by omega)⟩
    have hgy:getI l ((i-1:Nat):Int)=some y:=by rw [Zi]; exact hy
    rw [decide_eq_true (show 0<(i:Int) by omega),decide_eq_false h0,hp,hgy,hy,ZqA]
    simp only [Option.bind_some,Ztn z.first y.last]
    cases plB z.first <;> cases plB z.last <;> cases sLe z.first z.last <;> cases sLt y.last z.first <;> rfl
  ·unfold Zbu
   simp
 unfold Za6 Zg9
 rw [e]
 cases allI (Zmy l) 0 l <;> rfl
def ZgK (a b:YRate):Bool:=decide (a.zone<b.zone) || (decide (b.zone=a.zone) && (decide (a.service<b.service) || (decide (b.service=a.service) && (decide (a.limit<b.limit) && decide (a.price≤b.price)))))
theorem Zsr (a b:YRate):ZdY a b=some (ZgK a b):=by
 unfold ZdY ZgK
 cases decide (a.zone<b.zone) <;> cases decide (b.zone=a.zone) <;> cases decide (a.service<b.service) <;> cases decide (b.service=a.service) <;> cases decide (a.limit<b.limit) <;> rfl
def Zuj (o:Option YRate) (r:YRate):Bool:=match o with
 | some y=>ZgK y r
 | none=>false
theorem Zqb (y r:YRate):Zuj (some y) r=ZgK y r:=rfl
def Zmm (l:List YRate) (zones:Int) (i:Nat) (r:YRate):Bool:=
 !decide (r.zone<0) && (!decide (zones≤r.zone) && ((decide (1≤r.service) && decide (r.service≤3)) && ((decide (1≤r.limit) && decide (r.limit≤1000000000)) && ((decide (0≤r.price) && decide (r.price≤100000)) && (decide (i=0) || Zuj l[i-1]? r)))))
def ZhL (l:List YRate) (zones:Int):Bool:=allI (Zmm l zones) 0 l && decide ((l.length:Int)≤24)
theorem Zp4 {l:List YRate} {zones:Int} (hl:l.length≤1048576):Zck l zones=some (ZhL l zones):=by
 have e:Zc (ZbI l zones) NN 0=some (if allI (Zmm l zones) 0 l=true then .inl () else .inr false):=by
  refine Zak (A:=Unit) (fun _ i=>i) _ (fun a _=>a) (fun _=>()) (fun a i z hz=>?_) (fun a=>?_) (by unfold NN; omega) ()
  ·have hlt:=(List.getElem?_eq_some_iff.1 hz).1
   have hg:getI l (i:Int)=some z:=by rw [Zi]; exact hz
   have hi:w64 ((i:Int)+1)=((i+1:Nat):Int):=Zq hlt (by omega)
   unfold ZbI
   simp only [Zgz,decide_eq_true (show (i:Int)<l.length by omega),cond_true,hg,Option.bind_some,hi,ZcK]
   unfold Zmm
   generalize (decide (1≤z.service) && decide (z.service≤3))=c1
   generalize (decide (1≤z.limit) && decide (z.limit≤1000000000))=c2
   generalize (decide (0≤z.price) && decide (z.price≤100000))=c3
   by_cases h0:i=0
   ·subst h0
    rw [decide_eq_false (show ¬ (0<((0:Nat):Int)) by omega)]
    cases decide (z.zone<0) <;> cases decide (zones≤z.zone) <;> cases c1 <;> cases c2 <;> cases c3 <;> rfl
   ·have hp:=Zh8 (Nat.pos_of_ne_zero h0) hlt hl
    obtain ⟨y,hy⟩:∃ y,l[i-1]?=some y:=⟨_,List.getElem?_eq_getElem (by omega)⟩
    have hgy:getI l ((i-1:Nat):Int)=some y:=by rw [Zi]; exact hy
    rw [decide_eq_true (show 0<(i:Int) by omega),decide_eq_false h0,hp,hgy,hy,Zqb]
    simp only [Option.bind_some,Zsr]
    cases decide (z.zone<0) <;> cases decide (zones≤z.zone) <;> cases c1 <;> cases c2 <;> cases c3 <;> cases ZgK y z <;> rfl
  ·unfold ZbI
   simp
 unfold Zck ZhL
 rw [e]
 cases allI (Zmm l zones) 0 l <;> rfl
theorem Zsp (a b:YRate) (h:¬ (0≤(if cmpI a.zone b.zone≠0 then cmpI a.zone b.zone else if cmpI a.service b.service≠0 then cmpI a.service b.service else cmpI a.limit b.limit))):ZgK a b=!(decide (a.zone=b.zone) && (decide (a.service=b.service) && decide (b.price<a.price))):=by
 unfold cmpI at h
 unfold ZgK
 rw [Bool.eq_iff_iff]
 simp only [Bool.or_eq_true,Bool.and_eq_true,decide_eq_true_eq,Bool.not_eq_true',Bool.and_eq_false_iff,decide_eq_false_iff_not]
 repeat' split at h
 all_goals omega
theorem Zsq (a b:YRate) (h:0≤(if cmpI a.zone b.zone≠0 then cmpI a.zone b.zone else if cmpI a.service b.service≠0 then cmpI a.service b.service else cmpI a.limit b.limit)):ZgK a b=false:=by
 unfold cmpI at h
 unfold ZgK
 rw [Bool.eq_false_iff]
 intro h2
 simp only [Bool.or_eq_true,Bool.and_eq_true,decide_eq_true_eq] at h2
 repeat' split at h
 all_goals omega
theorem Zp3 {l:List YRate} {zones:Int} (hl:l.length≤1048576):Zb2 l zones=some (ZhL l zones):=by
 have e:Zc (Zbt l zones) NN 0=some (if allI (Zmm l zones) 0 l=true then .inl () else .inr false):=by
  refine Zak (A:=Unit) (fun _ i=>i) _ (fun a _=>a) (fun _=>()) (fun a i z hz=>?_) (fun a=>?_) (by unfold NN; omega) ()
  ·have hlt:=(List.getElem?_eq_some_iff.1 hz).1
   have hg:getI l (i:Int)=some z:=by rw [Zi]; exact hz
   have hi:w64 ((i:Int)+1)=((i+1:Nat):Int):=Zq hlt (by omega)
   unfold Zbt
   simp only [Zgz,decide_eq_true (show (i:Int)<l.length by omega),cond_true,hg,Option.bind_some,hi,ZnK]
   unfold Zmm
   generalize (decide (1≤z.service) && decide (z.service≤3))=c1
   generalize (decide (1≤z.limit) && decide (z.limit≤1000000000))=c2
   generalize (decide (0≤z.price) && decide (z.price≤100000))=c3
   by_cases h0:i=0
   ·subst h0
    rw [decide_eq_true (show ((0:Nat):Int)=0 by omega)]
    cases decide (z.zone<0) <;> cases decide (zones≤z.zone) <;> cases c1 <;> cases c2 <;> cases c3 <;> rfl
   ·have hp:=Zh8 (Nat.pos_of_ne_zero h0) hlt hl
    obtain ⟨y,hy⟩:∃ y,l[i-1]?=some y:=⟨_,List.getElem?_eq_getElem (by omega)⟩
    have hgy:getI l ((i-1:Nat):Int)=some y:=by rw [Zi]; exact hy
    rw [decide_eq_false (show ¬ ((i:Int)=0) by omega),decide_eq_false h0,hp,hgy,hy,Zqb]
    simp only [Option.bind_some,ZrS,Zsb]
    by_cases hc:0≤(if cmpI y.zone z.zone≠0 then cmpI y.zone z.zone else if cmpI y.service z.service≠0 then cmpI y.service z.service else cmpI y.limit z.limit)
    ·rw [decide_eq_true hc,Zsq y z hc]
     cases decide (z.zone<0) <;> cases decide (zones≤z.zone) <;> cases c1 <;> cases c2 <;> cases c3 <;> rfl
    ·rw [decide_eq_false hc,Zsp y z hc]
     cases decide (z.zone<0) <;> cases decide (zones≤z.zone) <;> cases c1 <;> cases c2 <;> cases c3 <;> cases decide (y.zone=z.zone) <;> cases decide (y.service=z.service) <;> cases decide (z.price<y.price) <;> rfl
  ·unfold Zbt
   simp
 unfold Zb2 ZhL
 rw [e]
 cases allI (Zmm l zones) 0 l <;> rfl
theorem Zom:@Zd1=@ZaQ:=by
 funext l q i
 unfold Zd1 ZaQ
 simp only [Zgz]
 cases getI l i <;> rfl
theorem ZlI {l:List YZone} (hl:l.length≤1048576) (q:ByteArray):∃ o,Zc (ZaQ l q) NN 0=some o:=by
 refine Zh2 (n:=l.length) (by unfold NN; omega) (fun i hi=>?_) ?_
 ·have hg:getI l (i:Int)=some l[i]:=by rw [Zi]; exact List.getElem?_eq_getElem hi
  have hw:w64 ((i:Int)+1)=((i+1:Nat):Int):=Zq hi (by omega)
  unfold ZaQ
  simp only [Zgz,decide_eq_true (show (i:Int)<l.length by omega),cond_true,hg,Option.bind_some,hw]
  cases sLe l[i].first q <;> cases sLe q l[i].last
  ·exact Zmt rfl
  ·exact Zmt rfl
  ·exact Zmt rfl
  ·exact ZlB rfl
 ·unfold ZaQ
  rw [decide_eq_false (by omega)]
  exact ⟨_,rfl⟩
theorem Zqz {l:List YZone} (hf:Ze2 l) {q:ByteArray} (hq:q.size≤B60):Zel l q=ZdB l q∧∃ v,ZdB l q=some v:=by
 unfold Zel ZdB
 rw [Zmz hf,ZmA hf,Zom,Ztd hq,Zrp hq]
 refine ⟨rfl,?_⟩
 obtain ⟨o,ho⟩:=ZlI hf.1 q
 rw [ho]
 cases Zg9 l <;> cases plB q <;> (try exact ⟨_,rfl⟩)
 cases o <;> exact ⟨_,rfl⟩
theorem Zqv {l:List Int} (h:l.length<NN):Zdd l=Zcp l∧∃ v,Zcp l=some v:=by
 unfold Zdd Zcp
 rw [Zkp,Zmw h]
 refine ⟨rfl,?_⟩
 cases ht:Zi1 l with
 | false=>exact ⟨_,rfl⟩
 | true=>
  match l,ZlE ht with
  | [x,y,z],_=>exact ⟨_,rfl⟩
theorem ZoH {p:Zt} (h1:p.label.to_.size≤B60) (h2:p.from_.size≤B60) (h3:p.sides.length<NN):Zaq p=Z3 p∧∃ v,Z3 p=some v:=by
 obtain ⟨e1,b,hb⟩:=ZiO h1 h2 h3
 obtain ⟨e2,v,hv⟩:=Zqv h3
 unfold Zaq Z3
 rw [e1,hb,e2,hv]
 simp only [Option.bind_some]
 generalize IntKind.i64.wrap (Int.tdiv (w64 (v+4999)) 5000)=x
 cases b
 ·exact ⟨rfl,_,rfl⟩
 ·by_cases h:p.weight<x
  ·rw [if_pos h,decide_eq_true h]; exact ⟨rfl,_,rfl⟩
  ·rw [if_neg h,decide_eq_false h]; exact ⟨rfl,_,rfl⟩
theorem ZpO {rates:List YRate} {p:Zt} {z:Int} (hc:Zaq p=Z3 p):Zdt rates p z=Zav rates p z:=by
 funext i
 unfold Zdt Zav
 simp only [Zgz,hc]
 cases hg:getI rates i with
 | none=>simp
 | some y=>simp only [Option.bind_some]
theorem Znu {zones:List YZone} {rates:List YRate} {p:Zt} (hz:Ze2 zones) (hr:rates.length≤1048576) (h1:p.label.to_.size≤B60) (h2:p.from_.size≤B60) (h3:p.sides.length<NN):
 ZdP zones rates p=ZbV zones rates p∧∃ v,ZbV zones rates p=some v:=by
 obtain ⟨e1,b,hb⟩:=ZiO h1 h2 h3
 obtain ⟨e2,z,hv⟩:=Zqz hz h1
 obtain ⟨e3,cw,hcw⟩:=ZoH h1 h2 h3
 have hL:∃ o,Zc (Zav rates p z) NN 0=some o:=by
  refine Zh2 (n:=rates.length) (by unfold NN; omega) (fun i hi=>?_) ?_
  ·have hg:getI rates (i:Int)=some rates[i]:=by rw [Zi]; exact List.getElem?_eq_getElem hi
   have hw:w64 ((i:Int)+1)=((i+1:Nat):Int):=Zq hi (by omega)
   unfold Zav
   simp only [Zgz,decide_eq_true (show (i:Int)<rates.length by omega),cond_true,hg,Option.bind_some,hw,hcw]
   cases decide (rates[i].zone=z) <;> cases decide (rates[i].service=p.label.service) <;> cases decide (cw≤rates[i].limit) <;> (first | exact Zmt rfl | exact ZlB rfl)
  ·unfold Zav
   rw [decide_eq_false (by omega)]
   exact ⟨_,rfl⟩
 obtain ⟨o,ho⟩:=hL
 unfold ZdP ZbV
 rw [Zmz hz,ZmA hz,Zp3 hr,Zp4 hr,e1,e2,hb,hv]
 simp only [Option.bind_some,ZpO e3,ho]
 refine ⟨trivial,?_⟩
 cases Zg9 zones
 ·exact ⟨_,rfl⟩
 cases ZhL rates (zones.length:Int)
 ·exact ⟨_,rfl⟩
 cases b
 ·exact ⟨_,rfl⟩
 cases o <;> exact ⟨_,rfl⟩
def Zif (w:Zf) (i:Nat) (t:Zm):Bool:=Zkq w.network t && !ZdI (w.closed.take i) t
def Zqf (w:Zf) (i:Nat) (s:Z2):Bool:=(ZZ w.network s).getD false && !decide (w.now<s.at_)
def Zqt (w:Zf):Int:=w.orders.foldl (fun a o=>w64 (a+(o.way.length:Int))) 0
def Zf6 (w:Zf):Bool:=
 ZeV w.network w.bookings && (decide (0≤w.now) && decide (w.now≤100000)) && !decide (30<(w.orders.length:Int)) && !decide (20<(w.closed.length:Int)) && !decide (200<(w.scans.length:Int)) && !decide (50<(w.skip.length:Int)) && (decide ((w.scans.length:Int)≤w.made) && decide (w.made≤1000000000)) &&
  allI (Zif w) 0 w.closed && allI (Zqf w) 0 w.scans && allI (Zg1 w) 0 w.orders && decide (Zqt w=(w.bookings.length:Int))
theorem ZlC {α:Type} (xs:List α) (i:Nat):subL xs 0 (i:Int)=xs.take i:=by simp [subL]
section
variable {w:Zf} (hf:WFit w) (hb:ZeV w.network w.bookings=true)
include hf
theorem Zsm (s:Z2):ZZ w.network s=some ((ZZ w.network s).getD false):=by
 obtain ⟨b,h⟩:=ZlZ hf.net s
 rw [h]; rfl
theorem ZlM:Zc (Zcm w) NN 0=some (if allI (Zif w) 0 w.closed=true then .inl () else .inr false):=by
 refine Zak (A:=Unit) (fun _ i=>i) _ (fun a _=>a) id (fun a i t ht=>?_) (fun a=>?_) (by have:=hf.closed; unfold NN; omega) ()
 ·have hlt:=(List.getElem?_eq_some_iff.1 ht).1
  have hcl:=hf.closed
  have hg:getI w.closed (i:Int)=some t:=by rw [Zi]; exact ht
  have hi:w64 ((i:Int)+1)=((i+1:Nat):Int):=Zq hlt (by omega)
  have hs:chk (slOk 0 (i:Int) w.closed.length)=some ():=Ze5 (by unfold slOk; rw [decide_eq_true_iff]; omega)
  unfold Zcm
  simp only [decide_eq_true (show (i:Int)<w.closed.length by omega),cond_true,hg,Option.bind_some,hi,hs,Zi3 hf.net,ZlC,Ziv,ZgU (show (w.closed.take i).length≤1048576 by simp; omega)]
  unfold Zif
  have hcd:((w.closed.take i).any fun y=>decide (y=t))=ZdI (w.closed.take i) t:=rfl
  rw [hcd]
  cases Zkq w.network t <;> cases ZdI (w.closed.take i) t <;> rfl
 ·unfold Zcm
  simp
theorem ZlK (hb:ZeV w.network w.bookings=true):Zc (Zb4 w) NN 0=some (if allI (Zif w) 0 w.closed=true then .inl () else .inr false):=by
 have hnet:=(Zku hb).1
 refine Zak (A:=Unit) (fun _ i=>i) _ (fun a _=>a) id (fun a i t ht=>?_) (fun a=>?_) (by have:=hf.closed; unfold NN; omega) ()
 ·have hlt:=(List.getElem?_eq_some_iff.1 ht).1
  have hcl:=hf.closed
  have hg:getI w.closed (i:Int)=some t:=by rw [Zi]; exact ht
  have hi:w64 ((i:Int)+1)=((i+1:Nat):Int):=Zq hlt (by omega)
  have hs:chk (slOk 0 (i:Int) w.closed.length)=some ():=Ze5 (by unfold slOk; rw [decide_eq_true_iff]; omega)
  unfold Zb4
  simp only [decide_eq_true (show (i:Int)<w.closed.length by omega),cond_true,hg,Option.bind_some,hi,hs,ZjY hf.net hnet,Zi3 hf.net,ZlC,ZgU (show (w.closed.take i).length≤1048576 by simp; omega)]
  unfold Zif
  have hcd:((w.closed.take i).any fun y=>decide (y=t))=ZdI (w.closed.take i) t:=rfl
  rw [hcd]
  cases Zkq w.network t <;> cases ZdI (w.closed.take i) t <;> rfl
 ·unfold Zb4
  simp
theorem Zoh:Zc (Zcn w) NN 0=some (if allI (Zqf w) 0 w.scans=true then .inl () else .inr false):=by
 refine Zak (A:=Unit) (fun _ i=>i) _ (fun a _=>a) id (fun a i s hs=>?_) (fun a=>?_) (by have:=hf.scans; unfold NN; omega) ()
 ·have hlt:=(List.getElem?_eq_some_iff.1 hs).1
  have hcl:=hf.scans
  have hg:getI w.scans (i:Int)=some s:=by rw [Zi]; exact hs
  have hi:w64 ((i:Int)+1)=((i+1:Nat):Int):=Zq hlt (by omega)
  unfold Zcn
  rw [decide_eq_true (show (i:Int)<w.scans.length by omega),cond_true,hg]
  simp only [Option.bind_some]
  rw [Zsm hf s]
  simp only [Option.bind_some,hi]
  unfold Zqf
  cases (ZZ w.network s).getD false <;> cases decide (w.now<s.at_) <;> rfl
 ·unfold Zcn
  simp
theorem Zog:Zc (Zb5 w) NN 0=some (if allI (Zqf w) 0 w.scans=true then .inl () else .inr false):=by
 refine Zak (A:=Unit) (fun _ i=>i) _ (fun a _=>a) id (fun a i s hs=>?_) (fun a=>?_) (by have:=hf.scans; unfold NN; omega) ()
 ·have hlt:=(List.getElem?_eq_some_iff.1 hs).1
  have hcl:=hf.scans
  have hg:getI w.scans (i:Int)=some s:=by rw [Zi]; exact hs
  have hi:w64 ((i:Int)+1)=((i+1:Nat):Int):=Zq hlt (by omega)
  unfold Zb5
  rw [decide_eq_true (show (i:Int)<w.scans.length by omega),cond_true,hg]
  simp only [Option.bind_some]
  rw [Zpn hf.net,Zsm hf s]
  simp only [Option.bind_some,hi]
  unfold Zqf
  cases (ZZ w.network s).getD false <;> cases decide (w.now<s.at_) <;> rfl
 ·unfold Zb5
  simp
include hb
theorem Zmd:Zc (Zco w) NN (0,0)=some (if allI (Zg1 w) 0 w.orders=true then .inl (Zqt w) else .inr false):=by
 refine Zak (A:=Int) (fun a i=>(a,i)) _ (fun a (o:Zr)=>w64 (a+(o.way.length:Int))) id (fun a i o ho=>?_) (fun a=>?_) (by have:=hf.orders; unfold NN; omega) 0
 ·have hlt:=(List.getElem?_eq_some_iff.1 ho).1
  have hcl:=hf.orders
  have hg:getI w.orders (i:Int)=some o:=by rw [Zi]; exact ho
  have hi:w64 ((i:Int)+1)=((i+1:Nat):Int):=Zq hlt (by omega)
  unfold Zco
  simp only [decide_eq_true (show (i:Int)<w.orders.length by omega),cond_true,hg,Option.bind_some,hi,Zoi hf hb hg]
  cases Zg1 w i o <;> rfl
 ·unfold Zco
  simp
theorem Zmc:Zc (Zb6 w (ZbW w.network)) NN (0,0)=some (if allI (Zg1 w) 0 w.orders=true then .inl (Zqt w) else .inr false):=by
 refine Zak (A:=Int) (fun a i=>(a,i)) _ (fun a (o:Zr)=>w64 (a+(o.way.length:Int))) id (fun a i o ho=>?_) (fun a=>?_) (by have:=hf.orders; unfold NN; omega) 0
 ·have hlt:=(List.getElem?_eq_some_iff.1 ho).1
  have hcl:=hf.orders
  have hg:getI w.orders (i:Int)=some o:=by rw [Zi]; exact ho
  have hi:w64 ((i:Int)+1)=((i+1:Nat):Int):=Zq hlt (by omega)
  unfold Zb6
  simp only [decide_eq_true (show (i:Int)<w.orders.length by omega),cond_true,hg,Option.bind_some,hi,ZnU hf hb hg]
  cases Zg1 w i o <;> rfl
 ·unfold Zb6
  simp
end
theorem Zhk {γ:Type} {b:Bool} {x:γ} {K:γ→Option Bool} {r:Bool} (h:b=true→K x=some r) (h':b=false→r=false):(some (if b=true then (Sum.inl x:γ ⊕ Bool) else .inr false)).bind (Zp K (fun r=>some r))=some r:=by
 cases b with
 | true=>exact h rfl
 | false=>rw [h' rfl]; rfl
theorem ZjG {w:Zf} (hf:WFit w):Zc8 w=some (Zf6 w):=by
 unfold Zc8 Zf6
 rw [Zmp hf.net hf.bookings]
 simp only [Option.bind_some,ZcK]
 cases hb:ZeV w.network w.bookings with
 | false=>rfl
 | true=>
 cases decide (0≤w.now) && decide (w.now≤100000) with
 | false=>rfl
 | true=>
 cases decide (30<(w.orders.length:Int)) with
 | true=>rfl
 | false=>
 cases decide (20<(w.closed.length:Int)) with
 | true=>rfl
 | false=>
 cases decide (200<(w.scans.length:Int)) with
 | true=>rfl
 | false=>
 cases decide (50<(w.skip.length:Int)) with
 | true=>rfl
 | false=>
 cases decide ((w.scans.length:Int)≤w.made) && decide (w.made≤1000000000) with
 | false=>rfl
 | true=>
 simp only [Bool.not_true,Bool.not_false,cond_false,Bool.true_and]
 rw [ZlM hf,Zoh hf,Zmd hf hb]
 refine Zhk (fun h1=>?_) (fun h1=>by rw [h1]; rfl)
 refine Zhk (fun h2=>?_) (fun h2=>by rw [h1,h2]; rfl)
 refine Zhk (fun h3=>?_) (fun h3=>by rw [h1,h2,h3]; rfl)
 rw [h1,h2,h3]; rfl
theorem Zjs {w:Zf} (hf:WFit w):ZbS w=some (Zf6 w):=by
 unfold ZbS Zf6
 rw [ZlW hf.net hf.bookings,Zct]
 simp only [Option.bind_some,ZcK]
 cases hb:ZeV w.network w.bookings with
 | false=>rfl
 | true=>
 cases decide (0≤w.now) && decide (w.now≤100000) with
 | false=>rfl
 | true=>
 cases decide (30<(w.orders.length:Int)) with
 | true=>rfl
 | false=>
 cases decide (20<(w.closed.length:Int)) with
 | true=>rfl
 | false=>
 cases decide (200<(w.scans.length:Int)) with
 | true=>rfl
 | false=>
 cases decide (50<(w.skip.length:Int)) with
 | true=>rfl
 | false=>
 cases decide ((w.scans.length:Int)≤w.made) && decide (w.made≤1000000000) with
 | false=>rfl
 | true=>
 simp only [Bool.not_true,Bool.not_false,cond_false,Bool.true_and]
 rw [ZlK hf hb,Zog hf,Zis hf.net]
 simp only [Option.bind_some]
 rw [Zmc hf hb]
 refine Zhk (fun h1=>?_) (fun h1=>by rw [h1]; rfl)
 refine Zhk (fun h2=>?_) (fun h2=>by rw [h1,h2]; rfl)
 refine Zhk (fun h3=>?_) (fun h3=>by rw [h1,h2,h3]; rfl)
 rw [h1,h2,h3]; rfl
set_option maxHeartbeats 16000000
def Zea (a:YLeg) (b:YLeg):Option Bool:=
 cond (!decide (a.from_=b.from_))
 (some false)
 (cond (!decide (a.to_=b.to_))
 (some false)
 (cond (!decide (a.start=b.start))
 (some false)
 (cond (!decide (a.takes=b.takes))
 (some false)
 (cond (!decide (a.days=b.days))
 (some false)
 (cond (!decide (a.room=b.room))
 (some false)
 (some true))))))
instance (a:YLeg) (b:YLeg):CT Tryz.prog (Zea a b):=⟨89,[.ag (cLeg a),.ag (cLeg b)],[],fun r=>vb r,fun r=>[],fun H=>by replace H:=H0 H; unfold Zea at H; exact Za Tryz.func89 rfl Tryz.ntmps89 Tryz.results89 fun Q hQ hQn=>wk3⟩
def Zec (a:YLeg):Option YLeg:=
 some a
instance (a:YLeg):CT Tryz.prog (Zec a):=⟨68,[.ag (cLeg a)],[],fun r=>.ag [vs r.from_,vs r.to_,vi r.start,vi r.takes,vi r.days,vi r.room],fun r=>[],fun H=>by replace H:=H0 H; unfold Zec at H; exact Za Tryz.func68 rfl Tryz.ntmps68 Tryz.results68 fun Q hQ hQn=>wk3⟩
def Zeb (a:YLeg) (left:Int):Option Int:=
 cond (decide ((w64 (left-(a.from_.size:Int)))<0))
 (some (-1))
 (cond (decide ((w64 ((w64 (left-(a.from_.size:Int)))-(a.to_.size:Int)))<0))
 (some (-1))
 (some (w64 ((w64 (left-(a.from_.size:Int)))-(a.to_.size:Int)))))
instance (a:YLeg) (left:Int):CT Tryz.prog (Zeb a left):=⟨56,[.ag (cLeg a),vi left],[],fun r=>vi r,fun r=>[],fun H=>by replace H:=H0 H; unfold Zeb at H; exact Za Tryz.func56 rfl Tryz.ntmps56 Tryz.results56 fun Q hQ hQn=>wk3⟩
def ZcP (a:List YLeg) (b:List YLeg) (s0:Int):Option (Int ⊕ (Unit ⊕ Bool)):=
 cond (decide (s0<(a.length:Int)))
 ((getI a s0).bind fun y1=>
 (getI b s0).bind fun y2=>
 (Zea y1 y2).bind fun y3=>
 cond (!y3)
 (some (.inr (.inr false)))
 (some (.inl (w64 (s0+1)))))
 (some (.inr (.inl ())))
instance (a:List YLeg) (b:List YLeg):Zo (ZcP a b):=⟨fun s0=>(.sl (a.map cLeg)::.sl (b.map cLeg)::(U 3 (vi s0::(U 21 [])))),fun s0=>[]⟩
def Zeo (a:List YLeg) (b:List YLeg):Option Bool:=
 cond (!decide ((a.length:Int)=(b.length:Int)))
 (some false)
 ((Zc (ZcP a b) NN 0).bind (Zp (fun o0=>
 some true) (fun r=>some r)))
instance (a:List YLeg) (b:List YLeg):CT Tryz.prog (Zeo a b):=⟨40,[.sl (a.map cLeg),.sl (b.map cLeg)],[],fun r=>vb r,fun r=>[],fun H=>by replace H:=H0 H; unfold Zeo at H; exact Za Tryz.func40 rfl Tryz.ntmps40 Tryz.results40 fun Q hQ hQn=>wk3⟩
def ZcY (a:List YLeg) (s0:Int × (List YLeg)):Option ((Int × (List YLeg)) ⊕ (List YLeg)):=
 cond (decide (s0.1<(a.length:Int)))
 ((getI a s0.1).bind fun y1=>
 (Zec y1).bind fun y2=>
 (getI s0.2 s0.1).bind fun y3=>
 some (.inl ((w64 (s0.1+1)),(s0.2.set (Int.toNat s0.1) y2))))
 (some (.inr s0.2))
instance (a:List YLeg):Zo (ZcY a):=⟨fun s0=>(.sl (a.map cLeg)::.un::.un::.ms 0::vi s0.1::(U 18 [])),fun s0=>[some ⟨.of 115,6,s0.2.map cLeg⟩]⟩
def ZcD (a:List YLeg):Option (List YLeg):=
 (chk (mkOk (a.length:Int) 64)).bind fun _=>
 (Zc (ZcY a) NN (0,(List.replicate (Int.toNat (a.length:Int)) (⟨⟨#[]⟩,⟨#[]⟩,0,0,0,0⟩:YLeg)))).bind (fun o0=>
 some o0)
theorem Zi9 (a:List YLeg) {r:(List YLeg)} (H:ZcD a=some r):ZdG Tryz.prog 30 [.sl (a.map cLeg)] [] (.ms 0) [some ⟨.of 115,6,r.map cLeg⟩]:=by
 replace H:=H0 H
 unfold ZcD at H
 refine Za Tryz.func30 rfl Tryz.ntmps30 Tryz.results30 fun Q hQ hQn=>?_
 exact wk3
instance (a:List YLeg):CT Tryz.prog (ZcD a):=⟨30,[.sl (a.map cLeg)],[],fun r=>.ms 0,fun r=>[some ⟨.of 115,6,r.map cLeg⟩],Zi9 a⟩
def ZaP (a:List YLeg) (s0:Int × Int):Option ((Int × Int) ⊕ (Int ⊕ Int)):=
 cond (decide (s0.2<(a.length:Int)))
 ((getI a s0.2).bind fun y1=>
 (Zeb y1 s0.1).bind fun y2=>
 cond (decide (y2<0))
 (some (.inr (.inr (-1))))
 (some (.inl (y2,(w64 (s0.2+1))))))
 (some (.inr (.inl s0.1)))
instance (a:List YLeg):Zo (ZaP a):=⟨fun s0=>(.sl (a.map cLeg)::vi s0.1::(U 3 (vi s0.2::(U 21 [])))),fun s0=>[]⟩
def Zeq (a:List YLeg) (left:Int):Option Int:=
 cond (decide ((w64 (left-(a.length:Int)))<0))
 (some (-1))
 ((Zc (ZaP a) NN ((w64 (left-(a.length:Int))),0)).bind (Zp (fun o0=>
 some o0) (fun r=>some r)))
instance (a:List YLeg) (left:Int):CT Tryz.prog (Zeq a left):=⟨24,[.sl (a.map cLeg),vi left],[],fun r=>vi r,fun r=>[],fun H=>by replace H:=H0 H; unfold Zeq at H; exact Za Tryz.func24 rfl Tryz.ntmps24 Tryz.results24 fun Q hQ hQn=>wk3⟩
def ZcO (a:List Int) (b:List Int) (s0:Int):Option (Int ⊕ (Unit ⊕ Bool)):=
 cond (decide (s0<(a.length:Int)))
 ((getI a s0).bind fun y1=>
 (getI b s0).bind fun y2=>
 cond (!decide (y1=y2))
 (some (.inr (.inr false)))
 (some (.inl (w64 (s0+1)))))
 (some (.inr (.inl ())))
instance (a:List Int) (b:List Int):Zo (ZcO a b):=⟨fun s0=>(.sl (a.map cInt)::.sl (b.map cInt)::(U 3 (vi s0::(U 20 [])))),fun s0=>[]⟩
def Zab (a:List Int) (b:List Int):Option Bool:=
 cond (!decide ((a.length:Int)=(b.length:Int)))
 (some false)
 ((Zc (ZcO a b) NN 0).bind (Zp (fun o0=>
 some true) (fun r=>some r)))
theorem Zi7 (a:List Int) (b:List Int) {r:Bool} (H:Zab a b=some r):ZdG Tryz.prog 15 [.sl (a.map cInt),.sl (b.map cInt)] [] (vb r) []:=by
 replace H:=H0 H
 unfold Zab at H
 refine Za Tryz.func15 rfl Tryz.ntmps15 Tryz.results15 fun Q hQ hQn=>?_
 exact wk3
instance (a:List Int) (b:List Int):CT Tryz.prog (Zab a b):=⟨15,[.sl (a.map cInt),.sl (b.map cInt)],[],fun r=>vb r,fun r=>[],Zi7 a b⟩
def ZcX (a:List Int) (s0:Int × (List Int)):Option ((Int × (List Int)) ⊕ (List Int)):=
 cond (decide (s0.1<(a.length:Int)))
 ((getI a s0.1).bind fun y1=>
 (getI s0.2 s0.1).bind fun y2=>
 some (.inl ((w64 (s0.1+1)),(s0.2.set (Int.toNat s0.1) y1))))
 (some (.inr s0.2))
instance (a:List Int):Zo (ZcX a):=⟨fun s0=>(.sl (a.map cInt)::.un::.un::.ms 0::vi s0.1::(U 17 [])),fun s0=>[some ⟨.of 3,1,s0.2.map cInt⟩]⟩
def ZI (a:List Int):Option (List Int):=
 (chk (mkOk (a.length:Int) 8)).bind fun _=>
 (Zc (ZcX a) NN (0,(List.replicate (Int.toNat (a.length:Int)) 0))).bind (fun o0=>
 some o0)
theorem Zi8 (a:List Int) {r:(List Int)} (H:ZI a=some r):ZdG Tryz.prog 9 [.sl (a.map cInt)] [] (.ms 0) [some ⟨.of 3,1,r.map cInt⟩]:=by
 replace H:=H0 H
 unfold ZI at H
 refine Za Tryz.func9 rfl Tryz.ntmps9 Tryz.results9 fun Q hQ hQn=>?_
 exact wk3
instance (a:List Int):CT Tryz.prog (ZI a):=⟨9,[.sl (a.map cInt)],[],fun r=>.ms 0,fun r=>[some ⟨.of 3,1,r.map cInt⟩],Zi8 a⟩
def Zep (a:List Int) (left:Int):Option Int:=
 cond (decide ((w64 (left-(a.length:Int)))<0))
 (some (-1))
 (some (w64 (left-(a.length:Int))))
instance (a:List Int) (left:Int):CT Tryz.prog (Zep a left):=⟨25,[.sl (a.map cInt),vi left],[],fun r=>vi r,fun r=>[],fun H=>by replace H:=H0 H; unfold Zep at H; exact Za Tryz.func25 rfl Tryz.ntmps25 Tryz.results25 fun Q hQ hQn=>wk3⟩
def Zbp (a:YNetwork) (b:YNetwork):Option Bool:=
 (Zeo a.legs b.legs).bind fun y1=>
 cond (!y1)
 (some false)
 ((Zab a.off b.off).bind fun y2=>
 cond (!y2)
 (some false)
 (cond (!decide (a.change=b.change))
 (some false)
 (some true)))
instance (a:YNetwork) (b:YNetwork):CT Tryz.prog (Zbp a b):=⟨14,[.ag (cNetwork a),.ag (cNetwork b)],[],fun r=>vb r,fun r=>[],fun H=>by replace H:=H0 H; unfold Zbp at H; exact Za Tryz.func14 rfl Tryz.ntmps14 Tryz.results14 fun Q hQ hQn=>wk3⟩
def Zd5 (a:YNetwork):Option YNetwork:=
 (ZcD a.legs).bind fun y1=>
 (ZI a.off).bind fun y2=>
 some (⟨y1,y2,a.change⟩:YNetwork)
instance (a:YNetwork):CT Tryz.prog (Zd5 a):=⟨8,[.ag (cNetwork a)],[],fun r=>.ag [.sl (r.legs.map cLeg),.sl (r.off.map cInt),vi r.change],fun r=>[],fun H=>by replace H:=H0 H; unfold Zd5 at H; exact Za Tryz.func8 rfl Tryz.ntmps8 Tryz.results8 fun Q hQ hQn=>wk3⟩
def ZcW (a:YNetwork) (left:Int):Option Int:=
 (Zeq a.legs left).bind fun y1=>
 cond (decide (y1<0))
 (some (-1))
 ((Zep a.off y1).bind fun y2=>
 cond (decide (y2<0))
 (some (-1))
 (some y2))
instance (a:YNetwork) (left:Int):CT Tryz.prog (ZcW a left):=⟨4,[.ag (cNetwork a),vi left],[],fun r=>vi r,fun r=>[],fun H=>by replace H:=H0 H; unfold ZcW at H; exact Za Tryz.func4 rfl Tryz.ntmps4 Tryz.results4 fun Q hQ hQn=>wk3⟩
def ZcC (a:Zm) (b:Zm):Option Bool:=
 cond (!decide (a.leg=b.leg))
 (some false)
 (cond (!decide (a.day=b.day))
 (some false)
 (some true))
instance (a:Zm) (b:Zm):CT Tryz.prog (ZcC a b):=⟨132,[.ag (Zv a),.ag (Zv b)],[],fun r=>vb r,fun r=>[],fun H=>by replace H:=H0 H; unfold ZcC at H; exact Za Tryz.func132 rfl Tryz.ntmps132 Tryz.results132 fun Q hQ hQn=>wk3⟩
def Zce (a:List Zm) (b:List Zm) (s0:Int):Option (Int ⊕ (Unit ⊕ Bool)):=
 cond (decide (s0<(a.length:Int)))
 ((getI a s0).bind fun y1=>
 (getI b s0).bind fun y2=>
 (ZcC y1 y2).bind fun y3=>
 cond (!y3)
 (some (.inr (.inr false)))
 (some (.inl (w64 (s0+1)))))
 (some (.inr (.inl ())))
instance (a:List Zm) (b:List Zm):Zo (Zce a b):=⟨fun s0=>(.sl (a.map Zv)::.sl (b.map Zv)::(U 3 (vi s0::(U 21 [])))),fun s0=>[]⟩
def Zc4 (a:List Zm) (b:List Zm):Option Bool:=
 cond (!decide ((a.length:Int)=(b.length:Int)))
 (some false)
 ((Zc (Zce a b) NN 0).bind (Zp (fun o0=>
 some true) (fun r=>some r)))
instance (a:List Zm) (b:List Zm):CT Tryz.prog (Zc4 a b):=⟨84,[.sl (a.map Zv),.sl (b.map Zv)],[],fun r=>vb r,fun r=>[],fun H=>by replace H:=H0 H; unfold Zc4 at H; exact Za Tryz.func84 rfl Tryz.ntmps84 Tryz.results84 fun Q hQ hQn=>wk3⟩
def ZeC (a:Zr) (b:Zr):Option Bool:=
 cond (!decide (a.from_=b.from_))
 (some false)
 (cond (!decide (a.to_=b.to_))
 (some false)
 (cond (!decide (a.service=b.service))
 (some false)
 (cond (!decide (a.weight=b.weight))
 (some false)
 (cond (!decide (a.at_=b.at_))
 (some false)
 (cond (!decide (a.due=b.due))
 (some false)
 ((Zc4 a.way b.way).bind fun y1=>
 cond (!y1)
 (some false)
 (cond (!decide (a.gone=b.gone))
 (some false)
 (cond (!decide (a.state=b.state))
 (some false)
 (cond (!decide (a.place=b.place))
 (some false)
 (cond (!decide (a.ended=b.ended))
 (some false)
 (some true)))))))))))
instance (a:Zr) (b:Zr):CT Tryz.prog (ZeC a b):=⟨130,[.ag (Zz a),.ag (Zz b)],[],fun r=>vb r,fun r=>[],fun H=>by replace H:=H0 H; unfold ZeC at H; exact Za Tryz.func130 rfl Tryz.ntmps130 Tryz.results130 fun Q hQ hQn=>wk3⟩
def Zbz (a:List Zr) (b:List Zr) (s0:Int):Option (Int ⊕ (Unit ⊕ Bool)):=
 cond (decide (s0<(a.length:Int)))
 ((getI a s0).bind fun y1=>
 (getI b s0).bind fun y2=>
 (ZeC y1 y2).bind fun y3=>
 cond (!y3)
 (some (.inr (.inr false)))
 (some (.inl (w64 (s0+1)))))
 (some (.inr (.inl ())))
instance (a:List Zr) (b:List Zr):Zo (Zbz a b):=⟨fun s0=>(.sl (a.map Zz)::.sl (b.map Zz)::(U 3 (vi s0::(U 21 [])))),fun s0=>[]⟩
def Zdf (a:List Zr) (b:List Zr):Option Bool:=
 cond (!decide ((a.length:Int)=(b.length:Int)))
 (some false)
 ((Zc (Zbz a b) NN 0).bind (Zp (fun o0=>
 some true) (fun r=>some r)))
instance (a:List Zr) (b:List Zr):CT Tryz.prog (Zdf a b):=⟨82,[.sl (a.map Zz),.sl (b.map Zz)],[],fun r=>vb r,fun r=>[],fun H=>by replace H:=H0 H; unfold Zdf at H; exact Za Tryz.func82 rfl Tryz.ntmps82 Tryz.results82 fun Q hQ hQn=>wk3⟩
def Zd4 (a:Zb) (b:Zb):Option Bool:=
 cond (!decide (a.thing=b.thing))
 (some false)
 ((ZcC a.trip b.trip).bind fun y1=>
 cond (!y1)
 (some false)
 (cond (!decide (a.weight=b.weight))
 (some false)
 (some true)))
instance (a:Zb) (b:Zb):CT Tryz.prog (Zd4 a b):=⟨131,[.ag (Zd a),.ag (Zd b)],[],fun r=>vb r,fun r=>[],fun H=>by replace H:=H0 H; unfold Zd4 at H; exact Za Tryz.func131 rfl Tryz.ntmps131 Tryz.results131 fun Q hQ hQn=>wk3⟩
def ZaS (a:List Zb) (b:List Zb) (s0:Int):Option (Int ⊕ (Unit ⊕ Bool)):=
 cond (decide (s0<(a.length:Int)))
 ((getI a s0).bind fun y1=>
 (getI b s0).bind fun y2=>
 (Zd4 y1 y2).bind fun y3=>
 cond (!y3)
 (some (.inr (.inr false)))
 (some (.inl (w64 (s0+1)))))
 (some (.inr (.inl ())))
instance (a:List Zb) (b:List Zb):Zo (ZaS a b):=⟨fun s0=>(.sl (a.map Zd)::.sl (b.map Zd)::(U 3 (vi s0::(U 21 [])))),fun s0=>[]⟩
def Zca (a:List Zb) (b:List Zb):Option Bool:=
 cond (!decide ((a.length:Int)=(b.length:Int)))
 (some false)
 ((Zc (ZaS a b) NN 0).bind (Zp (fun o0=>
 some true) (fun r=>some r)))
instance (a:List Zb) (b:List Zb):CT Tryz.prog (Zca a b):=⟨83,[.sl (a.map Zd),.sl (b.map Zd)],[],fun r=>vb r,fun r=>[],fun H=>by replace H:=H0 H; unfold Zca at H; exact Za Tryz.func83 rfl Tryz.ntmps83 Tryz.results83 fun Q hQ hQn=>wk3⟩
def Ze1 (a:Z2) (b:Z2):Option Bool:=
 cond (!decide (a.thing=b.thing))
 (some false)
 (cond (!decide (a.at_=b.at_))
 (some false)
 (cond (!decide (a.kind=b.kind))
 (some false)
 (cond (!decide (a.place=b.place))
 (some false)
 ((ZcC a.trip b.trip).bind fun y1=>
 cond (!y1)
 (some false)
 (some true)))))
instance (a:Z2) (b:Z2):CT Tryz.prog (Ze1 a b):=⟨133,[.ag (ZK a),.ag (ZK b)],[],fun r=>vb r,fun r=>[],fun H=>by replace H:=H0 H; unfold Ze1 at H; exact Za Tryz.func133 rfl Tryz.ntmps133 Tryz.results133 fun Q hQ hQn=>wk3⟩
def Zcd (a:List Z2) (b:List Z2) (s0:Int):Option (Int ⊕ (Unit ⊕ Bool)):=
 cond (decide (s0<(a.length:Int)))
 ((getI a s0).bind fun y1=>
 (getI b s0).bind fun y2=>
 (Ze1 y1 y2).bind fun y3=>
 cond (!y3)
 (some (.inr (.inr false)))
 (some (.inl (w64 (s0+1)))))
 (some (.inr (.inl ())))
instance (a:List Z2) (b:List Z2):Zo (Zcd a b):=⟨fun s0=>(.sl (a.map ZK)::.sl (b.map ZK)::(U 3 (vi s0::(U 21 [])))),fun s0=>[]⟩
def ZdU (a:List Z2) (b:List Z2):Option Bool:=
 cond (!decide ((a.length:Int)=(b.length:Int)))
 (some false)
 ((Zc (Zcd a b) NN 0).bind (Zp (fun o0=>
 some true) (fun r=>some r)))
instance (a:List Z2) (b:List Z2):CT Tryz.prog (ZdU a b):=⟨85,[.sl (a.map ZK),.sl (b.map ZK)],[],fun r=>vb r,fun r=>[],fun H=>by replace H:=H0 H; unfold ZdU at H; exact Za Tryz.func85 rfl Tryz.ntmps85 Tryz.results85 fun Q hQ hQn=>wk3⟩
def Zc5 (a:Zf) (b:Zf):Option Bool:=
 (Zbp a.network b.network).bind fun y1=>
 cond (!y1)
 (some false)
 ((Zdf a.orders b.orders).bind fun y2=>
 cond (!y2)
 (some false)
 ((Zca a.bookings b.bookings).bind fun y3=>
 cond (!y3)
 (some false)
 ((Zc4 a.closed b.closed).bind fun y4=>
 cond (!y4)
 (some false)
 (cond (!decide (a.now=b.now))
 (some false)
 ((ZdU a.scans b.scans).bind fun y5=>
 cond (!y5)
 (some false)
 ((Zab a.skip b.skip).bind fun y6=>
 cond (!y6)
 (some false)
 (cond (!decide (a.made=b.made))
 (some false)
 (some true))))))))
theorem ZiL (a:Zf) (b:Zf) {r:Bool} (H:Zc5 a b=some r):ZdG Tryz.prog 36 [.ag (ZeG a),.ag (ZeG b)] [] (vb r) []:=by
 replace H:=H0 H
 unfold Zc5 at H
 refine Za Tryz.func36 rfl Tryz.ntmps36 Tryz.results36 fun Q hQ hQn=>?_
 exact wk3
instance (a:Zf) (b:Zf):CT Tryz.prog (Zc5 a b):=⟨36,[.ag (ZeG a),.ag (ZeG b)],[],fun r=>vb r,fun r=>[],ZiL a b⟩
def Zdw (a:YZone) (b:YZone):Option Bool:=
 cond (!decide (a.first=b.first))
 (some false)
 (cond (!decide (a.last=b.last))
 (some false)
 (some true))
instance (a:YZone) (b:YZone):CT Tryz.prog (Zdw a b):=⟨41,[.ag (cZone a),.ag (cZone b)],[],fun r=>vb r,fun r=>[],fun H=>by replace H:=H0 H; unfold Zdw at H; exact Za Tryz.func41 rfl Tryz.ntmps41 Tryz.results41 fun Q hQ hQn=>wk3⟩
def Zdz (a:YZone):Option YZone:=
 some a
instance (a:YZone):CT Tryz.prog (Zdz a):=⟨31,[.ag (cZone a)],[],fun r=>.ag [vs r.first,vs r.last],fun r=>[],fun H=>by replace H:=H0 H; unfold Zdz at H; exact Za Tryz.func31 rfl Tryz.ntmps31 Tryz.results31 fun Q hQ hQn=>wk3⟩
def Zdx (a:YZone) (left:Int):Option Int:=
 cond (decide ((w64 (left-(a.first.size:Int)))<0))
 (some (-1))
 (cond (decide ((w64 ((w64 (left-(a.first.size:Int)))-(a.last.size:Int)))<0))
 (some (-1))
 (some (w64 ((w64 (left-(a.first.size:Int)))-(a.last.size:Int)))))
instance (a:YZone) (left:Int):CT Tryz.prog (Zdx a left):=⟨26,[.ag (cZone a),vi left],[],fun r=>vi r,fun r=>[],fun H=>by replace H:=H0 H; unfold Zdx at H; exact Za Tryz.func26 rfl Tryz.ntmps26 Tryz.results26 fun Q hQ hQn=>wk3⟩
def Zcf (a:List YZone) (b:List YZone) (s0:Int):Option (Int ⊕ (Unit ⊕ Bool)):=
 cond (decide (s0<(a.length:Int)))
 ((getI a s0).bind fun y1=>
 (getI b s0).bind fun y2=>
 (Zdw y1 y2).bind fun y3=>
 cond (!y3)
 (some (.inr (.inr false)))
 (some (.inl (w64 (s0+1)))))
 (some (.inr (.inl ())))
instance (a:List YZone) (b:List YZone):Zo (Zcf a b):=⟨fun s0=>(.sl (a.map cZone)::.sl (b.map cZone)::(U 3 (vi s0::(U 21 [])))),fun s0=>[]⟩
def ZbU (a:List YZone) (b:List YZone):Option Bool:=
 cond (!decide ((a.length:Int)=(b.length:Int)))
 (some false)
 ((Zc (Zcf a b) NN 0).bind (Zp (fun o0=>
 some true) (fun r=>some r)))
instance (a:List YZone) (b:List YZone):CT Tryz.prog (ZbU a b):=⟨16,[.sl (a.map cZone),.sl (b.map cZone)],[],fun r=>vb r,fun r=>[],fun H=>by replace H:=H0 H; unfold ZbU at H; exact Za Tryz.func16 rfl Tryz.ntmps16 Tryz.results16 fun Q hQ hQn=>wk3⟩
def Zci (a:List YZone) (s0:Int × (List YZone)):Option ((Int × (List YZone)) ⊕ (List YZone)):=
 cond (decide (s0.1<(a.length:Int)))
 ((getI a s0.1).bind fun y1=>
 (Zdz y1).bind fun y2=>
 (getI s0.2 s0.1).bind fun y3=>
 some (.inl ((w64 (s0.1+1)),(s0.2.set (Int.toNat s0.1) y2))))
 (some (.inr s0.2))
instance (a:List YZone):Zo (Zci a):=⟨fun s0=>(.sl (a.map cZone)::.un::.un::.ms 0::vi s0.1::(U 18 [])),fun s0=>[some ⟨.of 73,2,s0.2.map cZone⟩]⟩
def ZaY (a:List YZone):Option (List YZone):=
 (chk (mkOk (a.length:Int) 32)).bind fun _=>
 (Zc (Zci a) NN (0,(List.replicate (Int.toNat (a.length:Int)) (⟨⟨#[]⟩,⟨#[]⟩⟩:YZone)))).bind (fun o0=>
 some o0)
instance (a:List YZone):CT Tryz.prog (ZaY a):=⟨10,[.sl (a.map cZone)],[],fun r=>.ms 0,fun r=>[some ⟨.of 73,2,r.map cZone⟩],fun H=>by replace H:=H0 H; unfold ZaY at H; exact Za Tryz.func10 rfl Tryz.ntmps10 Tryz.results10 fun Q hQ hQn=>wk3⟩
def Zas (a:List YZone) (s0:Int × Int):Option ((Int × Int) ⊕ (Int ⊕ Int)):=
 cond (decide (s0.2<(a.length:Int)))
 ((getI a s0.2).bind fun y1=>
 (Zdx y1 s0.1).bind fun y2=>
 cond (decide (y2<0))
 (some (.inr (.inr (-1))))
 (some (.inl (y2,(w64 (s0.2+1))))))
 (some (.inr (.inl s0.1)))
instance (a:List YZone):Zo (Zas a):=⟨fun s0=>(.sl (a.map cZone)::vi s0.1::(U 3 (vi s0.2::(U 21 [])))),fun s0=>[]⟩
def ZdW (a:List YZone) (left:Int):Option Int:=
 cond (decide ((w64 (left-(a.length:Int)))<0))
 (some (-1))
 ((Zc (Zas a) NN ((w64 (left-(a.length:Int))),0)).bind (Zp (fun o0=>
 some o0) (fun r=>some r)))
instance (a:List YZone) (left:Int):CT Tryz.prog (ZdW a left):=⟨5,[.sl (a.map cZone),vi left],[],fun r=>vi r,fun r=>[],fun H=>by replace H:=H0 H; unfold ZdW at H; exact Za Tryz.func5 rfl Tryz.ntmps5 Tryz.results5 fun Q hQ hQn=>wk3⟩
def Zdv (a:YRate) (b:YRate):Option Bool:=
 cond (!decide (a.zone=b.zone))
 (some false)
 (cond (!decide (a.service=b.service))
 (some false)
 (cond (!decide (a.limit=b.limit))
 (some false)
 (cond (!decide (a.price=b.price))
 (some false)
 (some true))))
instance (a:YRate) (b:YRate):CT Tryz.prog (Zdv a b):=⟨42,[.ag (cRate a),.ag (cRate b)],[],fun r=>vb r,fun r=>[],fun H=>by replace H:=H0 H; unfold Zdv at H; exact Za Tryz.func42 rfl Tryz.ntmps42 Tryz.results42 fun Q hQ hQn=>wk3⟩
def Zdy (a:YRate):Option YRate:=
 some a
instance (a:YRate):CT Tryz.prog (Zdy a):=⟨32,[.ag (cRate a)],[],fun r=>.ag [vi r.zone,vi r.service,vi r.limit,vi r.price],fun r=>[],fun H=>by replace H:=H0 H; unfold Zdy at H; exact Za Tryz.func32 rfl Tryz.ntmps32 Tryz.results32 fun Q hQ hQn=>wk3⟩
end Go.Proofs.YtkcnllbmpbhndaaGreat
