/- A part of the proof of the statement in the last file of this claim: texts on the language of the program and on its functions. No condition. -/
import Derived.Test.YtkfbakhnpfmfmaaGreatDoorCFnActRead3
import Derived.Shelf.Strings.Builder1
import Derived.Shelf.Strings.Builder2
import Derived.Shelf.Small.Bits
import Derived.Shelf.Strings.BuilderF
import Derived.Shelf.Strings.BuilderK
import Derived.Shelf.Strings.Builder2Cap
import Derived.Shelf.Strconv.Atoi
import Derived.Shelf.Strconv.Itoa0
import Derived.Shelf.Strconv.Itoa1
import Derived.Shelf.LaysM
import Derived.Shelf.Strconv.Itoa2
import Derived.Shelf.Strconv.Itoa3
import Derived.Shelf.Strconv.AtoiErrFast
import Derived.Shelf.Strconv.ParseIntEmpty
import Derived.Shelf.Strconv.AtoiFail
import Derived.Shelf.Strconv.Clone
import Derived.Shelf.Strconv.SyntaxError
import Derived.Shelf.LaysC
import Derived.Shelf.Strconv.ToError
import Derived.Shelf.Strconv.Lower
import Derived.Shelf.Strconv.ParseUint10
import Derived.Shelf.Strconv.ParseUint10Empty
import Derived.Shelf.Strconv.ParseUint10Any
import Derived.Shelf.Strconv.ParseInt10
import Derived.Shelf.Strconv.AtoiLong
import Derived.Shelf.Strconv.AtoiInnerAll
import Derived.Shelf.Strconv.RangeError
import Derived.Shelf.Strconv.ToErrorRange
import Derived.Shelf.Strconv.AtoiAll
import Derived.Shelf.Strings.Search1
import Derived.Shelf.Strings.Search2
import Derived.Shelf.Strings.Search3
import Derived.Shelf.Strings.Cut
import Derived.Shelf.Strings.Count
import Derived.Shelf.Strings.Shaped
import Derived.Shelf.Strings.Prefix
import Derived.Shelf.Strings.Split
import Derived.Shelf.Strings.SplitShaped
import Derived.Shelf.Bits.Mul64
import Derived.Shelf.Strings.Repeat
import Derived.Shelf.Unicode.DecodeSlow
import Derived.Test.YtkfbakhnpfmfmaaGreatDoorProg
import Derived.Shelf.GgSortMore.Iface
import Derived.Sort.OwnSortedInts
import Derived.Test.YtkfbakhnpfmfmaaGreatDoorCFnActRead1
import Derived.Laws.AppendOwnNone
import Derived.Laws.BytesArg
import Derived.Lib.ItoaLen
import Derived.Sort.Grow
set_option linter.unusedVariables false
set_option linter.unusedSimpArgs false
set_option linter.unusedSectionVars false
namespace Go.Proofs.YtkfbakhnpfmfmaaGreatDoor
set_option maxRecDepth 10000
open Go.RowKit
set_option linter.unusedVariables false
set_option linter.unusedSimpArgs false
def frz (t:List PV) (m:Mem):Option Unit:=some ()
theorem Cuts.trans {n0:Nat} {t t1 t2:List PV} {m m1 m2:Mem} (h:Cuts n0 t m t1 m1) (k:Cuts n0 t1 m1 t2 m2):Cuts n0 t m t2 m2:=by
 induction h with
 | one h=>exact .two h k
 | two h h' ih=>exact .two h (ih k)
theorem ZrS {P:Program} {n0:Nat} {Q:Exit→List PV→Mem→Prop} {t T:List PV} {m M:Mem} {α β:Type} {F:Unit→Option α} {K:α→Option β} {r:β} {i:Nat} {ops:Array Oper} {draw:Bool}
 (H:((frz T M).bind F).bind K=some r) (hc:Cuts n0 t m T M) (hk:(F ()).bind K=some r→pwp P n0 (.region i ops draw) Q T M):pwp P n0 (.region i ops draw) Q t m:=by
 rcases hk H with h | ⟨t1,m1,h1,h2⟩
 ·exact .inr ⟨T,M,hc,h⟩
 ·exact .inr ⟨t1,m1,hc.trans h1,h2⟩
def drwL (wd:Nat) (fl:List Nat):Option Unit:=some ()
theorem Zo7 {P:Program} {n0:Nat} {Q:Exit→List PV→Mem→Prop} {t:List PV} {m:Mem} {α β:Type} {wd:Nat} {fl:List Nat} {F:Unit→Option α} {K:α→Option β} {r:β} {id:Nat} {ops:List Oper}
 (H:((drwL wd fl).bind F).bind K=some r) (hwd:decide (0<wd)=true) (h1:P.follows .mixedOrders=true) (hk:(F ()).bind K=some r→Zee P wd m.length fl ops.toArray (endD ops (Q .normal)) 0 ops [] t m):pwp P n0 (.region id ops.toArray true) Q t m:=ZrR hwd h1 (hk H)
theorem Zl8 {m m':Mem} {rs:List (Option Nat)} {α:Type} {f:α→List PV} [ZaA f] {xs:List α} {x:α} {cs:List PV} {k k' n:Nat} {T:TK} (hm:look m k=some ⟨T,k',(xs.map f).set n cs⟩) (hc:f x=cs) (hd:Ze9 (rho rs) m' k):CutC (rho rs) m m' (.ms k) (.sl ((xs.set n x).map f)):=by
 subst hc
 refine Zk3 (f:=f) (xs:=xs.set n x) (T:=T) (k':=k') ?_ hd
 rw [hm,List.map_set]
theorem Zow {m m':Mem} {rs:List (Option Nat)} {α:Type} {f:α→List PV} [ZaA f] {xs:List α} {a b:Int} {k k' A B:Nat} {T:TK} (hm:look m k=some ⟨T,k',xs.map f⟩) (hA:A=a.toNat) (hB:B=b.toNat) (hd:Ze9 (rho rs) m' k):CutC (rho rs) m m' (.ss k A B) (.sl ((subL xs a b).map f)):=by
 subst hA hB
 have:=CutC.fss (ρ:=rho rs) (m:=m) (m':=m') k a.toNat b.toNat ⟨T,k',xs.map f⟩ (Zc2.1 hm) Zi4 hd
 simpa only [ZfI,ZfN,subL] using this
def rgI {α:Type} (xs:List α) (i:Int):Option α:=getI xs i
theorem rgH {α β γ:Type} {xs:List α} {i:Int} {F:α→Option β} {K:β→Option γ} {r:γ} (H:((rgI xs i).bind F).bind K=some r):∃ x,getI xs i=some x∧(F x).bind K=some r:=Zi8 H
theorem Ziy {α:Type} {f:α→List PV} {xs:List α} {x:α} {i:Int} {cs:List PV} (h:getI xs i=some x):((xs.map f).set i.toNat cs)[i.toNat]?=some cs:=by
 rw [List.getElem?_set_self]
 have:=(List.getElem?_eq_some_iff.1 (Zgq h).2).1
 simpa using this
theorem ZoQ {P:Program} {m:Mem} {KR:PV→Prop} {α:Type} [ZbA α] {xs:List α} {x:α} {T:TypeId} {T':TK} {l k' n:Nat} {cs:List PV} {i:Int} {k:IntKind} (h:getI xs i=some x) (hm:look m l=some ⟨T',k',(xs.map ZbA.c).set n cs⟩) (hp:0<Zel P T) (hk:k'=Zel P T) (hK:KR (.be l i.toNat 0)):ZY P m T (.ms l) (.v (.int k i)) KR:=by
 obtain ⟨h1,h2,h3⟩:=Znx h
 obtain ⟨e,hu,he⟩:=ZgM hp
 rw [he] at hk
 simp only [ZY,hu,Zez,hm,List.length_map,List.length_set]
 exact ⟨h1,h2,hk,hK⟩
attribute [go_sem] List.length_set List.set_set
def frzL {α:Type} (x:α) (t:α→List PV) (m:α→Mem):Option α:=some x
theorem Zo9 {P:Program} {n0:Nat} {Q:Exit→List PV→Mem→Prop} {t:List PV} {m:Mem} {ξ α β:Type} {x:ξ} {T:ξ→List PV} {M:ξ→Mem} {F:ξ→Option α} {K:α→Option β} {r:β} {i:Nat} {ops:Array Oper} {draw:Bool}
 (H:((frzL x T M).bind F).bind K=some r) (hc:Cuts n0 t m (T x) (M x)) (hk:∀ z,(F z).bind K=some r→pwp P n0 (.region i ops draw) Q (T z) (M z)):pwp P n0 (.region i ops draw) Q t m:=by
 rcases hk x H with h | ⟨t1,m1,h1,h2⟩
 ·exact .inr ⟨T x,M x,hc,h⟩
 ·exact .inr ⟨t1,m1,hc.trans h1,h2⟩
def rhoM (ρ:List Nat):Option Unit:=some ()
theorem Zqt {R α β:Type} {P:Program} {ρ:List Nat} {A:Option R} [C:CT P A] {F:Unit→Option α} {G:R→Option α} {K:α→Option β} {r:β} {f:FuncId} {ps:List PV} {io:Bool} {wd ν:Nat} {m:Mem} {KA:PV→Mem→Prop}
 (H:((rhoM ρ).bind F).bind K=some r) (hF:F ()=A.bind G) (hf:C.f=f) (hio:io=true) (hps:ps=C.args.map (renA (sig ρ ν))) (hq:∀ q∈C.args,Zfh false q∧lowA C.m0.length q=true) (hn:ρ.Nodup) (hin:Zfe (sig ρ ν) m C.m0.length ρ C.m0)
 (hlen:∀ y,C.m0.length≤(C.mem y).length∧(C.mem y).length-C.m0.length≤wd) (hm:∀ y,∀ mb,some mb∈C.mem y→∀ cs∈mb.es,∀ p∈cs,ZaL false p) (hg:∀ y,Zfi false (C.res y))
 (hk:∀ y,A=some y→(G y).bind K=some r→KA (renV (sig ρ ν) (C.res y)) (ZcW (sig ρ ν) ν ((C.mem y).drop ρ.length) (ZeK (sig ρ ν) ρ (C.mem y) m))):ZfX P io wd ν f ps m KA:=by
 have H':(F ()).bind K=some r:=H
 rw [hF] at H'
 obtain ⟨y,hy,H2⟩:=Zi8 H'
 subst hf
 exact .inr ⟨ρ,C.m0,C.args,C.res y,C.mem y,.inl hio,C.ok hy,(hlen y).1,(hlen y).2,hps,hq,hn,hin,hm y,hg y,hk y hy H2⟩
theorem Zok {R α β:Type} {P:Program} {ρ:List Nat} {A:Option R} [C:CT P A] {F:Unit→Option α} {G:R→Option α} {K:α→Option β} {r:β} {f:FuncId} {ps:List PV} {wd ν:Nat} {m:Mem} {KA:List Nat→PV→Mem→Prop}
 (H:((rhoM ρ).bind F).bind K=some r) (hF:F ()=A.bind G) (hf:C.f=f) (hps:ps=C.args.map (renA (sig ρ ν))) (hq:∀ q∈C.args,Zfh false q∧lowA C.m0.length q=true) (hn:ρ.Nodup) (hin:Zfe (sig ρ ν) m C.m0.length ρ C.m0)
 (hlen:∀ y,C.m0.length≤(C.mem y).length∧(C.mem y).length-C.m0.length≤wd) (hm:∀ y,∀ mb,some mb∈C.mem y→∀ cs∈mb.es,∀ p∈cs,ZaL false p) (hg:∀ y,Zfi false (C.res y))
 (hk:∀ y,A=some y→(G y).bind K=some r→KA ρ (renV (sig ρ ν) (C.res y)) (ZcW (sig ρ ν) ν ((C.mem y).drop ρ.length) (ZeK (sig ρ ν) ρ (C.mem y) m))):pIO P wd ν f ps m KA:=by
 have H':(F ()).bind K=some r:=H
 rw [hF] at H'
 obtain ⟨y,hy,H2⟩:=Zi8 H'
 subst hf
 exact ⟨ρ,C.m0,C.args,C.res y,C.mem y,C.ok hy,(hlen y).1,(hlen y).2,hps,hq,hn,hin,hm y,hg y,hk y hy H2⟩
def ZuF:Prop:=True
theorem rhoH {α β:Type} {ρ:List Nat} {F:Unit→Option α} {K:α→Option β} {r:β} (H:((rhoM ρ).bind F).bind K=some r):ZuF:=trivial
theorem rhoS {P:Program} {f:FuncId} {ps:List PV} {io:Bool} {wd ν:Nat} {m:Mem} {KA:PV→Mem→Prop} (h:ZuF) (hk:ZfX P io wd ν f ps m KA):ZfX P io wd ν f ps m KA:=hk
theorem ZwV {P:Program} {f:FuncId} {ps:List PV} {wd ν:Nat} {m:Mem} {KA:List Nat→PV→Mem→Prop} (h:ZuF) (hk:pIO P wd ν f ps m KA):pIO P wd ν f ps m KA:=hk
theorem ZgS {σ:Nat→Nat} {m:Mem} {n:Nat}:Zfe σ m n [] []:=trivial
theorem Ztm {n:Nat} {p:PV} (h:isC p=true):lowC n p=true:=by
 cases p with
 | fn f cs=>
  simp only [isC,List.all_eq_true] at h
  simp only [lowC,List.all_eq_true]
  intro c hc
  have:=h c hc
  cases c <;> simp_all [isC1,low1]
 | _=>simp_all [isC,isC1,lowC,low1]
theorem ZgR {α:Type} {f:α→List PV} [hf:ZaA f] {σ:Nat→Nat} {m:Mem} {T:TK} {n l k:Nat} {xs:List α} {ρ:List Nat} {m0:Mem} (hl:look m l=some ⟨T,k,xs.map f⟩) (h:Zfe σ m n ρ m0):Zfe σ m n (l::ρ) (some ⟨T,k,xs.map f⟩::m0):=by
 refine ⟨?_,fun cs hcs p hp=>?_,h⟩
 ·rw [Zc2.1 hl]
  simp only [Ze5,ZmT]
 ·obtain ⟨x,_,rfl⟩:=List.mem_map.1 hcs
  exact ⟨ZgP (hf.h x p hp),Ztm (hf.h x p hp)⟩
theorem ZgT {σ:Nat→Nat} {m:Mem} {T:TK} {n l k:Nat} {cs cs':List PV} {ρ:List Nat} {m0:Mem} (hl:look m l=some ⟨T,k,[cs']⟩) (hc:cs'=cs.map (renC σ)) (hg:∀ p∈cs,ZaL false p∧lowC n p=true) (h:Zfe σ m n ρ m0):Zfe σ m n (l::ρ) (some ⟨T,k,[cs]⟩::m0):=by
 subst hc
 refine ⟨Zc2.1 hl,fun ds hds p hp=>?_,h⟩
 obtain rfl:ds=cs:=by simpa using hds
 exact hg p hp
@[irreducible] def jn {ο α:Type} (i j:Nat) (J:Option (ο ⊕ α)) (T:ο→List PV) (M:ο→Mem):Option (ο ⊕ α):=J
def hdC:Code→Bool
 | .region _ _ _=>true
 | .loop _=>true
 | .seq a _=>hdC a
 | .block _ c=>hdC c
 | _=>false
def idC:Code→Nat
 | .region i _ _=>i
 | .loop c=>idC c
 | .seq a _=>idC a
 | .block _ c=>idC c
 | _=>0
theorem Zlt {P:Program} {n0:Nat}:∀ (c:Code),hdC c=true→∀ {Q:Exit→List PV→Mem→Prop} {t T:List PV} {m M:Mem},Cuts n0 t m T M→pwp P n0 c Q T M→pwp P n0 c Q t m
 | .region i ops draw,_,Q,t,T,m,M,hc,h=>by
  rcases h with h | ⟨t1,m1,h1,h2⟩
  ·exact .inr ⟨T,M,hc,h⟩
  ·exact .inr ⟨t1,m1,hc.trans h1,h2⟩
 | .loop c,_,Q,t,T,m,M,hc,h=>by
  obtain ⟨I,n,t0,m0,h1,h2⟩:=h
  exact ⟨I,n,t0,m0,hc.trans h1,h2⟩
 | .seq a b,hd,Q,t,T,m,M,hc,h=>Zlt a hd hc h
 | .block i c,hd,Q,t,T,m,M,hc,h=>Zlt c hd hc h
theorem ZrT {P:Program} {n0:Nat} {Q:Exit→List PV→Mem→Prop} {t:List PV} {m:Mem} {a b:Code} {ο α β γ:Type} {J:Option (ο ⊕ α)} {T:ο→List PV} {M:ο→Mem} {G:ο→Option β} {F:α→Option β} {K:β→Option γ} {r:γ}
 {i j:Nat} (H:((jn i j J T M).bind (Zu G F)).bind K=some r) (hd:hdC b=true) (hi:(idC a == i && idC b == j)=true)
 (h1:∀ K':List PV→Mem→Prop,(∀ o t' m',(G o).bind K=some r→Cuts n0 t' m' (T o) (M o)→K' t' m')→J.bind (Zu (fun o=>(G o).bind K) (fun v=>(F v).bind K))=some r→pwp P n0 a (ZgH K' Q) t m)
 (h2:∀ o,(G o).bind K=some r→pwp P n0 b Q (T o) (M o)):pwp P n0 (.seq a b) Q t m:=by
 unfold jn at H
 refine h1 (fun t m=>pwp P n0 b Q t m) (fun o t' m' h hc=>Zlt b hd hc (h2 o h)) ?_
 cases J with
 | none=>cases H
 | some x=>cases x <;> exact H
theorem jnX {ο α β:Type} {n0:Nat} {s:ο} {F:ο→Option β} {K:α→Option β} {r:β} {Kp:List PV→Mem→Prop} {T:ο→List PV} {M:ο→Mem} {t:List PV} {m:Mem} (H:(some (Sum.inl s)).bind (Zu F K)=some r) (hL:∀ o t' m',F o=some r→Cuts n0 t' m' (T o) (M o)→Kp t' m') (hc:Cuts n0 t m (T s) (M s)):Kp t m:=hL s t m H hc
def IsJn:Prop:=True
theorem jnH {ο α β γ:Type} {i j:Nat} {J:Option (ο ⊕ α)} {T:ο→List PV} {M:ο→Mem} {G:(ο ⊕ α)→Option β} {K:β→Option γ} {r:γ} (H:((jn i j J T M).bind G).bind K=some r):IsJn:=trivial
theorem jnS {P:Program} {n0:Nat} {Q:Exit→List PV→Mem→Prop} {t:List PV} {m:Mem} {a b:Code} (h:IsJn) (hk:pwp P n0 (.seq a b) Q t m):pwp P n0 (.seq a b) Q t m:=hk
theorem Zn7 {K K2:List PV→Mem→Prop} {Q:Exit→List PV→Mem→Prop}:ZgH K (ZgH K2 Q)=ZgH K Q:=by
 funext e t m
 cases e <;> rfl
theorem ZrQ {P:Program} {n0:Nat} {Q:Exit→List PV→Mem→Prop} {t:List PV} {m:Mem} {a b c:Code} (h:pwp P n0 (.seq (.seq a b) c) Q t m):pwp P n0 (.seq a (.seq b c)) Q t m:=by
 have e:pwp P n0 (.seq (.seq a b) c) Q t m=pwp P n0 a (ZgH (fun t m=>pwp P n0 b (ZgH (fun t m=>pwp P n0 c Q t m) Q) t m) (ZgH (fun t m=>pwp P n0 c Q t m) Q)) t m:=by simp only [pwp]
 rw [e,Zn7] at h
 simp only [pwp]
 exact h
theorem ZrU {P:Program} {n0:Nat} {Q:Exit→List PV→Mem→Prop} {t:List PV} {m:Mem} {a b c:Code} {ο α β γ:Type} {J:Option (ο ⊕ α)} {T:ο→List PV} {M:ο→Mem} {G:ο→Option β} {F:α→Option β} {K:β→Option γ} {r:γ}
 {i j:Nat} (H:((jn i j J T M).bind (Zu G F)).bind K=some r) (hd:hdC c=true) (hi:(idC a == i && idC c == j)=true)
 (h1:∀ K':List PV→Mem→Prop,(∀ o t' m',(G o).bind K=some r→Cuts n0 t' m' (T o) (M o)→K' t' m')→J.bind (Zu (fun o=>(G o).bind K) (fun v=>(F v).bind K))=some r→pwp P n0 (.seq a b) (ZgH K' Q) t m)
 (h2:∀ o,(G o).bind K=some r→pwp P n0 c Q (T o) (M o)):pwp P n0 (.seq a (.seq b c)) Q t m:=ZrQ (ZrT H hd hi h1 h2)
inductive SubC:PV→PV→Prop
 | r (p:PV):SubC p p
 | nil (c:Nat):SubC (.v (.slice none 0 c)) (.sl [])
 | un (p:PV):SubC p .un
inductive SubL:List PV→List PV→Prop
 | n:SubL [] []
 | c {p q:PV} {ps qs:List PV} (h:SubC p q) (k:SubL ps qs):SubL (p::ps) (q::qs)
inductive SubV:PV→PV→Prop
 | c {p q:PV} (h:SubC p q):SubV p q
 | ag {cs ds:List PV} (h:SubL cs ds):SubV (.ag cs) (.ag ds)
inductive SubA:List PV→List PV→Prop
 | n:SubA [] []
 | c {p q:PV} {ps qs:List PV} (h:SubV p q) (k:SubA ps qs):SubA (p::ps) (q::qs)
theorem SubC.rep {w:World} {E:Env} {p q:PV} {x:Value} (h:SubC p q) (hr:Rep w E p x):Rep w E q x:=by
 cases h with
 | r=>exact hr
 | nil c=>
  cases hr with
  | c h=>cases h with
   | v _ _=>exact .c (.nil none c)
 | un=>exact .c (.un x)
theorem SubL.len {cs ds:List PV} (h:SubL cs ds):cs.length=ds.length:=by
 induction h with
 | n=>rfl
 | c _ _ ih=>simp [ih]
theorem SubL.get {cs ds:List PV} (h:SubL cs ds):∀ (j:Nat) (q:PV),ds[j]?=some q→∃ p,cs[j]?=some p∧SubC p q:=by
 induction h with
 | n=>intro j q hq; simp at hq
 | c h k ih=>
  intro j q hq
  cases j with
  | zero=>simp at hq; subst hq; exact ⟨_,by simp,h⟩
  | succ j=>simpa using ih j q (by simpa using hq)
theorem SubV.rep {w:World} {E:Env} {p q:PV} {x:Value} (h:SubV p q) (hr:Rep w E p x):Rep w E q x:=by
 cases h with
 | c h=>exact h.rep hr
 | ag h=>
  obtain ⟨vs,rfl,hl,h1,hc⟩:=Rep.ag_inv hr
  exact .ag _ vs (by rw [hl,h.len]) h1 fun j p y hp hy=>by
   obtain ⟨p',hp',hs⟩:=h.get j p hp
   exact hs.rep (hc j p' y hp' hy)
theorem SubA.len {cs ds:List PV} (h:SubA cs ds):cs.length=ds.length:=by
 induction h with
 | n=>rfl
 | c _ _ ih=>simp [ih]
theorem SubA.get {cs ds:List PV} (h:SubA cs ds):∀ (j:Nat) (q:PV),ds[j]?=some q→∃ p,cs[j]?=some p∧SubV p q:=by
 induction h with
 | n=>intro j q hq; simp at hq
 | c h k ih=>
  intro j q hq
  cases j with
  | zero=>simp at hq; subst hq; exact ⟨_,by simp,h⟩
  | succ j=>simpa using ih j q (by simpa using hq)
theorem Zd1.weak {P:Program} {f:FuncId} {ps qs:List PV} {m0:Mem} {r:PV} {m1:Mem} (h:Zd1 P f qs m0 r m1) (hs:SubA ps qs):Zd1 P f ps m0 r m1:=by
 intro S β w vs ω hok hl ha
 refine h S β w vs ω hok (by rw [hl,hs.len]) fun i q hq=>?_
 obtain ⟨p,hp,hv⟩:=hs.get i q hq
 obtain ⟨x,hx,hr⟩:=ha i p hp
 exact ⟨x,hx,hv.rep hr⟩
def isCM:PV→Bool
 | .ms _=>true
 | p=>isC p
def ZwH:PV→Bool
 | .ag cs=>cs.all isCM
 | .tu _=>false
 | p=>isCM p
theorem ZoN {p:PV} (h:isCM p=true):ZaL false p:=by
 cases p with
 | ms l=>simp [ZaL]
 | _=>exact ZgP h
theorem ZoJ {cs:List PV} (h:cs.all isCM=true):Zfi false (.ag cs):=fun c hc=>ZoN (List.all_eq_true.1 h c hc)
theorem ZoK {ps:List PV} (h:ps.all ZwH=true):Zfi false (.tu ps):=by
 intro c hc
 have:=List.all_eq_true.1 h c hc
 cases c with
 | ag cs=>exact fun d hd=>ZoN (List.all_eq_true.1 this d hd)
 | tu vs=>simp [ZwH] at this
 | fn f cs=>exact ZgP (c:=.fn f cs) this
 | _=>simp [Zfh,ZaL]
theorem Zjh {m m':Mem} {ρ:Nat→Option Nat} {c:Nat}:CutC ρ m m' (.v (.slice none 0 c)) (.sl []):=.nilsl c
theorem ZjV {m m':Mem} {rs rr:List (Option Nat)} {T:TK} {k:Nat} {mm:Mem} (hk:decide (0<k)=true) (h:ZaM rs m m' rr mm):ZaM rs m m' (none::rr) (some ⟨T,k,[]⟩::mm):=⟨⟨rfl,of_decide_eq_true hk⟩,h⟩
theorem Zuo {i:Nat} {rs:List (Option Nat)} {m:Mem}:lowB 0 i rs m=true:=rfl
theorem Zup {n i:Nat} {rs:List (Option Nat)} {mb:MB} {m:Mem} (h:lowB n (i+1) rs m=true):lowB (n+1) i (some i::rs) (some mb::m)=true:=by simp [lowB,h]
theorem Zuq {n i:Nat} {rs:List (Option Nat)} {m:Mem} (h:lowB n (i+1) rs m=true):lowB (n+1) i (none::rs) (none::m)=true:=by simpa [lowB] using h
theorem Zt8 {n0:Nat} {t t':List PV} {m:Mem} (hl:lowB n0 0 [] []=true) (hT:cutT (rho []) m [] t t') (hM:ZaM [] m [] [] []) (hi:injB []=true):Cuts n0 t m t' []:=Zdd hT hM hi hl
theorem Zt9 {n0:Nat} {t t':List PV} {m:Mem} {a:Option MB} (r0:Option Nat) (hl:lowB n0 0 [r0] [a]=true) (hT:cutT (rho [r0]) m [a] t t') (hM:ZaM [r0] m [a] [r0] [a]) (hi:injB [r0]=true):Cuts n0 t m t' [a]:=Zdd hT hM hi hl
theorem Zua {n0:Nat} {t t':List PV} {m:Mem} {a b:Option MB} (r0 r1:Option Nat) (hl:lowB n0 0 [r0,r1] [a,b]=true) (hT:cutT (rho [r0,r1]) m [a,b] t t') (hM:ZaM [r0,r1] m [a,b] [r0,r1] [a,b]) (hi:injB [r0,r1]=true):Cuts n0 t m t' [a,b]:=Zdd hT hM hi hl
theorem Zub {n0:Nat} {t t':List PV} {m:Mem} {a b c:Option MB} (r0 r1 r2:Option Nat) (hl:lowB n0 0 [r0,r1,r2] [a,b,c]=true) (hT:cutT (rho [r0,r1,r2]) m [a,b,c] t t') (hM:ZaM [r0,r1,r2] m [a,b,c] [r0,r1,r2] [a,b,c]) (hi:injB [r0,r1,r2]=true):Cuts n0 t m t' [a,b,c]:=Zdd hT hM hi hl
theorem Zuc {n0:Nat} {t t':List PV} {m:Mem} {a b c d:Option MB} (r0 r1 r2 r3:Option Nat) (hl:lowB n0 0 [r0,r1,r2,r3] [a,b,c,d]=true) (hT:cutT (rho [r0,r1,r2,r3]) m [a,b,c,d] t t') (hM:ZaM [r0,r1,r2,r3] m [a,b,c,d] [r0,r1,r2,r3] [a,b,c,d]) (hi:injB [r0,r1,r2,r3]=true):Cuts n0 t m t' [a,b,c,d]:=Zdd hT hM hi hl
theorem Zud {n0:Nat} {t t':List PV} {m:Mem} {a b c d e:Option MB} (r0 r1 r2 r3 r4:Option Nat) (hl:lowB n0 0 [r0,r1,r2,r3,r4] [a,b,c,d,e]=true) (hT:cutT (rho [r0,r1,r2,r3,r4]) m [a,b,c,d,e] t t') (hM:ZaM [r0,r1,r2,r3,r4] m [a,b,c,d,e] [r0,r1,r2,r3,r4] [a,b,c,d,e]) (hi:injB [r0,r1,r2,r3,r4]=true):Cuts n0 t m t' [a,b,c,d,e]:=Zdd hT hM hi hl
theorem Zue {n0:Nat} {t t':List PV} {m:Mem} {a b c d e f:Option MB} (r0 r1 r2 r3 r4 r5:Option Nat) (hl:lowB n0 0 [r0,r1,r2,r3,r4,r5] [a,b,c,d,e,f]=true) (hT:cutT (rho [r0,r1,r2,r3,r4,r5]) m [a,b,c,d,e,f] t t') (hM:ZaM [r0,r1,r2,r3,r4,r5] m [a,b,c,d,e,f] [r0,r1,r2,r3,r4,r5] [a,b,c,d,e,f]) (hi:injB [r0,r1,r2,r3,r4,r5]=true):Cuts n0 t m t' [a,b,c,d,e,f]:=Zdd hT hM hi hl
theorem Zuf {n0:Nat} {t t':List PV} {m:Mem} {a b c d e f g:Option MB} (r0 r1 r2 r3 r4 r5 r6:Option Nat) (hl:lowB n0 0 [r0,r1,r2,r3,r4,r5,r6] [a,b,c,d,e,f,g]=true) (hT:cutT (rho [r0,r1,r2,r3,r4,r5,r6]) m [a,b,c,d,e,f,g] t t') (hM:ZaM [r0,r1,r2,r3,r4,r5,r6] m [a,b,c,d,e,f,g] [r0,r1,r2,r3,r4,r5,r6] [a,b,c,d,e,f,g]) (hi:injB [r0,r1,r2,r3,r4,r5,r6]=true):Cuts n0 t m t' [a,b,c,d,e,f,g]:=Zdd hT hM hi hl
theorem Zug {n0:Nat} {t t':List PV} {m:Mem} {a b c d e f g h:Option MB} (r0 r1 r2 r3 r4 r5 r6 r7:Option Nat) (hl:lowB n0 0 [r0,r1,r2,r3,r4,r5,r6,r7] [a,b,c,d,e,f,g,h]=true) (hT:cutT (rho [r0,r1,r2,r3,r4,r5,r6,r7]) m [a,b,c,d,e,f,g,h] t t') (hM:ZaM [r0,r1,r2,r3,r4,r5,r6,r7] m [a,b,c,d,e,f,g,h] [r0,r1,r2,r3,r4,r5,r6,r7] [a,b,c,d,e,f,g,h]) (hi:injB [r0,r1,r2,r3,r4,r5,r6,r7]=true):Cuts n0 t m t' [a,b,c,d,e,f,g,h]:=Zdd hT hM hi hl
theorem Zuh {n0:Nat} {t t':List PV} {m:Mem} {a b c d e f g h i:Option MB} (r0 r1 r2 r3 r4 r5 r6 r7 r8:Option Nat) (hl:lowB n0 0 [r0,r1,r2,r3,r4,r5,r6,r7,r8] [a,b,c,d,e,f,g,h,i]=true) (hT:cutT (rho [r0,r1,r2,r3,r4,r5,r6,r7,r8]) m [a,b,c,d,e,f,g,h,i] t t') (hM:ZaM [r0,r1,r2,r3,r4,r5,r6,r7,r8] m [a,b,c,d,e,f,g,h,i] [r0,r1,r2,r3,r4,r5,r6,r7,r8] [a,b,c,d,e,f,g,h,i]) (hi:injB [r0,r1,r2,r3,r4,r5,r6,r7,r8]=true):Cuts n0 t m t' [a,b,c,d,e,f,g,h,i]:=Zdd hT hM hi hl
theorem ZqG {n0:Nat} {t t':List PV} {m:Mem} {a b c d e f g h i j:Option MB} (r0 r1 r2 r3 r4 r5 r6 r7 r8 r9:Option Nat) (hl:lowB n0 0 [r0,r1,r2,r3,r4,r5,r6,r7,r8,r9] [a,b,c,d,e,f,g,h,i,j]=true) (hT:cutT (rho [r0,r1,r2,r3,r4,r5,r6,r7,r8,r9]) m [a,b,c,d,e,f,g,h,i,j] t t') (hM:ZaM [r0,r1,r2,r3,r4,r5,r6,r7,r8,r9] m [a,b,c,d,e,f,g,h,i,j] [r0,r1,r2,r3,r4,r5,r6,r7,r8,r9] [a,b,c,d,e,f,g,h,i,j]) (hi:injB [r0,r1,r2,r3,r4,r5,r6,r7,r8,r9]=true):Cuts n0 t m t' [a,b,c,d,e,f,g,h,i,j]:=Zdd hT hM hi hl
theorem ZqH {n0:Nat} {t t':List PV} {m:Mem} {a b c d e f g h i j k:Option MB} (r0 r1 r2 r3 r4 r5 r6 r7 r8 r9 r10:Option Nat) (hl:lowB n0 0 [r0,r1,r2,r3,r4,r5,r6,r7,r8,r9,r10] [a,b,c,d,e,f,g,h,i,j,k]=true) (hT:cutT (rho [r0,r1,r2,r3,r4,r5,r6,r7,r8,r9,r10]) m [a,b,c,d,e,f,g,h,i,j,k] t t') (hM:ZaM [r0,r1,r2,r3,r4,r5,r6,r7,r8,r9,r10] m [a,b,c,d,e,f,g,h,i,j,k] [r0,r1,r2,r3,r4,r5,r6,r7,r8,r9,r10] [a,b,c,d,e,f,g,h,i,j,k]) (hi:injB [r0,r1,r2,r3,r4,r5,r6,r7,r8,r9,r10]=true):Cuts n0 t m t' [a,b,c,d,e,f,g,h,i,j,k]:=Zdd hT hM hi hl
theorem ZqI {n0:Nat} {t t':List PV} {m:Mem} {a b c d e f g h i j k l:Option MB} (r0 r1 r2 r3 r4 r5 r6 r7 r8 r9 r10 r11:Option Nat) (hl:lowB n0 0 [r0,r1,r2,r3,r4,r5,r6,r7,r8,r9,r10,r11] [a,b,c,d,e,f,g,h,i,j,k,l]=true) (hT:cutT (rho [r0,r1,r2,r3,r4,r5,r6,r7,r8,r9,r10,r11]) m [a,b,c,d,e,f,g,h,i,j,k,l] t t') (hM:ZaM [r0,r1,r2,r3,r4,r5,r6,r7,r8,r9,r10,r11] m [a,b,c,d,e,f,g,h,i,j,k,l] [r0,r1,r2,r3,r4,r5,r6,r7,r8,r9,r10,r11] [a,b,c,d,e,f,g,h,i,j,k,l]) (hi:injB [r0,r1,r2,r3,r4,r5,r6,r7,r8,r9,r10,r11]=true):Cuts n0 t m t' [a,b,c,d,e,f,g,h,i,j,k,l]:=Zdd hT hM hi hl
theorem ZbO {b:Bool} {T:TK} {k:Nat} {es:List (List PV)} (h:∀ cs∈es,∀ p∈cs,ZaL b p):∀ mb,some mb∈([some ⟨T,k,es⟩]:Mem)→∀ cs∈mb.es,∀ p∈cs,ZaL b p:=by
 intro mb hm
 simp only [List.mem_singleton,Option.some.injEq] at hm
 subst hm
 exact h
theorem Zjv {m:Mem} {b:Bool} (h2:∀ mb,some mb∈m→∀ cs∈mb.es,∀ p∈cs,ZaL b p):∀ mb,some mb∈((none:Option MB)::m)→∀ cs∈mb.es,∀ p∈cs,ZaL b p:=by
 intro mb h
 rcases List.mem_cons.1 h with h | h
 ·cases h
 ·exact h2 mb h
theorem hm_e {T:TK} {k:Nat} {b:Bool}:∀ mb,some mb∈([some ⟨T,k,[]⟩]:Mem)→∀ cs∈mb.es,∀ p∈cs,ZaL b p:=ZbO (by simp)
theorem Zwb {α β:Type} {K:α→Option β} {r:β} (h:(none:Option α).bind K=some r):False:=by cases h
theorem Zmd {n:Nat} {a b a2 b2:Int} {c c2:ByteArray}:eqT Tryz.prog (n+3) 23 [vi a,vi b,vs c] [vi a2,vi b2,vs c2]=some (decide ((⟨a,b,c⟩:Zw)=(⟨a2,b2,c2⟩:Zw))):=by
 simp only [eqT,Tryz.underlying3,Tryz.underlying23,ts23,Tryz.underlying9,Program.fieldsOf,go_sem]
 simp [tc23,tc3,tc9]
 rw [baB]; rfl
@[go_sem] theorem Zwy {a b a2 b2:Int} {c c2:ByteArray} {KR:PV→Prop}:eqK Tryz.prog .eql 23 [vi a,vi b,vs c] [vi a2,vi b2,vs c2] KR=KR (vb (decide ((⟨a,b,c⟩:Zw)=(⟨a2,b2,c2⟩:Zw)))):=by unfold eqK; rw [show (10000:Nat)=9997+3 from rfl,Zmd,Tryz.underlying23]; simp only [te23,true_and]
@[go_sem] theorem ZwO {a b a2 b2:Int} {c c2:ByteArray} {KR:PV→Prop}:eqK Tryz.prog .neq 23 [vi a,vi b,vs c] [vi a2,vi b2,vs c2] KR=KR (vb (!decide ((⟨a,b,c⟩:Zw)=(⟨a2,b2,c2⟩:Zw)))):=by unfold eqK; rw [show (10000:Nat)=9997+3 from rfl,Zmd,Tryz.underlying23]; simp only [te23,true_and]
theorem ZqS {n:Nat} {a a2:ByteArray} {b b2:ByteArray} {c c2:Int} {d d2:Int} {e e2:Int} {f f2:Int}:eqT Tryz.prog (n+3) 133 [vs a,vs b,vi c,vi d,vi e,vi f] [vs a2,vs b2,vi c2,vi d2,vi e2,vi f2]=some (decide ((⟨a,b,c,d,e,f⟩:YLeg)=(⟨a2,b2,c2,d2,e2,f2⟩:YLeg))):=by
 simp only [eqT,Tryz.underlying3,Tryz.underlying133,ZxQ,Tryz.underlying9,Program.fieldsOf,go_sem]
 simp [ZxN,tc3,tc9,baB]
 rfl
@[go_sem] theorem Zxy {a a2:ByteArray} {b b2:ByteArray} {c c2:Int} {d d2:Int} {e e2:Int} {f f2:Int} {KR:PV→Prop}:eqK Tryz.prog .eql 133 [vs a,vs b,vi c,vi d,vi e,vi f] [vs a2,vs b2,vi c2,vi d2,vi e2,vi f2] KR=KR (vb (decide ((⟨a,b,c,d,e,f⟩:YLeg)=(⟨a2,b2,c2,d2,e2,f2⟩:YLeg)))):=by unfold eqK; rw [show (10000:Nat)=9997+3 from rfl,ZqS,Tryz.underlying133]; simp only [Zw8,true_and]
@[go_sem] theorem ZxB {a a2:ByteArray} {b b2:ByteArray} {c c2:Int} {d d2:Int} {e e2:Int} {f f2:Int} {KR:PV→Prop}:eqK Tryz.prog .neq 133 [vs a,vs b,vi c,vi d,vi e,vi f] [vs a2,vs b2,vi c2,vi d2,vi e2,vi f2] KR=KR (vb (!decide ((⟨a,b,c,d,e,f⟩:YLeg)=(⟨a2,b2,c2,d2,e2,f2⟩:YLeg)))):=by unfold eqK; rw [show (10000:Nat)=9997+3 from rfl,ZqS,Tryz.underlying133]; simp only [Zw8,true_and]
theorem ZoG {n:Nat} {a a2:Int} {b b2:Int} {c c2:Int} {d d2:ByteArray} {e e2:Int} {f f2:Int}:eqT Tryz.prog (n+3) 233 [vi a,vi b,vi c,vs d,vi e,vi f] [vi a2,vi b2,vi c2,vs d2,vi e2,vi f2]=some (decide ((⟨a,b,c,d,⟨e,f⟩⟩:ZU)=(⟨a2,b2,c2,d2,⟨e2,f2⟩⟩:ZU))):=by
 simp only [eqT,Tryz.underlying3,Tryz.underlying233,ZxS,Tryz.underlying28,ts28,Tryz.underlying9,Program.fieldsOf,go_sem]
 simp [ZxP,tc28,tc3,tc9,baB]
 rfl
@[go_sem] theorem Zxj {a a2:Int} {b b2:Int} {c c2:Int} {d d2:ByteArray} {e e2:Int} {f f2:Int} {KR:PV→Prop}:eqK Tryz.prog .eql 233 [vi a,vi b,vi c,vs d,vi e,vi f] [vi a2,vi b2,vi c2,vs d2,vi e2,vi f2] KR=KR (vb (decide ((⟨a,b,c,d,⟨e,f⟩⟩:ZU)=(⟨a2,b2,c2,d2,⟨e2,f2⟩⟩:ZU)))):=by unfold eqK; rw [show (10000:Nat)=9997+3 from rfl,ZoG,Tryz.underlying233]; simp only [Zxa,true_and]
@[go_sem] theorem Zxl {a a2:Int} {b b2:Int} {c c2:Int} {d d2:ByteArray} {e e2:Int} {f f2:Int} {KR:PV→Prop}:eqK Tryz.prog .neq 233 [vi a,vi b,vi c,vs d,vi e,vi f] [vi a2,vi b2,vi c2,vs d2,vi e2,vi f2] KR=KR (vb (!decide ((⟨a,b,c,d,⟨e,f⟩⟩:ZU)=(⟨a2,b2,c2,d2,⟨e2,f2⟩⟩:ZU)))):=by unfold eqK; rw [show (10000:Nat)=9997+3 from rfl,ZoG,Tryz.underlying233]; simp only [Zxa,true_and]
set_option maxRecDepth 4000
theorem Zov {ρ:Nat→Option Nat} {m m':Mem} {f:FuncId} {cs ds:List PV} (h:cutL ρ m m' cs ds):CutC ρ m m' (.fn f cs) (.fn f ds):=by
 have key:∀ (cs ds:List PV),cutL ρ m m' cs ds→ds.length=cs.length∧∀ (j:Nat) (p r:PV),cs[j]?=some p→ds[j]?=some r→CutC ρ m m' p r:=by
  intro cs
  induction cs with
  | nil=>intro ds h; cases ds with
   | nil=>exact ⟨rfl,by simp⟩
   | cons d ds=>exact h.elim
  | cons c cs ih=>intro ds h; cases ds with
   | nil=>exact h.elim
   | cons d ds=>
    obtain ⟨h1,h2⟩:=h
    obtain ⟨k1,k2⟩:=ih ds h2
    refine ⟨by simp [k1],fun j p r hp hr=>?_⟩
    cases j with
    | zero=>simp at hp hr; subst hp hr; exact h1
    | succ j=>simp at hp hr; exact k2 j p r hp hr
 obtain ⟨a,b⟩:=key cs ds h
 exact .fn f cs ds a b
theorem Zk9 {α:Type} {xs:List α} {n:Nat} {y:α} {c:α→List PV} (h:getI xs (n:Int)=some y):(xs.map c)[n]?=some (c y):=by
 unfold getI at h
 rw [if_pos (Int.natCast_nonneg n),Int.toNat_natCast] at h
 rw [List.getElem?_map,h]; rfl
theorem lit3 {a b c i y:Int} (h:getI [a,b,c] i=some y):([[PV.v (.int .i64 a)],[PV.v (.int .i64 b)],[PV.v (.int .i64 c)]]:List (List PV))[i.toNat]?=some [PV.v (.int .i64 y)]:=by
 have:([[PV.v (.int .i64 a)],[PV.v (.int .i64 b)],[PV.v (.int .i64 c)]]:List (List PV))=[a,b,c].map cInt:=rfl
 rw [this]; exact Zg8 h
theorem Ztl {a b c y:ByteArray} {i:Int} (h:getI [a,b,c] i=some y):([[PV.v (.string a)],[PV.v (.string b)],[PV.v (.string c)]]:List (List PV))[i.toNat]?=some [PV.v (.string y)]:=by
 have:([[PV.v (.string a)],[PV.v (.string b)],[PV.v (.string c)]]:List (List PV))=[a,b,c].map cStr:=rfl
 rw [this]; exact Zg8 h
theorem Zrv {P:Program} {io:Bool} {wd ν:Nat} {f:FuncId} {cs ps:List PV} {m:Mem} {K:PV→Mem→Prop} (h1:∀ c∈cs,isR c=true) (h2:isFn P f) (h3:ZfX P io wd ν f (ps++cs) m K):pDyn P io wd ν (.fn f cs) ps m K:=⟨h1,h2,h3⟩
def ZsW (x:List Int):List PV:=[.sl (x.map cInt)]
instance:ZbA (List Int):=⟨ZsW⟩
instance:ZaA ZsW:=⟨fun x q h=>by simp only [ZsW,List.mem_singleton] at h; subst h; rfl⟩
attribute [go_sem] ZsW
theorem xc {p:Prop} (h:p:=by (try simp only [U_s,U_z]); (with_reducible refine cutS ?_); (first | (with_reducible apply Zt8) | (with_reducible apply Zt9) | (with_reducible apply Zua) | (with_reducible apply Zub) | (with_reducible apply Zuc) | (with_reducible apply Zud) | (with_reducible apply Zue) | (with_reducible apply Zuf) | (with_reducible apply Zug) | (with_reducible apply Zuh) | (with_reducible apply ZqG) | (with_reducible apply ZqH) | (with_reducible apply ZqI)); (repeat' (first       | (with_reducible exact Zuo) | (with_reducible refine Zup ?_) | (with_reducible refine Zuq ?_) | (with_reducible refine ZqJ ?_)       | (with_reducible refine Zuj ?_ ?_)       | (with_reducible exact ZoB)       | (with_reducible exact ZoC rfl)       | exact ZoC rfl       | (with_reducible exact Zoz)       | (with_reducible refine Zui ?_ ?_)       | exact .c _ rfl       | exact .un _       | exact ZqC rfl rfl       | exact ZqB rfl rfl       | exact Zjh | exact Zkx       | exact Zkw rfl rfl       | (refine Zk3 rfl ?_) | (refine Zl8 rfl rfl ?_) | (refine Zow rfl rfl rfl ?_)       | (refine Zou rfl rfl ?_)       | (with_reducible refine Zov ?_) | (with_reducible refine ZqK ?_)       | (with_reducible refine ZqL ?_)       | (with_reducible exact Zl4)       | (with_reducible refine ZqA ?_ ?_)       | (with_reducible refine Zqz ?_)       | (with_reducible refine Zt5 ?_)       | (with_reducible refine Zuk ?_)       | (with_reducible exact ZkP)       | (refine ZjU rfl ?_ ?_)       | (refine ZjV rfl ?_) | (refine ZkO rfl ?_)       | (with_reducible refine ZjT ?_)       | (with_reducible refine Zor ?_)       | (with_reducible exact Zoq)       | (with_reducible refine Zot ?_)       | (with_reducible exact Zt7)       | (with_reducible refine Zt6 ?_ ?_)       | (with_reducible exact ZhB)       | (with_reducible refine ZiX ?_)       | exact ZhB       | (refine ZiX ?_)       | (refine Zos ?_)       | (refine Zl7 ?_)       | (refine Zl6 rfl ?_)       | (refine Zkv rfl rfl rfl rfl ?_)       | (refine Zl5 ?_ rfl rfl rfl rfl ?_)       | (simp only [cInt,cStr,ZlX,cB8,Zku,Zd7,Zar,ZcB,Zb5,cLeg,Z2,ZS,Zk,Zax,ZV,Ze0,Zbi,cAct,Ze8,Zjf,Zjd,Zje,Zh2,Ziv,Zh1])       | (with_unfolding_all rfl))); (all_goals first | (exact Zh6 rfl) | exact none); (first | done | fail)):p:=h
theorem xf {p:Prop} (h:p:=by (first | exact Zmi | (repeat (first | exact Zg7 | exact Zia | exact hm_e | (refine hm_c Zg7 ?_) | (refine hm_c Zia ?_) | (refine hm_c hm_e ?_) | exact ZbO (by simp [ZaL,isR]) | (refine Zjv ?_) | (refine hm_c (ZbO (by simp [ZaL,isR])) ?_)))); (first | done | fail)):p:=h
theorem xs {p:Prop} (h:p:=by ((refine Zd1.weak (CT.ok hy) ?_); (repeat' (first | exact SubA.n | (refine SubA.c ?_ ?_) | exact SubV.c (SubC.r _) | (refine SubV.ag ?_) | exact SubL.n | (refine SubL.c ?_ ?_) | exact SubC.r _ | exact SubC.nil _ | exact SubC.un _))); (first | done | fail)):p:=h
theorem wk3 {p:Prop} (h:p:=by
 (simp only [List.length_cons,List.length_nil,Nat.reduceAdd,Nat.reduceSub,List.replicate_succ,List.replicate_zero,List.cons_append,List.nil_append,go_sem]);
 repeat' (first
  | ((with_reducible refine Zrv ?_ ?_ ?_); (focus (simp [isR])); (focus (simp only [go_sem])); (simp only [List.cons_append,List.nil_append]))
  | ((with_reducible refine Zo7 H rfl (by kernel_rfl) ?_); (clear H; intro H; simp only [go_sem,Nat.reduceAdd,Nat.reduceSub,Nat.reduceMul,Nat.reduceLT,Nat.reduceLeDiff,Nat.reduceEqDiff,if_true,eq_self]))
  | ((with_reducible refine ZwV (rhoH H) ?_); (refine Zok H rfl rfl ?_ ?_ ?_ ?_ ?_ ?_ ?_ ?_); (focus (first | rfl | (simp only [CT.args,List.map_cons,List.map_nil,renA,renC,ren1,Zsn,Zsm,Zsl]; done))); (focus (simp [CT.args,CT.m0,Zfh,ZaL,lowA,lowC,low1,isR])); (focus (first | exact List.nodup_nil | decide)); (focus ((simp only [CT.m0]); (repeat' (first | exact ZgS | (refine ZgR (by rfl) ?_) | (refine ZgT (by rfl) (by rfl) (by simp [ZaL,lowC,low1,isR]) ?_))))); (focus (intro y_; simp [CT.mem,CT.m0])); (focus (intro y_; (simp only [CT.mem]); (repeat (first | exact Zmi | exact Zg7 | exact Zia | (refine hm_c Zg7 ?_) | (refine hm_c (ZbO (by simp [ZaL,isR])) ?_) | exact ZbO (by simp [ZaL,isR]) | (refine Zjv ?_))))); (focus (intro y_; (simp [CT.res,Zfi,Zfh,ZaL,isR]))); (clear H; intro y_ hy H; simp only [CT.res,CT.mem,ZeK,List.drop_succ_cons,List.drop_zero,Option.map_none,go_sem,Nat.reduceAdd,Nat.reduceSub,Nat.reduceMul,Nat.reduceLT,Nat.reduceLeDiff,Nat.reduceEqDiff,if_true,eq_self]))
  | ((with_reducible refine jnS (jnH H) ?_); (first | ((refine ZrU H ?_ ?_ (fun K_ hL H=>?_) (fun o_ H=>?_)); (focus (decide +kernel)); (focus (decide +kernel))) | ((refine ZrT H ?_ ?_ (fun K_ hL H=>?_) (fun o_ H=>?_)); (focus (decide +kernel)); (focus (decide +kernel)))))
  | ((with_reducible refine rhoS (rhoH H) ?_); (refine Zqt H rfl rfl rfl ?_ ?_ ?_ ?_ ?_ ?_ ?_ ?_); (focus (first | rfl | (simp only [CT.args,List.map_cons,List.map_nil,renA,renC,ren1,Zsn,Zsm,Zsl]; done))); (focus (simp [CT.args,CT.m0,Zfh,ZaL,lowA,lowC,low1,isR])); (focus (first | exact List.nodup_nil | decide)); (focus ((simp only [CT.m0]); (repeat' (first | exact ZgS | (refine ZgR (by rfl) ?_) | (refine ZgT (by rfl) (by rfl) (by simp [ZaL,lowC,low1,isR]) ?_))))); (focus (intro y_; simp [CT.mem,CT.m0])); (focus (intro y_; (simp only [CT.mem]); (repeat (first | exact Zmi | exact Zg7 | exact Zia | (refine hm_c Zg7 ?_) | (refine hm_c (ZbO (by simp [ZaL,isR])) ?_) | exact ZbO (by simp [ZaL,isR]) | (refine Zjv ?_))))); (focus (intro y_; (simp [CT.res,Zfi,Zfh,ZaL,isR]))); (clear H; intro y_ hy H; simp only [CT.res,CT.mem,ZeK,List.drop_succ_cons,List.drop_zero,Option.map_none,go_sem,Nat.reduceAdd,Nat.reduceSub,Nat.reduceMul,Nat.reduceLT,Nat.reduceLeDiff,Nat.reduceEqDiff,if_true,eq_self]))
  | ((with_reducible refine Zo9 H ?_ ?_); (focus (exact xc)); (clear H; intro z_ H))
  | ((with_reducible refine ZrS H ?_ ?_); (focus (exact xc)); (clear H; intro H))
  | ((with_reducible refine ZrW ?_); intro K_ hK)
  | ((with_reducible refine ZmP ?_))
  | ((with_reducible refine ZkK ?_); simp only [go_sem,Nat.reduceAdd,Nat.reduceSub,Nat.reduceMul,Nat.reduceLT,Nat.reduceLeDiff,Nat.reduceEqDiff,if_true,eq_self])
  | ((with_reducible refine Zpa ?_); (try simp only [ZdO,Zc1]))
  | ((with_reducible refine Zo8 ?_); (simp only [Ziq,Zhg,ZdO,Zc1,if_true,if_false,eq_self,Nat.reduceEqDiff,Nat.one_ne_zero,Nat.zero_ne_one]); (try simp only [bexR,bsr,bsl] at H))
  | ((with_reducible refine ZrV ?_); (try simp only [Zj4,Zh0]))
  | ((with_reducible refine hQ _ _ ?_); (try simp only [bexR,bsr,bsl] at H); replace H:=Hret H; subst H; simp only [Fin,resP,oneP,go_sem,Nat.reduceAdd,Nat.reduceSub,Nat.reduceMul,Nat.reduceLT,Nat.reduceLeDiff,Nat.reduceEqDiff,if_true,eq_self]; exact xc)
  | ((with_reducible refine hQn _ _ ?_); (try simp only [bexR,bsr,bsl] at H); replace H:=Hret H; subst H; simp only [Fin,resP,oneP,go_sem,Nat.reduceAdd,Nat.reduceSub,Nat.reduceMul,Nat.reduceLT,Nat.reduceLeDiff,Nat.reduceEqDiff,if_true,eq_self]; exact xc)
  | ((with_reducible refine ZwB ?_); (refine Zjq (fun hg=>Hc1k H hg ?_) (fun hg=>Hc2k H hg ?_)) <;> (clear H; intro H; simp only [go_sem,Nat.reduceAdd,Nat.reduceSub,Nat.reduceMul,Nat.reduceLT,Nat.reduceLeDiff,Nat.reduceEqDiff,if_true,eq_self]))
  | ((with_reducible refine ZmQ ?_); simp only [Znv,Zq1,Zq0,Zk5]; (first | (with_reducible refine Zoo ?_) | (with_reducible refine Zon ?_) | ((refine Zjg (fun hg=>Hc1k H hg ?_) (fun hg=>Hc2k H hg ?_)) <;> (clear H; intro H))))
  | ((with_reducible refine idxS ?_); replace H:=Zi8 H; obtain ⟨y_,hy,H⟩:=H; (with_reducible apply Zun hy); (focus (first | (simp only [go_sem]; done) | (simp only [go_sem]; decide))); (focus (first | rfl | (simp only [go_sem]; rfl))); simp only [go_sem,Nat.reduceAdd,Nat.reduceSub,Nat.reduceMul,Nat.reduceLT,Nat.reduceLeDiff,Nat.reduceEqDiff,if_true,eq_self])
  | ((with_reducible refine idxM ?_); replace H:=Zi8 H; obtain ⟨y_,hy,H⟩:=H; (first | (refine Zq7 hy (by rfl) (by first | (simp only [go_sem]; done) | (simp only [go_sem]; decide)) (by first | rfl | (simp only [go_sem]; rfl)) ?_) | (refine ZoQ hy (by rfl) (by first | (simp only [go_sem]; done) | (simp only [go_sem]; decide)) (by first | rfl | (simp only [go_sem]; rfl)) ?_)); simp only [go_sem,Nat.reduceAdd,Nat.reduceSub,Nat.reduceMul,Nat.reduceLT,Nat.reduceLeDiff,Nat.reduceEqDiff,if_true,eq_self])
  | ((with_reducible refine idxB ?_); replace H:=Zi8 H; obtain ⟨y_,hy,H⟩:=H; (with_reducible apply Zq8 hy); (focus (simp only [go_sem])); simp only [go_sem,Nat.reduceAdd,Nat.reduceSub,Nat.reduceMul,Nat.reduceLT,Nat.reduceLeDiff,Nat.reduceEqDiff,if_true,eq_self])
  | ((with_reducible refine Zwk ?_); replace H:=Zi8 H; obtain ⟨y_,hy,H⟩:=H; (first | ((with_reducible apply Zhz); (focus (exact CT.ok hy)); (focus (simp [isCA,isC,isC1])); (focus (exact Nat.le_of_ble_eq_true rfl)); (focus (exact xf)); (focus (first | exact Zs6 rfl | exact Zs7 rfl | exact ZoJ rfl | exact ZoK rfl | exact (fun h=>(by cases h)) | (simp [CT.res,Zfi,Zfh,ZaL,isR]))); (simp only [CT.res,CT.mem,go_sem,Nat.reduceAdd,Nat.reduceSub,Nat.reduceMul,Nat.reduceLT,Nat.reduceLeDiff,Nat.reduceEqDiff,if_true,eq_self])) | ((with_reducible apply Zhz); (focus (exact xs)); (focus (simp [isCA,isC,isC1])); (focus (exact Nat.le_of_ble_eq_true rfl)); (focus (exact xf)); (focus (first | exact Zs6 rfl | exact Zs7 rfl | exact ZoJ rfl | exact ZoK rfl | exact (fun h=>(by cases h)) | (simp [CT.res,Zfi,Zfh,ZaL,isR]))); (simp only [CT.res,CT.mem,go_sem,Nat.reduceAdd,Nat.reduceSub,Nat.reduceMul,Nat.reduceLT,Nat.reduceLeDiff,Nat.reduceEqDiff,if_true,eq_self])) | ((with_reducible apply ZlY); (focus (first | (simp only [Zio,ZiR,ZhU,ZiQ,Zfq,ZjF,ZjE,Zgb,ZfI,ZfN,List.forall_mem_nil,true_and,and_true,if_true]; (first | exact CT.ok hy | (simp only [all_nil,all_cons,isC,isC1,true_and,and_true,if_true]; exact CT.ok hy))) | (simp only [Zio,ZiR,ZhU,ZiQ,Zfq,ZjF,ZjE,Zgb,ZfI,ZfN,List.forall_mem_nil,true_and,and_true,if_true]; (first | (exact xs) | (simp only [all_nil,all_cons,isC,isC1,true_and,and_true,if_true]; (exact xs)))) | (simp only [Zio,ZiR,ZhU,ZiQ,Zfq,ZjF,ZjE,Zgb,ZfI,ZfN,List.forall_mem_nil,true_and,and_true,if_true]; (exact xs)))); (focus (exact Nat.le_of_ble_eq_true rfl)); (focus (exact xf)); (focus (first | exact Zum rfl | exact (fun _=>rfl) | (simp [CT.res,Zfi,Zfh,ZaL,isF]))); (simp only [CT.res,CT.mem,go_sem,Nat.reduceAdd,Nat.reduceSub,Nat.reduceMul,Nat.reduceLT,Nat.reduceLeDiff,Nat.reduceEqDiff,if_true,eq_self]))))
  | ((with_reducible refine slcS ?_); replace H:=Hchk H; obtain ⟨hc,H⟩:=H; (first | ((with_reducible apply Zpf hc); (focus rfl); (focus rfl); (focus (first | (simp only [go_sem]; done) | (simp only [go_sem]; decide))); (focus (first | rfl | (intro x_; rfl))); simp only [go_sem,Nat.reduceAdd,Nat.reduceSub,Nat.reduceMul,Nat.reduceLT,Nat.reduceLeDiff,Nat.reduceEqDiff,if_true,eq_self]) | ((refine ZmY hc (by rfl) (by rfl) (by rfl) (by first | (simp only [go_sem]; done) | (simp only [go_sem]; decide)) (by first | rfl | (simp only [go_sem]; rfl)) ?_); simp only [go_sem,Nat.reduceAdd,Nat.reduceSub,Nat.reduceMul,Nat.reduceLT,Nat.reduceLeDiff,Nat.reduceEqDiff,if_true,eq_self]) | ((with_reducible apply ZmZ hc); (focus rfl); (focus rfl); (focus (simp only [go_sem])); simp only [go_sem,Nat.reduceAdd,Nat.reduceSub,Nat.reduceMul,Nat.reduceLT,Nat.reduceLeDiff,Nat.reduceEqDiff,if_true,eq_self])))
  | ((with_reducible refine appS ?_); replace H:=Hchk H; obtain ⟨hc,H⟩:=H; (first | (refine Zqq hc (by first | (simp only [go_sem]; done) | (simp only [go_sem]; rfl)) (by first | (simp only [go_sem]; done) | (simp only [go_sem]; rfl)) (by first | (simp only [go_sem]; done) | (simp only [go_sem]; rfl)) (by first | (simp only [go_sem]; done) | (simp only [go_sem]; rfl)) (by rfl) (by first | rfl | exact ZlE (by rfl) (by rfl) (by rfl)) rfl rfl (by intro x_; rfl) rfl ?_) | (refine Zqr hc (by first | (simp only [go_sem]; done) | (simp only [go_sem]; rfl)) (by first | (simp only [go_sem]; done) | (simp only [go_sem]; rfl)) (by first | (simp only [go_sem]; done) | (simp only [go_sem]; rfl)) (by first | (simp only [go_sem]; done) | (simp only [go_sem]; rfl)) (by first | rfl | exact ZlE (by rfl) (by rfl) (by rfl)) rfl rfl (by intro x_; rfl) ?_) | (refine Zqp hc rfl (by first | (simp only [go_sem]; done) | (simp only [go_sem]; rfl)) (by first | (simp only [go_sem]; done) | (simp only [go_sem]; rfl)) (by first | (simp only [go_sem]; done) | (simp only [go_sem]; rfl)) (by first | (simp only [go_sem]; done) | (simp only [go_sem]; rfl)) (by rfl) (by rfl) (by rfl) (by rfl) rfl rfl (by rfl) ?_)); simp only [go_sem,Nat.reduceAdd,Nat.reduceSub,Nat.reduceMul,Nat.reduceLT,Nat.reduceLeDiff,Nat.reduceEqDiff,if_true,eq_self])
  | ((with_reducible refine mkS ?_); replace H:=Hchk H; obtain ⟨hc,H⟩:=H; (refine Zur hc (by first | (simp only [go_sem]; done) | (simp only [go_sem]; rfl)) (by first | (simp only [go_sem]; done) | (simp only [go_sem]; rfl)) (by first | (simp only [go_sem]; done) | (simp only [go_sem]; rfl)) (by first | (simp only [go_sem]; done) | (simp only [go_sem]; rfl)) rfl rfl ?_); simp only [go_sem,Nat.reduceAdd,Nat.reduceSub,Nat.reduceMul,Nat.reduceLT,Nat.reduceLeDiff,Nat.reduceEqDiff,if_true,eq_self])
  | ((with_reducible refine optS ?_); (first | (with_reducible refine ZiA (by decide) ?_) | (replace H:=Hchk H; obtain ⟨hc,H⟩:=H; (first | (refine ZiA hc ?_) | (refine ZiA (of_decide_eq_true hc) ?_) | (refine ZiA ⟨rfl,of_decide_eq_true hc⟩ ?_)))); simp only [go_sem,Nat.reduceAdd,Nat.reduceSub,Nat.reduceMul,Nat.reduceLT,Nat.reduceLeDiff,Nat.reduceEqDiff,if_true,eq_self])
  | ((with_reducible refine ZwJ ?_); (refine ZmR (Hlp H) ?_ ?_); (focus (simp only [Z1.T,Z1.M,U_s,U_z]; exact xc)); (clear H; intro n_ s_ H K_ hL; replace H:=Hrd H; simp only [Z1.T,Z1.M,U_s,U_z]))
  | ((with_reducible refine Zo6 (by kernel_rfl) ?_); simp only [go_sem,Nat.reduceAdd,Nat.reduceSub,Nat.reduceMul,Nat.reduceLT,Nat.reduceLeDiff,Nat.reduceEqDiff,if_true,eq_self])
  | ((with_reducible refine Zky (by kernel_rfl) ?_); (try simp only [ZdO,Zc1]))
  | ((with_reducible refine hK _ _ ?_); clear hK)
  | (clear hK; (with_reducible refine hK _ _ ?_); clear hK)
  | (clear hK; clear hK; (with_reducible refine hK _ _ ?_); clear hK)
  | (clear hK; clear hK; clear hK; (with_reducible refine hK _ _ ?_); clear hK)
  | (clear hK; clear hK; clear hK; clear hK; (with_reducible refine hK _ _ ?_); clear hK)
  | (clear hK; clear hK; clear hK; clear hK; clear hK; (with_reducible refine hK _ _ ?_); clear hK)
  | ((with_reducible refine And.intro ?_ ?_); omega)
  | (simp only [ZnK,ZnI,ZnJ,Znh]; simp only [go_sem,Nat.reduceAdd,Nat.reduceSub,Nat.reduceMul,Nat.reduceLT,Nat.reduceLeDiff,Nat.reduceEqDiff,if_true,eq_self])
  | ((first | simp only [lit3 hy,Option.map_some,List.drop_zero,go_sem] | simp only [Ztl hy,Option.map_some,List.drop_zero,go_sem] | simp only [Zk9 hy,Zg8 hy,Ziy hy,go_sem,Nat.reduceAdd,Nat.reduceSub,Nat.reduceMul,Nat.reduceLT,Nat.reduceLeDiff,Nat.reduceEqDiff,if_true,eq_self] | simp only [Zg8 hy,Ziy hy,go_sem,Nat.reduceAdd,Nat.reduceSub,Nat.reduceMul,Nat.reduceLT,Nat.reduceLeDiff,Nat.reduceEqDiff,if_true,eq_self]))
  | ((with_reducible replace H:=HexL H); (with_reducible refine hL _ _ _ H ?_); (try simp only [Z1.T,Z1.M,U_s,U_z]); exact xc)
  | ((with_reducible replace H:=HexL H); clear hL; (with_reducible refine hL _ _ _ H ?_); (try simp only [Z1.T,Z1.M,U_s,U_z]); exact xc)
  | ((with_reducible refine jnX H hL ?_); exact xc)
  | (with_reducible exact (Zwb H).elim)
  | ((with_reducible replace H:=rgH H); obtain ⟨y_,hy,H⟩:=H; (first | simp only [lit3 hy,Option.map_some,List.drop_zero,go_sem] | simp only [Ztl hy,Option.map_some,List.drop_zero,go_sem] | simp only [Zk9 hy,Zg8 hy,Ziy hy,go_sem,Nat.reduceAdd,Nat.reduceSub,Nat.reduceMul,Nat.reduceLT,Nat.reduceLeDiff,Nat.reduceEqDiff,if_true,eq_self] | simp only [Zg8 hy,Ziy hy,go_sem,Nat.reduceAdd,Nat.reduceSub,Nat.reduceMul,Nat.reduceLT,Nat.reduceLeDiff,Nat.reduceEqDiff,if_true,eq_self])))):p:=h
theorem ZuR {n0:Nat} {t t':List PV} {m:Mem} {a b c d e f g h i j k l a12:Option MB} (r0 r1 r2 r3 r4 r5 r6 r7 r8 r9 r10 r11 r12:Option Nat) (hl:lowB n0 0 [r0,r1,r2,r3,r4,r5,r6,r7,r8,r9,r10,r11,r12] [a,b,c,d,e,f,g,h,i,j,k,l,a12]=true) (hT:cutT (rho [r0,r1,r2,r3,r4,r5,r6,r7,r8,r9,r10,r11,r12]) m [a,b,c,d,e,f,g,h,i,j,k,l,a12] t t') (hM:ZaM [r0,r1,r2,r3,r4,r5,r6,r7,r8,r9,r10,r11,r12] m [a,b,c,d,e,f,g,h,i,j,k,l,a12] [r0,r1,r2,r3,r4,r5,r6,r7,r8,r9,r10,r11,r12] [a,b,c,d,e,f,g,h,i,j,k,l,a12]) (hi:injB [r0,r1,r2,r3,r4,r5,r6,r7,r8,r9,r10,r11,r12]=true):Cuts n0 t m t' [a,b,c,d,e,f,g,h,i,j,k,l,a12]:=Zdd hT hM hi hl
theorem ZuS {n0:Nat} {t t':List PV} {m:Mem} {a b c d e f g h i j k l a12 a13:Option MB} (r0 r1 r2 r3 r4 r5 r6 r7 r8 r9 r10 r11 r12 r13:Option Nat) (hl:lowB n0 0 [r0,r1,r2,r3,r4,r5,r6,r7,r8,r9,r10,r11,r12,r13] [a,b,c,d,e,f,g,h,i,j,k,l,a12,a13]=true) (hT:cutT (rho [r0,r1,r2,r3,r4,r5,r6,r7,r8,r9,r10,r11,r12,r13]) m [a,b,c,d,e,f,g,h,i,j,k,l,a12,a13] t t') (hM:ZaM [r0,r1,r2,r3,r4,r5,r6,r7,r8,r9,r10,r11,r12,r13] m [a,b,c,d,e,f,g,h,i,j,k,l,a12,a13] [r0,r1,r2,r3,r4,r5,r6,r7,r8,r9,r10,r11,r12,r13] [a,b,c,d,e,f,g,h,i,j,k,l,a12,a13]) (hi:injB [r0,r1,r2,r3,r4,r5,r6,r7,r8,r9,r10,r11,r12,r13]=true):Cuts n0 t m t' [a,b,c,d,e,f,g,h,i,j,k,l,a12,a13]:=Zdd hT hM hi hl
theorem ZuT {n0:Nat} {t t':List PV} {m:Mem} {a b c d e f g h i j k l a12 a13 a14:Option MB} (r0 r1 r2 r3 r4 r5 r6 r7 r8 r9 r10 r11 r12 r13 r14:Option Nat) (hl:lowB n0 0 [r0,r1,r2,r3,r4,r5,r6,r7,r8,r9,r10,r11,r12,r13,r14] [a,b,c,d,e,f,g,h,i,j,k,l,a12,a13,a14]=true) (hT:cutT (rho [r0,r1,r2,r3,r4,r5,r6,r7,r8,r9,r10,r11,r12,r13,r14]) m [a,b,c,d,e,f,g,h,i,j,k,l,a12,a13,a14] t t') (hM:ZaM [r0,r1,r2,r3,r4,r5,r6,r7,r8,r9,r10,r11,r12,r13,r14] m [a,b,c,d,e,f,g,h,i,j,k,l,a12,a13,a14] [r0,r1,r2,r3,r4,r5,r6,r7,r8,r9,r10,r11,r12,r13,r14] [a,b,c,d,e,f,g,h,i,j,k,l,a12,a13,a14]) (hi:injB [r0,r1,r2,r3,r4,r5,r6,r7,r8,r9,r10,r11,r12,r13,r14]=true):Cuts n0 t m t' [a,b,c,d,e,f,g,h,i,j,k,l,a12,a13,a14]:=Zdd hT hM hi hl
theorem ZuU {n0:Nat} {t t':List PV} {m:Mem} {a b c d e f g h i j k l a12 a13 a14 a15:Option MB} (r0 r1 r2 r3 r4 r5 r6 r7 r8 r9 r10 r11 r12 r13 r14 r15:Option Nat) (hl:lowB n0 0 [r0,r1,r2,r3,r4,r5,r6,r7,r8,r9,r10,r11,r12,r13,r14,r15] [a,b,c,d,e,f,g,h,i,j,k,l,a12,a13,a14,a15]=true) (hT:cutT (rho [r0,r1,r2,r3,r4,r5,r6,r7,r8,r9,r10,r11,r12,r13,r14,r15]) m [a,b,c,d,e,f,g,h,i,j,k,l,a12,a13,a14,a15] t t') (hM:ZaM [r0,r1,r2,r3,r4,r5,r6,r7,r8,r9,r10,r11,r12,r13,r14,r15] m [a,b,c,d,e,f,g,h,i,j,k,l,a12,a13,a14,a15] [r0,r1,r2,r3,r4,r5,r6,r7,r8,r9,r10,r11,r12,r13,r14,r15] [a,b,c,d,e,f,g,h,i,j,k,l,a12,a13,a14,a15]) (hi:injB [r0,r1,r2,r3,r4,r5,r6,r7,r8,r9,r10,r11,r12,r13,r14,r15]=true):Cuts n0 t m t' [a,b,c,d,e,f,g,h,i,j,k,l,a12,a13,a14,a15]:=Zdd hT hM hi hl
theorem ZuV {n0:Nat} {t t':List PV} {m:Mem} {a b c d e f g h i j k l a12 a13 a14 a15 a16:Option MB} (r0 r1 r2 r3 r4 r5 r6 r7 r8 r9 r10 r11 r12 r13 r14 r15 r16:Option Nat) (hl:lowB n0 0 [r0,r1,r2,r3,r4,r5,r6,r7,r8,r9,r10,r11,r12,r13,r14,r15,r16] [a,b,c,d,e,f,g,h,i,j,k,l,a12,a13,a14,a15,a16]=true) (hT:cutT (rho [r0,r1,r2,r3,r4,r5,r6,r7,r8,r9,r10,r11,r12,r13,r14,r15,r16]) m [a,b,c,d,e,f,g,h,i,j,k,l,a12,a13,a14,a15,a16] t t') (hM:ZaM [r0,r1,r2,r3,r4,r5,r6,r7,r8,r9,r10,r11,r12,r13,r14,r15,r16] m [a,b,c,d,e,f,g,h,i,j,k,l,a12,a13,a14,a15,a16] [r0,r1,r2,r3,r4,r5,r6,r7,r8,r9,r10,r11,r12,r13,r14,r15,r16] [a,b,c,d,e,f,g,h,i,j,k,l,a12,a13,a14,a15,a16]) (hi:injB [r0,r1,r2,r3,r4,r5,r6,r7,r8,r9,r10,r11,r12,r13,r14,r15,r16]=true):Cuts n0 t m t' [a,b,c,d,e,f,g,h,i,j,k,l,a12,a13,a14,a15,a16]:=Zdd hT hM hi hl
theorem ZuW {n0:Nat} {t t':List PV} {m:Mem} {a b c d e f g h i j k l a12 a13 a14 a15 a16 a17:Option MB} (r0 r1 r2 r3 r4 r5 r6 r7 r8 r9 r10 r11 r12 r13 r14 r15 r16 r17:Option Nat) (hl:lowB n0 0 [r0,r1,r2,r3,r4,r5,r6,r7,r8,r9,r10,r11,r12,r13,r14,r15,r16,r17] [a,b,c,d,e,f,g,h,i,j,k,l,a12,a13,a14,a15,a16,a17]=true) (hT:cutT (rho [r0,r1,r2,r3,r4,r5,r6,r7,r8,r9,r10,r11,r12,r13,r14,r15,r16,r17]) m [a,b,c,d,e,f,g,h,i,j,k,l,a12,a13,a14,a15,a16,a17] t t') (hM:ZaM [r0,r1,r2,r3,r4,r5,r6,r7,r8,r9,r10,r11,r12,r13,r14,r15,r16,r17] m [a,b,c,d,e,f,g,h,i,j,k,l,a12,a13,a14,a15,a16,a17] [r0,r1,r2,r3,r4,r5,r6,r7,r8,r9,r10,r11,r12,r13,r14,r15,r16,r17] [a,b,c,d,e,f,g,h,i,j,k,l,a12,a13,a14,a15,a16,a17]) (hi:injB [r0,r1,r2,r3,r4,r5,r6,r7,r8,r9,r10,r11,r12,r13,r14,r15,r16,r17]=true):Cuts n0 t m t' [a,b,c,d,e,f,g,h,i,j,k,l,a12,a13,a14,a15,a16,a17]:=Zdd hT hM hi hl
theorem ZuX {n0:Nat} {t t':List PV} {m:Mem} {a b c d e f g h i j k l a12 a13 a14 a15 a16 a17 a18:Option MB} (r0 r1 r2 r3 r4 r5 r6 r7 r8 r9 r10 r11 r12 r13 r14 r15 r16 r17 r18:Option Nat) (hl:lowB n0 0 [r0,r1,r2,r3,r4,r5,r6,r7,r8,r9,r10,r11,r12,r13,r14,r15,r16,r17,r18] [a,b,c,d,e,f,g,h,i,j,k,l,a12,a13,a14,a15,a16,a17,a18]=true) (hT:cutT (rho [r0,r1,r2,r3,r4,r5,r6,r7,r8,r9,r10,r11,r12,r13,r14,r15,r16,r17,r18]) m [a,b,c,d,e,f,g,h,i,j,k,l,a12,a13,a14,a15,a16,a17,a18] t t') (hM:ZaM [r0,r1,r2,r3,r4,r5,r6,r7,r8,r9,r10,r11,r12,r13,r14,r15,r16,r17,r18] m [a,b,c,d,e,f,g,h,i,j,k,l,a12,a13,a14,a15,a16,a17,a18] [r0,r1,r2,r3,r4,r5,r6,r7,r8,r9,r10,r11,r12,r13,r14,r15,r16,r17,r18] [a,b,c,d,e,f,g,h,i,j,k,l,a12,a13,a14,a15,a16,a17,a18]) (hi:injB [r0,r1,r2,r3,r4,r5,r6,r7,r8,r9,r10,r11,r12,r13,r14,r15,r16,r17,r18]=true):Cuts n0 t m t' [a,b,c,d,e,f,g,h,i,j,k,l,a12,a13,a14,a15,a16,a17,a18]:=Zdd hT hM hi hl
theorem ZuY {n0:Nat} {t t':List PV} {m:Mem} {a b c d e f g h i j k l a12 a13 a14 a15 a16 a17 a18 a19:Option MB} (r0 r1 r2 r3 r4 r5 r6 r7 r8 r9 r10 r11 r12 r13 r14 r15 r16 r17 r18 r19:Option Nat) (hl:lowB n0 0 [r0,r1,r2,r3,r4,r5,r6,r7,r8,r9,r10,r11,r12,r13,r14,r15,r16,r17,r18,r19] [a,b,c,d,e,f,g,h,i,j,k,l,a12,a13,a14,a15,a16,a17,a18,a19]=true) (hT:cutT (rho [r0,r1,r2,r3,r4,r5,r6,r7,r8,r9,r10,r11,r12,r13,r14,r15,r16,r17,r18,r19]) m [a,b,c,d,e,f,g,h,i,j,k,l,a12,a13,a14,a15,a16,a17,a18,a19] t t') (hM:ZaM [r0,r1,r2,r3,r4,r5,r6,r7,r8,r9,r10,r11,r12,r13,r14,r15,r16,r17,r18,r19] m [a,b,c,d,e,f,g,h,i,j,k,l,a12,a13,a14,a15,a16,a17,a18,a19] [r0,r1,r2,r3,r4,r5,r6,r7,r8,r9,r10,r11,r12,r13,r14,r15,r16,r17,r18,r19] [a,b,c,d,e,f,g,h,i,j,k,l,a12,a13,a14,a15,a16,a17,a18,a19]) (hi:injB [r0,r1,r2,r3,r4,r5,r6,r7,r8,r9,r10,r11,r12,r13,r14,r15,r16,r17,r18,r19]=true):Cuts n0 t m t' [a,b,c,d,e,f,g,h,i,j,k,l,a12,a13,a14,a15,a16,a17,a18,a19]:=Zdd hT hM hi hl
theorem ZuZ {n0:Nat} {t t':List PV} {m:Mem} {a b c d e f g h i j k l a12 a13 a14 a15 a16 a17 a18 a19 a20:Option MB} (r0 r1 r2 r3 r4 r5 r6 r7 r8 r9 r10 r11 r12 r13 r14 r15 r16 r17 r18 r19 r20:Option Nat) (hl:lowB n0 0 [r0,r1,r2,r3,r4,r5,r6,r7,r8,r9,r10,r11,r12,r13,r14,r15,r16,r17,r18,r19,r20] [a,b,c,d,e,f,g,h,i,j,k,l,a12,a13,a14,a15,a16,a17,a18,a19,a20]=true) (hT:cutT (rho [r0,r1,r2,r3,r4,r5,r6,r7,r8,r9,r10,r11,r12,r13,r14,r15,r16,r17,r18,r19,r20]) m [a,b,c,d,e,f,g,h,i,j,k,l,a12,a13,a14,a15,a16,a17,a18,a19,a20] t t') (hM:ZaM [r0,r1,r2,r3,r4,r5,r6,r7,r8,r9,r10,r11,r12,r13,r14,r15,r16,r17,r18,r19,r20] m [a,b,c,d,e,f,g,h,i,j,k,l,a12,a13,a14,a15,a16,a17,a18,a19,a20] [r0,r1,r2,r3,r4,r5,r6,r7,r8,r9,r10,r11,r12,r13,r14,r15,r16,r17,r18,r19,r20] [a,b,c,d,e,f,g,h,i,j,k,l,a12,a13,a14,a15,a16,a17,a18,a19,a20]) (hi:injB [r0,r1,r2,r3,r4,r5,r6,r7,r8,r9,r10,r11,r12,r13,r14,r15,r16,r17,r18,r19,r20]=true):Cuts n0 t m t' [a,b,c,d,e,f,g,h,i,j,k,l,a12,a13,a14,a15,a16,a17,a18,a19,a20]:=Zdd hT hM hi hl
theorem Zu0 {n0:Nat} {t t':List PV} {m:Mem} {a b c d e f g h i j k l a12 a13 a14 a15 a16 a17 a18 a19 a20 a21:Option MB} (r0 r1 r2 r3 r4 r5 r6 r7 r8 r9 r10 r11 r12 r13 r14 r15 r16 r17 r18 r19 r20 r21:Option Nat) (hl:lowB n0 0 [r0,r1,r2,r3,r4,r5,r6,r7,r8,r9,r10,r11,r12,r13,r14,r15,r16,r17,r18,r19,r20,r21] [a,b,c,d,e,f,g,h,i,j,k,l,a12,a13,a14,a15,a16,a17,a18,a19,a20,a21]=true) (hT:cutT (rho [r0,r1,r2,r3,r4,r5,r6,r7,r8,r9,r10,r11,r12,r13,r14,r15,r16,r17,r18,r19,r20,r21]) m [a,b,c,d,e,f,g,h,i,j,k,l,a12,a13,a14,a15,a16,a17,a18,a19,a20,a21] t t') (hM:ZaM [r0,r1,r2,r3,r4,r5,r6,r7,r8,r9,r10,r11,r12,r13,r14,r15,r16,r17,r18,r19,r20,r21] m [a,b,c,d,e,f,g,h,i,j,k,l,a12,a13,a14,a15,a16,a17,a18,a19,a20,a21] [r0,r1,r2,r3,r4,r5,r6,r7,r8,r9,r10,r11,r12,r13,r14,r15,r16,r17,r18,r19,r20,r21] [a,b,c,d,e,f,g,h,i,j,k,l,a12,a13,a14,a15,a16,a17,a18,a19,a20,a21]) (hi:injB [r0,r1,r2,r3,r4,r5,r6,r7,r8,r9,r10,r11,r12,r13,r14,r15,r16,r17,r18,r19,r20,r21]=true):Cuts n0 t m t' [a,b,c,d,e,f,g,h,i,j,k,l,a12,a13,a14,a15,a16,a17,a18,a19,a20,a21]:=Zdd hT hM hi hl
theorem Zu1 {n0:Nat} {t t':List PV} {m:Mem} {a b c d e f g h i j k l a12 a13 a14 a15 a16 a17 a18 a19 a20 a21 a22:Option MB} (r0 r1 r2 r3 r4 r5 r6 r7 r8 r9 r10 r11 r12 r13 r14 r15 r16 r17 r18 r19 r20 r21 r22:Option Nat) (hl:lowB n0 0 [r0,r1,r2,r3,r4,r5,r6,r7,r8,r9,r10,r11,r12,r13,r14,r15,r16,r17,r18,r19,r20,r21,r22] [a,b,c,d,e,f,g,h,i,j,k,l,a12,a13,a14,a15,a16,a17,a18,a19,a20,a21,a22]=true) (hT:cutT (rho [r0,r1,r2,r3,r4,r5,r6,r7,r8,r9,r10,r11,r12,r13,r14,r15,r16,r17,r18,r19,r20,r21,r22]) m [a,b,c,d,e,f,g,h,i,j,k,l,a12,a13,a14,a15,a16,a17,a18,a19,a20,a21,a22] t t') (hM:ZaM [r0,r1,r2,r3,r4,r5,r6,r7,r8,r9,r10,r11,r12,r13,r14,r15,r16,r17,r18,r19,r20,r21,r22] m [a,b,c,d,e,f,g,h,i,j,k,l,a12,a13,a14,a15,a16,a17,a18,a19,a20,a21,a22] [r0,r1,r2,r3,r4,r5,r6,r7,r8,r9,r10,r11,r12,r13,r14,r15,r16,r17,r18,r19,r20,r21,r22] [a,b,c,d,e,f,g,h,i,j,k,l,a12,a13,a14,a15,a16,a17,a18,a19,a20,a21,a22]) (hi:injB [r0,r1,r2,r3,r4,r5,r6,r7,r8,r9,r10,r11,r12,r13,r14,r15,r16,r17,r18,r19,r20,r21,r22]=true):Cuts n0 t m t' [a,b,c,d,e,f,g,h,i,j,k,l,a12,a13,a14,a15,a16,a17,a18,a19,a20,a21,a22]:=Zdd hT hM hi hl
theorem Zu2 {n0:Nat} {t t':List PV} {m:Mem} {a b c d e f g h i j k l a12 a13 a14 a15 a16 a17 a18 a19 a20 a21 a22 a23:Option MB} (r0 r1 r2 r3 r4 r5 r6 r7 r8 r9 r10 r11 r12 r13 r14 r15 r16 r17 r18 r19 r20 r21 r22 r23:Option Nat) (hl:lowB n0 0 [r0,r1,r2,r3,r4,r5,r6,r7,r8,r9,r10,r11,r12,r13,r14,r15,r16,r17,r18,r19,r20,r21,r22,r23] [a,b,c,d,e,f,g,h,i,j,k,l,a12,a13,a14,a15,a16,a17,a18,a19,a20,a21,a22,a23]=true) (hT:cutT (rho [r0,r1,r2,r3,r4,r5,r6,r7,r8,r9,r10,r11,r12,r13,r14,r15,r16,r17,r18,r19,r20,r21,r22,r23]) m [a,b,c,d,e,f,g,h,i,j,k,l,a12,a13,a14,a15,a16,a17,a18,a19,a20,a21,a22,a23] t t') (hM:ZaM [r0,r1,r2,r3,r4,r5,r6,r7,r8,r9,r10,r11,r12,r13,r14,r15,r16,r17,r18,r19,r20,r21,r22,r23] m [a,b,c,d,e,f,g,h,i,j,k,l,a12,a13,a14,a15,a16,a17,a18,a19,a20,a21,a22,a23] [r0,r1,r2,r3,r4,r5,r6,r7,r8,r9,r10,r11,r12,r13,r14,r15,r16,r17,r18,r19,r20,r21,r22,r23] [a,b,c,d,e,f,g,h,i,j,k,l,a12,a13,a14,a15,a16,a17,a18,a19,a20,a21,a22,a23]) (hi:injB [r0,r1,r2,r3,r4,r5,r6,r7,r8,r9,r10,r11,r12,r13,r14,r15,r16,r17,r18,r19,r20,r21,r22,r23]=true):Cuts n0 t m t' [a,b,c,d,e,f,g,h,i,j,k,l,a12,a13,a14,a15,a16,a17,a18,a19,a20,a21,a22,a23]:=Zdd hT hM hi hl
theorem zxs {p:Prop} (h:p:=by ((refine Zd1.weak (CT.ok hy) ?_); (repeat' (first | exact SubA.n | (refine SubA.c ?_ ?_) | exact SubV.c (SubC.r _) | exact SubV.c (SubC.nil _) | (refine SubV.ag ?_) | exact SubL.n | (refine SubL.c ?_ ?_) | exact SubC.r _ | exact SubC.nil _ | exact SubC.un _))); (first | done | fail)):p:=h
theorem Ztc {α β:Type} {n i:Int} {A B:Option α} {F:α→Option β} {r:β} {P:Program} {m:Mem} {T:TypeId} {l:Nat} {k:IntKind} {KR:PV→Prop} (H:(cond (decide (i=n)) A B).bind F=some r) (h1:A.bind F=some r→ZY P m T (.ms l) (.v (.int k n)) KR) (h2:B.bind F=some r→ZY P m T (.ms l) (.v (.int k i)) KR):ZY P m T (.ms l) (.v (.int k i)) KR:=by
 by_cases h:i=n
 ·subst h; exact h1 (by simpa using H)
 ·exact h2 (by simpa [h] using H)
theorem ZsZ {m m':Mem} {rs:List (Option Nat)} {k k':Nat} {T:TK} {es:List (List PV)} (hm:look m k=some ⟨T,k',es⟩) (hc:(es.all fun cs=>cs.all isC)=true) (hd:Ze9 (rho rs) m' k):CutC (rho rs) m m' (.ms k) (.sl es):=
 .fms k ⟨T,k',es⟩ (Zc2.1 hm) (fun cs h q hq=>List.all_eq_true.1 (List.all_eq_true.1 hc cs h) q hq) hd
theorem Zve {P:Program} {m:Mem} {T:TypeId} {T':TK} {l k':Nat} {k:IntKind} {n:Int} {es:List (List PV)} {KR:PV→Prop} (hm:look m l=some ⟨T',k',es⟩) (hn:decide (0≤n∧n<es.length)=true) (hp:0<Zel P T) (hk:k'=Zel P T) (hK:KR (.be l n.toNat 0)):ZY P m T (.ms l) (.v (.int k n)) KR:=by
 obtain ⟨e,hu,he⟩:=ZgM hp
 rw [he] at hk
 have hn:=of_decide_eq_true hn
 simp only [ZY,hu,Zez,hm]
 exact ⟨hn.1,hn.2,hk,hK⟩
theorem xu {p:Prop} (h:p:=by (try simp only [U_s,U_z]); (with_reducible refine cutS ?_); (first | (with_reducible apply Zt8) | (with_reducible apply Zt9) | (with_reducible apply Zua) | (with_reducible apply Zub) | (with_reducible apply Zuc) | (with_reducible apply Zud) | (with_reducible apply Zue) | (with_reducible apply Zuf) | (with_reducible apply Zug) | (with_reducible apply Zuh) | (with_reducible apply ZqG) | (with_reducible apply ZqH) | (with_reducible apply ZqI) | (with_reducible apply ZuR) | (with_reducible apply ZuS) | (with_reducible apply ZuT) | (with_reducible apply ZuU) | (with_reducible apply ZuV) | (with_reducible apply ZuW) | (with_reducible apply ZuX) | (with_reducible apply ZuY) | (with_reducible apply ZuZ) | (with_reducible apply Zu0) | (with_reducible apply Zu1) | (with_reducible apply Zu2)); (repeat' (first       | (with_reducible exact Zuo) | (with_reducible refine Zup ?_) | (with_reducible refine Zuq ?_) | (with_reducible refine ZqJ ?_)       | (with_reducible refine Zuj ?_ ?_)       | (with_reducible exact ZoB)       | (with_reducible exact ZoC rfl)       | exact ZoC rfl       | (with_reducible exact Zoz)       | (with_reducible refine Zui ?_ ?_)       | exact .c _ rfl       | exact .un _       | exact ZqC rfl rfl       | exact ZqB rfl rfl       | exact Zjh | exact Zkx       | exact Zkw rfl rfl       | (refine Zk3 rfl ?_) | (refine ZsZ rfl rfl ?_) | (refine Zl8 rfl rfl ?_) | (refine Zow rfl rfl rfl ?_)       | (refine Zou rfl rfl ?_)       | (with_reducible refine Zov ?_) | (with_reducible refine ZqK ?_)       | (with_reducible refine ZqL ?_)       | (with_reducible exact Zl4)       | (with_reducible refine ZqA ?_ ?_)       | (with_reducible refine Zqz ?_)       | (with_reducible refine Zt5 ?_)       | (with_reducible refine Zuk ?_)       | (with_reducible exact ZkP)       | (refine ZjU rfl ?_ ?_)       | (refine ZjV rfl ?_) | (refine ZkO rfl ?_)       | (with_reducible refine ZjT ?_)       | (with_reducible refine Zor ?_)       | (with_reducible exact Zoq)       | (with_reducible refine Zot ?_)       | (with_reducible exact Zt7)       | (with_reducible refine Zt6 ?_ ?_)       | (with_reducible exact ZhB)       | (with_reducible refine ZiX ?_)       | exact ZhB       | (refine ZiX ?_)       | (refine Zos ?_)       | (refine Zl7 ?_)       | (refine Zl6 rfl ?_)       | (refine Zkv rfl rfl rfl rfl ?_)       | (refine Zl5 ?_ rfl rfl rfl rfl ?_)       | (simp only [cInt,cStr,ZlX,cB8,Zku,Zd7,Zar,ZcB,Zb5,cLeg,Z2,ZS,Zk,Zax,ZV,Ze0,Zbi,cAct,Ze8,Zjf,Zjd,Zje,Zh2,Ziv,Zh1])       | (with_unfolding_all rfl))); (all_goals first | (exact Zh6 rfl) | exact none); (first | done | fail)):p:=h
theorem wk7 {p:Prop} (h:p:=by
 (simp only [List.length_cons,List.length_nil,Nat.reduceAdd,Nat.reduceSub,List.replicate_succ,List.replicate_zero,List.cons_append,List.nil_append,go_sem]);
 repeat' (first
  | ((with_reducible refine Ztc H ?_ ?_) <;> (clear H; intro H; (try ((refine Zve (by rfl) (by rfl) (by first | (simp only [go_sem]; done) | (simp only [go_sem]; decide)) (by first | rfl | (simp only [go_sem]; rfl)) ?_); simp only [go_sem,Nat.reduceAdd,Nat.reduceSub,Nat.reduceMul,Nat.reduceLT,Nat.reduceLeDiff,Nat.reduceEqDiff,if_true,eq_self,Int.reduceToNat]))))
  | ((with_reducible refine Zrv ?_ ?_ ?_); (focus (simp [isR])); (focus (simp only [go_sem])); (simp only [List.cons_append,List.nil_append]))
  | ((with_reducible refine Zo7 H rfl (by kernel_rfl) ?_); (clear H; intro H; simp only [go_sem,Nat.reduceAdd,Nat.reduceSub,Nat.reduceMul,Nat.reduceLT,Nat.reduceLeDiff,Nat.reduceEqDiff,if_true,eq_self]))
  | ((with_reducible refine ZwV (rhoH H) ?_); (refine Zok H rfl rfl ?_ ?_ ?_ ?_ ?_ ?_ ?_ ?_); (focus (first | rfl | (simp only [CT.args,List.map_cons,List.map_nil,renA,renC,ren1,Zsn,Zsm,Zsl]; done))); (focus (simp [CT.args,CT.m0,Zfh,ZaL,lowA,lowC,low1,isR])); (focus (first | exact List.nodup_nil | decide)); (focus ((simp only [CT.m0]); (repeat' (first | exact ZgS | (refine ZgR (by rfl) ?_) | (refine ZgT (by rfl) (by rfl) (by simp [ZaL,lowC,low1,isR]) ?_))))); (focus (intro y_; simp [CT.mem,CT.m0])); (focus (intro y_; (simp only [CT.mem]); (repeat (first | exact Zmi | exact Zg7 | exact Zia | (refine hm_c Zg7 ?_) | (refine hm_c (ZbO (by simp [ZaL,isR])) ?_) | exact ZbO (by simp [ZaL,isR]) | (refine Zjv ?_))))); (focus (intro y_; (simp [CT.res,Zfi,Zfh,ZaL,isR]))); (clear H; intro y_ hy H; simp only [CT.res,CT.mem,ZeK,List.drop_succ_cons,List.drop_zero,Option.map_none,go_sem,Nat.reduceAdd,Nat.reduceSub,Nat.reduceMul,Nat.reduceLT,Nat.reduceLeDiff,Nat.reduceEqDiff,if_true,eq_self]))
  | ((with_reducible refine jnS (jnH H) ?_); (first | ((refine ZrU H ?_ ?_ (fun K_ hL H=>?_) (fun o_ H=>?_)); (focus (decide +kernel)); (focus (decide +kernel))) | ((refine ZrT H ?_ ?_ (fun K_ hL H=>?_) (fun o_ H=>?_)); (focus (decide +kernel)); (focus (decide +kernel)))))
  | ((with_reducible refine rhoS (rhoH H) ?_); (refine Zqt H rfl rfl rfl ?_ ?_ ?_ ?_ ?_ ?_ ?_ ?_); (focus (first | rfl | (simp only [CT.args,List.map_cons,List.map_nil,renA,renC,ren1,Zsn,Zsm,Zsl]; done))); (focus (simp [CT.args,CT.m0,Zfh,ZaL,lowA,lowC,low1,isR])); (focus (first | exact List.nodup_nil | decide)); (focus ((simp only [CT.m0]); (repeat' (first | exact ZgS | (refine ZgR (by rfl) ?_) | (refine ZgT (by rfl) (by rfl) (by simp [ZaL,lowC,low1,isR]) ?_))))); (focus (intro y_; simp [CT.mem,CT.m0])); (focus (intro y_; (simp only [CT.mem]); (repeat (first | exact Zmi | exact Zg7 | exact Zia | (refine hm_c Zg7 ?_) | (refine hm_c (ZbO (by simp [ZaL,isR])) ?_) | exact ZbO (by simp [ZaL,isR]) | (refine Zjv ?_))))); (focus (intro y_; (simp [CT.res,Zfi,Zfh,ZaL,isR]))); (clear H; intro y_ hy H; simp only [CT.res,CT.mem,ZeK,List.drop_succ_cons,List.drop_zero,Option.map_none,go_sem,Nat.reduceAdd,Nat.reduceSub,Nat.reduceMul,Nat.reduceLT,Nat.reduceLeDiff,Nat.reduceEqDiff,if_true,eq_self]))
  | ((with_reducible refine Zo9 H ?_ ?_); (focus (exact xu)); (clear H; intro z_ H))
  | ((with_reducible refine ZrS H ?_ ?_); (focus (exact xu)); (clear H; intro H))
  | ((with_reducible refine ZrW ?_); intro K_ hK)
  | ((with_reducible refine ZmP ?_))
  | ((with_reducible refine ZkK ?_); simp only [go_sem,Nat.reduceAdd,Nat.reduceSub,Nat.reduceMul,Nat.reduceLT,Nat.reduceLeDiff,Nat.reduceEqDiff,if_true,eq_self])
  | ((with_reducible refine Zpa ?_); (try simp only [ZdO,Zc1]))
  | ((with_reducible refine Zo8 ?_); (simp only [Ziq,Zhg,ZdO,Zc1,if_true,if_false,eq_self,Nat.reduceEqDiff,Nat.one_ne_zero,Nat.zero_ne_one]); (try simp only [bexR,bsr,bsl] at H))
  | ((with_reducible refine ZrV ?_); (try simp only [Zj4,Zh0]))
  | ((with_reducible refine hQ _ _ ?_); (try simp only [bexR,bsr,bsl] at H); replace H:=Hret H; subst H; simp only [Fin,resP,oneP,go_sem,Nat.reduceAdd,Nat.reduceSub,Nat.reduceMul,Nat.reduceLT,Nat.reduceLeDiff,Nat.reduceEqDiff,if_true,eq_self]; exact xu)
  | ((with_reducible refine hQn _ _ ?_); (try simp only [bexR,bsr,bsl] at H); replace H:=Hret H; subst H; simp only [Fin,resP,oneP,go_sem,Nat.reduceAdd,Nat.reduceSub,Nat.reduceMul,Nat.reduceLT,Nat.reduceLeDiff,Nat.reduceEqDiff,if_true,eq_self]; exact xu)
  | ((with_reducible refine ZwB ?_); (refine Zjq (fun hg=>Hc1k H hg ?_) (fun hg=>Hc2k H hg ?_)) <;> (clear H; intro H; simp only [go_sem,Nat.reduceAdd,Nat.reduceSub,Nat.reduceMul,Nat.reduceLT,Nat.reduceLeDiff,Nat.reduceEqDiff,if_true,eq_self]))
  | ((with_reducible refine ZmQ ?_); simp only [Znv,Zq1,Zq0,Zk5]; (first | (with_reducible refine Zoo ?_) | (with_reducible refine Zon ?_) | ((refine Zjg (fun hg=>Hc1k H hg ?_) (fun hg=>Hc2k H hg ?_)) <;> (clear H; intro H))))
  | ((with_reducible refine idxS ?_); replace H:=Zi8 H; obtain ⟨y_,hy,H⟩:=H; (with_reducible apply Zun hy); (focus (first | (simp only [go_sem]; done) | (simp only [go_sem]; decide))); (focus (first | rfl | (simp only [go_sem]; rfl))); simp only [go_sem,Nat.reduceAdd,Nat.reduceSub,Nat.reduceMul,Nat.reduceLT,Nat.reduceLeDiff,Nat.reduceEqDiff,if_true,eq_self])
  | ((with_reducible refine idxM ?_); replace H:=Zi8 H; obtain ⟨y_,hy,H⟩:=H; (first | (refine Zq7 hy (by rfl) (by first | (simp only [go_sem]; done) | (simp only [go_sem]; decide)) (by first | rfl | (simp only [go_sem]; rfl)) ?_) | (refine ZoQ hy (by rfl) (by first | (simp only [go_sem]; done) | (simp only [go_sem]; decide)) (by first | rfl | (simp only [go_sem]; rfl)) ?_)); simp only [go_sem,Nat.reduceAdd,Nat.reduceSub,Nat.reduceMul,Nat.reduceLT,Nat.reduceLeDiff,Nat.reduceEqDiff,if_true,eq_self])
  | ((with_reducible refine idxB ?_); replace H:=Zi8 H; obtain ⟨y_,hy,H⟩:=H; (with_reducible apply Zq8 hy); (focus (simp only [go_sem])); simp only [go_sem,Nat.reduceAdd,Nat.reduceSub,Nat.reduceMul,Nat.reduceLT,Nat.reduceLeDiff,Nat.reduceEqDiff,if_true,eq_self])
  | ((with_reducible refine Zwk ?_); replace H:=Zi8 H; obtain ⟨y_,hy,H⟩:=H; (first | ((with_reducible apply Zhz); (focus (exact CT.ok hy)); (focus (simp [isCA,isC,isC1])); (focus (exact Nat.le_of_ble_eq_true rfl)); (focus (exact xf)); (focus (first | exact Zs6 rfl | exact Zs7 rfl | exact ZoJ rfl | exact ZoK rfl | exact (fun h=>(by cases h)) | (simp [CT.res,Zfi,Zfh,ZaL,isR]))); (simp only [CT.res,CT.mem,go_sem,Nat.reduceAdd,Nat.reduceSub,Nat.reduceMul,Nat.reduceLT,Nat.reduceLeDiff,Nat.reduceEqDiff,if_true,eq_self])) | ((with_reducible apply Zhz); (focus (exact zxs)); (focus (simp [isCA,isC,isC1])); (focus (exact Nat.le_of_ble_eq_true rfl)); (focus (exact xf)); (focus (first | exact Zs6 rfl | exact Zs7 rfl | exact ZoJ rfl | exact ZoK rfl | exact (fun h=>(by cases h)) | (simp [CT.res,Zfi,Zfh,ZaL,isR]))); (simp only [CT.res,CT.mem,go_sem,Nat.reduceAdd,Nat.reduceSub,Nat.reduceMul,Nat.reduceLT,Nat.reduceLeDiff,Nat.reduceEqDiff,if_true,eq_self])) | ((with_reducible apply ZlY); (focus (first | (simp only [Zio,ZiR,ZhU,ZiQ,Zfq,ZjF,ZjE,Zgb,ZfI,ZfN,List.forall_mem_nil,true_and,and_true,if_true]; (first | exact CT.ok hy | (simp only [all_nil,all_cons,isC,isC1,true_and,and_true,if_true]; exact CT.ok hy))) | (simp only [Zio,ZiR,ZhU,ZiQ,Zfq,ZjF,ZjE,Zgb,ZfI,ZfN,List.forall_mem_nil,true_and,and_true,if_true]; (first | (exact zxs) | (simp only [all_nil,all_cons,isC,isC1,true_and,and_true,if_true]; (exact zxs)))) | (simp only [Zio,ZiR,ZhU,ZiQ,Zfq,ZjF,ZjE,Zgb,ZfI,ZfN,List.forall_mem_nil,true_and,and_true,if_true]; (exact zxs)))); (focus (exact Nat.le_of_ble_eq_true rfl)); (focus (exact xf)); (focus (first | exact Zum rfl | exact (fun _=>rfl) | (simp [CT.res,Zfi,Zfh,ZaL,isF]))); (simp only [CT.res,CT.mem,go_sem,Nat.reduceAdd,Nat.reduceSub,Nat.reduceMul,Nat.reduceLT,Nat.reduceLeDiff,Nat.reduceEqDiff,if_true,eq_self]))))
  | ((with_reducible refine slcS ?_); replace H:=Hchk H; obtain ⟨hc,H⟩:=H; (first | ((with_reducible apply Zpf hc); (focus rfl); (focus rfl); (focus (first | (simp only [go_sem]; done) | (simp only [go_sem]; decide))); (focus (first | rfl | (intro x_; rfl))); simp only [go_sem,Nat.reduceAdd,Nat.reduceSub,Nat.reduceMul,Nat.reduceLT,Nat.reduceLeDiff,Nat.reduceEqDiff,if_true,eq_self]) | ((refine ZmY hc (by rfl) (by rfl) (by rfl) (by first | (simp only [go_sem]; done) | (simp only [go_sem]; decide)) (by first | rfl | (simp only [go_sem]; rfl)) ?_); simp only [go_sem,Nat.reduceAdd,Nat.reduceSub,Nat.reduceMul,Nat.reduceLT,Nat.reduceLeDiff,Nat.reduceEqDiff,if_true,eq_self]) | ((with_reducible apply ZmZ hc); (focus rfl); (focus rfl); (focus (simp only [go_sem])); simp only [go_sem,Nat.reduceAdd,Nat.reduceSub,Nat.reduceMul,Nat.reduceLT,Nat.reduceLeDiff,Nat.reduceEqDiff,if_true,eq_self])))
  | ((with_reducible refine appS ?_); replace H:=Hchk H; obtain ⟨hc,H⟩:=H; (first | (refine Zqq hc (by first | (simp only [go_sem]; done) | (simp only [go_sem]; rfl)) (by first | (simp only [go_sem]; done) | (simp only [go_sem]; rfl)) (by first | (simp only [go_sem]; done) | (simp only [go_sem]; rfl)) (by first | (simp only [go_sem]; done) | (simp only [go_sem]; rfl)) (by rfl) (by first | rfl | exact ZlE (by rfl) (by rfl) (by rfl)) rfl rfl (by intro x_; rfl) rfl ?_) | (refine Zqr hc (by first | (simp only [go_sem]; done) | (simp only [go_sem]; rfl)) (by first | (simp only [go_sem]; done) | (simp only [go_sem]; rfl)) (by first | (simp only [go_sem]; done) | (simp only [go_sem]; rfl)) (by first | (simp only [go_sem]; done) | (simp only [go_sem]; rfl)) (by first | rfl | exact ZlE (by rfl) (by rfl) (by rfl)) rfl rfl (by intro x_; rfl) ?_) | (refine Zqp hc rfl (by first | (simp only [go_sem]; done) | (simp only [go_sem]; rfl)) (by first | (simp only [go_sem]; done) | (simp only [go_sem]; rfl)) (by first | (simp only [go_sem]; done) | (simp only [go_sem]; rfl)) (by first | (simp only [go_sem]; done) | (simp only [go_sem]; rfl)) (by rfl) (by rfl) (by rfl) (by rfl) rfl rfl (by rfl) ?_)); simp only [go_sem,Nat.reduceAdd,Nat.reduceSub,Nat.reduceMul,Nat.reduceLT,Nat.reduceLeDiff,Nat.reduceEqDiff,if_true,eq_self])
  | ((with_reducible refine mkS ?_); replace H:=Hchk H; obtain ⟨hc,H⟩:=H; (refine Zur hc (by first | (simp only [go_sem]; done) | (simp only [go_sem]; rfl)) (by first | (simp only [go_sem]; done) | (simp only [go_sem]; rfl)) (by first | (simp only [go_sem]; done) | (simp only [go_sem]; rfl)) (by first | (simp only [go_sem]; done) | (simp only [go_sem]; rfl)) rfl rfl ?_); simp only [go_sem,Nat.reduceAdd,Nat.reduceSub,Nat.reduceMul,Nat.reduceLT,Nat.reduceLeDiff,Nat.reduceEqDiff,if_true,eq_self])
  | ((with_reducible refine optS ?_); (first | (with_reducible refine ZiA (by decide) ?_) | (replace H:=Hchk H; obtain ⟨hc,H⟩:=H; (first | (refine ZiA hc ?_) | (refine ZiA (of_decide_eq_true hc) ?_) | (refine ZiA ⟨rfl,of_decide_eq_true hc⟩ ?_)))); simp only [go_sem,Nat.reduceAdd,Nat.reduceSub,Nat.reduceMul,Nat.reduceLT,Nat.reduceLeDiff,Nat.reduceEqDiff,if_true,eq_self])
  | ((with_reducible refine ZwJ ?_); (refine ZmR (Hlp H) ?_ ?_); (focus (simp only [Z1.T,Z1.M,U_s,U_z]; exact xu)); (clear H; intro n_ s_ H K_ hL; replace H:=Hrd H; simp only [Z1.T,Z1.M,U_s,U_z]))
  | ((with_reducible refine Zo6 (by kernel_rfl) ?_); simp only [go_sem,Nat.reduceAdd,Nat.reduceSub,Nat.reduceMul,Nat.reduceLT,Nat.reduceLeDiff,Nat.reduceEqDiff,if_true,eq_self])
  | ((with_reducible refine Zky (by kernel_rfl) ?_); (try simp only [ZdO,Zc1]))
  | ((with_reducible refine hK _ _ ?_); clear hK)
  | (clear hK; (with_reducible refine hK _ _ ?_); clear hK)
  | (clear hK; clear hK; (with_reducible refine hK _ _ ?_); clear hK)
  | (clear hK; clear hK; clear hK; (with_reducible refine hK _ _ ?_); clear hK)
  | (clear hK; clear hK; clear hK; clear hK; (with_reducible refine hK _ _ ?_); clear hK)
  | (clear hK; clear hK; clear hK; clear hK; clear hK; (with_reducible refine hK _ _ ?_); clear hK)
  | ((with_reducible refine And.intro ?_ ?_); omega)
  | (simp only [ZnK,ZnI,ZnJ,Znh]; simp only [go_sem,Nat.reduceAdd,Nat.reduceSub,Nat.reduceMul,Nat.reduceLT,Nat.reduceLeDiff,Nat.reduceEqDiff,if_true,eq_self])
  | ((first | simp only [lit3 hy,Option.map_some,List.drop_zero,go_sem] | simp only [Ztl hy,Option.map_some,List.drop_zero,go_sem] | simp only [Zk9 hy,Zg8 hy,Ziy hy,go_sem,Nat.reduceAdd,Nat.reduceSub,Nat.reduceMul,Nat.reduceLT,Nat.reduceLeDiff,Nat.reduceEqDiff,if_true,eq_self] | simp only [Zg8 hy,Ziy hy,go_sem,Nat.reduceAdd,Nat.reduceSub,Nat.reduceMul,Nat.reduceLT,Nat.reduceLeDiff,Nat.reduceEqDiff,if_true,eq_self]))
  | ((with_reducible replace H:=HexL H); (with_reducible refine hL _ _ _ H ?_); (try simp only [Z1.T,Z1.M,U_s,U_z]); exact xu)
  | ((with_reducible replace H:=HexL H); clear hL; (with_reducible refine hL _ _ _ H ?_); (try simp only [Z1.T,Z1.M,U_s,U_z]); exact xu)
  | ((with_reducible refine jnX H hL ?_); exact xu)
  | (with_reducible exact (Zwb H).elim)
  | ((with_reducible replace H:=rgH H); obtain ⟨y_,hy,H⟩:=H; (first | simp only [lit3 hy,Option.map_some,List.drop_zero,go_sem] | simp only [Ztl hy,Option.map_some,List.drop_zero,go_sem] | simp only [Zk9 hy,Zg8 hy,Ziy hy,go_sem,Nat.reduceAdd,Nat.reduceSub,Nat.reduceMul,Nat.reduceLT,Nat.reduceLeDiff,Nat.reduceEqDiff,if_true,eq_self] | simp only [Zg8 hy,Ziy hy,go_sem,Nat.reduceAdd,Nat.reduceSub,Nat.reduceMul,Nat.reduceLT,Nat.reduceLeDiff,Nat.reduceEqDiff,if_true,eq_self])))):p:=h
end Go.Proofs.YtkfbakhnpfmfmaaGreatDoor
namespace Go.Proofs
open Go.Shelf
def Tryz.lays169_ren:Go.Shelf.Ren:=⟨fun | 169=>163 | n=>n,fun | 70=>197 | 9=>9 | 0=>0 | 72=>199 | 37=>40 | 127=>210 | 3=>3 | 5=>5 | n=>n,fun | n=>n⟩
theorem Tryz.lays169:Go.Proofs.Lays.n169 Tryz.prog Tryz.lays169_ren:={
 mixed:=by kernel_rfl
 f169:=Tryz.func163.trans (congrArg some (by kernel_rfl))
 t0:=Tryz.underlying0
 a0:=Tryz.isAgg0
 z0:=Tryz.sizeOf0
 v0:=Tryz.zeroValue0
 t3:=Tryz.underlying3
 a3:=Tryz.isAgg3
 z3:=Tryz.sizeOf3
 v3:=Tryz.zeroValue3
 t9:=Tryz.underlying9
 a9:=Tryz.isAgg9
 z9:=Tryz.sizeOf9
 v9:=Tryz.zeroValue9
 t37:=Tryz.underlying40
 a37:=Tryz.isAgg40
 z37:=Tryz.sizeOf40
 v37:=Tryz.zeroValue40
 t70:=Tryz.underlying197
 a70:=Tryz.isAgg197
 z70:=Tryz.sizeOf197
 v70:=Tryz.zeroValue197
 t72:=Tryz.underlying199
 a72:=Tryz.isAgg199
 z72:=Tryz.sizeOf199
 v72:=Tryz.zeroValue199
 t127:=Tryz.underlying210
 a127:=Tryz.isAgg210
 z127:=Tryz.sizeOf210
 v127:=Tryz.zeroValue210 }
theorem Tryz.Builder_Extra_169:Builder.Extra Tryz.prog Tryz.lays169_ren:={
 sizeBuilder:=by kernel_rfl
 liesBuilder:=by kernel_rfl
 t5:=Tryz.underlying5
 a5:=Tryz.isAgg5
 z5:=Tryz.sizeOf5
 v5:=Tryz.zeroValue5
 infoByte:=by kernel_rfl
 cellsByte:=by kernel_rfl
 sizeByte:=by kernel_rfl
 neB5:=by decide }
open Go.RowKit in
theorem Tryz.Builder_String_any (B b:Nat) (l:List UInt8) (w:World) (h:Lib.IsBuilder 199 5 B b (Lib.byteCells l) w) (hBw:B≤w.heap.size):
 Calls Tryz.prog 163 #[.pointer (some ⟨b,0,none⟩)] w fun e w'=>e=.returned (.string ⟨l.toArray⟩)∧Below B w w':=Any.Builder_String_any Tryz.lays169 Tryz.Builder_Extra_169 B b l w h hBw
def Tryz.lays125_ren:Go.Shelf.Ren:=⟨fun | 125=>165 | 128=>202 | 129=>170 | n=>n,fun | 46=>113 | 3=>3 | 51=>154 | 53=>157 | 4=>4 | 5=>5 | 9=>9 | n=>n,fun | n=>n⟩
theorem Tryz.lays125:Go.Proofs.Lays.n125 Tryz.prog Tryz.lays125_ren:={
 mixed:=by kernel_rfl
 f125:=Tryz.func165.trans (congrArg some (by kernel_rfl))
 f128:=Tryz.func202.trans (congrArg some (by kernel_rfl))
 f129:=Tryz.func170.trans (congrArg some (by kernel_rfl))
 t3:=Tryz.underlying3
 a3:=Tryz.isAgg3
 z3:=Tryz.sizeOf3
 v3:=Tryz.zeroValue3
 t4:=Tryz.underlying4
 a4:=Tryz.isAgg4
 z4:=Tryz.sizeOf4
 v4:=Tryz.zeroValue4
 t5:=Tryz.underlying5
 a5:=Tryz.isAgg5
 z5:=Tryz.sizeOf5
 v5:=Tryz.zeroValue5
 t9:=Tryz.underlying9
 a9:=Tryz.isAgg9
 z9:=Tryz.sizeOf9
 v9:=Tryz.zeroValue9
 t46:=Tryz.underlying113
 a46:=Tryz.isAgg113
 z46:=Tryz.sizeOf113
 v46:=Tryz.zeroValue113
 t51:=Tryz.underlying154
 a51:=Tryz.isAgg154
 z51:=Tryz.sizeOf154
 v51:=Tryz.zeroValue154
 t53:=Tryz.underlying157
 a53:=Tryz.isAgg157
 z53:=Tryz.sizeOf157
 v53:=Tryz.zeroValue157 }
theorem Tryz.bits_Len (x:Int) (w:World) (h0:0≤x) (h1:x≤18446744073709551615):
 Calls Tryz.prog 165 #[.int .u64 x] w fun e w'=>e=.returned (.int .i64 (Lib.bitLen x.toNat))∧w'=w:=Any.bits_Len Tryz.lays125 x w h0 h1
def Tryz.laysM171_ren:Go.Shelf.Ren:=⟨fun | 171=>53 | 243=>74 | 246=>101 | 283=>132 | 284=>133 | 285=>134 | 286=>135 | 129=>170 | 317=>169 | 318=>171 | 319=>172 | 320=>173 | 337=>211 | 338=>212 | n=>n,fun | 3=>3 | 9=>9 | 2=>2 | 4=>4 | 171=>164 | 0=>0 | 53=>157 | 37=>40 | 5=>5 | 173=>167 | 212=>215 | 51=>154 | 20=>20 | 213=>216 | 46=>113 | 232=>291 | 233=>292 | n=>n,fun | 17=>3 | 18=>6 | 19=>7 | n=>n⟩
theorem Tryz.laysM171:Go.Proofs.LaysM.n171 Tryz.prog Tryz.laysM171_ren:={
 mixed:=by kernel_rfl
 f129:=Tryz.func170.trans (congrArg some (by kernel_rfl))
 f171:=Tryz.func53.trans (congrArg some (by kernel_rfl))
 f243:=Tryz.func74.trans (congrArg some (by kernel_rfl))
 f246:=Tryz.func101.trans (congrArg some (by kernel_rfl))
 f283:=Tryz.func132.trans (congrArg some (by kernel_rfl))
 f284:=Tryz.func133.trans (congrArg some (by kernel_rfl))
 f285:=Tryz.func134.trans (congrArg some (by kernel_rfl))
 f286:=Tryz.func135.trans (congrArg some (by kernel_rfl))
 f317:=Tryz.func169.trans (congrArg some (by kernel_rfl))
 f318:=Tryz.func171.trans (congrArg some (by kernel_rfl))
 f319:=Tryz.func172.trans (congrArg some (by kernel_rfl))
 f320:=Tryz.func173.trans (congrArg some (by kernel_rfl))
 f337:=Tryz.func211.trans (congrArg some (by kernel_rfl))
 f338:=Tryz.func212.trans (congrArg some (by kernel_rfl))
 t0:=Tryz.underlying0
 a0:=Tryz.isAgg0
 z0:=Tryz.sizeOf0
 v0:=Tryz.zeroValue0
 t2:=Tryz.underlying2
 a2:=Tryz.isAgg2
 z2:=Tryz.sizeOf2
 v2:=Tryz.zeroValue2
 t3:=Tryz.underlying3
 a3:=Tryz.isAgg3
 z3:=Tryz.sizeOf3
 v3:=Tryz.zeroValue3
 t4:=Tryz.underlying4
 a4:=Tryz.isAgg4
 z4:=Tryz.sizeOf4
 v4:=Tryz.zeroValue4
 t5:=Tryz.underlying5
 a5:=Tryz.isAgg5
 z5:=Tryz.sizeOf5
 v5:=Tryz.zeroValue5
 t9:=Tryz.underlying9
 a9:=Tryz.isAgg9
 z9:=Tryz.sizeOf9
 v9:=Tryz.zeroValue9
 t20:=Tryz.underlying20
 a20:=Tryz.isAgg20
 z20:=Tryz.sizeOf20
 v20:=Tryz.zeroValue20
 t37:=Tryz.underlying40
 a37:=Tryz.isAgg40
 z37:=Tryz.sizeOf40
 v37:=Tryz.zeroValue40
 t46:=Tryz.underlying113
 a46:=Tryz.isAgg113
 z46:=Tryz.sizeOf113
 v46:=Tryz.zeroValue113
 t51:=Tryz.underlying154
 a51:=Tryz.isAgg154
 z51:=Tryz.sizeOf154
 v51:=Tryz.zeroValue154
 t53:=Tryz.underlying157
 a53:=Tryz.isAgg157
 z53:=Tryz.sizeOf157
 v53:=Tryz.zeroValue157
 t171:=Tryz.underlying164
 a171:=Tryz.isAgg164
 z171:=Tryz.sizeOf164
 v171:=Tryz.zeroValue164
 t173:=Tryz.underlying167
 a173:=Tryz.isAgg167
 z173:=Tryz.sizeOf167
 v173:=Tryz.zeroValue167
 t212:=Tryz.underlying215
 a212:=Tryz.isAgg215
 z212:=Tryz.sizeOf215
 v212:=Tryz.zeroValue215
 t213:=Tryz.underlying216
 a213:=Tryz.isAgg216
 z213:=Tryz.sizeOf216
 t232:=Tryz.underlying291
 a232:=Tryz.isAgg291
 z232:=Tryz.sizeOf291
 v232:=Tryz.zeroValue291
 t233:=Tryz.underlying292
 a233:=Tryz.isAgg292
 z233:=Tryz.sizeOf292
 v233:=Tryz.zeroValue292
 g17:=by kernel_rfl
 g18:=by kernel_rfl
 g19:=by kernel_rfl
 i0:=by kernel_rfl
 i2:=by kernel_rfl
 i3:=by kernel_rfl
 i4:=by kernel_rfl
 i5:=by kernel_rfl
 i9:=by kernel_rfl
 i20:=by kernel_rfl
 i37:=by kernel_rfl
 i46:=by kernel_rfl
 i51:=by kernel_rfl
 i53:=by kernel_rfl
 i171:=by kernel_rfl
 i173:=by kernel_rfl
 i212:=by kernel_rfl
 i232:=by kernel_rfl
 i233:=by kernel_rfl
 m17:=by kernel_rfl
 m18:=by kernel_rfl
 m19:=by kernel_rfl }
open Go.RowKit Go.Sort Go.Lib in
theorem Tryz.strconv_Itoa (n : Int) (h0 : -9223372036854775808 ≤ n) (h1 : n ≤ 9223372036854775807) (w : World) (htab : Lib.TabIs Tryz.prog w "internal/strconv.uint64pow10" .u64 Lib.pow10Tab) :
 Calls Tryz.prog 53 #[.int .i64 n] w fun e w'=>e=.returned (.string ⟨(Lib.itoa n).toArray⟩)∧∃ k os,w'=grow (w.drewN k) os:=Any.strconv_Itoa Tryz.laysM171 n h0 h1 w htab
def Tryz.lays171_ren:Go.Shelf.Ren:=⟨fun | 171=>53 | 243=>74 | 246=>101 | 283=>132 | 284=>133 | 285=>134 | 286=>135 | 129=>170 | 317=>169 | 318=>171 | 319=>172 | 320=>173 | 337=>211 | 338=>212 | n=>n,fun | 3=>3 | 9=>9 | 2=>2 | 4=>4 | 171=>164 | 0=>0 | 53=>157 | 37=>40 | 5=>5 | 173=>167 | 212=>215 | 51=>154 | 20=>20 | 213=>216 | 46=>113 | 232=>291 | 233=>292 | n=>n,fun | 17=>3 | 18=>6 | 19=>7 | n=>n⟩
theorem Tryz.lays171:Go.Proofs.Lays.n171 Tryz.prog Tryz.lays171_ren:={
 mixed:=by kernel_rfl
 f129:=Tryz.func170.trans (congrArg some (by kernel_rfl))
 f171:=Tryz.func53.trans (congrArg some (by kernel_rfl))
 f243:=Tryz.func74.trans (congrArg some (by kernel_rfl))
 f246:=Tryz.func101.trans (congrArg some (by kernel_rfl))
 f283:=Tryz.func132.trans (congrArg some (by kernel_rfl))
 f284:=Tryz.func133.trans (congrArg some (by kernel_rfl))
 f285:=Tryz.func134.trans (congrArg some (by kernel_rfl))
 f286:=Tryz.func135.trans (congrArg some (by kernel_rfl))
 f317:=Tryz.func169.trans (congrArg some (by kernel_rfl))
 f318:=Tryz.func171.trans (congrArg some (by kernel_rfl))
 f319:=Tryz.func172.trans (congrArg some (by kernel_rfl))
 f320:=Tryz.func173.trans (congrArg some (by kernel_rfl))
 f337:=Tryz.func211.trans (congrArg some (by kernel_rfl))
 f338:=Tryz.func212.trans (congrArg some (by kernel_rfl))
 t0:=Tryz.underlying0
 a0:=Tryz.isAgg0
 z0:=Tryz.sizeOf0
 v0:=Tryz.zeroValue0
 t2:=Tryz.underlying2
 a2:=Tryz.isAgg2
 z2:=Tryz.sizeOf2
 v2:=Tryz.zeroValue2
 t3:=Tryz.underlying3
 a3:=Tryz.isAgg3
 z3:=Tryz.sizeOf3
 v3:=Tryz.zeroValue3
 t4:=Tryz.underlying4
 a4:=Tryz.isAgg4
 z4:=Tryz.sizeOf4
 v4:=Tryz.zeroValue4
 t5:=Tryz.underlying5
 a5:=Tryz.isAgg5
 z5:=Tryz.sizeOf5
 v5:=Tryz.zeroValue5
 t9:=Tryz.underlying9
 a9:=Tryz.isAgg9
 z9:=Tryz.sizeOf9
 v9:=Tryz.zeroValue9
 t20:=Tryz.underlying20
 a20:=Tryz.isAgg20
 z20:=Tryz.sizeOf20
 v20:=Tryz.zeroValue20
 t37:=Tryz.underlying40
 a37:=Tryz.isAgg40
 z37:=Tryz.sizeOf40
 v37:=Tryz.zeroValue40
 t46:=Tryz.underlying113
 a46:=Tryz.isAgg113
 z46:=Tryz.sizeOf113
 v46:=Tryz.zeroValue113
 t51:=Tryz.underlying154
 a51:=Tryz.isAgg154
 z51:=Tryz.sizeOf154
 v51:=Tryz.zeroValue154
 t53:=Tryz.underlying157
 a53:=Tryz.isAgg157
 z53:=Tryz.sizeOf157
 v53:=Tryz.zeroValue157
 t171:=Tryz.underlying164
 a171:=Tryz.isAgg164
 z171:=Tryz.sizeOf164
 v171:=Tryz.zeroValue164
 t173:=Tryz.underlying167
 a173:=Tryz.isAgg167
 z173:=Tryz.sizeOf167
 v173:=Tryz.zeroValue167
 t212:=Tryz.underlying215
 a212:=Tryz.isAgg215
 z212:=Tryz.sizeOf215
 v212:=Tryz.zeroValue215
 t213:=Tryz.underlying216
 a213:=Tryz.isAgg216
 z213:=Tryz.sizeOf216
 t232:=Tryz.underlying291
 a232:=Tryz.isAgg291
 z232:=Tryz.sizeOf291
 v232:=Tryz.zeroValue291
 t233:=Tryz.underlying292
 a233:=Tryz.isAgg292
 z233:=Tryz.sizeOf292
 v233:=Tryz.zeroValue292
 g17:=by kernel_rfl
 g18:=by kernel_rfl
 g19:=by kernel_rfl }
open Go.RowKit Go.Sort Go.Lib in
theorem Tryz.strconv_Itoa_small (i:Nat) (hi:i<100) (w:World):
 Calls Tryz.prog 53 #[.int .i64 i] w fun e w'=>e=.returned (.string ⟨(Lib.decDigits i).toArray⟩)∧w'=w:=Any.strconv_Itoa_small Tryz.lays171 i hi w
def Tryz.laysC172_ren:Go.Shelf.Ren:=⟨fun | 172=>52 | 244=>72 | 245=>73 | 247=>96 | 279=>97 | 280=>98 | 281=>99 | 282=>100 | 287=>129 | 316=>130 | 171=>53 | 205=>131 | 321=>167 | 322=>168 | 243=>74 | 246=>101 | 283=>132 | 284=>133 | 285=>134 | 286=>135 | 129=>170 | 317=>169 | 318=>171 | 319=>172 | 320=>173 | 337=>211 | 338=>212 | n=>n,fun | 9=>9 | 3=>3 | 75=>69 | 76=>70 | 4=>4 | 5=>5 | 167=>114 | 37=>40 | 0=>0 | 85=>115 | 2=>2 | 168=>117 | 53=>157 | 175=>158 | 46=>113 | 210=>162 | 127=>210 | 145=>213 | 143=>211 | 21=>21 | 171=>164 | 173=>167 | 212=>215 | 51=>154 | 20=>20 | 213=>216 | 232=>291 | 233=>292 | 80=>202 | n=>n,fun | 15=>1 | 16=>2 | 17=>3 | 18=>6 | 19=>7 | n=>n⟩
theorem Tryz.laysC172:Go.Proofs.LaysC.n172 Tryz.prog Tryz.laysC172_ren:={
 mixed:=by kernel_rfl
 f129:=Tryz.func170.trans (congrArg some (by kernel_rfl))
 f171:=Tryz.func53.trans (congrArg some (by kernel_rfl))
 f172:=Tryz.func52.trans (congrArg some (by kernel_rfl))
 f205:=Tryz.func131.trans (congrArg some (by kernel_rfl))
 f243:=Tryz.func74.trans (congrArg some (by kernel_rfl))
 f244:=Tryz.func72.trans (congrArg some (by kernel_rfl))
 f245:=Tryz.func73.trans (congrArg some (by kernel_rfl))
 f246:=Tryz.func101.trans (congrArg some (by kernel_rfl))
 f247:=Tryz.func96.trans (congrArg some (by kernel_rfl))
 f279:=Tryz.func97.trans (congrArg some (by kernel_rfl))
 f280:=Tryz.func98.trans (congrArg some (by kernel_rfl))
 f281:=Tryz.func99.trans (congrArg some (by kernel_rfl))
 f282:=Tryz.func100.trans (congrArg some (by kernel_rfl))
 f283:=Tryz.func132.trans (congrArg some (by kernel_rfl))
 f284:=Tryz.func133.trans (congrArg some (by kernel_rfl))
 f285:=Tryz.func134.trans (congrArg some (by kernel_rfl))
 f286:=Tryz.func135.trans (congrArg some (by kernel_rfl))
 f287:=Tryz.func129.trans (congrArg some (by kernel_rfl))
 f316:=Tryz.func130.trans (congrArg some (by kernel_rfl))
 f317:=Tryz.func169.trans (congrArg some (by kernel_rfl))
 f318:=Tryz.func171.trans (congrArg some (by kernel_rfl))
 f319:=Tryz.func172.trans (congrArg some (by kernel_rfl))
 f320:=Tryz.func173.trans (congrArg some (by kernel_rfl))
 f321:=Tryz.func167.trans (congrArg some (by kernel_rfl))
 f322:=Tryz.func168.trans (congrArg some (by kernel_rfl))
 f337:=Tryz.func211.trans (congrArg some (by kernel_rfl))
 f338:=Tryz.func212.trans (congrArg some (by kernel_rfl))
 t0:=Tryz.underlying0
 a0:=Tryz.isAgg0
 z0:=Tryz.sizeOf0
 v0:=Tryz.zeroValue0
 t2:=Tryz.underlying2
 a2:=Tryz.isAgg2
 z2:=Tryz.sizeOf2
 v2:=Tryz.zeroValue2
 t3:=Tryz.underlying3
 a3:=Tryz.isAgg3
 z3:=Tryz.sizeOf3
 v3:=Tryz.zeroValue3
 t4:=Tryz.underlying4
 a4:=Tryz.isAgg4
 z4:=Tryz.sizeOf4
 v4:=Tryz.zeroValue4
 t5:=Tryz.underlying5
 a5:=Tryz.isAgg5
 z5:=Tryz.sizeOf5
 v5:=Tryz.zeroValue5
 t9:=Tryz.underlying9
 a9:=Tryz.isAgg9
 z9:=Tryz.sizeOf9
 v9:=Tryz.zeroValue9
 t20:=Tryz.underlying20
 a20:=Tryz.isAgg20
 z20:=Tryz.sizeOf20
 v20:=Tryz.zeroValue20
 t21:=Tryz.underlying21
 a21:=Tryz.isAgg21
 z21:=Tryz.sizeOf21
 v21:=Tryz.zeroValue21
 t37:=Tryz.underlying40
 a37:=Tryz.isAgg40
 z37:=Tryz.sizeOf40
 v37:=Tryz.zeroValue40
 t46:=Tryz.underlying113
 a46:=Tryz.isAgg113
 z46:=Tryz.sizeOf113
 v46:=Tryz.zeroValue113
 t51:=Tryz.underlying154
 a51:=Tryz.isAgg154
 z51:=Tryz.sizeOf154
 v51:=Tryz.zeroValue154
 t53:=Tryz.underlying157
 a53:=Tryz.isAgg157
 z53:=Tryz.sizeOf157
 v53:=Tryz.zeroValue157
 t75:=Tryz.underlying69
 a75:=Tryz.isAgg69
 z75:=Tryz.sizeOf69
 v75:=Tryz.zeroValue69
 t76:=Tryz.underlying70
 a76:=Tryz.isAgg70
 z76:=Tryz.sizeOf70
 v76:=Tryz.zeroValue70
 t85:=Tryz.underlying115
 a85:=Tryz.isAgg115
 z85:=Tryz.sizeOf115
 v85:=Tryz.zeroValue115
 t127:=Tryz.underlying210
 a127:=Tryz.isAgg210
 z127:=Tryz.sizeOf210
 v127:=Tryz.zeroValue210
 t143:=Tryz.underlying211
 a143:=Tryz.isAgg211
 z143:=Tryz.sizeOf211
 v143:=Tryz.zeroValue211
 t145:=Tryz.underlying213
 a145:=Tryz.isAgg213
 z145:=Tryz.sizeOf213
 v145:=Tryz.zeroValue213
 t167:=Tryz.underlying114
 a167:=Tryz.isAgg114
 z167:=Tryz.sizeOf114
 v167:=Tryz.zeroValue114
 t168:=Tryz.underlying117
 a168:=Tryz.isAgg117
 z168:=Tryz.sizeOf117
 v168:=Tryz.zeroValue117
 t171:=Tryz.underlying164
 a171:=Tryz.isAgg164
 z171:=Tryz.sizeOf164
 v171:=Tryz.zeroValue164
 t173:=Tryz.underlying167
 a173:=Tryz.isAgg167
 z173:=Tryz.sizeOf167
 v173:=Tryz.zeroValue167
 t175:=Tryz.underlying158
 a175:=Tryz.isAgg158
 z175:=Tryz.sizeOf158
 v175:=Tryz.zeroValue158
 t210:=Tryz.underlying162
 a210:=Tryz.isAgg162
 z210:=Tryz.sizeOf162
 v210:=Tryz.zeroValue162
 t212:=Tryz.underlying215
 a212:=Tryz.isAgg215
 z212:=Tryz.sizeOf215
 v212:=Tryz.zeroValue215
 t213:=Tryz.underlying216
 a213:=Tryz.isAgg216
 z213:=Tryz.sizeOf216
 t232:=Tryz.underlying291
 a232:=Tryz.isAgg291
 z232:=Tryz.sizeOf291
 v232:=Tryz.zeroValue291
 t233:=Tryz.underlying292
 a233:=Tryz.isAgg292
 z233:=Tryz.sizeOf292
 v233:=Tryz.zeroValue292
 g15:=by kernel_rfl
 g16:=by kernel_rfl
 g17:=by kernel_rfl
 g18:=by kernel_rfl
 g19:=by kernel_rfl
 t80:=Tryz.underlying202
 a80:=Tryz.isAgg202
 z80:=Tryz.sizeOf202
 v80:=Tryz.zeroValue202
 i0:=by kernel_rfl
 i2:=by kernel_rfl
 i3:=by kernel_rfl
 i4:=by kernel_rfl
 i5:=by kernel_rfl
 i9:=by kernel_rfl
 i20:=by kernel_rfl
 i21:=by kernel_rfl
 i37:=by kernel_rfl
 i46:=by kernel_rfl
 i51:=by kernel_rfl
 i53:=by kernel_rfl
 i75:=by kernel_rfl
 i76:=by kernel_rfl
 i80:=by kernel_rfl
 i85:=by kernel_rfl
 i127:=by kernel_rfl
 i143:=by kernel_rfl
 i145:=by kernel_rfl
 i167:=by kernel_rfl
 i168:=by kernel_rfl
 i171:=by kernel_rfl
 i173:=by kernel_rfl
 i175:=by kernel_rfl
 i210:=by kernel_rfl
 i212:=by kernel_rfl
 i232:=by kernel_rfl
 i233:=by kernel_rfl
 m15:=by kernel_rfl
 m16:=by kernel_rfl
 m17:=by kernel_rfl
 m18:=by kernel_rfl
 m19:=by kernel_rfl
 c0:=by kernel_rfl
 c2:=by kernel_rfl
 c3:=by kernel_rfl
 c4:=by kernel_rfl
 c5:=by kernel_rfl
 c9:=by kernel_rfl
 c20:=by kernel_rfl
 c21:=by kernel_rfl
 c37:=by kernel_rfl
 c46:=by kernel_rfl
 c51:=by kernel_rfl
 c53:=by kernel_rfl
 c75:=by kernel_rfl
 c76:=by kernel_rfl
 c80:=by kernel_rfl
 c85:=by kernel_rfl
 c127:=by kernel_rfl
 c143:=by kernel_rfl
 c145:=by kernel_rfl
 c167:=by kernel_rfl
 c168:=by kernel_rfl
 c171:=by kernel_rfl
 c173:=by kernel_rfl
 c175:=by kernel_rfl
 c210:=by kernel_rfl
 c212:=by kernel_rfl
 c213:=by kernel_rfl
 c232:=by kernel_rfl
 c233:=by kernel_rfl }
open Go.RowKit in
theorem Tryz.strconv_Atoi_ok (s:ByteArray) (hmax:s.size≤9223372036854775806) (v:Int) (h:Lib.atoiAll s.data.toList=.ok v) (w:World):
 Calls Tryz.prog 52 #[.string s] w fun e w'=>e=.returned (.tuple #[.int .i64 v,.nilIface])∧(w'=w∨∃ t,w'=Lib.bytesWorld w 5 t):=Any.strconv_Atoi_ok Tryz.laysC172 s hmax v h w
open Go.RowKit in
theorem Tryz.strconv_Atoi_syntax (s:ByteArray) (hlim:s.size≤281474976710656) (h:Lib.atoiAll s.data.toList=Lib.NumEnd.syntax) (ev:Value) (w:World) (hv:w.cell? ⟨1,0,none⟩=some ev) (hev:ev=.nilIface∨∃ te pe,ev=.iface te pe):
 Calls Tryz.prog 52 #[.string s] w fun e w'=>∃ N,e=.returned (.tuple #[.int .i64 (0),.iface 117 (.pointer (some ⟨N,0,none⟩))])∧w.heap.size≤N∧w'.heap[N]?=some (.cells #[.string ⟨#[65,116,111,105]⟩,.string s,ev] 162 (0,0))∧Below w.heap.size w w':=Any.strconv_Atoi_syntax Tryz.laysC172 s hlim h ev w hv hev
open Go.RowKit in
theorem Tryz.strconv_Atoi_range (s:ByteArray) (hlim:s.size≤281474976710656) (h:Lib.atoiAll s.data.toList=.range) (ev:Value) (w:World) (hv:w.cell? ⟨2,0,none⟩=some ev) (hev:ev=.nilIface∨∃ te pe,ev=.iface te pe):
 Calls Tryz.prog 52 #[.string s] w fun e w'=>∃ N,e=.returned (.tuple #[.int .i64 (Lib.atoiSat s.data.toList),.iface 117 (.pointer (some ⟨N,0,none⟩))])∧w.heap.size≤N∧w'.heap[N]?=some (.cells #[.string ⟨#[65,116,111,105]⟩,.string s,ev] 162 (0,0))∧Below w.heap.size w w':=Any.strconv_Atoi_range Tryz.laysC172 s hlim h ev w hv hev
def Tryz.lays145_ren:Go.Shelf.Ren:=⟨fun | 145=>26 | 220=>50 | 219=>71 | 217=>92 | 225=>93 | 224=>94 | 267=>95 | 266=>127 | 314=>128 | n=>n,fun | 9=>9 | 4=>4 | 59=>52 | 3=>3 | 5=>5 | 46=>113 | 146=>155 | 51=>154 | n=>n,fun | 1=>0 | n=>n⟩
theorem Tryz.lays145:Go.Proofs.Lays.n145 Tryz.prog Tryz.lays145_ren:={
 mixed:=by kernel_rfl
 f145:=Tryz.func26.trans (congrArg some (by kernel_rfl))
 f217:=Tryz.func92.trans (congrArg some (by kernel_rfl))
 f219:=Tryz.func71.trans (congrArg some (by kernel_rfl))
 f220:=Tryz.func50.trans (congrArg some (by kernel_rfl))
 f224:=Tryz.func94.trans (congrArg some (by kernel_rfl))
 f225:=Tryz.func93.trans (congrArg some (by kernel_rfl))
 f266:=Tryz.func127.trans (congrArg some (by kernel_rfl))
 f267:=Tryz.func95.trans (congrArg some (by kernel_rfl))
 f314:=Tryz.func128.trans (congrArg some (by kernel_rfl))
 t3:=Tryz.underlying3
 a3:=Tryz.isAgg3
 z3:=Tryz.sizeOf3
 v3:=Tryz.zeroValue3
 t4:=Tryz.underlying4
 a4:=Tryz.isAgg4
 z4:=Tryz.sizeOf4
 v4:=Tryz.zeroValue4
 t5:=Tryz.underlying5
 a5:=Tryz.isAgg5
 z5:=Tryz.sizeOf5
 v5:=Tryz.zeroValue5
 t9:=Tryz.underlying9
 a9:=Tryz.isAgg9
 z9:=Tryz.sizeOf9
 v9:=Tryz.zeroValue9
 t46:=Tryz.underlying113
 a46:=Tryz.isAgg113
 z46:=Tryz.sizeOf113
 v46:=Tryz.zeroValue113
 t51:=Tryz.underlying154
 a51:=Tryz.isAgg154
 z51:=Tryz.sizeOf154
 v51:=Tryz.zeroValue154
 t59:=Tryz.underlying52
 a59:=Tryz.isAgg52
 z59:=Tryz.sizeOf52
 v59:=Tryz.zeroValue52
 t146:=Tryz.underlying155
 a146:=Tryz.isAgg155
 z146:=Tryz.sizeOf155
 v146:=Tryz.zeroValue155
 g1:=by kernel_rfl }
open Go.RowKit Go.Lib in
theorem Tryz.strings_Cut (s sep:ByteArray) (m:Int) (w:World) (hs:s.size<4294967281) (hm:w.cell? ⟨0,0,none⟩=some (.int .i64 m)):
 Calls Tryz.prog 26 #[.string s,.string sep] w fun e w'=>e=.returned (.tuple #[.string ⟨(Lib.cut s.data.toList sep.data.toList).1.toArray⟩,.string ⟨(Lib.cut s.data.toList sep.data.toList).2.1.toArray⟩,.bool (Lib.cut s.data.toList sep.data.toList).2.2])∧∃ n,w'=w.drewN n:=Any.strings_Cut Tryz.lays145 s sep m w hs hm
def Tryz.lays146_ren:Go.Shelf.Ren:=⟨fun | 146=>34 | 221=>56 | 268=>75 | 138=>76 | 143=>77 | 195=>102 | 197=>103 | 218=>104 | 219=>71 | 260=>136 | 217=>92 | 225=>93 | 224=>94 | 267=>95 | 266=>127 | 314=>128 | n=>n,fun | 9=>9 | 31=>45 | 3=>3 | 4=>4 | 0=>0 | 105=>122 | 21=>21 | 5=>5 | 46=>113 | 119=>218 | 139=>221 | 138=>220 | 146=>155 | 51=>154 | n=>n,fun | 1=>0 | 3=>4 | 4=>5 | n=>n⟩
theorem Tryz.lays146:Go.Proofs.Lays.n146 Tryz.prog Tryz.lays146_ren:={
 mixed:=by kernel_rfl
 f138:=Tryz.func76.trans (congrArg some (by kernel_rfl))
 f143:=Tryz.func77.trans (congrArg some (by kernel_rfl))
 f146:=Tryz.func34.trans (congrArg some (by kernel_rfl))
 f195:=Tryz.func102.trans (congrArg some (by kernel_rfl))
 f197:=Tryz.func103.trans (congrArg some (by kernel_rfl))
 f217:=Tryz.func92.trans (congrArg some (by kernel_rfl))
 f218:=Tryz.func104.trans (congrArg some (by kernel_rfl))
 f219:=Tryz.func71.trans (congrArg some (by kernel_rfl))
 f221:=Tryz.func56.trans (congrArg some (by kernel_rfl))
 f224:=Tryz.func94.trans (congrArg some (by kernel_rfl))
 f225:=Tryz.func93.trans (congrArg some (by kernel_rfl))
 f260:=Tryz.func136.trans (congrArg some (by kernel_rfl))
 f266:=Tryz.func127.trans (congrArg some (by kernel_rfl))
 f267:=Tryz.func95.trans (congrArg some (by kernel_rfl))
 f268:=Tryz.func75.trans (congrArg some (by kernel_rfl))
 f314:=Tryz.func128.trans (congrArg some (by kernel_rfl))
 t0:=Tryz.underlying0
 a0:=Tryz.isAgg0
 z0:=Tryz.sizeOf0
 v0:=Tryz.zeroValue0
 t3:=Tryz.underlying3
 a3:=Tryz.isAgg3
 z3:=Tryz.sizeOf3
 v3:=Tryz.zeroValue3
 t4:=Tryz.underlying4
 a4:=Tryz.isAgg4
 z4:=Tryz.sizeOf4
 v4:=Tryz.zeroValue4
 t5:=Tryz.underlying5
 a5:=Tryz.isAgg5
 z5:=Tryz.sizeOf5
 v5:=Tryz.zeroValue5
 t9:=Tryz.underlying9
 a9:=Tryz.isAgg9
 z9:=Tryz.sizeOf9
 v9:=Tryz.zeroValue9
 t21:=Tryz.underlying21
 a21:=Tryz.isAgg21
 z21:=Tryz.sizeOf21
 v21:=Tryz.zeroValue21
 t31:=Tryz.underlying45
 a31:=Tryz.isAgg45
 z31:=Tryz.sizeOf45
 v31:=Tryz.zeroValue45
 t46:=Tryz.underlying113
 a46:=Tryz.isAgg113
 z46:=Tryz.sizeOf113
 v46:=Tryz.zeroValue113
 t51:=Tryz.underlying154
 a51:=Tryz.isAgg154
 z51:=Tryz.sizeOf154
 v51:=Tryz.zeroValue154
 t105:=Tryz.underlying122
 a105:=Tryz.isAgg122
 z105:=Tryz.sizeOf122
 v105:=Tryz.zeroValue122
 t119:=Tryz.underlying218
 a119:=Tryz.isAgg218
 z119:=Tryz.sizeOf218
 t138:=Tryz.underlying220
 a138:=Tryz.isAgg220
 z138:=Tryz.sizeOf220
 v138:=Tryz.zeroValue220
 t139:=Tryz.underlying221
 a139:=Tryz.isAgg221
 z139:=Tryz.sizeOf221
 v139:=Tryz.zeroValue221
 t146:=Tryz.underlying155
 a146:=Tryz.isAgg155
 z146:=Tryz.sizeOf155
 v146:=Tryz.zeroValue155
 g1:=by kernel_rfl
 g3:=by kernel_rfl
 g4:=by kernel_rfl }
open Go.RowKit Go.Lib in
theorem Tryz.strings_Split (s sep:ByteArray) (m:Int) (w:World) (hs:s.size<4294967281) (hm:w.cell? ⟨0,0,none⟩=some (.int .i64 m)) (h1:1≤sep.size):
 Calls Tryz.prog 34 #[.string s,.string sep] w fun e w'=>
  e=.returned (.slice (some ⟨w.heap.size,0,none⟩) (Lib.countB s sep+1) (Lib.countB s sep+1))∧w'=w.alloc (.cells ((Lib.splitB sep 0 (Lib.countB s sep) s).map Value.string).toArray 9):=Any.strings_Split Tryz.lays146 (by kernel_rfl) s sep m w hs hm h1
def Tryz.lays105_ren:Go.Shelf.Ren:=⟨fun | 105=>119 | 212=>158 | 99=>159 | 165=>160 | 166=>161 | 170=>162 | 169=>163 | 263=>197 | 264=>198 | 206=>199 | 240=>200 | 241=>201 | 276=>234 | 277=>235 | n=>n,fun | 9=>9 | 3=>3 | 4=>4 | 20=>20 | 0=>0 | 46=>113 | 109=>194 | 5=>5 | 72=>199 | 76=>70 | 51=>154 | 146=>155 | 53=>157 | 148=>250 | 70=>197 | 37=>40 | 75=>69 | 127=>210 | 164=>281 | 80=>202 | n=>n,fun | n=>n⟩
theorem Tryz.lays105:Go.Proofs.Lays.n105 Tryz.prog Tryz.lays105_ren:={
 mixed:=by kernel_rfl
 f99:=Tryz.func159.trans (congrArg some (by kernel_rfl))
 f105:=Tryz.func119.trans (congrArg some (by kernel_rfl))
 f165:=Tryz.func160.trans (congrArg some (by kernel_rfl))
 f166:=Tryz.func161.trans (congrArg some (by kernel_rfl))
 f169:=Tryz.func163.trans (congrArg some (by kernel_rfl))
 f170:=Tryz.func162.trans (congrArg some (by kernel_rfl))
 f206:=Tryz.func199.trans (congrArg some (by kernel_rfl))
 f212:=Tryz.func158.trans (congrArg some (by kernel_rfl))
 f240:=Tryz.func200.trans (congrArg some (by kernel_rfl))
 f241:=Tryz.func201.trans (congrArg some (by kernel_rfl))
 f263:=Tryz.func197.trans (congrArg some (by kernel_rfl))
 f264:=Tryz.func198.trans (congrArg some (by kernel_rfl))
 f276:=Tryz.func234.trans (congrArg some (by kernel_rfl))
 f277:=Tryz.func235.trans (congrArg some (by kernel_rfl))
 t0:=Tryz.underlying0
 a0:=Tryz.isAgg0
 z0:=Tryz.sizeOf0
 v0:=Tryz.zeroValue0
 t3:=Tryz.underlying3
 a3:=Tryz.isAgg3
 z3:=Tryz.sizeOf3
 v3:=Tryz.zeroValue3
 t4:=Tryz.underlying4
 a4:=Tryz.isAgg4
 z4:=Tryz.sizeOf4
 v4:=Tryz.zeroValue4
 t5:=Tryz.underlying5
 a5:=Tryz.isAgg5
 z5:=Tryz.sizeOf5
 v5:=Tryz.zeroValue5
 t9:=Tryz.underlying9
 a9:=Tryz.isAgg9
 z9:=Tryz.sizeOf9
 v9:=Tryz.zeroValue9
 t20:=Tryz.underlying20
 a20:=Tryz.isAgg20
 z20:=Tryz.sizeOf20
 v20:=Tryz.zeroValue20
 t37:=Tryz.underlying40
 a37:=Tryz.isAgg40
 z37:=Tryz.sizeOf40
 v37:=Tryz.zeroValue40
 t46:=Tryz.underlying113
 a46:=Tryz.isAgg113
 z46:=Tryz.sizeOf113
 v46:=Tryz.zeroValue113
 t51:=Tryz.underlying154
 a51:=Tryz.isAgg154
 z51:=Tryz.sizeOf154
 v51:=Tryz.zeroValue154
 t53:=Tryz.underlying157
 a53:=Tryz.isAgg157
 z53:=Tryz.sizeOf157
 v53:=Tryz.zeroValue157
 t70:=Tryz.underlying197
 a70:=Tryz.isAgg197
 z70:=Tryz.sizeOf197
 v70:=Tryz.zeroValue197
 t72:=Tryz.underlying199
 a72:=Tryz.isAgg199
 z72:=Tryz.sizeOf199
 v72:=Tryz.zeroValue199
 t75:=Tryz.underlying69
 a75:=Tryz.isAgg69
 z75:=Tryz.sizeOf69
 v75:=Tryz.zeroValue69
 t76:=Tryz.underlying70
 a76:=Tryz.isAgg70
 z76:=Tryz.sizeOf70
 v76:=Tryz.zeroValue70
 t109:=Tryz.underlying194
 a109:=Tryz.isAgg194
 z109:=Tryz.sizeOf194
 v109:=Tryz.zeroValue194
 t127:=Tryz.underlying210
 a127:=Tryz.isAgg210
 z127:=Tryz.sizeOf210
 v127:=Tryz.zeroValue210
 t146:=Tryz.underlying155
 a146:=Tryz.isAgg155
 z146:=Tryz.sizeOf155
 v146:=Tryz.zeroValue155
 t148:=Tryz.underlying250
 a148:=Tryz.isAgg250
 z148:=Tryz.sizeOf250
 v148:=Tryz.zeroValue250
 t164:=Tryz.underlying281
 a164:=Tryz.isAgg281
 z164:=Tryz.sizeOf281
 v164:=Tryz.zeroValue281 }
theorem Tryz.Builder_Extra_105:Builder.Extra Tryz.prog Tryz.lays105_ren:={
 sizeBuilder:=by kernel_rfl
 liesBuilder:=by kernel_rfl
 t5:=Tryz.underlying5
 a5:=Tryz.isAgg5
 z5:=Tryz.sizeOf5
 v5:=Tryz.zeroValue5
 infoByte:=by kernel_rfl
 cellsByte:=by kernel_rfl
 sizeByte:=by kernel_rfl
 neB5:=by decide }
open Go.RowKit Go.Lib in
theorem Tryz.strings_Repeat (s:ByteArray) (c:Nat) (w:World) (hc:c≤9223372036854775807) (hlen:s.size*c≤140737488355328):
 Calls Tryz.prog 119 #[.string s,.int .i64 c] w fun e w'=>e=.returned (.string ⟨(Lib.repeatL s.data.toList c).toArray⟩)∧Below w.heap.size w w':=Any.strings_Repeat Tryz.lays105 Tryz.Builder_Extra_105 s c w hc hlen
end Go.Proofs
namespace Go.Proofs.YtkfbakhnpfmfmaaGreatDoor
set_option maxRecDepth 10000
open Go.RowKit
set_option linter.unusedVariables false
set_option linter.unusedSimpArgs false
set_option maxRecDepth 100000
abbrev RP (b:Nat):Value:=.pointer (some ⟨b,0,none⟩)
theorem Zr3 (w:World) (b f:Nat) (sv:Value) (nm:String) (h:w.cell? ⟨b,0,none⟩=some (.iface 153 sv))
 (hm:(((Tryz.prog.info? 206).bind fun i=>i.methods.find? (·.name == nm)).map fun m=>(m.path,m.func))=some (#[⟨208,0,true⟩],none))
 (hi:Sem.run Tryz.prog (method (Tryz.prog.types.size+99) 153 sv nm) w=.ok (f,sv) w):
 Sem.run Tryz.prog (method (Tryz.prog.types.size+100) 206 (RP b) nm) w=.ok (f,sv) w:=by
 obtain ⟨m,hm1,hm2⟩:=Option.map_eq_some_iff.1 hm
 obtain ⟨i,hi',hm'⟩:=Option.bind_eq_some_iff.1 hm1
 have hpa:m.path=#[⟨208,0,true⟩]:=congrArg Prod.fst hm2
 have hfu:m.func=none:=congrArg Prod.snd hm2
 have u:=run_underlying Tryz.underlying208
 unfold method
 have hl:Sem.run Tryz.prog (Sem.load Mode.plain ({ block:=b,off:=0 }:Addr) Sem.pure) w=.ok (.iface 153 sv) w:=by
  simp [Sem.run,h]
 simp [typeInfo,hi',hm',hpa,hfu,follow,Place.get,u,asAddr,loadVar,isAgg,load,h,fieldPlace]
 rw [show ({ block:=b,off:=0 }:Addr).add 0={ block:=b,off:=0 } from rfl,hl]
 exact hi
theorem ZtK (w:World) (b:Nat) (sv:Value) (h:w.cell? ⟨b,0,none⟩=some (.iface 153 sv)):
 Sem.run Tryz.prog (method (Tryz.prog.types.size + 100) 206 (RP b) "Less") w = .ok (277, .agg #[.iface 153 sv]) w := by
 have hm : (((Tryz.prog.info? 206).bind fun i => i.methods.find? (·.name == "Less")).map fun m => (m.path, m.func)) = some (#[], some (277, false)) := by kernel_rfl
 obtain ⟨m,hm1,hm2⟩:=Option.map_eq_some_iff.1 hm
 obtain ⟨i,hi',hm'⟩:=Option.bind_eq_some_iff.1 hm1
 have hpa:m.path=#[]:=congrArg Prod.fst hm2
 have hfu:m.func=some (277,false):=congrArg Prod.snd hm2
 have u:=run_underlying Tryz.underlying206
 have u2:=run_underlying Tryz.underlying208
 unfold method
 have hlv:Sem.run Tryz.prog (loadVar 208 ⟨b,0,none⟩) w=.ok (.agg #[.iface 153 sv]) w:=by
  have a1:=Tryz.isAgg208
  have a2:=Tryz.sizeOf208
  have hl:Sem.run Tryz.prog (Sem.load Mode.plain ({ block:=b,off:=0 }:Addr) Sem.pure) w=.ok (.iface 153 sv) w:=by
   simp [Sem.run,h]
  unfold loadVar loadCells
  simp [a1,a2,loadCellsFrom,load]
  rw [show ({ block:=b,off:=0 }:Addr).add 0={ block:=b,off:=0 } from rfl,hl]
  rfl
 have hk:∀ (x y:ByteArray) (w:World),Sem.run Tryz.prog (Builtin.ssaWrapNilChk_ #[206] 206 #[RP b,.string x,.string y]) w=.ok (RP b) w:=fun _ _ _=>rfl
 have hf:Sem.run Tryz.prog (follow [] 206 (Place.val (RP b))) w=.ok (206,Place.val (RP b)) w:=rfl
 have hr:∀ x,Sem.run Tryz.prog (receiverAt 206 (Place.val (RP b)) false (some x)) w=.ok (.agg #[.iface 153 sv]) w:=by
  intro x
  unfold receiverAt
  simp [u,Place.get,strVal,hk,asAddr,hlv]
 simp [typeInfo,hi',hm',hpa,hfu,hf,hr]
open Go.Lib Go.Sort
set_option maxHeartbeats 4000000
abbrev SV (blk off n c:Nat):Value:=.slice (some ⟨blk,off,none⟩) n c
theorem ZwI (blk off n c : Nat) (w : World) : Sem.run Tryz.prog (method (Tryz.prog.types.size + 99) 153 (SV blk off n c) "Len") w = .ok (272, SV blk off n c) w := by kernel_rfl
theorem Zvh (blk off n c : Nat) (w : World) : Sem.run Tryz.prog (method (Tryz.prog.types.size + 99) 153 (SV blk off n c) "Swap") w = .ok (275, SV blk off n c) w := by kernel_rfl
theorem Zvg (blk off n c : Nat) (w : World) : Sem.run Tryz.prog (method (Tryz.prog.types.size + 100) 153 (SV blk off n c) "Less") w = .ok (273, SV blk off n c) w := by kernel_rfl
theorem Ztg (blk off c size:Nat) (W:World) (G:Nat→Int) (hc:∀ t,t<size→W.cell? ⟨blk,off+t,none⟩=some (.int .i64 (G t))) (i j:Nat) (hi:i<size) (hj:j<size) (_hsz:size<4611686018427387904):
 Calls Tryz.prog 273 #[SV blk off size c,.int .i64 i,.int .i64 j] W fun e w'=>e=.returned (.bool (decide (G i<G j)))∧∃ q,w'=W.drewN q:=by
 have ci:=hc i hi
 have cj:=hc j hj
 go_enter Tryz.func273,Tryz.ntmps273
 go_wp2
 go_quiet (fail)
 go_wp2
 go_ret
 exact ⟨rfl,nq,rfl⟩
theorem Zth (blk off c size:Nat) (W:World) (x y:Int) (i j:Nat) (hi:i<size) (hj:j<size) (_hsz:size<4611686018427387904)
 (ci:W.cell? ⟨blk,off+i,none⟩=some (.int .i64 x)) (cj:W.cell? ⟨blk,off+j,none⟩=some (.int .i64 y)) (fi:W.frozen? ⟨blk,off+i,none⟩=false) (fj:W.frozen? ⟨blk,off+j,none⟩=false):
 Calls Tryz.prog 275 #[SV blk off size c,.int .i64 i,.int .i64 j] W fun e w'=>e=.returned (.tuple #[])∧∃ q,w'=((W.setCell ⟨blk,off+i,none⟩ (.int .i64 y)).setCell ⟨blk,off+j,none⟩ (.int .i64 x)).drewN q:=by
 obtain ⟨v',hy'⟩:=cell?_setCell_some (w:=W) (p:=⟨blk,off+i,none⟩) (x:=.int .i64 y) (q:=⟨blk,off+j,none⟩) cj
 go_enter Tryz.func275,Tryz.ntmps275
 go_wp2
 go_region
 all_goals (try go_wp2)
 all_goals go_end0
 all_goals exact ⟨rfl,1,rfl⟩
theorem Zvi (blk off c size:Nat) (W:World):Calls Tryz.prog 272 #[SV blk off size c] W fun e w'=>e=.returned (.int .i64 size)∧w'=W:=by
 go_enter Tryz.func272,Tryz.ntmps272
 go_wp2
 go_ret
 exact ⟨rfl,rfl⟩
theorem ZtI (blk off c size:Nat) (W:World) (G:Nat→Int) (hc:∀ t,t<size→W.cell? ⟨blk,off+t,none⟩=some (.int .i64 (G t))) (hb:blk<W.heap.size) (i j:Nat) (hi:i<size) (hj:j<size) (hsz:size<4611686018427387904):
 Calls Tryz.prog 277 #[.agg #[.iface 153 (SV blk off size c)],.int .i64 i,.int .i64 j] W fun e w'=>e=.returned (.bool (decide (G j<G i)))∧∃ o q,w'=(W.alloc o).drewN q:=by
 have mL:=Zvg blk off size c
 have eL:∀ args w,(callFunc 273 args).run Tryz.prog w=.ok (.enter 273 args) w:=enters_of Tryz.func273 (by kernel_rfl) rfl
 simp at mL
 have hl:∀ o,Calls Tryz.prog 273 #[SV blk off size c,.int .i64 j,.int .i64 i] (W.alloc o) fun e w'=>e=.returned (.bool (decide (G j<G i)))∧∃ q,w'=(W.alloc o).drewN q:=fun o=>
  Ztg blk off c size _ G (fun t ht=>(Below.cell (Up.al o (Up.rfl' W)) (p:=⟨blk,off+t,none⟩) hb).trans (hc t ht)) j i hj hi hsz
 go_enter Tryz.func277,Tryz.ntmps277
 go_wp2_with (go_at_fn 273; refine (hl _).mono ?_; rintro e w' ⟨rfl,q,rfl⟩)
 go_ret
 exact ⟨rfl,_,q,rfl⟩
theorem SW.cellO {w0 W:World} {blk off:Nat} {dk:Array Int} (h:SW (Value.int .i64) w0 blk off dk W) {b o:Nat} (hb:b<w0.heap.size) (hne:b≠blk):W.cell? ⟨b,o,none⟩=w0.cell? ⟨b,o,none⟩:=by
 obtain ⟨n,os,rfl⟩:=h
 unfold sortWorld
 rw [cell?_grow _ _ _ (by simpa using hb),cell?_putRow_other _ _ _ _ _ _ (.inl hne)]
 rfl
def gtI (x y:Int):Bool:=decide (y<x)
theorem Zvf (blk off c b bR:Nat) (d:Array Int) (w:World) (hH:Holds (Value.int .i64) w blk off d) (hblk:blk<w.heap.size) (hR:w.cell? ⟨bR,0,none⟩=some (.iface 153 (SV blk off d.size c))) (hRb:bR<w.heap.size) (hne:bR≠blk)
 (hab:0≤b) (hb:b≤d.size) (hsz:d.size<4611686018427387904):
 Calls Tryz.prog 203 #[.iface 206 (RP bR),.int .i64 0,.int .i64 b] w fun e w'=>e=.returned (.tuple #[])∧SW (Value.int .i64) w blk off (Sort.insertionSort gtI d 0 b) w':=by
 have eL:∀ args w,(callFunc 277 args).run Tryz.prog w=.ok (.enter 277 args) w:=enters_of Tryz.func277 (by kernel_rfl) rfl
 have eS:∀ args w,(callFunc 275 args).run Tryz.prog w=.ok (.enter 275 args) w:=enters_of Tryz.func275 (by kernel_rfl) rfl
 go_enter Tryz.func203,Tryz.ntmps203
 go_wp2
 go_loopw [6] (fun vi wr=>∃ (i:Nat) (dk:Array Int),vi=.int .i64 i∧0<i∧i≤b+1∧dk.size=d.size∧SW (Value.int .i64) w blk off dk wr∧
  insOuter gtI 0 b i dk=insOuter gtI 0 b (0+1) d) (fun vi _=>b+1-(intOf vi).toNat)
 case atStart=>exact ⟨1,d,by go_num,by omega,by omega,rfl,SW.start hH,rfl⟩
 case round=>
  obtain ⟨i,dk,rfl,hai,hib,hsk,hwr,hO⟩:=hrel
  have HO:Hid (insOuter gtI 0 b i dk=insOuter gtI 0 b (0+1) d):=hO
  clear hO
  go_wp2
  ·go_loopw [7] (fun vj wr2=>∃ (j:Nat) (dj:Array Int),vj=.int .i64 j∧j≤i∧dj.size=d.size∧SW (Value.int .i64) w blk off dj wr2∧
    insInner gtI 0 j dj=insInner gtI 0 i dk) (fun vj _=>(intOf vj).toNat)
   case atStart=>exact ⟨i,dk,rfl,Nat.le_refl _,hsk,hwr,rfl⟩
   case round=>
    obtain ⟨j,dj,rfl,hji,hsj,hw2,hI⟩:=hrel
    have hlt:i<b:=by assumption
    have HW:Hid (SW (Value.int .i64) w blk off dj wr):=hw2
    have HI:Hid (insInner gtI 0 j dj=insInner gtI 0 i dk):=hI
    have hHj:=hw2.holds hblk hH hsj
    have hbw:=hw2.lt hblk
    have hRw:wr.cell? ⟨bR,0,none⟩=some (.iface 153 (SV blk off d.size c)):=(SW.cellO hw2 hRb hne).trans hR
    clear hw2 hI
    have out:(j≤0∨gtI dj[j]! dj[j-1]! = false)→∀ W,SW (Value.int .i64) w blk off dj W→∃ (i':Nat) (dk':Array Int),Value.int .i64 ((i:Int)+1)=.int .i64 (i':Nat)∧0<i'∧i'≤b+1∧dk'.size=d.size∧
     SW (Value.int .i64) w blk off dk' W∧insOuter gtI 0 b i' dk'=insOuter gtI 0 b (0+1) d:=fun hs W hW=>
     ⟨i+1,dj,by go_num,by omega,by omega,hsj,hW,
      by rw [← HO.out,insOuter_go _ _ _ _ _ hlt,← HI.out,insInner_stop _ _ _ _ hs]⟩
    have OUT:Hid _:=out
    clear out
    by_cases hja:0<j
    ·have mL:=ZtK wr bR _ hRw
     simp at mL
     have hl:=ZtI blk off c d.size wr (fun t=>dj[t]!) (fun t ht=>(hHj t (by omega)).1) hbw j (j-1) (by omega) (by omega) hsz
     rw [show (((j-1:Nat):Int))=(j:Int)-1 by omega] at hl
     have W2:Hid (∀ o q,SW (Value.int .i64) w blk off dj ((wr.alloc o).drewN q)):=fun o q=>(HW.out.alloc o).drewN q
     have mS : ∀ o q, Sem.run Tryz.prog (method (Tryz.prog.types.size + 100) 206 (RP bR) "Swap") ((wr.alloc o).drewN q) = .ok (275, SV blk off d.size c) ((wr.alloc o).drewN q) := fun o q =>
      Zr3 ((wr.alloc o).drewN q) bR 275 (SV blk off d.size c) "Swap" ((SW.cellO (W2.out o q) hRb hne).trans hR) (by kernel_rfl) (Zvh _ _ _ _ _)
     simp at mS
     have hsw:∀ o q,Calls Tryz.prog 275 #[SV blk off d.size c,.int .i64 j,.int .i64 ((j-1:Nat):Int)] ((wr.alloc o).drewN q) fun e w'=>e=.returned (.tuple #[])∧SW (Value.int .i64) w blk off (swp dj j (j-1)) w':=fun o q=>by
      have hh:=(W2.out o q).holds hblk hH hsj
      refine (Zth blk off c d.size _ _ _ j (j-1) (by omega) (by omega) hsz (hh j (by omega)).1 (hh (j-1) (by omega)).1 (hh j (by omega)).2 (hh (j-1) (by omega)).2).mono ?_
      rintro e w' ⟨rfl,q',rfl⟩
      exact ⟨rfl,((W2.out o q).swap hblk j (j-1) (by omega) (by omega)).drewN q'⟩
     rw [show (((j-1:Nat):Int))=(j:Int)-1 by omega] at hsw
     change Calls _ _ _ _ fun e w'=>e=.returned (.bool (gtI dj[j]! dj[j-1]!))∧_ at hl
     cases hlv:gtI dj[j]! dj[j-1]! with
     | true=>
      rw [hlv] at hl
      go_wp2_with (first
       | (go_at_fn 277; refine hl.mono ?_; rintro e w' ⟨rfl,o,q,rfl⟩)
       | (go_at_fn 275; refine (hsw _ _).mono ?_; rintro e w' ⟨rfl,hS⟩))
      go_roundw
      case rel=>
       (repeat apply Exists.intro)
       refine ⟨⟨j-1,swp dj j (j-1),by congr 1 <;> omega,by omega,by rw [size_swp]; exact hsj,hS,?_⟩,by rw [decide_eq_true hlt,show ((j-1:Nat):Int)=(j:Int)-1 by omega]⟩
       rw [← HI.out,insInner_go gtI 0 j dj hja hlv]
      case measure=>simp [intOf]; omega
     | false=>
      rw [hlv] at hl
      go_wp2_with (go_at_fn 277; refine hl.mono ?_; rintro e w' ⟨rfl,o,q,rfl⟩)
      go_roundw
      case rel=>exact OUT.out (Or.inr hlv) _ (W2.out o q)
      case measure=>simp [intOf]; omega
    ·go_wp2
     go_roundw
     case rel=>exact OUT.out (Or.inl (by omega)) _ HW.out
     case measure=>simp [intOf]; omega
  ·have hge:¬ i<b:=by assumption
   go_end0
   exact ⟨rfl,by unfold Sort.insertionSort; rw [← HO.out,insOuter_stop _ _ _ _ _ hge]; exact hwr⟩
end Go.Proofs.YtkfbakhnpfmfmaaGreatDoor
namespace Go.Proofs.YtkfbakhnpfmfmaaGreatDoor
set_option maxRecDepth 10000
open Go.RowKit Go.Lib Go.Sort
set_option linter.unusedVariables false
set_option linter.unusedSimpArgs false
set_option maxRecDepth 100000
set_option maxHeartbeats 4000000
theorem pdq3 (blk off c lim bR:Nat) (d:Array Int) (w:World) (hH:Holds (Value.int .i64) w blk off d) (hblk:blk<w.heap.size) (hd:d.size=3) (hR:w.cell? ⟨bR,0,none⟩=some (.iface 153 (SV blk off d.size c))) (hRb:bR<w.heap.size) (hne:bR≠blk):
 Calls Tryz.prog 166 #[.iface 206 (RP bR),.int .i64 0,.int .i64 3,.int .i64 lim] w fun e w'=>e=.returned (.tuple #[])∧SW (Value.int .i64) w blk off (Sort.insertionSort gtI d 0 3) w':=by
 have hi:=Zvf blk off c 3 bR d w hH hblk hR hRb hne (by omega) (by omega) (by omega)
 rw [show ((3:Nat):Int)=3 from rfl] at hi
 clear hH hR
 go_enter Tryz.func166,Tryz.ntmps166
 go_wp2
 go_loopw [1,2] (fun v1 v2 wr=>v1=.int .i64 0∧v2=.int .i64 3∧wr=w) (fun _ _ _=>0)
 case atStart=>exact ⟨rfl,rfl,rfl⟩
 case round=>
  obtain ⟨rfl,rfl,rfl⟩:=hrel
  go_wp2_with (go_at_call 203; refine hi.mono ?_; rintro e w' ⟨rfl,hS⟩)
  (try simp only [Exit.inBlock,Exit.then])
  refine bodyPost_ret (results_none rfl _ _ _) rfl ?_
  exact ⟨rfl,hS⟩
theorem ZtQ (blk off c bR:Nat) (d:Array Int) (w:World) (hH:Holds (Value.int .i64) w blk off d) (hblk:blk<w.heap.size) (hd:d.size=3) (hR:w.cell? ⟨bR,0,none⟩=some (.iface 153 (SV blk off d.size c))) (hRb:bR<w.heap.size) (hne:bR≠blk):
 Calls Tryz.prog 122 #[.iface 206 (RP bR)] w fun e w'=>e=.returned (.tuple #[])∧SW (Value.int .i64) w blk off (Sort.insertionSort gtI d 0 3) w':=by
 have mN := Zr3 w bR 272 (SV blk off d.size c) "Len" hR (by kernel_rfl) (ZwI _ _ _ _ _)
 simp at mN
 have eN:∀ args w,(callFunc 272 args).run Tryz.prog w=.ok (.enter 272 args) w:=enters_of Tryz.func272 (by kernel_rfl) rfl
 have hN:=Zvi blk off c d.size w
 have hL:=Tryz.bits_Len 3 w (by omega) (by omega)
 have hp:=fun lim=>pdq3 blk off c lim bR d w hH hblk hd hR hRb hne
 rw [hd] at mN hN
 rw [show ((3:Nat):Int)=3 from rfl] at hN
 clear hH hR
 go_enter Tryz.func122,Tryz.ntmps122
 go_wp2_with (first
  | (go_at_fn 272; refine hN.mono ?_; rintro e w' ⟨rfl,rfl⟩)
  | (go_at_call 165; refine hL.mono ?_; rintro e w' ⟨rfl,rfl⟩)
  | (go_at_call 166; refine (hp _).mono ?_; rintro e w' ⟨rfl,hS⟩))
 all_goals first
  | (exfalso; omega)
  | (go_end0; exact ⟨rfl,hS⟩)
end Go.Proofs.YtkfbakhnpfmfmaaGreatDoor
namespace Go.Proofs.YtkfbakhnpfmfmaaGreatDoor
set_option maxRecDepth 10000
open Go.RowKit
structure ElT (P:Program) (t e:TypeId) (k bytes:Nat):Prop where
 ht:P.underlying t=some (.slice e)
 info:∃ i z,P.info? e=some i∧i.zero=some z∧i.size=k∧i.bytes=bytes∧z.cells.size=k
theorem ElT.mk' {P:Program} {t e:TypeId} {k bytes:Nat} {z:Value} (ht:P.underlying t=some (.slice e)) (h:(P.info? e).map (fun i=>(i.zero,i.size,i.bytes))=some (some z,k,bytes)) (hz:z.cells.size=k):ElT P t e k bytes:=by
 obtain ⟨i,h1,h2,h3,h4⟩:=info_parts h
 exact ⟨ht,i,z,h1,h2,h3,h4,hz⟩
theorem Own.nil_ {α:Type} [Enc α] (w:World) (B E:Nat):Own w B E (.slice none 0 0) ([]:List α):=World.ownsRow_nil _ _ _ _
theorem Own.empty {α:Type} [Enc α] (w:World) (B E c:Nat) (cur:Array Value) (hB:B≤w.heap.size) (hm:c≤maxLen) (hs:cur.size=c*Enc.k α):
 Own (w.alloc (.cells cur E)) B E (.slice (some ⟨w.heap.size,0,none⟩) 0 c) ([]:List α):=World.ownsRow_made w cur c hB hm hs
theorem Own.more {α:Type} [Enc α] {w:World} {B B' E:Nat} {v:Value} {xs:List α} (h:Own w B E v xs) (hB:B'≤B):Own w B' E v xs:=by
 refine ⟨h.1,?_⟩
 rcases h.2 with h2 | ⟨g,cap,cur,hv,hb,r⟩
 ·exact .inl h2
 ·exact .inr ⟨g,cap,cur,hv,by omega,r⟩
theorem Own.grown {α:Type} [Enc α] {w w':World} {B E:Nat} {v:Value} {xs:List α} {row:Option Nat} (h:Own w B E v xs) (hg:w.grownBy w' row) (hne:v.ownBlock=none∨v.ownBlock≠row):Own w' B E v xs:=
 World.ownsRow.kept h hg hne
theorem Rd.one {α:Type} [Enc α] (w:World) (T:TypeId) (x:α) (B:Nat) (hB:w.heap.size<B):Rd (w.alloc (.cells (Enc.cells x).toArray T)) B (some ⟨w.heap.size,0,none⟩) [x]:=by
 intro _
 refine ⟨w.heap.size,0,rfl,hB,fun j u hu=>?_⟩
 rw [Zs4] at hu
 rw [Nat.zero_add,cell_of_row _ _ j _ T (0,0) (heap_alloc_new w _)]
 simpa using hu
def Zew (w0 w:World) (B E k:Nat) (g n cap m:Nat) (ys:List Value):Prop:=
 ∃ cs:List Value,w.ownsRow B E k (.slice (some ⟨g,0,none⟩) n cap) n cs∧cs.take m=ys.take m∧w0.grownBy w (some g)
theorem Zew.start {w:World} {B E k g n cap:Nat} {cs ys:List Value} (h:w.ownsRow B E k (.slice (some ⟨g,0,none⟩) n cap) n cs):Zew w w B E k g n cap 0 ys:=
 ⟨cs,h,by simp,⟨rfl,rfl,rfl,Nat.le_refl _,fun _ _ _=>rfl⟩⟩
theorem Zew.cell {w0 w:World} {B E k g n cap m:Nat} {ys:List Value} (h:Zew w0 w B E k g n cap m ys) {j:Nat} (hj:j<n*k):∃ u,w.cell? ⟨g,j,none⟩=some u:=by
 obtain ⟨cs,ho,_⟩:=h
 have hl:cs.length=n*k:=ho.1
 exact ⟨cs[j]'(by omega),by rw [ho.cellAt j hj]; exact List.getElem?_eq_getElem _⟩
theorem Zew.frozen {w0 w:World} {B E k g n cap m:Nat} {ys:List Value} (h:Zew w0 w B E k g n cap m ys) (j:Nat):w.frozen? ⟨g,j,none⟩=false:=by
 obtain ⟨cs,ho,_⟩:=h
 exact ho.frozenAt j
theorem Zk8 {a b c:World} {row:Option Nat} (h:a.grownBy b row) (k:b.grownBy c row):a.grownBy c row:=
 ⟨k.os.trans h.os,k.tape.trans h.tape,k.output.trans h.output,Nat.le_trans h.size k.size,fun i hi hne=>(k.block i (Nat.lt_of_lt_of_le hi h.size) hne).trans (h.block i hi hne)⟩
theorem Zew.set1 {w0 w:World} {B E k g n cap m:Nat} {ys:List Value} {v:Value} (h:Zew w0 w B E k g n cap m ys) (hm:m<n*k) (hy:ys[m]?=some v):
 Zew w0 (w.setCell ⟨g,m,none⟩ v) B E k g n cap (m+1) ys:=by
 obtain ⟨cs,ho,ht,hg⟩:=h
 have hl:cs.length=n*k:=ho.1
 obtain ⟨h1,h2⟩:=ho.stored m v
 exact ⟨cs.set m v,h1,ZhV (by omega) hy ht,Zk8 hg h2⟩
theorem Zew.drewN {w0 w:World} {B E k g n cap m:Nat} {ys:List Value} (h:Zew w0 w B E k g n cap m ys) (q:Nat):Zew w0 (w.drewN q) B E k g n cap m ys:=by
 obtain ⟨cs,ho,ht,hg⟩:=h
 exact ⟨cs,ho,ht,⟨hg.os,hg.tape,hg.output,hg.size,hg.block⟩⟩
theorem Zew.own {α:Type} [Enc α] {w0 w:World} {B E g n cap:Nat} {ys:List α} (h:Zew w0 w B E (Enc.k α) g n cap (n*Enc.k α) (flat ys)) (hn:ys.length=n):Own w B E (.slice (some ⟨g,0,none⟩) n cap) ys∧w0.grownBy w (some g):=by
 obtain ⟨cs,ho,ht,hg⟩:=h
 have hl:cs.length=n*Enc.k α:=ho.1
 have e1:(flat ys).take (n*Enc.k α)=flat ys:=List.take_of_length_le (by rw [ZgN,hn]; exact Nat.le_refl _)
 rw [e1,List.take_of_length_le (by omega)] at ht
 subst ht
 refine ⟨?_,hg⟩
 unfold Own
 rw [hn]
 exact ho
theorem ZsQ (b o j:Nat):(⟨b,o,none⟩:Addr).add j=⟨b,o+j,none⟩:=by unfold Addr.add; split <;> simp_all
theorem ZhR {α:Type} [Enc α] {P:Program} (w:World) {t ty e:Nat} {i:TypeInfo} (ht:P.underlying t=some (.slice e)) (hi:P.info? e=some i) {base:Nat} {v:Value} {ys:List α} (hown:Own w base e v ys) (c:Nat):
 (Builtin.append_ #[t,t] ty #[v,.slice none 0 c]).run P w=.ok v w:=by
 rcases hown.2 with ⟨rfl,h0⟩ | ⟨g,cap,cur,rfl,_,_,hnc,_⟩
 ·simp [Builtin.append_,run_underlying ht,sizeOf,typeInfo,hi,Builtin.lenOf,Builtin.firstCells]
 ·simp [Builtin.append_,run_underlying ht,sizeOf,typeInfo,hi,Builtin.lenOf,Builtin.firstCells,hnc,storeCells]
theorem Zlw {α:Type} [Enc α] {P:Program} (w:World) {t ty e bytes:Nat} (T:ElT P t e (Enc.k α) bytes) {base:Nat} {v:Value} {ys:List α} (hown:Own w base e v ys)
 {B:Nat} {A:Option Addr} {c:Nat} {xs:List α} (hr:Rd w B A xs) (hbytes:(ys.length+xs.length)*bytes≤140737488355328) (h63:ys.length+xs.length≤maxLen) (hbase:base≤w.heap.size):
 ∃ v' w',(Builtin.append_ #[t,t] ty #[v,.slice A xs.length c]).run P w=.ok v' w'∧Own w' base e v' (ys++xs)∧w.grownBy w' v.ownBlock∧(v'.ownBlock=v.ownBlock∨v'.ownBlock=some w.heap.size):=by
 obtain ⟨i,z,hi,hz,hs,hb,hzs⟩:=T.info
 cases A with
 | none=>
  have hx:xs=[]:=by
   rcases Classical.em (xs=[]) with h | h
   ·exact h
   ·obtain ⟨_,_,h',_⟩:=hr h
    cases h'
  subst hx
  have hrun:=ZhR (P:=P) w (ty:=ty) T.ht hi hown c
  exact ⟨v,w,by simpa using hrun,by simpa using hown,⟨rfl,rfl,rfl,Nat.le_refl _,fun _ _ _=>rfl⟩,.inl rfl⟩
 | some ad=>
  have hnews:∀ j u,(flat xs)[j]?=some u→w.cell? (ad.add j)=some u:=by
   intro j u hu
   have hne:xs≠[]:=by rintro rfl; simp [flat] at hu
   obtain ⟨b,off,hA',_,hc⟩:=hr hne
   injection hA' with hA'
   subst hA'
   rw [ZsQ]
   exact hc j u hu
  obtain ⟨v',w',hrun,h2,h3,_,h5⟩:=run_append_own_at (P:=P) w base t ty e i z (Enc.k α) bytes T.ht hi hz hs hb hzs Enc.pos v ys.length (flat ys) hown ad xs.length c (flat xs) (ZgN xs) hnews (Zme xs) h63 hbytes hbase
  refine ⟨v',w',hrun,?_,h3,h5⟩
  have e1:(ys++xs).length=ys.length+xs.length:=List.length_append
  unfold Own
  rw [e1,Znw]
  exact h2
theorem Up.grown' {α:Type} [Enc α] {w0 w w':World} {base e:Nat} {v:Value} {ys:List α} (h:Up w0 w) (hg:w.grownBy w' v.ownBlock) (hown:Own w base e v ys) (hb:w0.heap.size≤base):Up w0 w':=
 Below.grown h hg h.size (fun k hk=>Nat.le_trans hb (World.ownsRow.lt hown k hk).1)
theorem Znf {α:Type} [Enc α] {P:Program} {w:World} {o:Oper} {a:Act} {K:Act→World→Prop} {Q:Exit→Act→World→Prop} {t e bytes:Nat} (T:ElT P t e (Enc.k α) bytes)
 (s x:Operand) (ho:o.op=.call { callee:=.builtin .append,args:=#[s,x],argTypes:=#[t,t] })
 {base:Nat} {v:Value} {ys:List α} (hs:a.eval s=v) (hown:Own w base e v ys)
 {B:Nat} {A:Option Addr} {c:Nat} {xs:List α} (n:Nat) (hx:a.eval x=.slice A n c) (hn:n=xs.length) (hr:Rd w B A xs)
 (hbytes:(ys.length+xs.length)*bytes≤140737488355328) (h63:ys.length+xs.length≤maxLen) (hbase:base≤w.heap.size)
 (h:∀ v' w',Own w' base e v' (ys++xs)→w.grownBy w' v.ownBlock→(v'.ownBlock=v.ownBlock∨v'.ownBlock=some w.heap.size)→(∀ w0,w0.heap.size≤base→Up w0 w→Up w0 w')→K (a.put o.dst v') w'):
 o.wp P a w K Q:=by
 subst hn
 obtain ⟨v',w',hrun,h2,h3,h4⟩:=Zlw (P:=P) w (ty:=o.type) (c:=c) T hown hr hbytes h63 hbase
 unfold Oper.wp execOp
 simp only [ho,resolve,invoke,builtin,Sem.run_bind,Sem.run_pure,Result.andThen_ok,List.map_toArray,List.map_cons,List.map_nil,hs,hx,hrun]
 exact h v' w' h2 h3 h4 fun w0 hb hu=>Up.grown' hu h3 hown hb
theorem ZiT {α:Type} [Enc α] {P:Program} {w:World} {ops:Array Oper} {rest:List Oper} {o:Oper} {a:Act} {Q:Exit→Act→World→Prop} {t e bytes:Nat} (T:ElT P t e (Enc.k α) bytes)
 (hgd:o.guard=none) (s x:Operand) (ho:o.op=.call { callee:=.builtin .append,args:=#[s,x],argTypes:=#[t,t] })
 {base:Nat} {v:Value} {ys:List α} (hs:a.eval s=v) (hown:Own w base e v ys)
 {B:Nat} {A:Option Addr} {c:Nat} {xs:List α} (n:Nat) (hx:a.eval x=.slice A n c) (hn:n=xs.length) (hr:Rd w B A xs)
 (hbytes:(ys.length+xs.length)*bytes≤140737488355328) (h63:ys.length+xs.length≤maxLen) (hbase:base≤w.heap.size)
 (h:∀ v' w',Own w' base e v' (ys++xs)→w.grownBy w' v.ownBlock→(v'.ownBlock=v.ownBlock∨v'.ownBlock=some w.heap.size)→(∀ w0,w0.heap.size≤base→Up w0 w→Up w0 w')→wpList P ops Q rest (a.put o.dst v') w'):
 wpList P ops Q (o::rest) a w:=
 wpList_plain hgd fun _ hK=>Znf T s x ho hs hown n hx hn hr hbytes h63 hbase fun v' w' h2 h3 h4 h5=>hK _ _ (h v' w' h2 h3 h4 h5)
end Go.Proofs.YtkfbakhnpfmfmaaGreatDoor
namespace Go.Proofs.YtkfbakhnpfmfmaaGreatDoor
set_option maxRecDepth 10000
open Go.RowKit Go.Lib Go.Sort
set_option linter.unusedVariables false
set_option linter.unusedSimpArgs false
set_option maxRecDepth 100000
set_option maxHeartbeats 4000000
theorem Zu5:ElT Tryz.prog 24 3 (Enc.k Int) 8:=ElT.mk' (z:=.int .i64 0) Tryz.underlying24 (by kernel_rfl) rfl
theorem Zh7 (ls:List Int):flat ls=ls.map (Value.int .i64):=by
 induction ls with
 | nil=>rfl
 | cons x xs ih=>rw [Zgo,ih]; rfl
theorem own3 {w:World} {B:Nat} {v:Value} {xs:List Int} (h:Own w B 3 v xs) (hl:xs.length=3):∃ g cap cur,v=.slice (some ⟨g,0,none⟩) 3 cap∧B≤g∧w.heap[g]?=some (.cells cur 3 (0,0))∧3≤cap∧cap≤maxLen∧cur.size=cap*1∧cur.toList.take 3=xs.map (Value.int .i64):=by
 rcases h.2 with ⟨_,h0⟩ | ⟨g,cap,cur,hv,hB,hg,hnc,hcm,hcs,ht⟩
 ·omega
 ·rw [hl] at hv hnc ht
  rw [Zh7] at ht
  exact ⟨g,cap,cur,hv,hB,hg,hnc,hcm,hcs,ht⟩
theorem ZtJ (W:World) (sv:Value):Calls Tryz.prog 123 #[.iface 153 sv] W fun e w'=>e=.returned (.iface 206 (RP W.heap.size))∧w'=W.alloc (.cells #[.iface 153 sv] 208):=by
 go_enter Tryz.func123,Tryz.ntmps123
 go_wp2
 go_ret
 exact ⟨rfl,rfl⟩
def srt3 (xs:List Int):List Int:=(Sort.insertionSort gtI xs.toArray 0 3).toList
theorem ZhS (lt:Int→Int→Bool) (a:Nat):∀ (j:Nat) (d:Array Int),(insInner lt a j d).size=d.size
 | 0,d=>rfl
 | j+1,d=>by
  unfold insInner
  split
  ·rw [ZhS lt a j,size_swp]
  ·rfl
theorem ZhT (lt:Int→Int→Bool) (a b:Nat):∀ (n i:Nat) (d:Array Int),b-i≤n→(insOuter lt a b i d).size=d.size
 | 0,i,d,h=>by rw [insOuter,if_neg (by omega)]
 | n+1,i,d,h=>by
  rw [insOuter]
  split
  ·rw [ZhT lt a b n (i+1) _ (by omega),ZhS]
  ·rfl
theorem Zph (xs:List Int):(srt3 xs).length=xs.length:=by
 unfold srt3 Sort.insertionSort
 rw [Array.length_toList,ZhT _ _ _ 3 _ _ (by omega)]
 simp
theorem ZlC (A:Option Addr) (xs:List Int) (c:Nat) (w:World) (hr:Rd w w.heap.size A xs) (hl:xs.length=3):
 Calls Tryz.prog 86 #[.slice A 3 c] w fun e w'=>∃ v,e=.returned v∧Own w' w.heap.size 3 v (srt3 xs)∧Up w w':=by
 go_enter Tryz.func86,Tryz.ntmps86
 go_wp2_with (at_builtin; refine ZiT Zu5 rfl (.tmp 4) (.tmp 5) rfl (base:=w.heap.size) (ys:=[]) (by rfl) (Own.empty w _ _ 0 _ (Nat.le_refl _) (by unfold maxLen; omega) rfl) 3 (by rfl) hl.symm (hr.up (by (repeat (first | exact Up.rfl' _ | (refine Up.al _ ?_) | (refine Up.dr _ ?_) | (refine Up.dr1 ?_) | (refine Up.sc ?_ (by first | exact Nat.le_refl _ | (simp; done) | omega) _) | (refine Up.step (by assumption) ?_))))) (by simp; omega) (by unfold maxLen; simp; omega) (by first | (simp; done) | (simp; omega) | (have h_:=hB.size; omega) | (have h_:=hB.size; simp; omega)) ?_; intro v' w1 ho1 hg1 _ hu1; refine Hid.out ?_)
 refine Lib.hid ?_
 have ho:Own w1 w.heap.size 3 v' xs:=by simpa using ho1
 have hu:=hu1 w (Nat.le_refl _) (by (repeat (first | exact Up.rfl' _ | (refine Up.al _ ?_) | (refine Up.dr _ ?_) | (refine Up.dr1 ?_) | (refine Up.sc ?_ (by first | exact Nat.le_refl _ | (simp; done) | omega) _) | (refine Up.step (by assumption) ?_))))
 obtain ⟨g,cap,cur,rfl,hgB,hgh,h3,hcm,hcs,hct⟩:=own3 ho hl
 have hgl:g<w1.heap.size:=(Array.getElem?_eq_some_iff.1 hgh).1
 have hRv:=ZtJ w1 (SV g 0 3 cap)
 have hg2:∀ o,(w1.alloc o).heap[g]?=some (.cells cur 3 (0,0)):=fun o=>(Below.block (Up.al o (Up.rfl' w1)) g hgl).trans hgh
 have hsz:∀ o,(w1.alloc o).heap.size=w1.heap.size+1:=fun o=>by simp
 have hS:∀ o,o=Obj.cells #[.iface 153 (SV g 0 3 cap)] 208 (0,0)→_:=fun o ho=>ZtQ g 0 cap w1.heap.size xs.toArray (w1.alloc o) (holds_of_blockI (hg2 o) (by rw [hl]; exact hct)) (by rw [hsz]; omega) (by simp [hl]) (by subst ho; rw [cell_of_row _ _ 0 _ _ (0,0) (heap_alloc_new w1 _)]; simp [hl]) (by rw [hsz]; omega) (by omega)
 have hS2:=hS _ rfl
 clear hS
 go_wp2_with (first
  | (go_at_call 123; refine hRv.mono ?_; rintro e w' ⟨rfl,rfl⟩)
  | (go_at_call 122; refine hS2.mono ?_; rintro e w' ⟨rfl,hSW⟩))
 go_ret
 obtain ⟨n,os,rfl⟩:=hSW
 have hlt:(srt3 xs).length=xs.length:=Zph xs
 have hown:=ownsRow_sortedI (n:=n) (os:=os) (ss:=xs) (ts:=srt3 xs) hlt hgB (hg2 (Obj.cells #[.iface 153 (SV g 0 3 cap)] 208 (0,0))) (by omega) hcm hcs
 refine ⟨_,rfl,?_,?_⟩
 ·unfold Own
  rw [hlt,Zh7]
  rw [hl] at hown ⊢
  unfold srt3 at hown ⊢
  exact hown
 ·have hgr:=grownBy_sortedI (w:=w1.alloc (Obj.cells #[.iface 153 (SV g 0 3 cap)] 208 (0,0))) (g:=g) (n:=n) (os:=os) (Sort.insertionSort gtI xs.toArray 0 3)
  have hu2:=Up.al (Obj.cells #[.iface 153 (SV g 0 3 cap)] 208 (0,0)) hu
  exact ⟨hgr.os.trans hu2.os,hgr.tape.trans hu2.tape,hgr.output.trans hu2.output,Nat.le_trans hu2.size hgr.size,fun b hb=>(hgr.block b (Nat.lt_of_lt_of_le hb hu2.size) (by simp; omega)).trans (hu2.block b hb)⟩
end Go.Proofs.YtkfbakhnpfmfmaaGreatDoor
namespace Go.Proofs.YtkfbakhnpfmfmaaGreatDoor
set_option maxRecDepth 10000
open Go.RowKit
set_option linter.unusedVariables false
set_option linter.unusedSimpArgs false
theorem Zmq {α:Type} [Enc α] {c:α→List PV} {T:TypeId} {S:Nat→Prop} {β:Nat→Option Blk} {w w':World} {v:Value} {ys:List α} {ω:Nat→Key→Prop} (hk:Ok w (own0 β) (E1 S β 0 ω) w []) (ho:Own w' w.heap.size T v ys) (hu:Up w w')
 (hc:∀ (x:α),(c x).length=Enc.k α∧∀ (j:Nat) (p:PV),(c x)[j]?=some p→∃ u,(Enc.cells x)[j]?=some u∧u.oneCell'=true∧∀ (w:World) (E:Env),Rep w E p u):
 ∃ E',Ok w (own0 β) E' w' [some ⟨T,Enc.k α,ys.map c⟩]∧(∀ b,S b→E'.S b)∧(∀ b,E'.S b→S b∨w.heap.size≤b∨own0 β b)∧((∀ l B,l<0→E'.β l=some B→β l=some B)∧∀ b q,E'.ω b q→ω b q∨w.heap.size≤b∨own0 β b)∧Rep w' E' (.ms 0) v:=by
 have hesl:∀ (i:Nat) (cs:List PV),(ys.map c)[i]?=some cs→cs.length=Enc.k α:=by
  intro i cs hi
  rw [List.getElem?_map] at hi
  obtain ⟨y,_,rfl⟩:=Option.map_eq_some_iff.1 hi
  exact (hc y).1
 have key:∀ (B:Blk),v=B.sv→v.oneCell'=true→(B.z=false→w.heap.size≤B.b∧B.b<w'.heap.size)→(∀ E,Zdc w' E ⟨T,Enc.k α,ys.map c⟩ B)→
  ∃ E',Ok w (own0 β) E' w' [some ⟨T,Enc.k α,ys.map c⟩]∧(∀ b,S b→E'.S b)∧(∀ b,E'.S b→S b∨w.heap.size≤b∨own0 β b)∧((∀ l B,l<0→E'.β l=some B→β l=some B)∧∀ b q,E'.ω b q→ω b q∨w.heap.size≤b∨own0 β b)∧Rep w' E' (.ms 0) v:=by
  intro B hv h1 hB hb
  obtain ⟨h2,_⟩:=hk.new (ν:=0) (fun h=>absurd h (Nat.not_lt_zero 0)) ⟨T,Enc.k α,ys.map c⟩ B hu.os hu.tape hu.output hu.size (fun b hb=>hu.block b hb) hB (fun _=>hb _)
  refine ⟨_,h2,fun b h=>h,fun b h=>.inl h,⟨fun l B h=>absurd h (Nat.not_lt_zero l),fun _ _ h=>.inl h⟩,.ms 0 v (.inl rfl) h1 fun B' hB'=>?_⟩
  have:B'=B:=by simpa [Env.add,eq_comm] using hB'
  rw [this]; exact hv
 rcases ho.2 with ⟨hv,h0⟩ | ⟨g,cap,cur,hv,hB,hg,hnc,hcm,hcs,ht⟩
 ·have hy:ys=[]:=List.length_eq_zero_iff.1 h0
  subst hy
  exact key ⟨0,0,0,Enc.k α,T,true⟩ (by rw [hv]; rfl) (by rw [hv]; rfl) (fun h=>by cases h) fun E=>⟨rfl,rfl,rfl,Enc.pos,Nat.le_refl _,Nat.zero_le _,hesl,fun _=>rfl,fun h=>(by cases h),fun _ h=>by cases h⟩
 ·refine key ⟨g,cap,ys.length,Enc.k α,T,false⟩ (by rw [hv]; rfl) (by rw [hv]; rfl) (fun _=>⟨hB,(Array.getElem?_eq_some_iff.1 hg).1⟩) fun E=>⟨rfl,by simp,rfl,Enc.pos,hnc,hcm,hesl,(fun h=>by cases h),fun _=>⟨cur,hg,hcs,fun i cs j p hi hj=>?_⟩,fun _ h=>by cases h⟩
  rw [List.getElem?_map] at hi
  obtain ⟨y,hy,rfl⟩:=Option.map_eq_some_iff.1 hi
  obtain ⟨hl,hcc⟩:=hc y
  obtain ⟨u,hu1,hu2,hu3⟩:=hcc j p hj
  refine ⟨u,?_,hu2,hu3 _ _⟩
  have hf:=ZqW hy hu1
  have hlt:=(List.getElem?_eq_some_iff.1 hf).1
  rw [ZgN] at hlt
  have:=congrArg (fun l:List Value=>l[i*Enc.k α+j]?) ht
  have h2:(cur.toList.take (ys.length*Enc.k α))[i*Enc.k α+j]?=(flat ys)[i*Enc.k α+j]?:=this
  rw [List.getElem?_take_of_lt hlt,Array.getElem?_toList,hf] at h2
  exact h2
end Go.Proofs.YtkfbakhnpfmfmaaGreatDoor
namespace Go.Proofs.YtkfbakhnpfmfmaaGreatDoor
set_option maxRecDepth 10000
open Go.RowKit Go.Lib
set_option linter.unusedVariables false
set_option linter.unusedSimpArgs false
def Zde (l:List Int):Option (List Int):=if l.length=3 then some (srt3 l) else none
theorem ZvQ {w:World} {S:Nat→Prop} {xs:List Int} {x:Value} (hsz:∀ b,S b→b<w.heap.size) (h:RepC w S (.sl (xs.map cInt)) x):∃ A c,x=.slice A xs.length c∧xs.length≤c∧Rd w w.heap.size A xs:=by
 generalize hq:PV.sl (xs.map cInt)=q at h
 cases h with
 | v x h=>cases hq
 | ud=>cases hq
 | un=>cases hq
 | rp=>cases hq
 | fn=>cases hq
 | nil A c=>
  have:xs=[]:=by simpa using hq
  exact ⟨A,c,by rw [this]; rfl,by rw [this]; simp,by rw [this]; exact Rd.nil_⟩
 | sl es b off k c u hS hkp hnc hm hes hcc h1 hrr=>
  obtain rfl:xs.map cInt=es:=by simpa using hq
  refine ⟨_,c,by simp,by simpa using hnc,fun hne=>⟨b,off,rfl,hsz b hS,fun j u' hu'=>?_⟩⟩
  have hpos:0<xs.length:=List.length_pos_iff.2 hne
  have hk1:k=1:=(hes 0 (cInt xs[0]) (by simp [hpos])).symm
  subst hk1
  rw [Zh7] at hu'
  rw [List.getElem?_map] at hu'
  obtain ⟨y,hy,rfl⟩:=Option.map_eq_some_iff.1 hu'
  have hj:=(List.getElem?_eq_some_iff.1 hy).1
  have e1:(xs.map cInt)[j]?=some (cInt y):=by rw [List.getElem?_map,hy]; rfl
  have hc:=hcc j _ 0 (vi y) e1 rfl
  have hz:=hrr j _ 0 (vi y) e1 rfl
  have hz':u j 0=.int .i64 y:=by
   generalize hp:u j 0=z at hz
   cases hz with
   | v _ _=>rfl
  rw [hz'] at hc
  rw [show off+j=off+j*1+0 by omega]
  exact hc
theorem Zig (l:List Int) {r:List Int} (H:Zde l=some r):Zd1 Tryz.prog 86 [.sl (l.map cInt)] [] (.ms 0) [some ⟨.of 3,1,r.map cInt⟩]:=by
 unfold Zde at H
 split at H
 case isFalse=>cases H
 rename_i hl3
 obtain rfl:=Option.some.inj H
 intro S β w vs ω hk hl ha
 obtain ⟨x,hx0,hr⟩:=ha 0 _ rfl
 have hv:vs=#[x]:=by
  have h1:vs.size=1:=hl
  apply Array.ext (by simp [h1])
  intro i h2 h3
  have:i=0:=by omega
  subst this
  have:=(Array.getElem?_eq_some_iff.1 hx0).2
  simpa using this
 subst hv
 have hr0:RepC w S (.sl (l.map cInt)) x:=by cases hr with | c h=>exact h
 obtain ⟨A,c,rfl,hcap,hrd⟩:=ZvQ hk.sz hr0
 rw [hl3]
 refine (ZlC A l c w hrd hl3).mono ?_
 rintro e w' ⟨v,rfl,ho,hu⟩
 obtain ⟨E',h1,h2,h3,h4,h5⟩:=Zmq (c:=cInt) hk ho hu (fun x=>⟨rfl,fun j p hj=>by
  cases j with
  | zero=>obtain rfl:vi x=p:=by simpa using hj
          exact ⟨_,rfl,rfl,fun w E=>.c (.v _ rfl)⟩
  | succ j=>simp [cInt] at hj⟩)
 exact ⟨v,E',rfl,h1,h2,h3,h4,h5⟩
instance (l:List Int):CT Tryz.prog (Zde l):=⟨86,[.sl (l.map cInt)],[],fun r=>.ms 0,fun r=>[some ⟨.of 3,1,r.map cInt⟩],Zig l⟩
end Go.Proofs.YtkfbakhnpfmfmaaGreatDoor
namespace Go.Proofs.YtkfbakhnpfmfmaaGreatDoor
set_option maxRecDepth 10000
open Go.RowKit
set_option linter.unusedVariables false
set_option linter.unusedSimpArgs false
def dg (u:Nat):List UInt8:=if h:u=0 then [] else dg (u / 10)++[UInt8.ofNat (48+u % 10)]
termination_by u
decreasing_by omega
theorem Znp:dg 0=[]:=by rw [dg,dif_pos rfl]
theorem ZqP {u:Nat} (h:0<u):dg u=dg (u / 10)++[UInt8.ofNat (48+u % 10)]:=by rw [dg,dif_neg (by omega)]
theorem ZqO:∀ (k u:Nat),u≤k→0<u→dg u=Lib.decDigits u
 | 0,u,h,h0=>by omega
 | k+1,u,h,h0=>by
  rw [ZqP h0,Lib.decDigits]
  by_cases h10:u<10
  ·rw [dif_pos h10,show u / 10=0 by omega,Znp,show u % 10=u by omega]; rfl
  ·rw [dif_neg h10,ZqO k (u / 10) (by omega) (by omega)]
def txt (l:List UInt8):ByteArray:=⟨l.toArray⟩
theorem ZlM (c:Nat) (l:List UInt8):strOfNums [(c:Int)]++txt l=txt (UInt8.ofNat c::l):=by
 apply ByteArray.ext
 rw [ByteArray.data_append]
 simp [strOfNums,txt]
theorem Zo (l:List UInt8):(txt l).size=l.length:=by simp [txt,ByteArray.size]
theorem Zww (u:Nat) (h:u≤9223372036854775808):(dg u).length≤21:=by
 rcases Nat.eq_zero_or_pos u with rfl | h0
 ·rw [Znp]; simp
 ·rw [ZqO u u (Nat.le_refl _) h0]
  have:=Lib.itoa_length_le (-(u:Int)) (by omega) (by omega)
  unfold Lib.itoa at this
  rw [if_pos (by omega),show (-(u:Int)).natAbs=u by omega] at this
  simp at this
  omega
theorem Zka (n:Int) (h0:-9223372036854775808≤n) (h1:n≤9223372036854775807) (w:World):
 Calls Tryz.prog 47 #[.int .i64 n] w fun e w'=>e=.returned (.string (txt (Lib.itoa n)))∧Up w w':=by
 by_cases hn0:n=0
 ·subst hn0
  go_enter Tryz.func47,Tryz.ntmps47
  go_wp2
  go_ret
  refine ⟨?_,by (repeat (first | exact Up.rfl' _ | (refine Up.al _ ?_) | (refine Up.dr _ ?_) | (refine Up.dr1 ?_) | (refine Up.sc ?_ (by first | exact Nat.le_refl _ | (simp; done) | omega) _) | (refine Up.step (by assumption) ?_)))⟩
  congr 1
  unfold Lib.itoa
  rw [if_neg (by omega),Lib.decDigits,dif_pos (by decide)]
  rfl
 ·have hfin:∀ l:List UInt8,dg n.natAbs=l→(if n<0 then 45::l else l)=Lib.itoa n:=by
   rintro l rfl
   rw [ZqO _ _ (Nat.le_refl _) (by omega)]
   unfold Lib.itoa
   split
   ·rfl
   ·rw [show n.natAbs=n.toNat by omega]
  have hlen:=Zww n.natAbs (by omega)
  go_enter Tryz.func47,Tryz.ntmps47
  go_wp2
  go_loopw [3,4] (fun ss xx wr=>∃ (m:Int) (l:List UInt8),xx=.int .i64 m∧ss=.string (txt l)∧dg m.natAbs++l=dg n.natAbs∧-9223372036854775808≤m∧m≤9223372036854775807∧Up w wr) (fun _ xx _=>(intOf xx).natAbs)
  case atStart=>exact ⟨n,[],rfl,rfl,by simp,h0,h1,by (repeat (first | exact Up.rfl' _ | (refine Up.al _ ?_) | (refine Up.dr _ ?_) | (refine Up.dr1 ?_) | (refine Up.sc ?_ (by first | exact Nat.le_refl _ | (simp; done) | omega) _) | (refine Up.step (by assumption) ?_)))⟩
  case round=>
   obtain ⟨m,l,rfl,rfl,hd,hm0,hm1,hb⟩:=hrel
   have hl:l.length≤21:=by
    have:=congrArg List.length hd
    rw [List.length_append] at this
    omega
   by_cases hz:m=0
   ·subst hz
    have hd':l=dg n.natAbs:=by simpa [Znp] using hd
    have hs:(txt l).size≤30:=by rw [Zo]; omega
    have hf:=hfin l hd'.symm
    clear hfin
    have h45:(⟨#[45]⟩:ByteArray).size=1:=rfl
    have HF:=Lib.hid hf
    clear hf hd hd'
    go_wp2
    all_goals (try (exfalso; omega))
    all_goals (go_ret; refine ⟨?_,by (repeat (first | exact Up.rfl' _ | (refine Up.al _ ?_) | (refine Up.dr _ ?_) | (refine Up.dr1 ?_) | (refine Up.sc ?_ (by first | exact Nat.le_refl _ | (simp; done) | omega) _) | (refine Up.step (by assumption) ?_)))⟩; have hf:=HF.out; first | (rw [if_pos (by omega)] at hf; rw [← hf]; rfl) | (rw [if_neg (by omega)] at hf; exact congrArg (fun l=>Ending.returned (.string (txt l))) hf))
   ·have hs:(txt l).size≤30:=by rw [Zo]; omega
    have hu8:∀ c:Nat,c<10→UInt8.ofNat (48+c)=UInt8.ofNat (48+c):=fun _ _=>rfl
    by_cases hneg:m<0
    ·obtain ⟨u,rfl⟩:∃ u:Nat,m=-(u:Int):=⟨m.natAbs,by omega⟩
     have hu:0<u:=by omega
     rw [show (-(u:Int)).natAbs=u by omega,ZqP hu] at hd
     have hcv:=fun z:Int=>run_convert_bytes_arg (P:=Tryz.prog) (wr.alloc (.cells #[.int .u8 z] 5)) 40 5 Tryz.underlying40 Tryz.underlying5 wr.heap.size 0 1 1 [z] rfl (fun i hi=>(by obtain rfl:i=0:=(by omega); simp [go_sem])) 9 Tryz.underlying9
     have hcv1:=hcv (48+(u:Int) % 10)
     have hcv2:=hcv (48 + -((u:Int) % 10))
     clear hcv
     have hsz:(strOfNums [48+(u:Int) % 10]).size=1:=by simp [strOfNums,ByteArray.size]
     have hsz2:(strOfNums [48 + -((u:Int) % 10)]).size=1:=by simp [strOfNums,ByteArray.size]
     go_wp2
     all_goals (try (exfalso; omega))
     ·refine ⟨⟨-((u / 10:Nat):Int),UInt8.ofNat (48+u % 10)::l,by congr 1,?_,?_,by omega,by omega,by (repeat (first | exact Up.rfl' _ | (refine Up.al _ ?_) | (refine Up.dr _ ?_) | (refine Up.dr1 ?_) | (refine Up.sc ?_ (by first | exact Nat.le_refl _ | (simp; done) | omega) _) | (refine Up.step (by assumption) ?_)))⟩,by simp [intOf]; omega⟩
      ·rw [show (48+(u:Int) % 10)=((48+u % 10:Nat):Int) by omega,ZlM]
      ·rw [show (-((u / 10:Nat):Int)).natAbs=u / 10 by omega,← hd]; simp
     ·refine ⟨⟨-((u / 10:Nat):Int),UInt8.ofNat (48+u % 10)::l,by congr 1,?_,?_,by omega,by omega,by (repeat (first | exact Up.rfl' _ | (refine Up.al _ ?_) | (refine Up.dr _ ?_) | (refine Up.dr1 ?_) | (refine Up.sc ?_ (by first | exact Nat.le_refl _ | (simp; done) | omega) _) | (refine Up.step (by assumption) ?_)))⟩,by simp [intOf]; omega⟩
      ·rw [show (48 + -((u:Int) % 10))=((48+u % 10:Nat):Int) by omega,ZlM]
      ·rw [show (-((u / 10:Nat):Int)).natAbs=u / 10 by omega,← hd]; simp
    ·obtain ⟨u,rfl⟩:∃ u:Nat,m=(u:Int):=⟨m.toNat,by omega⟩
     have hu:0<u:=by omega
     rw [show ((u:Int)).natAbs=u by omega,ZqP hu] at hd
     have hcv:=run_convert_bytes_arg (P:=Tryz.prog) (wr.alloc (.cells #[.int .u8 (48+(u:Int) % 10)] 5)) 40 5 Tryz.underlying40 Tryz.underlying5 wr.heap.size 0 1 1 [48+(u:Int) % 10] rfl (fun i hi=>(by obtain rfl:i=0:=(by omega); simp [go_sem])) 9 Tryz.underlying9
     have hsz:(strOfNums [48+(u:Int) % 10]).size=1:=by simp [strOfNums,ByteArray.size]
     go_wp2
     refine ⟨⟨((u / 10:Nat):Int),UInt8.ofNat (48+u % 10)::l,by congr 1,?_,?_,by omega,by omega,by (repeat (first | exact Up.rfl' _ | (refine Up.al _ ?_) | (refine Up.dr _ ?_) | (refine Up.dr1 ?_) | (refine Up.sc ?_ (by first | exact Nat.le_refl _ | (simp; done) | omega) _) | (refine Up.step (by assumption) ?_)))⟩,by simp [intOf]; omega⟩
     ·rw [show (48+(u:Int) % 10)=((48+u % 10:Nat):Int) by omega,ZlM]
     ·rw [show (((u / 10:Nat):Int)).natAbs=u / 10 by omega,← hd]; simp
end Go.Proofs.YtkfbakhnpfmfmaaGreatDoor
namespace Go.Proofs.YtkfbakhnpfmfmaaGreatDoor
set_option maxRecDepth 10000
open Go.RowKit Go.Shelf
set_option linter.unusedVariables false
set_option linter.unusedSimpArgs false
set_option maxRecDepth 100000
set_option maxHeartbeats 2000000
abbrev TB:Nat:=199
theorem ZsT (b:Nat) (w:World) (h0:w.cell? ⟨b,0,none⟩=some (.pointer (some ⟨b,0,none⟩))):
 Calls Tryz.prog 200 #[.pointer (some ⟨b,0,none⟩)] w fun e w'=>e=.returned (.tuple #[])∧w'=w:=by
 have X:=Tryz.Builder_Extra_169
 obtain ⟨j,hj,_⟩:=Option.map_eq_some_iff.1 X.sizeBuilder
 go_enter Tryz.func200,Tryz.ntmps200
 go_wp2
 rw [Lib.run_neq_ptr_same w _ Tryz.underlying197 hj]
 go_wp2
 go_end0
 exact ⟨rfl,rfl⟩
theorem Zqs (b:Nat) (w:World) (h0:w.cell? ⟨b,0,none⟩=some (.pointer none)) (hsh:w.shape? b=some (TB,2)) (hfz:w.frozen? ⟨b,0,none⟩=false):
 Calls Tryz.prog 200 #[.pointer (some ⟨b,0,none⟩)] w fun e w'=>e=.returned (.tuple #[])∧w'=w.setCell ⟨b,0,none⟩ (.pointer (some ⟨b,0,none⟩)):=by
 have X:=Tryz.Builder_Extra_169
 obtain ⟨j,hj,hjs⟩:=Option.map_eq_some_iff.1 X.sizeBuilder
 go_enter Tryz.func200,Tryz.ntmps200
 go_wp2
 rw [Lib.run_to_unsafe w ⟨b,0,none⟩ Tryz.underlying197 Tryz.underlying281 hj (by rw [hjs]; decide) hsh (Nat.zero_lt_succ 1)]
 simp only [Result.andThen]
 rw [Oper.upon_value]
 go_wp2
 rw [run_callFunc_extern Tryz.func234 (by kernel_rfl) (by kernel_rfl) (by kernel_rfl) (e:=Extern.AbiNoEscape.same) (by kernel_rfl)]
 rw [Lib.run_noEscape]
 simp only [Result.andThen]
 rw [Oper.upon_value]
 go_wp2
 rw [Lib.run_from_unsafe w ⟨b,0,none⟩ Tryz.underlying281 Tryz.underlying197 hj hsh X.toX72.liesBuilder]
 simp only [Result.andThen]
 rw [Oper.upon_value]
 go_wp2
 go_end0
 exact ⟨rfl,rfl⟩
theorem Zoh (B b:Nat) (bs:List Value) (w:World) (h:Lib.IsBuilder TB 5 B b bs w):
 Calls Tryz.prog 200 #[.pointer (some ⟨b,0,none⟩)] w fun e w'=>e=.returned (.tuple #[])∧(Lib.BuilderAt TB 5 B b (.pointer (some ⟨b,0,none⟩)) bs w'∧Below B w w'):=by
 rcases h with h | h
 ·refine (Zqs b w h.cell0 h.shape h.frozen0).mono ?_
  rintro e w' ⟨rfl,rfl⟩
  exact ⟨rfl,h.used _,(Below.refl B w).setCell (p:=⟨b,0,none⟩) h.1 _⟩
 ·refine (ZsT b w h.cell0).mono ?_
  rintro e w' ⟨rfl,rfl⟩
  exact ⟨rfl,h,Below.refl B _⟩
theorem ZsS (B b:Nat) (bs:List Value) (c:Int) (w:World) (h:Lib.IsBuilder TB 5 B b bs w) (hlen:bs.length+1≤140737488355328) (hBw:B≤w.heap.size):
 Calls Tryz.prog 164 #[.pointer (some ⟨b,0,none⟩),.int .u8 c] w fun e w'=>e=.returned .nilIface∧(Lib.BuilderAt TB 5 B b (.pointer (some ⟨b,0,none⟩)) (bs++[.int .u8 c]) w'∧Below B w w'):=by
 have X:=Tryz.Builder_Extra_169
 obtain ⟨i0,hi,hz0,hz1,hz2⟩:=info_parts X.infoByte
 go_enter Tryz.func164,Tryz.ntmps164
 go_wp2_with (go_at_call 200; refine (Zoh B b bs _ h).mono ?_)
 rintro e w1 ⟨rfl,h1,hb1⟩
 obtain ⟨hB,v,hbk,hown,hne⟩:=h1
 have c0:w1.cell? ⟨b,0,none⟩=some (.pointer (some ⟨b,0,none⟩)):=by rw [Lib.cell_of_heap hbk]; rfl
 have c1:w1.cell? ⟨b,1,none⟩=some v:=by rw [Lib.cell_of_heap hbk]; rfl
 go_wp2_with (at_builtin; refine wpList_append_own _ rfl _ _ 40 rfl B 5 i0 (.int .u8 0) 1 1 Tryz.underlying40 hi hz0 hz1 hz2 rfl (by decide) _ _ _ rfl (hown.alloc _) ⟨w1.heap.size,0,none⟩ 1 1 [.int .u8 c] rfl rfl ?c1 ?c2 ?c3 ?c4 ?c5 ?_)
 case c1=>
  intro j u hj
  match j,hj with
  | 0,hj=>simp at hj; subst hj; simp [Addr.add]
 case c2=>intro u hu; simp at hu; subst hu; rfl
 case c3=>unfold maxLen; omega
 case c4=>omega
 case c5=>have:=hb1.size; simp; omega
 intro v' w2 hown' hgrow _
 have hlt:b<w1.heap.size:=by
  rcases Nat.lt_or_ge b w1.heap.size with h' | h'
  ·exact h'
  ·simp [Array.getElem?_eq_none h'] at hbk
 have hb2:w2.heap[b]?=some (.cells #[.pointer (some ⟨b,0,none⟩),v] TB (0,0)):=by
  rw [hgrow.block b (by simp; omega) (fun e=>hne e.symm),Lib.alloc_old w1 _ b hlt]
  exact hbk
 have d0:w2.cell? ⟨b,0,none⟩=some (.pointer (some ⟨b,0,none⟩)):=by rw [Lib.cell_of_heap hb2]; rfl
 have d1:w2.cell? ⟨b,1,none⟩=some v:=by rw [Lib.cell_of_heap hb2]; rfl
 have f1:w2.frozen? ⟨b,1,none⟩=false:=Lib.frozen_of_heap hb2 1
 obtain ⟨g,cap,rfl⟩:∃ g cap,v'=.slice (some ⟨g,0,none⟩) (bs.length+1) cap:=by
  rcases hown'.2 with ⟨_,h0⟩ | ⟨g,cap,cur,hv,_⟩
  ·omega
  ·exact ⟨g,cap,hv⟩
 go_wp2
 go_ret
 refine ⟨rfl,?_,?_⟩
 ·exact Lib.BuilderAt.put (T:=TB) (e:=5) hB hb2 (bs':=bs++[.int .u8 c]) (by simpa using hown') X.neB5
 ·exact ((hb1.alloc (by have:=hb1.size; omega) _).grown hgrow (by have:=hb1.size; simp; omega) (fun k hk=>(hown.lt k hk).1)).setCell (p:=⟨b,1,none⟩) hB _
theorem ZuP (B b:Nat) (bs:List Value) (s:ByteArray) (w:World) (h:Lib.IsBuilder TB 5 B b bs w) (hlen:bs.length+s.size≤140737488355328) (hBw:B≤w.heap.size):
 Calls Tryz.prog 161 #[.pointer (some ⟨b,0,none⟩),.string s] w fun e w'=>e=.returned (.tuple #[.int .i64 s.size,.nilIface])∧(Lib.BuilderAt TB 5 B b (.pointer (some ⟨b,0,none⟩)) (bs++Lib.strCells s) w'∧Below B w w'):=by
 have X:=Tryz.Builder_Extra_169
 obtain ⟨i0,hi,hz0,hz1,hz2⟩:=info_parts X.infoByte
 go_enter Tryz.func161,Tryz.ntmps161
 go_wp2_with (go_at_call 200; refine (Zoh B b bs _ h).mono ?_)
 rintro e w1 ⟨rfl,h1,hb1⟩
 obtain ⟨hB,v,hbk,hown,hne⟩:=h1
 have c0:w1.cell? ⟨b,0,none⟩=some (.pointer (some ⟨b,0,none⟩)):=by rw [Lib.cell_of_heap hbk]; rfl
 have c1:w1.cell? ⟨b,1,none⟩=some v:=by rw [Lib.cell_of_heap hbk]; rfl
 go_wp2_with (at_builtin; refine Lib.wpList_append_own_string _ rfl _ _ 40 9 rfl B 5 i0 Tryz.underlying40 Tryz.underlying9 hi hz0 hz1 hz2 _ _ _ rfl hown s rfl ?c3 ?c4 ?c5 ?_)
 case c3=>unfold maxLen; omega
 case c4=>omega
 case c5=>have:=hb1.size; omega
 intro v' w2 hown' hgrow _
 have hlt:b<w1.heap.size:=by
  rcases Nat.lt_or_ge b w1.heap.size with h' | h'
  ·exact h'
  ·simp [Array.getElem?_eq_none h'] at hbk
 have hb2:w2.heap[b]?=some (.cells #[.pointer (some ⟨b,0,none⟩),v] TB (0,0)):=by
  rw [hgrow.block b hlt (fun e=>hne e.symm)]
  exact hbk
 have d0:w2.cell? ⟨b,0,none⟩=some (.pointer (some ⟨b,0,none⟩)):=by rw [Lib.cell_of_heap hb2]; rfl
 have d1:w2.cell? ⟨b,1,none⟩=some v:=by rw [Lib.cell_of_heap hb2]; rfl
 have f1:w2.frozen? ⟨b,1,none⟩=false:=Lib.frozen_of_heap hb2 1
 obtain ⟨ao,n',cap,rfl⟩:∃ ao n' cap,v'=.slice ao n' cap:=by
  rcases hown'.2 with ⟨hv,_⟩ | ⟨g,cap,cur,hv,_⟩
  ·exact ⟨_,_,_,hv⟩
  ·exact ⟨_,_,_,hv⟩
 go_wp2
 go_ret2
 refine ⟨rfl,?_,?_⟩
 ·exact Lib.BuilderAt.put (T:=TB) (e:=5) hB hb2 (bs':=bs++Lib.strCells s) (by simpa [Lib.strCells_length] using hown') X.neB5
 ·exact (hb1.grown hgrow (by have:=hb1.size; omega) (fun k hk=>(hown.lt k hk).1)).setCell (p:=⟨b,1,none⟩) hB _
end Go.Proofs.YtkfbakhnpfmfmaaGreatDoor
namespace Go.Proofs.YtkfbakhnpfmfmaaGreatDoor
set_option maxRecDepth 10000
open Go.RowKit
set_option linter.unusedVariables false
set_option linter.unusedSimpArgs false
set_option maxHeartbeats 2000000
theorem ZsE (w:World) (k:Nat) (os:Array Obj):Up w (Sort.grow (w.drewN k) os):=
 ⟨rfl,rfl,rfl,by simp,fun b hb=>Sort.heap_grow_old _ _ hb⟩
theorem Zg6 (n:Int) (h0:-9223372036854775808≤n) (h1:n≤9223372036854775807) (w:World) (ht:TabF w):
 Calls Tryz.prog 40 #[.int .i64 n] w fun e w'=>e=.returned (.string (txt (Lib.itoa n)))∧Up w w':=by
 have hI:=Tryz.strconv_Itoa n h0 h1 w ht.tab
 go_enter Tryz.func40,Tryz.ntmps40
 go_wp2_with (go_at_call 53; refine hI.mono ?_; rintro e w' ⟨rfl,k,os,rfl⟩)
 go_ret
 exact ⟨rfl,ZsE _ _ _⟩
theorem Zti (i:Nat):Lib.itoa (i:Int)=Lib.decDigits i:=by
 unfold Lib.itoa
 rw [if_neg (by omega)]
 rfl
theorem Zjp (i:Nat) (hi:i<100) (w:World):
 Calls Tryz.prog 40 #[.int .i64 i] w fun e w'=>e=.returned (.string (txt (Lib.itoa i)))∧w'=w:=by
 have hI:=Tryz.strconv_Itoa_small i hi w
 rw [Zti]
 go_enter Tryz.func40,Tryz.ntmps40
 go_wp2_with (go_at_call 53; refine hI.mono ?_; rintro e w' ⟨rfl,rfl⟩)
 go_ret
 exact ⟨rfl,rfl⟩
def padL (n:Int) (d:Nat):List UInt8:=List.replicate (d-(Lib.itoa n).length) 48++Lib.itoa n
theorem ZtH (c:Nat):Lib.repeatL [48] c=List.replicate c (48:UInt8):=by
 induction c with
 | zero=>rfl
 | succ c ih=>
  rw [Lib.repeatL,ih,List.replicate_succ]; rfl
theorem ZnQ (n:Int) (d:Nat) (h0:-9223372036854775808≤n) (h1:n≤9223372036854775807) (hd:d≤20) (w:World) (ht:TabF w):
 Calls Tryz.prog 84 #[.int .i64 n,.int .i64 d] w fun e w'=>e=.returned (.string (txt (padL n d)))∧Up w w':=by
 have hF:=Zg6 n h0 h1 w ht
 have hlen:=Lib.itoa_length_le n h0 h1
 have hsz:(txt (Lib.itoa n)).size=(Lib.itoa n).length:=Zo _
 have hR:=fun w1=>Tryz.strings_Repeat ⟨#[48]⟩ (d-(Lib.itoa n).length) w1 (by omega) (by show 1*_≤_; omega)
 have hsR:(⟨(Lib.repeatL [48] (d-(Lib.itoa n).length)).toArray⟩:ByteArray).size=d-(Lib.itoa n).length:=by simp [ByteArray.size,Lib.repeatL_length]
 rw [show ((d-(Lib.itoa n).length:Nat):Int)=max 0 ((d:Int)-((Lib.itoa n).length:Int)) by omega] at hR
 go_enter Tryz.func84,Tryz.ntmps84
 go_wp2_with (first
  | (go_at_call 40; refine hF.mono ?_; rintro e w1 ⟨rfl,hu1⟩)
  | (go_at_call 119; refine (hR _).mono ?_; rintro e w2 ⟨rfl,hu2⟩))
 all_goals (try (exfalso; omega))
 go_ret
 refine ⟨?_,Up.step hu2 hu1⟩
 show Ending.returned (.string (⟨(Lib.repeatL [48] (d-(Lib.itoa n).length)).toArray⟩++txt (Lib.itoa n)))=_
 congr 2
 apply ByteArray.ext
 rw [ByteArray.data_append]
 simp [txt,padL,ZtH]
def dgt (c:UInt8):Option (List UInt8):=if 48≤c.toNat∧c.toNat≤57 then some [c] else if 65≤c.toNat∧c.toNat≤90 then some (Lib.itoa ((c.toNat-55:Nat):Int)) else none
def dgts:List UInt8→Option (List UInt8)
 | []=>some []
 | c::cs=>match dgt c,dgts cs with
  | some a,some b=>some (a++b)
  | _,_=>none
theorem Zmc (l:List UInt8) (c:UInt8):dgts (l++[c])=match dgts l,dgt c with
 | some a,some b=>some (a++b)
 | _,_=>none:=by
 induction l with
 | nil=>
  show dgts [c]=_
  simp only [dgts]
  cases dgt c <;> simp
 | cons x l ih=>
  simp only [List.cons_append,dgts,ih]
  cases dgt x <;> cases dgts l <;> cases dgt c <;> simp
theorem Zmb {l:List UInt8} {i:Nat} {c:UInt8} (h:l[i]?=some c) (hc:dgt c=none):dgts l=none:=by
 induction l generalizing i with
 | nil=>simp at h
 | cons x l ih=>
  cases i with
  | zero=>simp at h; subst h; simp [dgts,hc]
  | succ i=>
   have:=ih (i:=i) (by simpa using h)
   simp only [dgts,this]
   cases dgt x <;> rfl
end Go.Proofs.YtkfbakhnpfmfmaaGreatDoor
