/- A part of the proof of the statement in the last file of this claim: texts on the language of the program and on its functions. No condition. -/
import Derived.Test.YtkfbakhnpfmfmaaGreatDoorCFnActRead1
import Derived.ProofKit
import Derived.Deep.Slices
import Derived.Deep.Fields
import Derived.ChangeOld
import Derived.ChangeSame
import Derived.Test.YtkfbakhnpfmfmaaGreatDoorCFnActRead3
import Derived.Test.YtkfbakhnpfmfmaaGreatDoorChecked
import Derived.Lib.SmallJoins
import Derived.IntWalk
import Derived.Test.YtkfbakhnpfmfmaaGreatDoorCFnActRead12
import Derived.Test.YtkfbakhnpfmfmaaGreatDoorCFnActRead6
import Derived.Test.YtkfbakhnpfmfmaaGreatDoorCFnActRead7
import Derived.Test.YtkfbakhnpfmfmaaGreatDoorCFnActRead4
import Derived.Test.YtkfbakhnpfmfmaaGreatDoorCFnActRead13
import Derived.Test.YtkfbakhnpfmfmaaGreatDoorCFnActRead10
import Derived.Test.YtkfbakhnpfmfmaaGreatDoorCFnActRead11
import Derived.Sort.Walk0
import Derived.Test.YtkfbakhnpfmfmaaGreatDoorCFnActRead5
import Derived.Test.YtkfbakhnpfmfmaaGreatDoorCFnActRead8
import Derived.OpenShut
set_option linter.unusedVariables false
set_option linter.unusedSimpArgs false
set_option linter.unusedSectionVars false
namespace Go.Proofs.YtkfbakhnpfmfmaaGreatDoor
set_option maxRecDepth 10000
open Go.ChangeShapes Go.WideShapes Go.ChangeAt Go.RowKit Go.Deep
section
variable {H:Type} {enc:TypeId × Value→H} {P:Program} {w:World} {base:Nat} {spare:Nat→Bool} {held:Bool}
theorem ZsP (a:Addr) (i j:Nat):(a.add i).add j=a.add (i+j):=by
 unfold Addr.add
 by_cases hi:i=0 <;> by_cases hj:j=0 <;> simp [hi,hj,Nat.add_assoc]
end
def Reads (w:World) (ps:List PV) (cs:List Value):Prop:=
 ps.length=cs.length∧∀ (j:Nat) (p:PV) (x:Value),ps[j]?=some p→cs[j]?=some x→x.oneCell'=true∧RepC w (fun b=>b<w.heap.size) p x
def DecP (P:Program) (t:TypeId) {α:Type} (f:α→List PV) (ok:α→Prop):Prop:=
 ∀ {H:Type} {enc:TypeId × Value→H} {w:World} {base:Nat} {spare:Nat→Bool} {held:Bool} {fuel:Nat} {cs:List Value} {x:DataW H × List MemPlace},
  DataW.trod enc P w base spare held fuel t cs=some x→∃ a:α,Reads w (f a) cs∧ok a
section
variable {w:World}
theorem ZhQ {p:PV} {x:Value} (h1:x.oneCell'=true) (h:RepC w (fun b=>b<w.heap.size) p x):Reads w [p] [x]:=by
 refine ⟨rfl,fun j c y hj hy=>?_⟩
 cases j with
 | zero=>simp at hj hy; subst hj hy; exact ⟨h1,h⟩
 | succ j=>simp at hj
theorem reads_rep1 {p:PV} {x:Value} (h:Reads w [p] [x]):Rep w (E1 (fun b=>b<w.heap.size) (fun _=>none) 0) p x:=.c (h.2 0 p x rfl rfl).2
end
section
variable {P:Program}
theorem decP_slice {α:Type} {f:α→List PV} {ok:α→Prop} {t e:TypeId} (ht:P.underlying t=some (.slice e)) (hk:0<P.cellsOf e) (hdec:DecP P e f ok):
 DecP P t (fun xs:List α=>[.sl (xs.map f)]) (fun xs=>xs.length≤maxLen∧∀ y∈xs,ok y):=by
 intro H enc w base spare held fuel cs x h
 rcases open_slice ht h with ⟨rfl,_⟩ | ⟨a,n,c,m,k,D,Pl,rfl,_,hl,hm,hmm,_,hi⟩
 ·exact ⟨[],ZhQ rfl (.nil _ _),by unfold maxLen; simp,by simp⟩
 have hnm:n≤m:=by rw [hmm]; split <;> omega
 have hex:∀ i:_root_.Fin n,∃ (a':α) (cs':List Value),ok a'∧Reads w (f a') cs'∧w.cells? base (a.add (i*P.cellsOf e)) (P.cellsOf e)=some cs':=by
  intro i
  obtain ⟨cs',hc,htr⟩:=hi i (by omega)
  obtain ⟨a',hr,hok⟩:=hdec htr
  exact ⟨a',cs',hok,hr,hc⟩
 obtain ⟨g,hg⟩:=Classical.axiomOfChoice hex
 obtain ⟨cc,hcc⟩:=Classical.axiomOfChoice hg
 refine ⟨List.ofFn g,?_,by simp; omega,fun y hy=>by obtain ⟨i,rfl⟩:=List.mem_ofFn.1 hy; exact (hcc i).1⟩
 rcases Nat.eq_zero_or_pos n with h0 | hpos
 ·subst h0
  rw [List.ofFn_zero]
  exact ZhQ rfl (.nil _ _)
 have hat:∀ (i:_root_.Fin n) (j:Nat),j<P.cellsOf e→w.cell? (a.add (i*P.cellsOf e+j))=(cc i)[j]?:=by
  intro i j hj
  obtain ⟨_,_,h3⟩:=World.cells?_some (hcc i).2.2
  have:=h3 j hj
  rwa [ZsP] at this
 have hlen:∀ i:_root_.Fin n,(cc i).length=P.cellsOf e:=fun i=>(World.cells?_some (hcc i).2.2).2.1
 have hc0:w.cell? (a.add (0*P.cellsOf e+0))=some ((cc ⟨0,hpos⟩)[0]'(by rw [hlen]; exact hk)):=by
  rw [hat ⟨0,hpos⟩ 0 hk]; exact List.getElem?_eq_getElem _
 have hs:=World.cell?_spot hc0
 have hb:=World.block_lt_of_cell? _ _ hc0
 obtain ⟨b,off,spot⟩:=a
 have hadd:∀ q,(⟨b,off,none⟩:Addr).add q=⟨b,off+q,none⟩:=fun q=>by unfold Addr.add; split <;> simp_all
 have hspot:spot=none:=by simpa [Addr.add] using hs
 subst hspot
 rw [hadd] at hb
 have hsl:∀ (i:Nat) (ps:List PV),((List.ofFn g).map f)[i]?=some ps→∃ hi:i<n,ps=f (g ⟨i,hi⟩):=by
  intro i ps hps
  rw [List.getElem?_map] at hps
  obtain ⟨y,hy,rfl⟩:=Option.map_eq_some_iff.1 hps
  have hi:i<n:=by simpa using (List.getElem?_eq_some_iff.1 hy).1
  refine ⟨hi,?_⟩
  simp [hi] at hy
  rw [hy]
 have hu:∀ (i:Nat) (ps:List PV) (j:Nat) (p:PV),((List.ofFn g).map f)[i]?=some ps→ps[j]?=some p→
  ∃ x,w.cell? ⟨b,off+i*P.cellsOf e+j,none⟩=some x∧x.oneCell'=true∧RepC w (fun b=>b<w.heap.size) p x:=by
  intro i ps j p hps hp
  obtain ⟨hi,rfl⟩:=hsl i ps hps
  have hr:=(hcc ⟨i,hi⟩).2.1
  have hj:j<P.cellsOf e:=by rw [← hlen ⟨i,hi⟩,← hr.1]; exact (List.getElem?_eq_some_iff.1 hp).1
  have hx:=hat ⟨i,hi⟩ j hj
  rw [hadd,← Nat.add_assoc] at hx
  have hj':j<(cc ⟨i,hi⟩).length:=by rw [hlen]; exact hj
  rw [List.getElem?_eq_getElem hj'] at hx
  exact ⟨_,hx,hr.2 j p _ hp (List.getElem?_eq_getElem hj')⟩
 have h:=RepC.sl (w:=w) (S:=fun b=>b<w.heap.size) ((List.ofFn g).map f) b off (P.cellsOf e) c (fun i j=>(w.cell? ⟨b,off+i*P.cellsOf e+j,none⟩).getD .nilIface) hb hk (by simpa using hl) hm
  (fun i ps hps=>by obtain ⟨hi,rfl⟩:=hsl i ps hps; rw [(hcc ⟨i,hi⟩).2.1.1,hlen])
  (fun i ps j p hps hp=>by obtain ⟨x,hx,_⟩:=hu i ps j p hps hp; rw [hx]; rfl)
  (fun i ps j p hps hp=>by obtain ⟨x,hx,h1,_⟩:=hu i ps j p hps hp; rw [hx]; exact h1)
  (fun i ps j p hps hp=>by obtain ⟨x,hx,_,h2⟩:=hu i ps j p hps hp; rw [hx]; exact h2)
 simp only [List.length_map,List.length_ofFn] at h
 exact ZhQ rfl h
theorem CallOk.run {f:FuncId} {args:List PV} {b:Bool} (h:CallOk P f args (vb b) []) {w:World} (ht:Tab w (own0 fun _=>none)) {vs:Array Value} (hl:vs.size=args.length) (ha:∀ (i:Nat) (p:PV),args[i]?=some p→∃ x,vs[i]?=some x∧Rep w (E1 (fun b=>b<w.heap.size) (fun _=>none) 0) p x):
 Calls P f vs w fun e w'=>e=.returned (.bool b)∧Up w w':=by
 have hno:∀ {b':Nat},own0 (fun _=>none) b'→False:=by rintro b' ⟨l,B,h,_⟩; cases h
 have hok:Ok w (own0 fun _=>none) (E1 (fun b=>b<w.heap.size) (fun _=>none) 0) w []:=
  ⟨UpO.refl _ _,fun b h=>h,fun l B h=>(by cases h),fun l l' B B' h=>(by cases h),fun l h=>absurd h (Nat.not_lt_zero l),fun l B h=>(by cases h),fun l mb h=>(by simp at h),fun l B h=>(by cases h),ht,fun _ _ h=>h.elim⟩
 refine (h (fun b=>b<w.heap.size) (fun _=>none) w vs (fun _ _=>False) hok hl ha).mono ?_
 rintro e w' ⟨v,E',rfl,hk,_,_,_,hr⟩
 cases hr with
 | c hr=>cases hr; exact ⟨rfl,⟨hk.up.os,hk.up.tape,hk.up.output,hk.up.size,fun b hb=>hk.up.block b hb fun h=>hno h⟩⟩
end
set_option linter.unusedVariables false
theorem decP_b8:DecP Tryz.prog 5 cB8 (fun x=>0≤x.v∧x.v≤255):=by
 intro H enc w base spare held fuel cs x h
 obtain ⟨n,rfl,_,hw⟩:=DataW.trod_int Tryz.underlying5 h
 refine ⟨⟨n⟩,ZhQ rfl (.v _ rfl),?_⟩
 simp [Lit.wf,IntKind.min,IntKind.max,IntKind.signed,IntKind.bits] at hw
 exact ⟨by show 0≤n; omega,by show n≤255; omega⟩
theorem cells_b8:Tryz.prog.cellsOf 5=1:=by kernel_rfl
end Go.Proofs.YtkfbakhnpfmfmaaGreatDoor
namespace Go.Proofs.YtkfbakhnpfmfmaaGreatDoor
set_option maxRecDepth 10000
open Go.RowKit
set_option linter.unusedVariables false
set_option linter.unusedSimpArgs false
theorem Zn {n:Int} (h:-9223372036854775808≤n∧n≤9223372036854775807):w64 n=n:=IntWalk.i64_in n h
theorem Z8 {i n:Nat} (hi:i<n) (hn:n≤1152921504606846976):w64 ((i:Int)+1)=((i+1:Nat):Int):=by
 rw [Zn (by omega)]; omega
theorem Zx {α:Type} {xs:List α} {i:Nat}:getI xs (i:Int)=xs[i]?:=by
 unfold getI; rw [if_pos (by omega)]; simp
theorem Zff {b:Bool} (h:b=true):chk b=some ():=by subst h; rfl
def runL {A α ο:Type} (F:Nat→A→α→Option (A ⊕ ο)) (E:A→Option ο):Nat→List α→A→Option ο
 | _,[],a=>E a
 | i,x::xs,a=>(F i a x).bind (Zu (fun a'=>runL F E (i+1) xs a') some)
theorem Zml {A α σ ο:Type} {xs:List α} {body:σ→Option (σ ⊕ ο)} {mk:A→Int→σ} {F:Nat→A→α→Option (A ⊕ ο)} {E:A→Option ο}
 (h1:∀ a (i:Nat) x,xs[i]?=some x→body (mk a i)=(F i a x).bind (Zu (fun a'=>some (.inl (mk a' ((i+1:Nat):Int)))) (fun r=>some (.inr r))))
 (h2:∀ a,body (mk a (xs.length:Int))=(E a).bind fun r=>some (.inr r)):
 ∀ (ys:List α) (i:Nat) (N:Nat) (a:A),xs.drop i=ys→i≤xs.length→ys.length<N→Zj body N (mk a i)=runL F E i ys a
 | [],i,0,a,_,_,hN=>by omega
 | [],i,N+1,a,hd,hi,hN=>by
  have:i=xs.length:=by have:=congrArg List.length hd; simp at this; omega
  subst this
  simp only [Zj,runL,h2]
  cases E a <;> rfl
 | y::ys,i,0,a,_,_,hN=>by simp at hN
 | y::ys,i,N+1,a,hd,hi,hN=>by
  have hy:xs[i]?=some y:=by
   have:=congrArg (fun l=>l[0]?) hd
   simpa using this
  have hlt:i<xs.length:=(List.getElem?_eq_some_iff.1 hy).1
  have hd':xs.drop (i+1)=ys:=by
   have:=congrArg (List.drop 1) hd
   simpa [List.drop_drop] using this
  simp only [Zj,runL,h1 a i y hy]
  cases hF:F i a y with
  | none=>rfl
  | some o=>
   cases o with
   | inl a'=>
    show Zj body N (mk a' ((i+1:Nat):Int))=runL F E (i+1) ys a'
    exact Zml h1 h2 ys (i+1) N a' hd' hlt (by simp at hN; omega)
   | inr r=>rfl
theorem Zgu {A α σ ο:Type} {xs:List α} {body:σ→Option (σ ⊕ ο)} {N:Nat} (mk:A→Int→σ) (F:Nat→A→α→Option (A ⊕ ο)) (E:A→Option ο)
 (h1:∀ a (i:Nat) x,xs[i]?=some x→body (mk a i)=(F i a x).bind (Zu (fun a'=>some (.inl (mk a' ((i+1:Nat):Int)))) (fun r=>some (.inr r))))
 (h2:∀ a,body (mk a (xs.length:Int))=(E a).bind fun r=>some (.inr r)) (hN:xs.length<N) (a:A):Zj body N (mk a 0)=runL F E 0 xs a:=
 Zml h1 h2 xs 0 N a rfl (Nat.zero_le _) hN
theorem ZhG {σ ο:Type} {body:σ→Option (σ ⊕ ο)} (I:Nat→σ→Prop) (hI:∀ k s,I k s→∃ o,body s=some o∧∀ s',o=.inl s'→∃ k',k'<k∧I k' s'):∀ (N k:Nat) (s:σ),I k s→k<N→∃ o,Zj body N s=some o
 | 0,k,s,_,hN=>by omega
 | N+1,k,s,h,hN=>by
  obtain ⟨o,hb,hn⟩:=hI k s h
  simp only [Zj,hb]
  cases o with
  | inr r=>exact ⟨r,rfl⟩
  | inl s'=>
   obtain ⟨k',hk,hi⟩:=hn s' rfl
   exact ZhG I hI N k' s' hi (by omega)
theorem Zi2 {ο:Type} {body:Int→Option (Int ⊕ ο)} {n:Nat} (hn:n<NN) (h:∀ i:Nat,i<n→∃ o,body (i:Int)=some o∧∀ s',o=.inl s'→s'=((i+1:Nat):Int)) (he:∃ r,body (n:Int)=some (.inr r)):∃ o,Zj body NN 0=some o:=by
 refine ZhG (fun k s=>∃ i:Nat,i+k=n∧s=(i:Int)) ?_ NN n 0 ⟨0,by omega,rfl⟩ hn
 rintro k s ⟨i,hi,rfl⟩
 rcases Nat.lt_or_ge i n with hlt | hge
 ·obtain ⟨o,ho,hs⟩:=h i hlt
  exact ⟨o,ho,fun s' e=>⟨k-1,by omega,i+1,by omega,hs s' e⟩⟩
 ·obtain ⟨r,hr⟩:=he
  have:i=n:=by omega
  subst this
  exact ⟨_,hr,fun s' e=>by cases e⟩
theorem Zn3 {ο:Type} {x:Option (Int ⊕ ο)} {i:Nat} (e:x=some (.inl ((i+1:Nat):Int))):∃ o,x=some o∧∀ s',o=.inl s'→s'=((i+1:Nat):Int):=⟨_,e,by rintro s' h; cases h; rfl⟩
theorem Zm9 {ο:Type} {x:Option (Int ⊕ ο)} {i:Nat} {r:ο} (e:x=some (.inr r)):∃ o,x=some o∧∀ s',o=.inl s'→s'=((i+1:Nat):Int):=⟨_,e,by rintro s' h; cases h⟩
theorem ZgU {ο:Type} {body:Int→Option (Int ⊕ ο)} {n:Nat} {c:Nat→Bool} {r e:ο} (h1:∀ i:Nat,i<n→(∀ j,j<i→c j=true)→body (i:Int)=some (if c i=true then .inl ((i+1:Nat):Int) else .inr r)) (h2:(∀ j,j<n→c j=true)→body (n:Int)=some (.inr e)) (hN:n<NN):
 Zj body NN 0=some (if (List.range n).all c=true then e else r):=by
 have key:∀ (k i N:Nat),i+k=n→k<N→(∀ j,j<i→c j=true)→Zj body N (i:Int)=some (if (List.range n).all c=true then e else r):=by
  intro k
  induction k with
  | zero=>
   intro i N hi hk hj
   cases N with
   | zero=>omega
   | succ N=>
    have:i=n:=by omega
    subst this
    simp only [Zj,h2 hj]
    show some e=_
    rw [if_pos (List.all_eq_true.2 fun x hx=>hj x (List.mem_range.1 hx))]
  | succ k ih=>
   intro i N hi hk hj
   cases N with
   | zero=>omega
   | succ N=>
    simp only [Zj,h1 i (by omega) hj]
    by_cases hc:c i=true
    ·rw [if_pos hc]
     exact ih (i+1) N (by omega) (by omega) (fun j hj'=>by
      rcases Nat.lt_or_ge j i with h | h
      ·exact hj j h
      ·have:j=i:=by omega
       rw [this]; exact hc)
    ·rw [if_neg hc]
     show some r=_
     rw [if_neg fun hall=>hc (List.all_eq_true.1 hall i (List.mem_range.2 (by omega)))]
 exact key n 0 NN (by omega) hN (fun j hj=>by omega)
theorem ZrX {α:Type} (xs:List α) (p:α→Bool) (c:Nat→Bool) (h:∀ i (hi:i<xs.length),c i=p xs[i]):(List.range xs.length).all c=xs.all p:=by
 rw [Bool.eq_iff_iff,List.all_eq_true,List.all_eq_true]
 constructor
 ·intro H x hx
  obtain ⟨i,hi,rfl⟩:=List.getElem_of_mem hx
  rw [← h i hi]; exact H i (List.mem_range.2 hi)
 ·intro H i hi
  have hi':=List.mem_range.1 hi
  rw [h i hi']; exact H _ (List.getElem_mem hi')
theorem Zgt {α ο:Type} {xs:List α} {body:Int→Option (Int ⊕ ο)} {p:α→Bool} {r e:ο} (h1:∀ i (hi:i<xs.length),body (i:Int)=some (if p xs[i]=true then .inr r else .inl ((i+1:Nat):Int))) (h2:body (xs.length:Int)=some (.inr e)) (hN:xs.length<NN):
 Zj body NN 0=some (if xs.any p=true then r else e):=by
 rw [ZgU (n:=xs.length) (c:=fun i=>(xs[i]?.map fun x=>!p x).getD true) (r:=r) (e:=e) (fun i hi _=>?_) (fun _=>h2) hN,ZrX xs (fun x=>!p x) _ (fun i hi=>by simp [hi])]
 ·rw [List.all_eq_not_any_not]
  cases hb:xs.any p with
  | true=>simp [hb]
  | false=>simp [hb]
 ·rw [h1 i hi]
  simp only [List.getElem?_eq_getElem hi,Option.map_some,Option.getD_some]
  cases p xs[i] <;> rfl
def Tot {α:Type} (x:Option α) (P:α→Prop):Prop:=∃ r,x=some r∧P r
theorem Tot.bind {α β:Type} {x:Option α} {P:α→Prop} {f:α→Option β} {Q:β→Prop} (h:Tot x P) (k:∀ r,P r→Tot (f r) Q):Tot (x.bind f) Q:=by
 obtain ⟨r,rfl,hr⟩:=h
 exact k r hr
theorem Tot.cond {β:Type} {b:Bool} {x y:Option β} {Q:β→Prop} (h:b=true→Tot x Q) (k:b=false→Tot y Q):Tot (cond b x y) Q:=by
 cases b with
 | true=>exact h rfl
 | false=>exact k rfl
theorem Tot.ret {β:Type} {r:β} {Q:β→Prop} (h:Q r):Tot (some r) Q:=⟨r,rfl,h⟩
theorem Tot.of {β:Type} {x:Option β} {r:β} {Q:β→Prop} (h:x=some r) (h':Q r):Tot x Q:=⟨r,h,h'⟩
theorem Tot.mono {β:Type} {x:Option β} {P Q:β→Prop} (h:Tot x P) (k:∀ r,P r→Q r):Tot x Q:=by
 obtain ⟨r,e,hr⟩:=h
 exact ⟨r,e,k r hr⟩
theorem Tot.rho {β:Type} {ρ:List Nat} {f:Unit→Option β} {Q:β→Prop} (k:Tot (f ()) Q):Tot ((rhoM ρ).bind f) Q:=k
theorem Tot.drw {β:Type} {wd:Nat} {fl:List Nat} {f:Unit→Option β} {Q:β→Prop} (k:Tot (f ()) Q):Tot ((drwL wd fl).bind f) Q:=k
theorem Tot.frz {β:Type} {t:List PV} {m:Mem} {f:Unit→Option β} {Q:β→Prop} (k:Tot (f ()) Q):Tot ((Go.Proofs.YtkfbakhnpfmfmaaGreatDoor.frz t m).bind f) Q:=k
theorem Tot.chk {β:Type} {b:Bool} {f:Unit→Option β} {Q:β→Prop} (h:b=true) (k:Tot (f ()) Q):Tot ((Go.Proofs.YtkfbakhnpfmfmaaGreatDoor.chk b).bind f) Q:=by
 subst h; exact k
theorem Tot.get {α β:Type} {xs:List α} {i:Int} {f:α→Option β} {Q:β→Prop} (h0:0≤i) (h1:i<xs.length) (k:∀ x,x∈xs→getI xs i=some x→Tot (f x) Q):Tot ((getI xs i).bind f) Q:=by
 have hlt:i.toNat<xs.length:=by omega
 have e:getI xs i=some xs[i.toNat]:=by unfold getI; rw [if_pos h0]; exact List.getElem?_eq_getElem hlt
 rw [e]
 exact k _ (List.getElem_mem hlt) e
def Zgi {σ ο:Type} (I:Nat→σ→Prop) (P:ο→Prop) (k:Nat):σ ⊕ ο→Prop
 | .inl s'=>∃ k',k'<k∧I k' s'
 | .inr o=>P o
theorem Tot.loop {σ ο:Type} {body:σ→Option (σ ⊕ ο)} (I:Nat→σ→Prop) {P:ο→Prop} (h:∀ k s,I k s→Tot (body s) (Zgi I P k)):∀ (N k:Nat) (s:σ),I k s→k<N→Tot (Zj body N s) P
 | 0,k,s,_,hN=>by omega
 | N+1,k,s,hI,hN=>by
  obtain ⟨r,e,hr⟩:=h k s hI
  simp only [Zj,e]
  cases r with
  | inr o=>exact ⟨o,rfl,hr⟩
  | inl s'=>
   obtain ⟨k',hk,hI'⟩:=hr
   exact Tot.loop I h N k' s' hI' (by omega)
theorem Zbh {a b c:Nat} (h:a+b≤1099511627776) (hc:c≤128):Z9 (a+b) c=true:=by
 unfold Z9
 refine decide_eq_true ⟨by omega,?_⟩
 have:(a+b)*c≤1099511627776*128:=Nat.mul_le_mul h hc
 omega
structure ZaV (c:Zp):Prop where
 i:0≤c.i
 len:c.b.length≤4096
 b:∀ x∈c.b,0≤x.v∧x.v≤255
theorem Zt3 (x:BitVec IntKind.i64.bits):0≤IntKind.i64.wrap ((x &&& BitVec.ofInt IntKind.i64.bits 255).toNat:Int)∧IntKind.i64.wrap ((x &&& BitVec.ofInt IntKind.i64.bits 255).toNat:Int)≤255:=by
 have h:(x &&& BitVec.ofInt IntKind.i64.bits 255).toNat≤255:=by
  have e:(BitVec.ofInt IntKind.i64.bits 255).toNat=255:=by decide
  have:=Nat.and_le_right (n:=x.toNat) (m:=(BitVec.ofInt IntKind.i64.bits 255).toNat)
  rw [e] at this
  rw [BitVec.toNat_and]
  exact this
 have e:=Zn (n:=((x &&& BitVec.ofInt IntKind.i64.bits 255).toNat:Int)) (by omega)
 have e':IntKind.i64.wrap ((x &&& BitVec.ofInt IntKind.i64.bits 255).toNat:Int)=((x &&& BitVec.ofInt IntKind.i64.bits 255).toNat:Int):=e
 rw [e']
 omega
theorem ZiW {c:Zp} (h:ZaV c):Tot (Za2 c) fun r=>(0≤r.1∧r.1≤255)∧ZaV r.2:=by
 unfold Za2
 refine Tot.cond (fun hc=>?_) fun hc=>?_
 ·have hlt:=of_decide_eq_true hc
  have hl:=h.len
  refine Tot.get h.i hlt fun x hx _=>Tot.ret ⟨Zt3 _,⟨?_,h.len,h.b⟩⟩
  show 0≤w64 (c.i+1)
  rw [Zn (by have:=h.i; omega)]
  have:=h.i
  omega
 ·exact Tot.ret ⟨Zt3 _,⟨h.i,h.len,h.b⟩⟩
theorem ZG {c:Zp} (h:ZaV c) (n:Int):Tot (Zb c n) fun r=>(0≤r.1∧(0<n→r.1<n)∧(n≤0→r.1=0))∧ZaV r.2:=by
 unfold Zb
 refine Tot.cond (fun hc=>?_) fun hc=>?_
 ·have:=of_decide_eq_true hc
  exact Tot.ret ⟨⟨by simp,fun _=>by simp only; omega,fun _=>rfl⟩,h⟩
 ·have h0:=of_decide_eq_false hc
  refine Tot.cond (fun hd=>?_) fun hd=>?_
  ·refine Tot.rho (Tot.bind (ZiW h) fun y hy=>Tot.chk (decide_eq_true (by omega)) (Tot.ret ⟨⟨?_,fun _=>?_,fun hn=>absurd hn h0⟩,hy.2⟩))
   ·exact Int.tmod_nonneg _ hy.1.1
   ·exact Int.tmod_lt_of_pos _ (by omega)
  ·refine Tot.rho (Tot.bind (ZiW h) fun y hy=>Tot.rho (Tot.bind (ZiW hy.2) fun z hz=>Tot.rho (Tot.bind (ZiW hz.2) fun u hu=>Tot.chk (decide_eq_true (by omega)) (Tot.ret ⟨⟨?_,fun _=>?_,fun hn=>absurd hn h0⟩,hu.2⟩))))
   ·have e1:w64 (y.1*65536)=y.1*65536:=Zn (by omega)
    have e2:w64 (z.1*256)=z.1*256:=Zn (by omega)
    have e3:w64 (y.1*65536+z.1*256)=y.1*65536+z.1*256:=Zn (by omega)
    have e4:w64 (y.1*65536+z.1*256+u.1)=y.1*65536+z.1*256+u.1:=Zn (by omega)
    simp only [e1,e2,e3,e4]
    exact Int.tmod_nonneg _ (by omega)
   ·exact Int.tmod_lt_of_pos _ (by omega)
theorem Zej {c:Zp} (h:ZaV c) (n:Int):Tot (ZN c n) fun r=>ZaV r.2:=by
 unfold ZN
 exact Tot.rho (Tot.bind (ZG h n) fun y hy=>Tot.ret hy.2)
theorem Zsu {c:Zp} (h:ZaV c) {l:List ByteArray} (hl:0<l.length):Tot (ZcI c l) fun r=>r.1∈l∧ZaV r.2.1:=by
 unfold ZcI
 exact Tot.rho (Tot.bind (ZG h _) fun y hy=>Tot.get hy.1.1 (hy.1.2.1 (by omega)) fun x hx _=>Tot.ret ⟨hx,hy.2⟩)
theorem Zfo {c:Zp} (h:ZaV c) {l:List Int} (hl:0<l.length):Tot (ZL c l) fun r=>r.1∈l∧ZaV r.2.1:=by
 unfold ZL
 exact Tot.rho (Tot.bind (ZG h _) fun y hy=>Tot.get hy.1.1 (hy.1.2.1 (by omega)) fun x hx _=>Tot.ret ⟨hx,hy.2⟩)
def Zhi:List ByteArray:=[⟨#[65,77,83]⟩,⟨#[66,82,85]⟩,⟨#[67,68,71]⟩,⟨#[68,85,66]⟩,⟨#[69,68,73]⟩,⟨#[70,82,65]⟩,⟨#[71,79,84]⟩]
theorem ZgE {c:Zp} (h:ZaV c):Tot (Zav c) fun r=>r.1∈Zhi∧ZaV r.2:=by
 unfold Zav
 exact Tot.rho (Tot.bind (Zsu h (by simp)) fun y hy=>Tot.ret ⟨hy.1,hy.2⟩)
structure LegD (l:YLeg):Prop where
 from_:l.from_∈Zhi
 to_:l.to_∈Zhi
 ne:¬ l.from_=l.to_
 start:0≤l.start∧l.start≤1439
 takes:1≤l.takes∧l.takes≤4320
 days:1≤l.days∧l.days≤127
 room:0≤l.room∧l.room≤1000000
theorem Zvm {c:Zp} (h:ZaV c):Tot (ZdF c) fun r=>LegD r.1∧ZaV r.2:=by
 unfold ZdF
 refine Tot.rho (Tot.bind (ZgE h) fun y1 h1=>Tot.rho (Tot.bind (ZgE h1.2) fun y2 h2=>Tot.rho (Tot.bind (ZG h2.2 48) fun y3 h3=>Tot.rho (Tot.bind (ZG h3.2 40) fun y4 h4=>Tot.rho (Tot.bind (ZG h4.2 127) fun y5 h5=>Tot.rho (Tot.bind (ZG h5.2 60) fun y6 h6=>?_))))))
 have b3:=h3.1.2.1 (by omega)
 have b4:=h4.1.2.1 (by omega)
 have b5:=h5.1.2.1 (by omega)
 have b6:=h6.1.2.1 (by omega)
 have hloop:Tot (Zj (Zdw y3 y4 y5 y6) NN (y6.2.b,y6.2.i,y6.2.h,y1.1,y2.1)) fun o=>ZaV ⟨o.1,o.2.1,o.2.2.1⟩∧o.2.2.2.1∈Zhi∧o.2.2.2.2∈Zhi∧¬ o.2.2.2.1=o.2.2.2.2:=by
  refine Tot.loop (fun k s=>ZaV ⟨s.1,s.2.1,s.2.2.1⟩∧s.2.2.2.1∈Zhi∧s.2.2.2.2∈Zhi∧(k=1∨(k=0∧¬ s.2.2.2.1=s.2.2.2.2))) (fun k s hs=>?_) NN 1 _ ⟨h6.2,h1.1,h2.1,.inl rfl⟩ (by unfold NN; omega)
  obtain ⟨k1,k2,k3,k4⟩:=hs
  unfold Zdw
  refine Tot.cond (fun hc=>?_) fun hc=>Tot.ret ⟨k1,k2,k3,of_decide_eq_false hc⟩
  have he:=of_decide_eq_true hc
  have hk:k=1:=by rcases k4 with k4 | ⟨_,k4⟩
                  ·exact k4
                  ·exact absurd he k4
  subst hk
  refine Tot.rho (Tot.bind (Zsu k1 (by simp)) fun y7 h7=>?_)
  have hy:y7.1∈Zhi∧¬ (⟨#[68,85,66]⟩:ByteArray)=y7.1:=by
   have:=h7.1
   simp only [List.mem_cons,List.not_mem_nil,or_false] at this
   rcases this with e | e | e <;> rw [e] <;> exact ⟨by simp [Zhi],by decide +kernel⟩
  have hdub:(⟨#[68,85,66]⟩:ByteArray)∈Zhi:=by simp [Zhi]
  refine Tot.cond (fun hd=>Tot.ret ⟨0,by omega,h7.2,hdub,hy.1,.inr ⟨rfl,hy.2⟩⟩) fun hd=>Tot.ret ⟨0,by omega,h7.2,k2,hy.1,.inr ⟨rfl,of_decide_eq_false hd⟩⟩
 refine Tot.bind hloop fun o ho=>Tot.rho (Tot.bind (Zej ho.1 2) fun y8 h8=>?_)
 have w1:w64 (30*y3.1)=30*y3.1:=Zn (by omega)
 have w2:w64 (1+y4.1)=1+y4.1:=Zn (by omega)
 have w3:w64 (30*(1+y4.1))=30*(1+y4.1):=Zn (by omega)
 have w4:w64 (1+y5.1)=1+y5.1:=Zn (by omega)
 have w5:w64 (1000*y6.1)=1000*y6.1:=Zn (by omega)
 simp only [w1,w2,w3,w4,w5]
 have hin:∀ x:Int,x∈[1,1440,(4320:Int)]→1≤x∧x≤4320:=fun x hx=>by
  simp only [List.mem_cons,List.not_mem_nil,or_false] at hx
  omega
 refine Tot.cond (fun hd=>Tot.rho (Tot.bind (Zej h8 9) fun y9 h9=>Tot.cond (fun he=>Tot.rho (Tot.bind (Zfo h9 (by simp)) fun y10 h10=>Tot.ret ⟨⟨ho.2.1,ho.2.2.1,ho.2.2.2,by simp only; omega,hin _ h10.1,by simp only; omega,by simp only; omega⟩,h10.2⟩)) fun he=>Tot.ret ⟨⟨ho.2.1,ho.2.2.1,ho.2.2.2,by simp only; omega,by simp only; omega,by simp only; omega,by simp only; omega⟩,h9⟩))
  fun hd=>Tot.rho (Tot.bind (Zej h8 9) fun y9 h9=>Tot.cond (fun he=>Tot.rho (Tot.bind (Zfo h9 (by simp)) fun y10 h10=>Tot.ret ⟨⟨ho.2.1,ho.2.2.1,ho.2.2.2,by simp only; omega,hin _ h10.1,by simp only; omega,by simp only; omega⟩,h10.2⟩)) fun he=>Tot.ret ⟨⟨ho.2.1,ho.2.2.1,ho.2.2.2,by simp only; omega,by simp only; omega,by simp only; omega,by simp only; omega⟩,h9⟩)
structure NetD (n:Za):Prop where
 len:1≤n.legs.length∧n.legs.length≤14
 leg:∀ l∈n.legs,LegD l
 off:n.off=[]∨∃ a b:Int,n.off=[a,b]∧0≤a∧a<b∧b≤60
 change:0≤n.change∧n.change≤240
theorem Zvt {c:Zp} (h:ZaV c):Tot (Zdh c 7) fun r=>NetD r.1∧ZaV r.2:=by
 unfold Zdh
 refine Tot.rho (Tot.bind (ZG h 9) fun y1 h1=>Tot.rho (Tot.bind (ZG h1.2 7) fun y2 h2=>?_))
 have b1:=h1.1.2.1 (by omega)
 have b2:=h2.1.2.1 (by omega)
 have w1:w64 (1+y2.1)=1+y2.1:=Zn (by omega)
 have hloop:Tot (Zj (Zc6 7 y1) NN (w64 (1+y2.1),y2.2.b,y2.2.i,y2.2.h,[])) fun o=>ZaV ⟨o.1,o.2.1,o.2.2.1⟩∧1≤o.2.2.2.length∧o.2.2.2.length≤14∧∀ l∈o.2.2.2,LegD l:=by
  refine Tot.loop (fun k s=>s.1=(k:Int)∧k≤7∧ZaV ⟨s.2.1,s.2.2.1,s.2.2.2.1⟩∧s.2.2.2.2.length+2*k≤14∧(k=0→1≤s.2.2.2.2.length)∧∀ l∈s.2.2.2.2,LegD l) (fun k s hs=>?_) NN (1+y2.1).toNat _ ⟨by rw [w1]; omega,by omega,h2.2,by simp only [List.length_nil]; omega,fun hk=>by omega,fun l hl=>by cases hl⟩ (by unfold NN; omega)
  obtain ⟨k1,k2,k3,k4,k5,k6⟩:=hs
  unfold Zc6
  refine Tot.cond (fun hc=>?_) fun hc=>Tot.ret ⟨k3,k5 (by have:=of_decide_eq_false hc; omega),by simp only; omega,k6⟩
  have hk:=of_decide_eq_true hc
  have hw:w64 (s.1-1)=((k-1:Nat):Int):=by rw [Zn (by omega)]; omega
  refine Tot.rho (Tot.bind (Zvm k3) fun y3 h3=>Tot.chk (Zbh (by simp only [List.length_cons,List.length_nil]; omega) (by omega)) (Tot.rho (Tot.bind (Zej h3.2 3) fun y4 h4=>?_)))
  have hall:∀ l∈s.2.2.2.2++[y3.1],LegD l:=fun l hl=>by
   rcases List.mem_append.1 hl with hl | hl
   ·exact k6 l hl
   ·obtain rfl:=List.mem_singleton.1 hl; exact h3.1
  have hlen:(s.2.2.2.2++[y3.1]).length=s.2.2.2.2.length+1:=by simp
  have one:Tot (some (Sum.inl (w64 (s.1-1),y4.2.b,y4.2.i,y4.2.h,s.2.2.2.2++[y3.1])):Option ((Int × List YB8 × Int × Int × List YLeg) ⊕ (List YB8 × Int × Int × List YLeg)))
   (Zgi (fun k s=>s.1=(k:Int)∧k≤7∧ZaV ⟨s.2.1,s.2.2.1,s.2.2.2.1⟩∧s.2.2.2.2.length+2*k≤14∧(k=0→1≤s.2.2.2.2.length)∧∀ l∈s.2.2.2.2,LegD l) (fun o=>ZaV ⟨o.1,o.2.1,o.2.2.1⟩∧1≤o.2.2.2.length∧o.2.2.2.length≤14∧∀ l∈o.2.2.2,LegD l) k):=Tot.ret ⟨k-1,by omega,hw,by omega,h4,by simp only [hlen]; omega,fun _=>by simp only [hlen]; omega,hall⟩
  refine Tot.cond (fun hd=>Tot.cond (fun he=>?_) fun he=>one) fun hd=>one
  have hwl:w64 (((s.2.2.2.2++[y3.1]).length:Int)-1)=(s.2.2.2.2.length:Int):=by rw [hlen,Zn (by omega)]; omega
  have hlast:getI (s.2.2.2.2++[y3.1]) (s.2.2.2.2.length:Int)=some y3.1:=by rw [Zx,List.getElem?_append_right (Nat.le_refl _)]; simp
  rw [hwl,hlast]
  simp only [Option.bind_some]
  refine Tot.drw (Tot.rho (Tot.bind (ZG h4 20) fun y7 h7=>Tot.chk (Zbh (by simp only [List.length_cons,List.length_nil,hlen]; omega) (by omega)) (Tot.ret ⟨k-1,by omega,hw,by omega,h7.2,?_,fun _=>?_,fun l hl=>?_⟩)))
  ·simp only [List.length_append,List.length_cons,List.length_nil]; omega
  ·simp only [List.length_append,List.length_cons,List.length_nil]; omega
  ·rcases List.mem_append.1 hl with hl | hl
   ·exact hall l hl
   ·obtain rfl:=List.mem_singleton.1 hl
    obtain ⟨a1,a2,a3,a4,a5,a6,a7⟩:=h3.1
    have b7:=h7.1.2.1 (by omega)
    have e1:w64 (60*y7.1)=60*y7.1:=Zn (by omega)
    have e2:w64 (y3.1.start+60*y7.1)=y3.1.start+60*y7.1:=Zn (by omega)
    refine ⟨a2,a1,fun e=>a3 e.symm,?_,a5,a6,a7⟩
    simp only [e1,e2]
    have g1:=Int.tmod_nonneg 1440 (show 0≤y3.1.start+60*y7.1 by omega)
    have g2:=Int.tmod_lt_of_pos (y3.1.start+60*y7.1) (show (0:Int)<1440 by omega)
    omega
 refine Tot.bind hloop fun o ho=>Tot.rho (Tot.bind (Zej ho.1 2) fun y8 h8=>?_)
 have w2:w64 (15*y1.1)=15*y1.1:=Zn (by omega)
 simp only [w2]
 refine Tot.cond (fun hd=>Tot.rho (Tot.bind (ZG h8 3) fun y9 h9=>Tot.rho (Tot.bind (ZG h9.2 4) fun y10 h10=>?_))) fun hd=>Tot.ret ⟨⟨⟨ho.2.1,ho.2.2.1⟩,ho.2.2.2,.inl rfl,by simp only; omega⟩,h8⟩
 have b9:=h9.1.2.1 (by omega)
 have b10:=h10.1.2.1 (by omega)
 have w3:w64 (3+y10.1)=3+y10.1:=Zn (by omega)
 exact Tot.ret ⟨⟨⟨ho.2.1,ho.2.2.1⟩,ho.2.2.2,.inr ⟨_,_,rfl,by omega,by omega,by omega⟩,by simp only; omega⟩,h10.2⟩
theorem Zvu {code:List YB8} (hl:code.length≤4096) (hb:∀ x∈code,0≤x.v∧x.v≤255):Tot (Zeb code) ZaV:=by
 unfold Zeb
 refine Tot.bind (P:=fun _=>True) ?_ fun o _=>Tot.ret ⟨by simp,hl,hb⟩
 refine Tot.loop (fun k s=>∃ i:Nat,s.2=(i:Int)∧i+k=code.length) (fun k s hs=>?_) NN code.length _ ⟨0,rfl,by omega⟩ (by unfold NN; omega)
 obtain ⟨i,hi,hk⟩:=hs
 unfold ZeQ
 rw [hi]
 refine Tot.cond (fun hc=>Tot.cond (fun hd=>?_) fun hd=>Tot.ret trivial) fun hc=>Tot.ret trivial
 have hlt:=of_decide_eq_true hc
 exact Tot.get (by omega) hlt fun x hx _=>Tot.ret ⟨k-1,by omega,i+1,by simp only; rw [Zn (by omega)]; omega,by omega⟩
theorem Zpn (n l h:Int):ZB n l h=some (decide (l≤n) && decide (n≤h)):=by
 unfold ZB; cases decide (l≤n) <;> rfl
theorem Zac (n l h:Int):Zl n l h=some (decide (l≤n) && decide (n≤h)):=by
 unfold Zl; cases decide (l≤n) <;> rfl
theorem ZeM:@ZB=@Zl:=by funext n l h; rw [Zpn,Zac]
theorem Zk7 {s:ByteArray} {i c:Int} (h:getB s i=some c):0≤c∧c≤255:=by
 unfold getB at h
 split at h
 ·cases h
  unfold Zfm
  cases hb:s[i.toNat]? with
  | none=>simp
  | some b=>
   have:=b.toNat_lt
   simp only [Option.map_some,Option.getD_some]
   omega
 ·cases h
theorem ZrC {s:ByteArray} (hs:s.size=3):Z3 s=ZbM s:=by
 funext i
 unfold Z3 ZbM
 rw [hs]
 cases hi:decide (i<3) with
 | false=>simp [hi]
 | true=>
  simp only [show ((3:Nat):Int)=3 from rfl,hi,cond_true]
  cases hg:getB s i with
  | none=>rfl
  | some y=>
   obtain ⟨h0,h1⟩:=Zk7 hg
   simp only [Option.bind_some,hg]
   rw [show IntKind.i64.wrap y=y from Zn (by omega),Zac]
   simp only [Option.bind_some]
   by_cases h2:y<65
   ·simp [h2,show ¬ (65≤y) by omega]
   ·by_cases h3:90<y
    ·simp [h2,h3,show ¬ (y≤90) by omega]
    ·simp [h2,h3,show 65≤y by omega,show y≤90 by omega]
theorem Zjr {s:ByteArray} {i:Nat} (h:i<s.size):∃ c,getB s (i:Int)=some c:=by
 unfold getB; exact ⟨_,if_pos ⟨by omega,by omega⟩⟩
theorem ZnT {s:ByteArray} (hs:s.size≤1152921504606846000):∀ (k i N:Nat),i+k=s.size→k<N→∃ o,Zj (Z3 s) N (i:Int)=some o∧(o=.inl ()∨o=.inr false):=by
 intro k
 induction k with
 | zero=>
  intro i N hi hk
  cases N with
  | zero=>omega
  | succ N=>exact ⟨.inl (),by simp [Zj,Z3,show ¬ ((i:Int)<s.size) by omega],.inl rfl⟩
 | succ k ih=>
  intro i N hi hk
  cases N with
  | zero=>omega
  | succ N=>
   obtain ⟨c,hc⟩:=Zjr (s:=s) (i:=i) (by omega)
   have hw:=Z8 (i:=i) (n:=s.size) (by omega) (by omega)
   by_cases h2:c<65
   ·exact ⟨.inr false,by simp [Zj,Z3,show (i:Int)<s.size by omega,hc,h2],.inr rfl⟩
   ·by_cases h3:90<c
    ·exact ⟨.inr false,by simp [Zj,Z3,show (i:Int)<s.size by omega,hc,h2,h3],.inr rfl⟩
    ·obtain ⟨o,ho,hoo⟩:=ih (i+1) N (by omega) (by omega)
     refine ⟨o,?_,hoo⟩
     simp only [Zj,Z3,decide_eq_true (show (i:Int)<s.size by omega),cond_true,hc,Option.bind_some,decide_eq_false h2,decide_eq_false h3,cond_false,hw]
     exact ho
theorem Zdq {s:ByteArray} (hs:s.size≤1152921504606846000):Zah s=Zy s∧∃ b,Zy s=some b:=by
 obtain ⟨o,ho,hoo⟩:=ZnT hs s.size 0 NN (by omega) (by unfold NN; omega)
 have ho':Zj (Z3 s) NN 0=some o:=ho
 by_cases h3:s.size=3
 ·have e:Zy s=(Zj (Z3 s) NN 0).bind (Zu (fun _=>some true) (fun r=>some r)):=by
   unfold Zy; rw [ZrC h3,h3]; rfl
  have e2:Zah s=(Zj (Z3 s) NN 0).bind (Zu (fun _=>some (decide ((s.size:Int)=3))) (fun r=>some r)):=rfl
  rw [e,e2,ho',h3]
  rcases hoo with rfl | rfl
  ·exact ⟨rfl,_,rfl⟩
  ·exact ⟨rfl,_,rfl⟩
 ·have e:Zy s=some false:=by unfold Zy; rw [decide_eq_false (by omega)]; rfl
  have e2:Zah s=some false:=by
   unfold Zah; rw [ho']
   rcases hoo with rfl | rfl
   ·show some _=some _; rw [decide_eq_false (by omega)]
   ·rfl
  exact ⟨by rw [e,e2],_,e⟩
def B60:Nat:=1152921504606846000
end Go.Proofs.YtkfbakhnpfmfmaaGreatDoor
namespace Go.Proofs.YtkfbakhnpfmfmaaGreatDoor
set_option maxRecDepth 10000
open Go.RowKit Go.Sort
set_option linter.unusedVariables false
set_option linter.unusedSimpArgs false
set_option maxHeartbeats 1000000
theorem Zsx:@Zcz=@Zbd:=by
 funext l i; unfold Zcz Zbd; rw [ZeM]
theorem ZlK (l:List Int):Za7 l=Zbf l:=by
 unfold Za7 Zbf; rw [Zsx]
def Zf1 (l:List Int):Bool:=l.all (fun n=>decide (1≤n) && decide (n≤2000)) && decide ((l.length:Int)=3)
theorem Zj5 {l:List Int} (h:l.length<NN):Zbf l=some (Zf1 l):=by
 have e:Zj (Zbd l) NN 0=some (if l.any (fun n=>!(decide (1≤n) && decide (n≤2000)))=true then .inr false else .inl ()):=by
  refine Zgt (fun i hi=>?_) ?_ h
  ·have hx:l[i]?=some l[i]:=List.getElem?_eq_getElem hi
   have hw:=Z8 hi (by unfold NN at h; omega)
   unfold Zbd
   rw [decide_eq_true (by omega:(i:Int)<l.length),cond_true,Zx,hx,Option.bind_some,Zac,Option.bind_some,hw]
   cases (decide (1≤l[i]) && decide (l[i]≤2000)) <;> rfl
  ·unfold Zbd
   rw [decide_eq_false (by omega:¬ ((l.length:Int)<l.length))]; rfl
 unfold Zbf Zf1
 rw [e,List.all_eq_not_any_not]
 cases l.any (fun n=>!(decide (1≤n) && decide (n≤2000))) <;> rfl
theorem Zmm {σ ο:Type} {body:σ→Option (σ ⊕ ο)} {o:ο}:∀ {n:Nat} {s:σ},Zj body n s=some o→∀ k,Zj body (n+k) s=some o
 | 0,s,h,k=>by cases h
 | n+1,s,h,k=>by
  rw [Nat.add_right_comm]
  unfold Zj at *
  cases hb:body s with
  | none=>rw [hb] at h; cases h
  | some x=>
   rw [hb] at h
   cases x with
   | inl s'=>exact Zmm (n:=n) h k
   | inr o'=>exact h
theorem Zic {σ ο:Type} {body:σ→Option (σ ⊕ ο)} {o:ο} {n:Nat} {s:σ} (h:Zj body n s=some o) (hn:n≤NN):Zj body NN s=some o:=by
 have:=Zmm h (NN-n)
 rwa [Nat.add_sub_cancel' hn] at this
theorem itl {σ ο:Type} {body:σ→Option (σ ⊕ ο)} {n:Nat} {s s':σ} (h:body s=some (.inl s')):Zj body (n+1) s=Zj body n s':=by
 show (body s).bind _=_
 rw [h]; rfl
theorem itr {σ ο:Type} {body:σ→Option (σ ⊕ ο)} {n:Nat} {s:σ} {o:ο} (h:body s=some (.inr o)):Zj body (n+1) s=some o:=by
 show (body s).bind _=_
 rw [h]; rfl
theorem w1:w64 1=1:=by decide
theorem w2:w64 2=2:=by decide
theorem w3:w64 3=3:=by decide
theorem inn0 (l:List Int) (i:Int):Zj (ZD l (i,[])) NN 0=some ((0:Nat):Int):=Zic (n:=1) (itr (by simp [ZD])) (by unfold NN; omega)
theorem inn1 {l:List Int} {i y a:Int} (h:getI l i=some y):Zj (ZD l (i,[a])) NN 0=some (((if y≤a then 1 else 0:Nat)):Int):=by
 refine Zic (n:=2) ?_ (by unfold NN; omega)
 have q0:getI [a] 0=some a:=rfl
 by_cases h1:y≤a
 ·rw [if_pos h1,itl (s':=1) (by simp [ZD,h,q0,h1,w1]),itr (o:=1) (by simp [ZD])]; rfl
 ·rw [if_neg h1,itr (o:=0) (by simp [ZD,h,q0,h1])]; rfl
theorem inn2 {l:List Int} {i y a b:Int} (h:getI l i=some y):Zj (ZD l (i,[a,b])) NN 0=some (((if y≤a then (if y≤b then 2 else 1) else 0:Nat)):Int):=by
 refine Zic (n:=3) ?_ (by unfold NN; omega)
 have q0:getI [a,b] 0=some a:=rfl
 have q1:getI [a,b] 1=some b:=rfl
 by_cases h1:y≤a
 ·rw [if_pos h1,itl (s':=1) (by simp [ZD,h,q0,h1,w1])]
  by_cases h2:y≤b
  ·rw [if_pos h2,itl (s':=2) (by simp [ZD,h,q1,h2,w2]),itr (o:=2) (by simp [ZD])]; rfl
  ·rw [if_neg h2,itr (o:=1) (by simp [ZD,h,q1,h2])]; rfl
 ·rw [if_neg h1,itr (o:=0) (by simp [ZD,h,q0,h1])]; rfl
theorem Ztj {l:List Int} (h:l.length≤1048576):Zad l=some l:=by
 have c:chk (Z9 (([]:List Int).length+l.length) 8)=some ():=Zff (decide_eq_true ⟨by simp; omega,by simp; omega⟩)
 unfold Zad
 rw [c]
 rfl
theorem outb {l out:List Int} {i y:Int} {k:Nat} (hi:i<(l.length:Int)) (hy:getI l i=some y) (hk:Zj (ZD l (i,out)) NN 0=some (k:Int)) (hkl:k≤out.length) (hl:out.length≤1000):
 ZaP l (i,out)=some (.inl (w64 (i+1),out.take k++[y]++out.drop k)):=by
 unfold ZaP
 have t1:subL out 0 (k:Int)=out.take k:=by simp [subL]
 have t2:subL out (k:Int) (out.length:Int)=out.drop k:=by simp only [subL,Int.toNat_natCast]; exact List.take_of_length_le (by simp)
 have c1:chk (slOk 0 (k:Int) (out.length:Int))=some ():=Zff (decide_eq_true ⟨by omega,by omega,by omega⟩)
 have c2:chk (slOk (k:Int) (out.length:Int) (out.length:Int))=some ():=Zff (decide_eq_true ⟨by omega,by omega,by omega⟩)
 have c3:chk (Z9 ((out.take k).length+([y]:List Int).length) 8)=some ():=Zff (decide_eq_true ⟨by simp; omega,by simp; omega⟩)
 have c4:chk (Z9 ((out.take k++[y]).length+(out.drop k).length) 8)=some ():=Zff (decide_eq_true ⟨by simp; omega,by simp; omega⟩)
 simp only [decide_eq_true hi,cond_true,hk,Option.bind_some,c1,t1,Ztj (l:=out.take k) (by simp; omega),hy,c3,c2,t2,c4]
theorem ZtS (x y z:Int):Zdm [x,y,z]=some (srt3 [x,y,z]):=by
 have g0:getI [x,y,z] 0=some x:=rfl
 have g1:getI [x,y,z] 1=some y:=rfl
 have g2:getI [x,y,z] 2=some z:=rfl
 have e:Zj (ZaP [x,y,z]) NN (0,[])=some (srt3 [x,y,z]):=by
  refine Zic (n:=4) ?_ (by unfold NN; omega)
  have e0:=outb (l:=[x,y,z]) (by simp) g0 (inn0 _ _) (Nat.le_refl _) (by simp)
  have hE:∀ o:List Int,ZaP [x,y,z] (3,o)=some (.inr o):=fun o=>by simp [ZaP]
  simp only [List.take_nil,List.drop_nil,List.nil_append,List.append_nil,show w64 ((0:Int)+1)=1 by decide] at e0
  have e1:=outb (l:=[x,y,z]) (out:=[x]) (by simp) g1 (inn1 g1) (by split <;> simp) (by simp)
  simp only [show w64 ((1:Int)+1)=2 by decide] at e1
  have e2:=fun a b=>outb (l:=[x,y,z]) (out:=[a,b]) (by simp) g2 (inn2 g2) (by split <;> (try split) <;> simp) (by simp)
  simp only [show w64 ((2:Int)+1)=3 by decide] at e2
  have hs:srt3 [x,y,z]=(Sort.insertionSort gtI #[x,y,z] 0 3).toList:=rfl
  rw [hs]
  unfold Sort.insertionSort
  rw [insOuter,if_pos (by omega),insOuter,if_pos (by omega),insOuter,if_neg (by omega)]
  by_cases h1:y≤x
  ·have h1':¬ x<y:=by omega
   rw [if_pos h1] at e1
   have e2':=e2 x y
   by_cases h2:z≤x
   ·by_cases h3:z≤y
    ·rw [if_pos h2,if_pos h3] at e2'
     simp at e1 e2'
     rw [itl e0,itl e1,itl e2',itr (hE _)]; simp [insInner,swp,gtI,h1',show ¬ y<z by omega]
    ·rw [if_pos h2,if_neg h3] at e2'
     simp at e1 e2'
     rw [itl e0,itl e1,itl e2',itr (hE _)]; simp [insInner,swp,gtI,h1',show y<z by omega,show ¬ x<z by omega]
   ·rw [if_neg h2] at e2'
    simp at e1 e2'
    rw [itl e0,itl e1,itl e2',itr (hE _)]; simp [insInner,swp,gtI,h1',show y<z by omega,show x<z by omega]
  ·have h1':x<y:=by omega
   rw [if_neg h1] at e1
   have e2':=e2 y x
   by_cases h2:z≤y
   ·by_cases h3:z≤x
    ·rw [if_pos h2,if_pos h3] at e2'
     simp at e1 e2'
     rw [itl e0,itl e1,itl e2',itr (hE _)]; simp [insInner,swp,gtI,h1',show ¬ x<z by omega]
    ·rw [if_pos h2,if_neg h3] at e2'
     simp at e1 e2'
     rw [itl e0,itl e1,itl e2',itr (hE _)]; simp [insInner,swp,gtI,h1',show x<z by omega,show ¬ y<z by omega]
   ·rw [if_neg h2] at e2'
    simp at e1 e2'
    rw [itl e0,itl e1,itl e2',itr (hE _)]; simp [insInner,swp,gtI,h1',show y<z by omega,show x<z by omega]
 unfold Zdm
 rw [e]; rfl
theorem ZhW {l:List Int} (h:Zf1 l=true):l.length=3:=by
 unfold Zf1 at h
 have:=(Bool.and_eq_true _ _ ▸ h:_∧_).2
 have:=of_decide_eq_true this
 omega
theorem ZoL {l:List Int} (h:l.length<NN):Zea l=Zdr l∧∃ b,Zdr l=some b:=by
 unfold Zea Zdr
 rw [ZlK,Zj5 h]
 cases ht:Zf1 l with
 | false=>exact ⟨rfl,_,rfl⟩
 | true=>
  have h3:=ZhW ht
  match l,h3 with
  | [x,y,z],_=>
   have hm:Zde [x,y,z]=some (srt3 [x,y,z]):=if_pos rfl
   have hl:=Zph [x,y,z]
   match hs:srt3 [x,y,z],hl with
   | [a,b,c],_=>
    simp only [ZtS,hm,hs,Option.bind_some,Bool.not_true,cond_false]
    exact ⟨trivial,_,rfl⟩
theorem ZhH {l:Zw} (h:l.to_.size≤B60):Zbe l=ZJ l∧∃ b,ZJ l=some b:=by
 obtain ⟨e,b,hb⟩:=Zdq h
 unfold Zbe ZJ
 rw [ZeM,e,hb,Zac,Zac]
 refine ⟨rfl,?_⟩
 cases (decide (1≤l.service) && decide (l.service≤3)) <;> cases (decide (0≤l.serial) && decide (l.serial≤999999999)) <;> exact ⟨_,rfl⟩
theorem ZfY {p:Zi} (h1:p.label.to_.size≤B60) (h2:p.from_.size≤B60) (h3:p.sides.length<NN):ZaG p=Zaf p∧∃ b,Zaf p=some b:=by
 obtain ⟨e1,b1,hb1⟩:=ZhH h1
 obtain ⟨e2,b2,hb2⟩:=Zdq h2
 obtain ⟨e3,b3,hb3⟩:=ZoL h3
 unfold ZaG Zaf
 rw [ZeM,e1,e2,e3,ZlK,hb1,hb2,hb3,Zj5 h3,Zac,Zac]
 refine ⟨rfl,?_⟩
 simp only [Option.bind_some]
 generalize (decide (1≤p.weight) && decide (p.weight≤30000))=c1
 generalize Zf1 p.sides=c2
 generalize decide (b3≤3600)=c3
 generalize (!decide (p.from_=p.label.to_))=c4
 cases b1
 ·exact ⟨_,rfl⟩
 cases b2
 ·exact ⟨_,rfl⟩
 cases c4
 ·exact ⟨_,rfl⟩
 cases c1
 ·exact ⟨_,rfl⟩
 cases c2
 ·exact ⟨_,rfl⟩
 cases c3 <;> exact ⟨_,rfl⟩
theorem Zw1 {a b:List Int} (h:a.length<NN):Zfc a b=some (decide (a=b)):=by
 unfold Zfc
 by_cases hl:a.length=b.length
 ·have e:Zj (Zc5 a b) NN 0=some (if (List.range a.length).all (fun i=>decide (a[i]?=b[i]?))=true then .inl () else .inr false):=by
   refine ZgU (fun i hi _=>?_) (fun _=>?_) h
   ·have hx:a[i]?=some a[i]:=List.getElem?_eq_getElem hi
    have hy:b[i]?=some b[i]:=List.getElem?_eq_getElem (by omega)
    have hw:=Z8 hi (by unfold NN at h; omega)
    unfold Zc5
    rw [decide_eq_true (by omega:(i:Int)<a.length),cond_true,Zx,Zx,hx,hy,Option.bind_some,Option.bind_some,hw]
    by_cases he:a[i]=b[i] <;> simp [he]
   ·unfold Zc5
    rw [decide_eq_false (by omega:¬ ((a.length:Int)<a.length))]; rfl
  rw [decide_eq_true (by omega:(a.length:Int)=b.length),e]
  by_cases hab:a=b
  ·subst hab
   simp
  ·rw [if_neg,decide_eq_false hab]
   ·rfl
   ·intro hall
    refine hab (List.ext_getElem? fun i=>?_)
    by_cases hi:i<a.length
    ·exact of_decide_eq_true (List.all_eq_true.1 hall i (List.mem_range.2 hi))
    ·rw [List.getElem?_eq_none (by omega),List.getElem?_eq_none (by omega)]
 ·rw [decide_eq_false (by omega:¬ ((a.length:Int)=b.length)),decide_eq_false (fun e=>hl (by rw [e]))]
  rfl
theorem Zey {ο α:Type} (i j:Nat) (J:Option (ο ⊕ α)) (T:ο→List PV) (M:ο→Mem):jn i j J T M=J:=by unfold jn; rfl
theorem cnd1 (b c:Bool):(bif b then some c else some false)=some (b && c):=by cases b <;> rfl
theorem cnd2 (b c:Bool):(bif !b then some false else some c)=some (b && c):=by cases b <;> rfl
theorem bndc {α β:Type} (b:Bool) (X Y:Option α) (S:α→Option β):(bif b then X else Y).bind S=bif b then X.bind S else Y.bind S:=by cases b <;> rfl
theorem ZlA {a b:Zi} (h:a.sides.length<NN):Zb8 a b=some (decide (a.label=b.label) && (decide (a.from_=b.from_) && (decide (a.weight=b.weight) && (decide (a.sides=b.sides) && decide (a.value=b.value))))):=by
 unfold Zb8
 simp only [Zw1 h,Option.bind_some,cnd1]
theorem ZkQ {a b:YAct} (h:a.parcel.sides.length<NN):ZdC a b=some (decide (a.kind=b.kind) && ((decide (a.parcel.label=b.parcel.label) && (decide (a.parcel.from_=b.parcel.from_) && (decide (a.parcel.weight=b.parcel.weight) && (decide (a.parcel.sides=b.parcel.sides) && decide (a.parcel.value=b.parcel.value))))) && (decide (a.order=b.order) && (decide (a.amount=b.amount) && (decide (a.until_=b.until_) && decide (a.trip=b.trip)))))):=by
 unfold ZdC
 simp only [ZlA h,Option.bind_some,cnd1]
theorem Zqm {a:YAct} (h1:a.parcel.label.to_.size≤B60) (h2:a.parcel.from_.size≤B60) (h3:a.parcel.sides.length<NN):∃ b,Zap a=some b∧Zaj a=some b:=by
 obtain ⟨e1,b1,hb1⟩:=ZfY h1 h2 h3
 have hz:decide (0<(a.parcel.sides.length:Int))=!decide (a.parcel.sides=[]):=by
  cases a.parcel.sides <;> simp
 unfold Zap Zaj
 simp only [Zey,ZeM,e1,hb1,Zac,ZkQ h3,hz,Option.bind_some]
 generalize hq1:decide (a.parcel.label=⟨0,0,⟨#[]⟩⟩)=q1
 generalize hq2:decide (a.parcel.from_=⟨#[]⟩)=q2
 generalize hq3:decide (a.parcel.weight=0)=q3
 generalize hq4:decide (a.parcel.sides=[])=q4
 generalize hq5:decide (a.parcel.value=0)=q5
 generalize hq6:decide (a.order=0)=q6
 generalize hq7:decide (a.amount=0)=q7
 generalize hq8:decide (a.until_=0)=q8
 generalize hq9:decide (a.trip=⟨0,0⟩)=q9
 have kk:a.kind=1∨a.kind=2∨a.kind=3∨a.kind=4∨a.kind=5∨a.kind=6∨(a.kind≠1∧a.kind≠2∧a.kind≠3∧a.kind≠4∧a.kind≠5∧a.kind≠6):=by omega
 rcases kk with k | k | k | k | k | k | ⟨n1,n2,n3,n4,n5,n6⟩
 all_goals try (simp only [n1,n2,n3,n4,n5,n6,Int.reduceEq,decide_true,decide_false,Bool.not_true,Bool.not_false,cond_true,cond_false,Option.bind_some,Zu,bndc])
 all_goals try simp only [k,Int.reduceEq,decide_true,decide_false,Bool.not_true,Bool.not_false,cond_true,cond_false,Option.bind_some,Zu,bndc]
 case inr.inr.inr.inr.inr.inr=>
  have hf:(decide (1≤a.kind) && decide (a.kind≤6))=false:=by
   rw [Bool.and_eq_false_iff,decide_eq_false_iff_not,decide_eq_false_iff_not]; omega
  simp only [hf,cnd1,cnd2,Bool.and_false]
  exact ⟨_,rfl,rfl⟩
 all_goals
  simp only [hq1,hq2,hq3,hq4,hq5,hq6,hq7,hq8,hq9,cnd1,cnd2,Bool.true_and,Bool.and_true,Int.reduceLE,decide_true]
  exact ⟨_,rfl,by congr 1; try ac_rfl⟩
end Go.Proofs.YtkfbakhnpfmfmaaGreatDoor
namespace Go.Proofs.YtkfbakhnpfmfmaaGreatDoor
set_option maxRecDepth 10000
open Go.RowKit
set_option linter.unusedVariables false
set_option linter.unusedSimpArgs false
theorem Tot.idx {σ ο:Type} {body:σ→Option (σ ⊕ ο)} {P:ο→Prop} (ix:σ→Int) (n:Nat) (J:σ→Prop) (hn:n≤2097152)
 (h:∀ s (i:Nat),ix s=(i:Int)→i≤n→J s→Tot (body s) (fun r=>(∃ s',r=.inl s'∧i<n∧ix s'=((i+1:Nat):Int)∧J s')∨∃ o,r=.inr o∧P o)) (s:σ) (h0:ix s=0) (hJ:J s):Tot (Zj body NN s) P:=by
 refine Tot.loop (fun k s=>∃ i:Nat,ix s=(i:Int)∧i+k=n∧J s) (fun k s hs=>?_) NN n s ⟨0,h0,by omega,hJ⟩ (by unfold NN; omega)
 obtain ⟨i,hi,hk,hj⟩:=hs
 refine Tot.mono (h s i hi (by omega) hj) fun r hr=>?_
 rcases hr with ⟨s',rfl,hlt,he,hj'⟩ | ⟨o,rfl,ho⟩
 ·exact ⟨k-1,by omega,i+1,he,by omega,hj'⟩
 ·exact ho
theorem getN {α:Type} {xs:List α} {i:Nat} (h:i<xs.length):getI xs (i:Int)=some xs[i]:=by rw [Zx]; exact List.getElem?_eq_getElem h
section
variable {l:List ZaF} (hl:l.length≤1048576)
include hl
theorem Zgd (order kind:Int):Tot (ZaE l order kind) fun _=>True:=by
 unfold ZaE
 refine Tot.bind (P:=fun _=>True) (Tot.idx (fun s=>s.2) l.length (fun _=>True) (by omega) (fun s i hi hin _=>?_) (0,0) rfl trivial) fun _ _=>Tot.ret trivial
 unfold Zfv
 rw [show s.2=(i:Int) from hi]
 refine Tot.cond (fun hd=>?_) fun _=>Tot.ret (.inr ⟨_,rfl,trivial⟩)
 have hlt:i<l.length:=by have:=of_decide_eq_true hd; omega
 have hw:w64 ((i:Int)+1)=((i+1:Nat):Int):=by rw [Zn (by omega)]; omega
 simp only [Zey,getN hlt,Option.bind_some,hw]
 cases decide (l[i].order=order)
 ·exact Tot.ret (.inl ⟨_,rfl,hlt,rfl,trivial⟩)
 ·cases decide (l[i].kind=kind)
  ·exact Tot.ret (.inl ⟨_,rfl,hlt,rfl,trivial⟩)
  ·exact Tot.ret (.inl ⟨_,rfl,hlt,rfl,trivial⟩)
theorem Zl2 (order kind:Int):Tot (ZcQ l order kind) fun _=>True:=by
 unfold ZcQ
 refine Tot.bind (P:=fun _=>True) (Tot.idx (fun s=>s.2) l.length (fun _=>True) (by omega) (fun s i hi hin _=>?_) (0,0) rfl trivial) fun _ _=>Tot.ret trivial
 unfold ZeI
 rw [show s.2=(i:Int) from hi]
 refine Tot.cond (fun hd=>?_) fun _=>Tot.ret (.inr ⟨_,rfl,trivial⟩)
 have hlt:i<l.length:=by have:=of_decide_eq_true hd; omega
 have hw:w64 ((i:Int)+1)=((i+1:Nat):Int):=by rw [Zn (by omega)]; omega
 simp only [Zey,getN hlt,Option.bind_some,hw]
 cases decide (l[i].order=order)
 ·exact Tot.ret (.inl ⟨_,rfl,hlt,rfl,trivial⟩)
 ·cases decide (l[i].kind=kind)
  ·exact Tot.ret (.inl ⟨_,rfl,hlt,rfl,trivial⟩)
  ·exact Tot.ret (.inl ⟨_,rfl,hlt,rfl,trivial⟩)
theorem Zgv:ZC l=some l:=by
 unfold ZC
 rw [Zff (Zbh (by simp only [List.length_nil]; omega) (by omega))]
 rfl
end
theorem Zib (x:ZaF):Tot (Zc7 x) fun _=>True:=by
 unfold Zc7
 simp only [Zac,Option.bind_some]
 exact Tot.cond (fun _=>Tot.cond (fun _=>Tot.cond (fun _=>Tot.ret trivial) fun _=>Tot.ret trivial) fun _=>Tot.ret trivial) fun _=>Tot.ret trivial
theorem ZfT (l:List ZaF):Tot (Zae l) fun b=>b=true→l.length≤200:=by
 unfold Zae
 refine Tot.cond (fun _=>Tot.ret fun h=>nomatch h) fun hd=>?_
 have hl:l.length≤200:=by have:=of_decide_eq_false hd; omega
 refine Tot.mono (P:=fun _=>True) (Tot.bind (P:=fun _=>True) (Tot.idx (fun s=>s) l.length (fun _=>True) (by omega) (fun s i hi hin _=>?_) 0 rfl trivial) fun r _=>?_) fun _ _ _=>hl
 ·unfold Zdx
  rw [show s=(i:Int) from hi]
  refine Tot.cond (fun hd=>?_) fun _=>Tot.ret (.inr ⟨_,rfl,trivial⟩)
  have hlt:i<l.length:=by have:=of_decide_eq_true hd; omega
  have hw:w64 ((i:Int)+1)=((i+1:Nat):Int):=by rw [Zn (by omega)]; omega
  have hs:(subL l 0 (i:Int)).length≤1048576:=by unfold subL; simp only [List.length_take,List.length_drop]; omega
  simp only [Zey,getN hlt,Option.bind_some,hw]
  refine Tot.bind (P:=fun _=>True) ?_ fun r _=>?_
  ·refine Tot.bind (P:=fun _=>True) ?_ fun r _=>?_
   ·refine Tot.bind (Zib _) fun b _=>Tot.cond (fun _=>Tot.ret trivial) fun _=>Tot.cond (fun h0=>?_) fun _=>Tot.ret trivial
    have h0:=of_decide_eq_true h0
    exact Tot.get (by rw [Zn (by omega)]; omega) (by rw [Zn (by omega)]; omega) fun _ _ _=>Tot.cond (fun _=>Tot.ret trivial) fun _=>Tot.ret trivial
   ·cases r with
    | inr r=>exact Tot.ret trivial
    | inl r=>
     refine Tot.chk (decide_eq_true ⟨by omega,by omega,by omega⟩) (Tot.bind (Zgd hs _ _) fun _ _=>Tot.cond (fun _=>Tot.cond (fun _=>Tot.ret trivial) fun _=>Tot.ret trivial) fun _=>Tot.cond (fun _=>Tot.bind (Zgd hs _ _) fun _ _=>Tot.cond (fun _=>Tot.ret trivial) fun _=>Tot.ret trivial) fun _=>Tot.bind (Zl2 hs _ _) fun _ _=>Tot.cond (fun _=>Tot.ret trivial) fun _=>Tot.cond (fun _=>Tot.ret trivial) fun _=>Tot.bind (Zgd hs _ _) fun _ _=>Tot.cond (fun _=>Tot.ret trivial) fun _=>Tot.ret trivial)
  ·cases r with
   | inl r=>exact Tot.ret (.inl ⟨_,rfl,hlt,rfl,trivial⟩)
   | inr r=>exact Tot.ret (.inr ⟨_,rfl,trivial⟩)
 ·cases r with
  | inl r=>exact Tot.ret trivial
  | inr r=>exact Tot.ret trivial
theorem Zlo {l:List Int} (hl:l.length≤1048576):Tot (ZQ l) fun b=>b=true→1≤l.length∧l.length≤6:=by
 unfold ZQ
 refine Tot.bind (P:=fun r=>r≠.inr true) (Tot.idx (fun s=>s) l.length (fun _=>True) (by omega) (fun s i hi hin _=>?_) 0 rfl trivial) fun r hr=>?_
 ·unfold Zcb
  rw [show s=(i:Int) from hi]
  refine Tot.cond (fun hd=>?_) fun _=>Tot.ret (.inr ⟨_,rfl,by simp⟩)
  have hlt:i<l.length:=by have:=of_decide_eq_true hd; omega
  have hw:w64 ((i:Int)+1)=((i+1:Nat):Int):=by rw [Zn (by omega)]; omega
  simp only [Zey,getN hlt,Option.bind_some,hw,Zac]
  refine Tot.bind (P:=fun r=>r≠.inr true) ?_ fun r hr=>?_
  ·refine Tot.cond (fun _=>Tot.ret (by simp)) fun _=>Tot.cond (fun h0=>?_) fun _=>Tot.ret (by simp)
   have h0:=of_decide_eq_true h0
   exact Tot.get (by rw [Zn (by omega)]; omega) (by rw [Zn (by omega)]; omega) fun _ _ _=>Tot.cond (fun _=>Tot.ret (by simp)) fun _=>Tot.ret (by simp)
  ·cases r with
   | inl r=>exact Tot.ret (.inl ⟨_,rfl,hlt,rfl,trivial⟩)
   | inr r=>exact Tot.ret (.inr ⟨_,rfl,by simpa using hr⟩)
 ·cases r with
  | inl r=>
   simp only [Zu,Zac,Option.bind_some]
   refine Tot.ret fun h=>?_
   simp only [Bool.and_eq_true,decide_eq_true_eq] at h
   omega
  | inr r=>exact Tot.ret fun h=>absurd (by rw [h]) hr
section
variable {l:List ZaF} (hl:l.length≤1048576)
include hl
theorem Zlj (order:Int):Tot (ZaT l order) fun _=>True:=by
 unfold ZaT
 exact Tot.bind (ZfT l) fun _ _=>Tot.cond (fun _=>Tot.ret trivial) fun _=>Tot.bind (Zgd hl _ _) fun _ _=>Tot.bind (Zgd hl _ _) fun _ _=>Tot.ret trivial
theorem Zlr (x:ZaF):Tot (Zct l x) fun r=>r.1.length≤l.length+1:=by
 unfold Zct
 simp only [Zgv hl,Option.bind_some]
 refine Tot.chk (Zbh (by simp only [List.length_cons,List.length_nil]; omega) (by omega)) (Tot.cond (fun _=>Tot.ret (by simp)) fun _=>Tot.bind (ZfT _) fun _ _=>Tot.cond (fun _=>Tot.ret (by simp)) fun _=>Tot.ret (by simp))
theorem Zpt (order amount at_:Int):Tot (Zce l order amount at_) fun r=>r.1.length≤l.length+1:=by
 unfold Zce
 simp only [Zgv hl,Option.bind_some]
 exact Tot.bind (ZfT l) fun _ _=>Tot.cond (fun _=>Tot.ret (by simp)) fun _=>Tot.bind (Zib _) fun _ _=>Tot.cond (fun _=>Tot.ret (by simp)) fun _=>Tot.bind (Zgd hl _ _) fun _ _=>Tot.cond (fun _=>Tot.ret (by simp)) fun _=>Tot.bind (Zlr hl _) fun _ h=>Tot.ret h
theorem ZvJ (order amount at_:Int):Tot (ZdG l order amount at_) fun r=>r.1.length≤l.length+1:=by
 unfold ZdG
 simp only [Zgv hl,Option.bind_some]
 exact Tot.bind (ZfT l) fun _ _=>Tot.cond (fun _=>Tot.ret (by simp)) fun _=>Tot.bind (Zib _) fun _ _=>Tot.cond (fun _=>Tot.ret (by simp)) fun _=>Tot.bind (Zgd hl _ _) fun _ _=>Tot.cond (fun _=>Tot.ret (by simp)) fun _=>Tot.bind (Zlj hl _) fun _ _=>Tot.cond (fun _=>Tot.ret (by simp)) fun _=>Tot.bind (Zlr hl _) fun _ h=>Tot.ret h
omit hl in
theorem ZkM (charge due ended:Int) {p:List Int} (hp:p.length≤1048576):Tot (Zb3 charge due ended p) fun _=>True:=by
 unfold Zb3
 simp only [Zac,Option.bind_some,Zey]
 refine Tot.bind (Zlo hp) fun b hb=>Tot.cond (fun _=>Tot.ret trivial) fun h=>?_
 obtain ⟨b1,b2⟩:=hb (by cases b <;> simp_all)
 refine Tot.cond (fun _=>Tot.ret trivial) fun _=>Tot.cond (fun _=>Tot.ret trivial) fun hd=>Tot.cond (fun _=>Tot.ret trivial) fun he=>Tot.cond (fun _=>Tot.ret trivial) fun hx=>?_
 simp only [Bool.not_eq_false',Bool.and_eq_true,decide_eq_true_eq] at hd he
 have hx:=of_decide_eq_false hx
 have hw:w64 (w64 (ended-due)-1)=ended-due-1:=by rw [Zn (n:=ended-due) (by omega),Zn (by omega)]
 have ht:Int.tdiv (ended-due-1) 1440=(ended-due-1) / 1440:=Int.tdiv_eq_ediv_of_nonneg (by omega)
 have hq:IntKind.i64.wrap (Int.tdiv (w64 (w64 (ended-due)-1)) 1440)=(ended-due-1) / 1440:=by rw [hw,ht]; exact Zn (by omega)
 rw [hq]
 refine Tot.bind (P:=fun r:Int ⊕ Empty=>∃ z:Int,r=.inl z∧0≤z∧z<(p.length:Int)) (Tot.cond (fun _=>Tot.ret ⟨w64 ((p.length:Int)-1),rfl,by rw [Zn (by omega)]; omega,by rw [Zn (by omega)]; omega⟩) fun h=>Tot.ret ⟨(ended-due-1) / 1440,rfl,by omega,by have:=of_decide_eq_false h; omega⟩) fun r hr=>?_
 obtain ⟨z,rfl,z0,z1⟩:=hr
 exact Tot.get z0 z1 fun _ _ _=>Tot.ret trivial
theorem Zp0 (order due ended:Int) {p:List Int} (hp:p.length≤1048576) (at_:Int):Tot (Zck l order due ended p at_) fun r=>r.1.length≤l.length+1:=by
 unfold Zck
 simp only [Zgv hl,Option.bind_some,Zac]
 exact Tot.bind (Zgd hl _ _) fun _ _=>Tot.bind (ZfT l) fun _ _=>Tot.cond (fun _=>Tot.ret (by simp)) fun _=>Tot.bind (Zlo hp) fun _ _=>Tot.cond (fun _=>Tot.ret (by simp)) fun _=>Tot.cond (fun _=>Tot.ret (by simp)) fun _=>Tot.cond (fun _=>Tot.ret (by simp)) fun _=>Tot.cond (fun _=>Tot.ret (by simp)) fun _=>Tot.bind (Zlj hl _) fun _ _=>Tot.cond (fun _=>Tot.ret (by simp)) fun _=>Tot.bind (Zl2 hl _ _) fun _ _=>Tot.cond (fun _=>Tot.ret (by simp)) fun _=>Tot.bind (ZkM _ _ _ hp) fun _ _=>Tot.cond (fun _=>Tot.ret (by simp)) fun _=>Tot.bind (ZkM _ _ _ hp) fun _ _=>Tot.bind (Zlr hl _) fun _ h=>Tot.ret h
end
theorem Zj1:@Zfk=@Zt:=rfl
theorem Znu:@Zhl=@Zv:=rfl
def Zmn (l:YLeg):Prop:=l.from_.size≤B60∧l.to_.size≤B60
theorem Zi1 {l:YLeg} (h:Zmn l):Zgz l=ZaD l∧∃ b,ZaD l=some b:=by
 obtain ⟨e1,b1,s1⟩:=Zdq (s:=l.from_) h.1
 obtain ⟨e2,b2,s2⟩:=Zdq (s:=l.to_) h.2
 constructor
 ·unfold Zgz ZaD; rw [e1,e2,ZeM]
 ·unfold ZaD
  rw [s1,s2]
  simp only [Option.bind_some,Zac]
  cases b1 <;> cases b2 <;> cases (decide (l.from_=l.to_)) <;> cases (decide (0≤l.start) && decide (l.start≤1439)) <;> cases (decide (1≤l.takes) && decide (l.takes≤4320)) <;> cases (decide (1≤l.days) && decide (l.days≤127)) <;> exact ⟨_,rfl⟩
structure ZbC (n:Za):Prop where
 legs:n.legs.length≤1048576
 off:n.off.length≤1048576
 leg:∀ l∈n.legs,Zmn l
theorem ZiY {α:Type} {xs:List α} {i:Int} {x:α} (h:getI xs i=some x):x∈xs:=List.mem_of_getElem? (Zgq h).2
theorem Ztp {n:Za} (h:ZbC n):Zem n=Zz n:=by
 funext i
 unfold Zem Zz
 cases hg:getI n.legs i with
 | none=>rfl
 | some y=>simp only [Option.bind_some,(Zi1 (h.leg y (ZiY hg))).1]
theorem Ztq {n:Za}:Zen n=ZA n:=by
 funext i
 unfold Zen ZA
 rw [ZeM]
 cases hg:getI n.off i with
 | none=>rfl
 | some y=>simp only [Option.bind_some]
theorem ZxC {n:Za} (h:ZbC n):∃ o,Zj (Zz n) NN 0=some o:=by
 refine Zi2 (n:=n.legs.length) (by have:=h.legs; unfold NN; omega) (fun i hi=>?_) ⟨_,by simp [Zz]; rfl⟩
 have hw:=Z8 hi (by have:=h.legs; omega)
 have hg:getI n.legs (i:Int)=some n.legs[i]:=by rw [Zx]; exact List.getElem?_eq_getElem hi
 obtain ⟨b,hb⟩:=(Zi1 (h.leg _ (List.getElem_mem hi))).2
 cases b with
 | true=>exact Zn3 (by simp only [Zz,decide_eq_true (show (i:Int)<n.legs.length by omega),cond_true,hg,Option.bind_some,hb,hw,Bool.not_true,cond_false])
 | false=>exact Zm9 (by simp only [Zz,decide_eq_true (show (i:Int)<n.legs.length by omega),cond_true,hg,Option.bind_some,hb,Bool.not_false,cond_true]; rfl)
theorem ZxD {n:Za} (h:ZbC n):∃ o,Zj (ZA n) NN 0=some o:=by
 refine Zi2 (n:=n.off.length) (by have:=h.off; unfold NN; omega) (fun i hi=>?_) ⟨_,by simp [ZA]; rfl⟩
 have hw:=Z8 hi (by have:=h.off; omega)
 have hg:getI n.off (i:Int)=some n.off[i]:=by rw [Zx]; exact List.getElem?_eq_getElem hi
 have hd:=decide_eq_true (show (i:Int)<n.off.length by omega)
 cases hb:decide (0≤n.off[i]) && decide (n.off[i]≤60) with
 | false=>exact Zm9 (by simp only [ZA,hd,cond_true,hg,Option.bind_some,Zac,hb,Bool.not_false]; rfl)
 | true=>
  by_cases h0:0<(i:Int)
  ·have hw2:w64 ((i:Int)-1)=((i-1:Nat):Int):=by rw [Zn (by have:=h.off; omega)]; omega
   have hg2:getI n.off ((i-1:Nat):Int)=some n.off[i-1]:=by rw [Zx]; exact List.getElem?_eq_getElem (by omega)
   cases hc:decide (n.off[i]≤n.off[i-1]) with
   | true=>exact Zm9 (by simp only [ZA,hd,cond_true,hg,Option.bind_some,Zac,hb,Bool.not_true,cond_false,decide_eq_true h0,hw2,hg2,hc]; rfl)
   | false=>exact Zn3 (by simp only [ZA,hd,cond_true,hg,Option.bind_some,Zac,hb,Bool.not_true,cond_false,decide_eq_true h0,hw2,hg2,hc,hw])
  ·exact Zn3 (by simp only [ZA,hd,cond_true,hg,Option.bind_some,Zac,hb,Bool.not_true,cond_false,decide_eq_false h0,hw])
theorem Zeu {n:Za} (h:ZbC n):Zfa n=Zm n∧∃ b,Zm n=some b:=by
 constructor
 ·unfold Zfa Zm; rw [Ztp h,Ztq,ZeM]
 ·obtain ⟨o0,h0⟩:=ZxC h
  obtain ⟨o1,h1⟩:=ZxD h
  unfold Zm
  rw [h0,h1]
  simp only [Option.bind_some,Zac]
  rcases o0 with o0 | o0
  ·rcases o1 with o1 | o1
   ·simp only [Zu]
    cases decide ((n.legs.length:Int)≤20) <;> cases decide ((n.off.length:Int)≤10) <;> exact ⟨_,rfl⟩
   ·exact ⟨_,rfl⟩
  ·exact ⟨_,rfl⟩
theorem Zld {l:List Int} (h:l.length≤1048576) (x:Int):ZcZ l x=some (l.any fun y=>decide (y=x)):=by
 unfold ZcZ
 rw [Zgt (xs:=l) (p:=fun y=>decide (y=x)) (r:=.inr true) (e:=.inl ()) (fun i hi=>?_) (by simp [ZeJ]) (by unfold NN; omega)]
 ·cases l.any fun y=>decide (y=x) <;> rfl
 ·have hw:=Z8 hi (by omega)
  have hg:getI l (i:Int)=some l[i]:=by rw [Zx]; exact List.getElem?_eq_getElem hi
  simp only [ZeJ,decide_eq_true (show (i:Int)<l.length by omega),cond_true,hg,Option.bind_some,hw]
  cases decide (l[i]=x) <;> rfl
theorem Zgr {l:List Zg} (h:l.length≤1048576) (x:Zg):ZfL l x=some (l.any fun y=>decide (y=x)):=by
 unfold ZfL
 rw [Zgt (xs:=l) (p:=fun y=>decide (y=x)) (r:=.inr true) (e:=.inl ()) (fun i hi=>?_) (by simp [ZeP]) (by unfold NN; omega)]
 ·cases l.any fun y=>decide (y=x) <;> rfl
 ·have hw:=Z8 hi (by omega)
  have hg:getI l (i:Int)=some l[i]:=by rw [Zx]; exact List.getElem?_eq_getElem hi
  simp only [ZeP,decide_eq_true (show (i:Int)<l.length by omega),cond_true,hg,Option.bind_some,hw]
  cases decide (l[i]=x) <;> rfl
theorem Zfp:@Zbp=@ZfL:=rfl
theorem Zpw {n:Za} (h:n.off.length≤1048576) (x:Int):(Zj (ZeX n x) NN 0).bind (Zu (fun _=>some true) (fun r=>some r))=some (!(n.off.any fun y=>decide (y=x))):=by
 rw [Zgt (xs:=n.off) (p:=fun y=>decide (y=x)) (r:=.inr false) (e:=.inl ()) (fun i hi=>?_) (by simp [ZeX]) (by unfold NN; omega)]
 ·cases n.off.any fun y=>decide (y=x) <;> rfl
 ·have hw:=Z8 hi (by omega)
  have hg:getI n.off (i:Int)=some n.off[i]:=by rw [Zx]; exact List.getElem?_eq_getElem hi
  simp only [ZeX,decide_eq_true (show (i:Int)<n.off.length by omega),cond_true,hg,Option.bind_some,hw]
  cases decide (n.off[i]=x) <;> rfl
def ZoX (x:Int):Int:=IntKind.i64.wrap (BitVec.ofInt IntKind.i64.bits x &&& BitVec.ofInt IntKind.i64.bits 1).toNat
theorem Zrj (x:Int):ZoX x=0∨ZoX x=1:=by
 unfold ZoX
 have h:(BitVec.ofInt IntKind.i64.bits x &&& BitVec.ofInt IntKind.i64.bits 1).toNat≤1:=by
  rw [BitVec.toNat_and]
  refine Nat.le_trans Nat.and_le_right ?_
  decide
 rw [show IntKind.i64.wrap ((BitVec.ofInt IntKind.i64.bits x &&& BitVec.ofInt IntKind.i64.bits 1).toNat:Int)=((BitVec.ofInt IntKind.i64.bits x &&& BitVec.ofInt IntKind.i64.bits 1).toNat:Int) from Zn (by omega)]
 omega
theorem Zhq {n:Za} (h:ZbC n) (leg day:Int):Zhm n leg day=ZW n leg day∧∃ b,ZW n leg day=some b:=by
 have hl:=h.legs
 have hw:w64 ((n.legs.length:Int)-1)=n.legs.length-1:=Zn (by omega)
 unfold Zhm ZW
 rw [ZeM,hw,Zac,Zac]
 simp only [Option.bind_some]
 by_cases h1:leg<0
 ·simp only [decide_eq_true h1,decide_eq_false (show ¬ 0≤leg by omega),cond_true,Bool.false_and,cond_false]
  exact ⟨trivial,_,rfl⟩
 by_cases h2:(n.legs.length:Int)≤leg
 ·simp only [decide_eq_false h1,decide_eq_true h2,decide_eq_false (show ¬ leg≤(n.legs.length:Int)-1 by omega),cond_true,Bool.and_false,cond_false]
  exact ⟨trivial,_,rfl⟩
 simp only [decide_eq_false h1,decide_eq_false h2,decide_eq_true (show 0≤leg by omega),decide_eq_true (show leg≤(n.legs.length:Int)-1 by omega),cond_true,Bool.and_true,cond_false]
 by_cases h3:0≤day∧day≤60
 ·simp only [decide_eq_true h3.1,decide_eq_true h3.2,Bool.and_true,Bool.not_true,cond_false,cond_true]
  have hg:getI n.legs leg=some (n.legs[leg.toNat]'(by omega)):=by
   unfold getI; rw [if_pos (by omega)]; exact List.getElem?_eq_getElem _
  rw [hg]
  simp only [Option.bind_some]
  have hm:0≤Int.tmod day 7:=Int.tmod_nonneg 7 h3.1
  rw [Zff (decide_eq_true hm)]
  simp only [Option.bind_some]
  rw [Zpw h.off,Zld h.off]
  generalize Int.fdiv _ _=q
  have hb:=Zrj q
  unfold ZoX at hb
  rcases hb with hb | hb
  ·rw [hb]; exact ⟨rfl,_,rfl⟩
  ·rw [hb]; exact ⟨rfl,_,rfl⟩
 ·have:(decide (0≤day) && decide (day≤60))=false:=by rw [← Bool.decide_and]; exact decide_eq_false h3
  rw [this]
  exact ⟨rfl,_,rfl⟩
theorem Zr8 {n:Za} (h:ZbC n) (leg day:Int):Zf6 n leg day=Zcl n leg day∧∃ b,Zcl n leg day=some b:=by
 obtain ⟨e,b,s⟩:=Zeu h
 obtain ⟨e2,b2,s2⟩:=Zhq h leg day
 unfold Zf6 Zcl
 rw [e,e2,s,s2]
 refine ⟨rfl,?_⟩
 cases b <;> exact ⟨_,rfl⟩
theorem ZhF {n:Za} (h:ZbC n) (t:Zg):Zf5 n t=Zal n t∧∃ b,Zal n t=some b:=by
 obtain ⟨e,b,s⟩:=Zr8 h t.leg t.day
 unfold Zf5 Zal
 rw [e,s]
 exact ⟨rfl,_,rfl⟩
def cmpI (a b:Int):Int:=if a<b then -1 else if b<a then 1 else 0
theorem Zws (a b:Int):Zb7 a b=some (cmpI a b):=by
 unfold Zb7 cmpI
 by_cases h:a<b
 ·simp [h]
 ·by_cases h2:b<a <;> simp [h,h2]
theorem ZwA (x y z:Int):ZgA [x,y,z]=some (if x≠0 then x else if y≠0 then y else z):=by
 obtain ⟨k,hk⟩:∃ k,NN=k+1+1+1+1:=⟨1152921504606846972,by unfold NN; omega⟩
 unfold ZgA
 rw [hk]
 have w0:w64 1=1:=Zn (by omega)
 have w1:w64 2=2:=Zn (by omega)
 have w2:w64 3=3:=Zn (by omega)
 by_cases hx:x=0
 ·by_cases hy:y=0
  ·by_cases hz:z=0
   ·simp [Zj,Zu,ZdB,getI,hx,hy,hz,w0,w1,w2]
   ·simp [Zj,Zu,ZdB,getI,hx,hy,hz,w0,w1,w2]
  ·simp [Zj,Zu,ZdB,getI,hx,hy,w0]
 ·simp [Zj,Zu,ZdB,getI,hx]
def befB (a b:Zc):Bool:=if a.trip.day≠b.trip.day then decide (a.trip.day<b.trip.day) else if a.trip.leg≠b.trip.leg then decide (a.trip.leg<b.trip.leg) else decide (a.thing<b.thing)
theorem Zof (a b:Zc):ZcS a b=some (befB a b):=by
 unfold ZcS befB
 by_cases h1:a.trip.day=b.trip.day
 ·by_cases h2:a.trip.leg=b.trip.leg <;> simp [h1,h2]
 ·simp [h1]
theorem ZjB {l:List Zc} (h:l.length≤1048576) (t:Zg):∃ v,Zc8 l t=some v:=by
 have hh:∃ o,Zj (Zb2 l t) NN (0,0)=some o:=by
  refine ZhG (fun k s=>∃ i:Nat,i+k=l.length∧s.2=(i:Int)) ?_ NN l.length (0,0) ⟨0,by omega,rfl⟩ (by unfold NN; omega)
  rintro k ⟨a,s⟩ ⟨i,hi,hs⟩
  simp only at hs
  subst hs
  rcases Nat.lt_or_ge i l.length with hlt | hge
  ·have hw:=Z8 hlt (by omega)
   have hg:getI l (i:Int)=some l[i]:=by rw [Zx]; exact List.getElem?_eq_getElem hlt
   cases hc:decide (l[i].trip=t) with
   | true=>
    refine ⟨_,by simp only [Zb2,decide_eq_true (show (i:Int)<l.length by omega),cond_true,hg,Option.bind_some,hc,hw]; rfl,?_⟩
    rintro s' e; cases e; exact ⟨k-1,by omega,i+1,by omega,rfl⟩
   | false=>
    refine ⟨_,by simp only [Zb2,decide_eq_true (show (i:Int)<l.length by omega),cond_true,cond_false,hg,Option.bind_some,hc,hw]; rfl,?_⟩
    rintro s' e; cases e; exact ⟨k-1,by omega,i+1,by omega,rfl⟩
  ·have:i=l.length:=by omega
   subst this
   refine ⟨_,by simp only [Zb2,decide_eq_false (show ¬ ((l.length:Int)<l.length) by omega),cond_false]; rfl,?_⟩
   rintro s' e; cases e
 obtain ⟨o,ho⟩:=hh
 exact ⟨o,by unfold Zc8; rw [ho]; rfl⟩
theorem Zlz {n:Za} (h:ZbC n) {leg day:Int} (hr:ZW n leg day=some true):∃ y,getI n.legs leg=some y:=by
 have hl:=h.legs
 have hw:w64 ((n.legs.length:Int)-1)=n.legs.length-1:=Zn (by omega)
 unfold ZW at hr
 rw [hw,Zac] at hr
 simp only [Option.bind_some] at hr
 by_cases h1:0≤leg∧leg≤(n.legs.length:Int)-1
 ·exact ⟨n.legs[leg.toNat]'(by omega),by unfold getI; rw [if_pos h1.1]; exact List.getElem?_eq_getElem _⟩
 ·rw [← Bool.decide_and,decide_eq_false h1] at hr
  cases hr
def bk1 (n:Za) (l:List Zc) (i:Nat):Bool:=match l[i]? with
 | none=>true
 | some y=>(ZW n y.trip.leg y.trip.day).getD false && (decide (1≤y.thing) && decide (y.thing≤9999)) && (decide (1≤y.weight) && decide (y.weight≤1000000)) && (decide (i=0) || match l[i-1]? with
  | none=>true
  | some x=>befB x y)
def bk2 (n:Za) (l:List Zc) (i:Nat):Bool:=match l[i]? with
 | none=>true
 | some y=>match getI n.legs y.trip.leg,Zc8 l y.trip with
  | some g,some v=>!decide (g.room<v)
  | _,_=>false
def Zet (n:Za) (l:List Zc):Bool:=(Zm n).getD false && decide ((l.length:Int)≤120) && (List.range l.length).all fun i=>bk1 n l i && bk2 n l i
theorem ZeV {n:Za} (h:ZbC n) {l:List Zc} (hl:l.length≤1048576):Zaq n l=some (Zet n l):=by
 obtain ⟨_,b,hb⟩:=Zeu h
 unfold Zaq Zet
 rw [hb]
 simp only [Option.bind_some,Option.getD_some]
 cases b with
 | false=>rfl
 | true=>
  by_cases h120:120<(l.length:Int)
  ·simp [h120,show ¬ ((l.length:Int)≤120) by omega]
  simp only [Bool.not_true,cond_false,decide_eq_false h120,decide_eq_true (show (l.length:Int)≤120 by omega),Bool.true_and]
  have e0:Zj (Zbk n l) NN 0=some (if (List.range l.length).all (bk1 n l)=true then .inl () else .inr false):=by
   refine ZgU (fun i hi _=>?_) (fun _=>by simp [Zbk]) (by unfold NN; omega)
   have hw:=Z8 hi (by omega)
   have hg:getI l (i:Int)=some l[i]:=by rw [Zx]; exact List.getElem?_eq_getElem hi
   obtain ⟨_,rb,hrb⟩:=Zhq h l[i].trip.leg l[i].trip.day
   simp only [Zbk,decide_eq_true (show (i:Int)<l.length by omega),cond_true,hg,Option.bind_some,hrb,Zac,bk1,List.getElem?_eq_getElem hi,Option.getD_some]
   cases rb with
   | false=>simp
   | true=>
    cases decide (1≤l[i].thing) && decide (l[i].thing≤9999) with
    | false=>simp
    | true=>
     cases decide (1≤l[i].weight) && decide (l[i].weight≤1000000) with
     | false=>simp
     | true=>
      by_cases hi0:i=0
      ·subst hi0
       have hw':w64 1=1:=Zn (by omega)
       simp [hw']
      ·have hw2:w64 ((i:Int)-1)=((i-1:Nat):Int):=by rw [Zn (by omega)]; omega
       have hg2:getI l ((i-1:Nat):Int)=some l[i-1]:=by rw [Zx]; exact List.getElem?_eq_getElem (by omega)
       simp only [decide_eq_true (show 0<(i:Int) by omega),hw2,hg2,Option.bind_some,Zof,hw,List.getElem?_eq_getElem (show i-1<l.length by omega),decide_eq_false hi0,Bool.not_true,cond_false,cond_true,Bool.true_and,Bool.false_or]
       cases befB l[i-1] l[i] <;> rfl
  rw [e0]
  by_cases hall:(List.range l.length).all (bk1 n l)=true
  ·rw [if_pos hall]
   have e1:Zj (Zbl n l) NN 0=some (if (List.range l.length).all (bk2 n l)=true then .inl () else .inr false):=by
    refine ZgU (fun i hi _=>?_) (fun _=>by simp [Zbl]) (by unfold NN; omega)
    have hw:=Z8 hi (by omega)
    have hg:getI l (i:Int)=some l[i]:=by rw [Zx]; exact List.getElem?_eq_getElem hi
    obtain ⟨v,hv⟩:=ZjB hl l[i].trip
    have hb1:=List.all_eq_true.1 hall i (List.mem_range.2 hi)
    obtain ⟨_,rb,hrb⟩:=Zhq h l[i].trip.leg l[i].trip.day
    have hrt:rb=true:=by
     simp only [bk1,List.getElem?_eq_getElem hi,hrb,Option.getD_some,Bool.and_eq_true] at hb1
     exact hb1.1.1.1
    subst hrt
    obtain ⟨g,hgl⟩:=Zlz h hrb
    simp only [Zbl,decide_eq_true (show (i:Int)<l.length by omega),cond_true,hg,Option.bind_some,hv,hgl,bk2,List.getElem?_eq_getElem hi,hw]
    cases decide (g.room<v) <;> rfl
   simp only [Option.bind_some]
   rw [e1]
   have:(List.range l.length).all (fun i=>bk1 n l i && bk2 n l i)=(List.range l.length).all (bk2 n l):=by
    rw [Bool.eq_iff_iff,List.all_eq_true,List.all_eq_true]
    exact ⟨fun H i hi=>by have:=H i hi; simp only [Bool.and_eq_true] at this; exact this.2,fun H i hi=>by rw [List.all_eq_true.1 hall i hi,H i hi]; rfl⟩
   rw [this]
   cases (List.range l.length).all (bk2 n l) <;> rfl
  ·rw [if_neg hall]
   have:(List.range l.length).all (fun i=>bk1 n l i && bk2 n l i)=false:=by
    rw [Bool.eq_false_iff]
    intro H
    exact hall (List.all_eq_true.2 fun i hi=>by have:=List.all_eq_true.1 H i hi; simp only [Bool.and_eq_true] at this; exact this.1)
   rw [this]; rfl
theorem Ztf {n:Za} (h:ZbC n) (hn:Zm n=some true) (t:Zg):Zf5 n t=ZW n t.leg t.day:=by
 rw [(ZhF h t).1]
 unfold Zal Zcl
 rw [hn]
 obtain ⟨_,b,hb⟩:=Zhq h t.leg t.day
 simp only [Option.bind_some,cond_true,hb]
theorem Zq5 (w:Ze) (o:Zh):ZjG w o=Zao w.network o:=rfl
theorem Zd8 {n:Za} {t:Zg} {y:YLeg} (h:getI n.legs t.leg=some y):∃ v,Zv n t=some v:=by
 unfold Zv Zt; rw [h]; exact ⟨_,rfl⟩
def inL (S:List ByteArray) (s:ByteArray):Bool:=S.any fun y=>decide (y=s)
theorem Zra {S:List ByteArray} {s:ByteArray}:inL S s=true↔s∈S:=by simp [inL]
def dd (out:List ByteArray) (s:ByteArray):List ByteArray:=if inL out s=true then out else out++[s]
def ZdI (n:Za):List ByteArray:=n.legs.flatMap fun l=>[l.from_,l.to_]
def srtS (xs:List ByteArray):List ByteArray:=((xs.map fun b:ByteArray=>b.data.toList).mergeSort fun x y=>decide (x≤y)).map fun l=>⟨l.toArray⟩
def Zfs (n:Za):Option (List ByteArray):=
 if n.legs.length≤1048576∧(n.legs.all fun l=>decide (l.from_.size≤maxLen∧l.to_.size≤maxLen))=true then some (srtS ((ZdI n).foldl dd [])) else none
theorem Zm4 {α:Type} {r:α→α→Prop} (irr:∀ a,¬ r a a) (asy:∀ a b,r a b→¬ r b a):∀ {l1 l2:List α},l1.Pairwise r→l2.Pairwise r→(∀ x,x∈l1↔x∈l2)→l1=l2
 | [],[],_,_,_=>rfl
 | [],b::l2,_,_,h=>absurd ((h b).2 (List.mem_cons_self ..)) (by simp)
 | a::l1,[],_,_,h=>absurd ((h a).1 (List.mem_cons_self ..)) (by simp)
 | a::l1,b::l2,h1,h2,h=>by
  rw [List.pairwise_cons] at h1 h2
  have hab:a=b:=by
   rcases List.mem_cons.1 ((h a).1 (List.mem_cons_self ..)) with e | e
   ·exact e
   ·rcases List.mem_cons.1 ((h b).2 (List.mem_cons_self ..)) with e' | e'
    ·exact e'.symm
    ·exact absurd (h1.1 b e') (asy _ _ (h2.1 a e))
  subst hab
  congr 1
  refine Zm4 irr asy h1.2 h2.2 fun x=>⟨fun hx=>?_,fun hx=>?_⟩
  ·rcases List.mem_cons.1 ((h x).1 (List.mem_cons_of_mem _ hx)) with e | e
   ·subst e; exact absurd (h1.1 x hx) (irr x)
   ·exact e
  ·rcases List.mem_cons.1 ((h x).2 (List.mem_cons_of_mem _ hx)) with e | e
   ·subst e; exact absurd (h2.1 x hx) (irr x)
   ·exact e
theorem ZjX (a b:ByteArray):sLt a b=true↔a.data.toList<b.data.toList:=by
 unfold sLt; rw [Go.Proofs.bytesLess_eq,ByteArray.toList_eq,ByteArray.toList_eq,decide_eq_true_iff]
theorem ZlV {a b:ByteArray} (h:a.data.toList=b.data.toList):a=b:=by
 obtain ⟨⟨x⟩⟩:=a; obtain ⟨⟨y⟩⟩:=b; simpa using h
theorem Zr9 (a:ByteArray):¬ sLt a a=true:=by rw [ZjX]; exact List.lt_irrefl _
theorem ZuA (a b:ByteArray) (h:sLt a b=true):¬ sLt b a=true:=by rw [ZjX] at *; exact List.lt_asymm h
theorem Zw0 {a b c:ByteArray} (h:sLt a b=true) (h':sLt b c=true):sLt a c=true:=by rw [ZjX] at *; exact List.lt_trans h h'
theorem Zsa {a b:ByteArray} (h:¬ sLt a b=true) (hn:a≠b):sLt b a=true:=by
 rw [ZjX] at *
 rcases List.le_total a.data.toList b.data.toList with e | e
 ·rcases (List.le_iff_lt_or_eq.1 e) with e' | e'
  ·exact absurd e' h
  ·exact absurd (ZlV e') hn
 ·rcases (List.le_iff_lt_or_eq.1 e) with e' | e'
  ·exact e'
  ·exact absurd (ZlV e'.symm) hn
def insS:List ByteArray→ByteArray→List ByteArray
 | [],p=>[p]
 | x::xs,p=>if sLt x p=true then x::insS xs p else if x=p then x::xs else p::x::xs
theorem Zlb {p y:ByteArray}:∀ {xs:List ByteArray},y∈insS xs p↔y=p∨y∈xs
 | []=>by simp [insS]
 | x::xs=>by
  unfold insS
  split
  ·rw [List.mem_cons,Zlb,List.mem_cons]; grind
  ·split
   ·rename_i h; subst h; simp
   ·simp
theorem Zjw {p:ByteArray}:∀ {xs:List ByteArray},xs.Pairwise (fun a b=>sLt a b=true)→(insS xs p).Pairwise (fun a b=>sLt a b=true)
 | [],_=>by simp [insS]
 | x::xs,h=>by
  rw [List.pairwise_cons] at h
  unfold insS
  split
  ·rename_i h1
   rw [List.pairwise_cons]
   refine ⟨fun y hy=>?_,Zjw h.2⟩
   rcases Zlb.1 hy with e | e
   ·rw [e]; exact h1
   ·exact h.1 y e
  ·rename_i h1
   split
   ·rw [List.pairwise_cons]; exact h
   ·rename_i h2
    have h3:=Zsa h1 h2
    rw [List.pairwise_cons,List.pairwise_cons]
    refine ⟨fun y hy=>?_,h⟩
    rcases List.mem_cons.1 hy with e | e
    ·rw [e]; exact h3
    ·exact Zw0 h3 (h.1 y e)
theorem Zla {p:ByteArray}:∀ {xs:List ByteArray},(insS xs p).length≤xs.length+1
 | []=>by simp [insS]
 | x::xs=>by
  unfold insS
  split
  ·have:=Zla (p:=p) (xs:=xs); simp; omega
  ·split <;> simp
theorem Zgp {y:ByteArray}:∀ {l acc:List ByteArray},y∈l.foldl insS acc↔y∈l∨y∈acc
 | [],acc=>by simp
 | p::l,acc=>by rw [List.foldl_cons,Zgp,Zlb,List.mem_cons]; grind
theorem Zix:∀ {l acc:List ByteArray},acc.Pairwise (fun a b=>sLt a b=true)→(l.foldl insS acc).Pairwise (fun a b=>sLt a b=true)
 | [],acc,h=>h
 | p::l,acc,h=>Zix (l:=l) (Zjw h)
theorem Zmf:∀ {l acc:List ByteArray},(l.foldl insS acc).length≤l.length+acc.length
 | [],acc=>by simp
 | p::l,acc=>by
  have h1:=Zmf (l:=l) (acc:=insS acc p)
  have h2:=Zla (p:=p) (xs:=acc)
  simp only [List.foldl_cons,List.length_cons]; omega
/-! The program's: a list without repeats,sorted. -/
theorem Zul {y:ByteArray}:∀ {l acc:List ByteArray},y∈l.foldl dd acc↔y∈l∨y∈acc
 | [],acc=>by simp
 | p::l,acc=>by
  rw [List.foldl_cons,Zul,List.mem_cons]
  unfold dd
  split
  ·rename_i h
   have h:=Zra.1 h
   constructor
   ·grind
   ·rintro ((rfl | h') | h') <;> grind
  ·simp; grind
theorem ZoD:∀ {l acc:List ByteArray},acc.Nodup→(l.foldl dd acc).Nodup
 | [],acc,h=>h
 | p::l,acc,h=>by
  rw [List.foldl_cons]
  refine ZoD ?_
  unfold dd
  split
  ·exact h
  ·rename_i h1
   rw [List.nodup_append]
   refine ⟨h,by simp,?_⟩
   intro a ha b hb
   simp at hb
   rintro rfl
   subst hb
   exact h1 (Zra.2 ha)
theorem ZtR {y:ByteArray} {xs:List ByteArray}:y∈srtS xs↔y∈xs:=by
 unfold srtS
 rw [List.mem_map]
 constructor
 ·rintro ⟨l,hl,rfl⟩
  rw [List.mem_mergeSort,List.mem_map] at hl
  obtain ⟨b,hb,rfl⟩:=hl
  have:(⟨b.data.toList.toArray⟩:ByteArray)=b:=ZlV (by simp)
  rw [this]; exact hb
 ·intro h
  exact ⟨y.data.toList,by rw [List.mem_mergeSort,List.mem_map]; exact ⟨y,h,rfl⟩,ZlV (by simp)⟩
theorem Zn2 {xs:List ByteArray} (h:xs.Nodup):(srtS xs).Pairwise (fun a b=>sLt a b=true):=by
 unfold srtS
 rw [List.pairwise_map]
 have h1:((xs.map fun b:ByteArray=>b.data.toList).mergeSort fun x y=>decide (x≤y)).Pairwise (fun a b=>decide (a≤b)=true):=
  List.pairwise_mergeSort (fun a b c=>by simp only [decide_eq_true_iff]; exact List.le_trans) (fun a b=>by simp only [Bool.or_eq_true,decide_eq_true_iff]; exact List.le_total a b) _
 have h2:((xs.map fun b:ByteArray=>b.data.toList).mergeSort fun x y=>decide (x≤y)).Nodup:=by
  rw [(List.mergeSort_perm _ _).nodup_iff]
  unfold List.Nodup
  rw [List.pairwise_map]
  exact h.imp fun hne e=>hne (ZlV e)
 refine (h1.and h2).imp ?_
 rintro a b ⟨h3,h4⟩
 rw [ZjX]
 rcases (List.le_iff_lt_or_eq.1 (of_decide_eq_true h3)) with e | e
 ·simpa using e
 ·exact absurd e h4
def Zf (n:Za):List ByteArray:=(ZdI n).foldl insS []
theorem ZnA {n:Za} (h:ZbC n):Zfs n=some (Zf n):=by
 unfold Zfs
 rw [if_pos ⟨h.legs,List.all_eq_true.2 fun l hl=>decide_eq_true (by have:=h.leg l hl; unfold Zmn B60 at this; unfold maxLen; omega)⟩]
 congr 1
 exact Zm4 (r:=fun a b=>sLt a b=true) Zr9 ZuA (Zn2 (ZoD List.nodup_nil)) (Zix List.Pairwise.nil) fun x=>by
  rw [ZtR,Zul]; unfold Zf; rw [Zgp]
theorem Zvk {α:Type} {xs:List α} {p:α→Bool} {body:Int→Option (Int ⊕ Int)} (h1:∀ i (hi:i<xs.length),body (i:Int)=some (if p xs[i]=true then .inl ((i+1:Nat):Int) else .inr (i:Int))) (h2:body (xs.length:Int)=some (.inr (xs.length:Int))) (hN:xs.length<NN):
 Zj body NN 0=some ((xs.takeWhile p).length:Int):=by
 have key:∀ (ys:List α) (i N:Nat),xs.drop i=ys→i≤xs.length→ys.length<N→Zj body N (i:Int)=some ((i+(ys.takeWhile p).length:Nat):Int):=by
  intro ys
  induction ys with
  | nil=>
   intro i N hd hi hN
   cases N with
   | zero=>omega
   | succ N=>
    have:i=xs.length:=by have:=congrArg List.length hd; simp at this; omega
    subst this
    simp only [Zj,h2]
    rfl
  | cons y ys ih=>
   intro i N hd hi hN
   cases N with
   | zero=>simp at hN
   | succ N=>
    have hy:xs[i]?=some y:=by
     have:=congrArg (fun l=>l[0]?) hd
     simpa using this
    have hlt:i<xs.length:=(List.getElem?_eq_some_iff.1 hy).1
    have hyv:xs[i]=y:=(List.getElem?_eq_some_iff.1 hy).2
    have hd':xs.drop (i+1)=ys:=by
     have:=congrArg (List.drop 1) hd
     simpa [List.drop_drop] using this
    simp only [Zj,h1 i hlt,hyv]
    cases hp:p y with
    | true=>
     simp only [if_true]
     have:=ih (i+1) N hd' hlt (by simp at hN; omega)
     refine this.trans ?_
     rw [List.takeWhile_cons_of_pos hp]
     congr 2
     simp; omega
    | false=>
     simp only [Bool.false_eq_true,if_false]
     rw [List.takeWhile_cons_of_neg (by simp [hp])]
     rfl
 simpa using key xs 0 NN rfl (Nat.zero_le _) hN
theorem Zrb (p:ByteArray):∀ (xs:List ByteArray),insS xs p=
 if xs[(xs.takeWhile fun x=>sLt x p).length]?=some p then xs else xs.take (xs.takeWhile fun x=>sLt x p).length++[p]++xs.drop (xs.takeWhile fun x=>sLt x p).length
 | []=>by simp [insS]
 | x::xs=>by
  unfold insS
  cases h:sLt x p with
  | true=>
   simp only [if_true]
   rw [List.takeWhile_cons_of_pos (by exact h),Zrb p xs]
   simp only [List.length_cons,List.getElem?_cons_succ,List.take_succ_cons,List.drop_succ_cons]
   split <;> simp
  | false=>
   rw [List.takeWhile_cons_of_neg (by simp [h])]
   simp only [List.length_nil,List.getElem?_cons_zero,List.take_zero,List.drop_zero,Option.some.injEq,Bool.false_eq_true,if_false]
   split <;> simp
theorem Zpg {out:List ByteArray} {p:ByteArray} {i':Int} (hl:out.length≤4194304):
 (cond (decide (((out.takeWhile fun x=>sLt x p).length:Int)=(out.length:Int)))
  ((chk (slOk 0 ((out.takeWhile fun x=>sLt x p).length:Int) out.length)).bind fun _=>
  (chk (Z9 ((([]:List ByteArray):List ByteArray).length+((subL out 0 ((out.takeWhile fun x=>sLt x p).length:Int)):List ByteArray).length) 16)).bind fun _=>
  (chk (Z9 ((((([]:List ByteArray):List ByteArray)++(subL out 0 ((out.takeWhile fun x=>sLt x p).length:Int))):List ByteArray).length+([p]:List ByteArray).length) 16)).bind fun _=>
  (chk (slOk ((out.takeWhile fun x=>sLt x p).length:Int) (out.length:Int) out.length)).bind fun _=>
  (chk (Z9 ((((((([]:List ByteArray):List ByteArray)++(subL out 0 ((out.takeWhile fun x=>sLt x p).length:Int))):List ByteArray)++[p]):List ByteArray).length+((subL out ((out.takeWhile fun x=>sLt x p).length:Int) (out.length:Int)):List ByteArray).length) 16)).bind fun _=>
  (some (.inl (i',((((((([]:List ByteArray):List ByteArray)++(subL out 0 ((out.takeWhile fun x=>sLt x p).length:Int))):List ByteArray)++[p]):List ByteArray)++(subL out ((out.takeWhile fun x=>sLt x p).length:Int) (out.length:Int))))):Option ((Int × List ByteArray) ⊕ List ByteArray)))
  ((getI out ((out.takeWhile fun x=>sLt x p).length:Int)).bind fun y4=>
  cond (!decide (y4=p))
  ((chk (slOk 0 ((out.takeWhile fun x=>sLt x p).length:Int) out.length)).bind fun _=>
  (chk (Z9 ((([]:List ByteArray):List ByteArray).length+((subL out 0 ((out.takeWhile fun x=>sLt x p).length:Int)):List ByteArray).length) 16)).bind fun _=>
  (chk (Z9 ((((([]:List ByteArray):List ByteArray)++(subL out 0 ((out.takeWhile fun x=>sLt x p).length:Int))):List ByteArray).length+([p]:List ByteArray).length) 16)).bind fun _=>
  (chk (slOk ((out.takeWhile fun x=>sLt x p).length:Int) (out.length:Int) out.length)).bind fun _=>
  (chk (Z9 ((((((([]:List ByteArray):List ByteArray)++(subL out 0 ((out.takeWhile fun x=>sLt x p).length:Int))):List ByteArray)++[p]):List ByteArray).length+((subL out ((out.takeWhile fun x=>sLt x p).length:Int) (out.length:Int)):List ByteArray).length) 16)).bind fun _=>
  some (.inl (i',((((((([]:List ByteArray):List ByteArray)++(subL out 0 ((out.takeWhile fun x=>sLt x p).length:Int))):List ByteArray)++[p]):List ByteArray)++(subL out ((out.takeWhile fun x=>sLt x p).length:Int) (out.length:Int))))))
  (some (.inl (i',out)))))=some (.inl (i',insS out p)):=by
 have hk:(out.takeWhile fun x=>sLt x p).length≤out.length:=(List.takeWhile_sublist _).length_le
 rw [Zrb]
 generalize hkk:(out.takeWhile fun x=>sLt x p).length=k at *
 have e1:subL out 0 (k:Int)=out.take k:=by simp [subL]
 have e2:subL out (k:Int) (out.length:Int)=out.drop k:=by
  unfold subL
  rw [Int.toNat_natCast,Int.toNat_natCast,List.take_of_length_le (by simp)]
 have c1:chk (slOk 0 (k:Int) out.length)=some ():=Zff (by unfold slOk; rw [decide_eq_true_iff]; omega)
 have c2:chk (slOk (k:Int) (out.length:Int) out.length)=some ():=Zff (by unfold slOk; rw [decide_eq_true_iff]; omega)
 have ap:∀ n:Nat,n≤8388608→chk (Z9 n 16)=some ():=fun n hn=>Zff (by unfold Z9; rw [decide_eq_true_iff]; omega)
 simp only [e1,e2,c1,c2,Option.bind_some,List.nil_append]
 rw [ap _ (by simp; omega),ap _ (by simp; omega),ap _ (by simp; omega)]
 simp only [Option.bind_some]
 by_cases hke:(k:Int)=out.length
 ·have hke':k=out.length:=by omega
  rw [decide_eq_true hke,cond_true,if_neg (by rw [hke']; simp)]
 ·rw [decide_eq_false hke,cond_false,Zx]
  have hlt:k<out.length:=by omega
  rw [List.getElem?_eq_getElem hlt]
  simp only [Option.bind_some]
  by_cases he:out[k]=p
  ·rw [decide_eq_true he,if_pos (by rw [he])]; rfl
  ·rw [decide_eq_false he,if_neg (by simpa using he)]; rfl
theorem Zmr {n:Za} {i:Nat} (h:i<n.legs.length):(ZdI n)[2*i]?=some n.legs[i].from_∧(ZdI n)[2*i+1]?=some n.legs[i].to_:=by
 unfold ZdI
 have key:∀ (l:List YLeg) (i:Nat) (h:i<l.length),(l.flatMap fun x=>[x.from_,x.to_])[2*i]?=some l[i].from_∧(l.flatMap fun x=>[x.from_,x.to_])[2*i+1]?=some l[i].to_:=by
  intro l
  induction l with
  | nil=>intro i h; simp at h
  | cons a l ih=>
   intro i h
   cases i with
   | zero=>simp [List.flatMap_cons]
   | succ i=>
    have:=ih i (by simpa using h)
    simp only [List.flatMap_cons,List.getElem_cons_succ]
    rw [show 2*(i+1)=2*i+2 by omega,show 2*i+2+1=2*i+1+2 by omega]
    simpa using this
 exact key n.legs i h
theorem ZhK (n:Za):(ZdI n).length=2*n.legs.length:=by
 unfold ZdI
 induction n.legs with
 | nil=>rfl
 | cons a l ih=>simp only [List.flatMap_cons,List.length_append,ih,List.length_cons,List.length_nil]; omega
theorem twL {out:List ByteArray} {p:ByteArray} (hl:out.length≤4194304) {body:Int→Option (Int ⊕ Int)} (hb:∀ i:Int,body i=cond (decide (i<(out.length:Int))) ((getI out i).bind fun y=>cond (sLt y p) (some (.inl (w64 (i+1)))) (some (.inr i))) (some (.inr i))):
 Zj body NN 0=some ((out.takeWhile fun x=>sLt x p).length:Int):=by
 refine Zvk (fun i hi=>?_) ?_ (by unfold NN; omega)
 ·have hw:=Z8 hi (by omega)
  have hg:getI out (i:Int)=some out[i]:=by rw [Zx]; exact List.getElem?_eq_getElem hi
  rw [hb,decide_eq_true (show (i:Int)<out.length by omega),cond_true,hg]
  simp only [Option.bind_some,hw]
  cases sLt out[i] p <;> rfl
 ·rw [hb,decide_eq_false (by omega)]; rfl
theorem Zp6 {n:Za} (h:n.legs.length≤1048576) {i:Nat} {p:ByteArray} (hp:(ZdI n)[i]?=some p) {out:List ByteArray} (ho:out.length≤4194304):
 Zbx n ((i:Int),out)=some (.inl (((i+1:Nat):Int),insS out p)):=by
 have hi:i<2*n.legs.length:=by rw [← ZhK]; exact (List.getElem?_eq_some_iff.1 hp).1
 have hw2:w64 (2*(n.legs.length:Int))=2*n.legs.length:=Zn (by omega)
 have hdiv:IntKind.i64.wrap (Int.tdiv (i:Int) 2)=((i / 2:Nat):Int):=by
  rw [show Int.tdiv (i:Int) 2=((i / 2:Nat):Int) from rfl]
  exact Zn (by omega)
 have hmod:Int.tmod (i:Int) 2=((i % 2:Nat):Int):=rfl
 have hw:w64 ((i:Int)+1)=((i+1:Nat):Int):=Z8 hi (by omega)
 have hlt:i / 2<n.legs.length:=by omega
 have hg:getI n.legs ((i / 2:Nat):Int)=some n.legs[i / 2]:=by rw [Zx]; exact List.getElem?_eq_getElem hlt
 obtain ⟨n1,n2⟩:=Zmr hlt
 unfold Zbx
 simp only [hw2,hdiv,hmod,hw,hg,Option.bind_some]
 rw [decide_eq_true (show (i:Int)<2*(n.legs.length:Int) by omega),cond_true]
 rcases Nat.mod_two_eq_zero_or_one i with hm | hm
 ·rw [hm,decide_eq_false (show ¬ ((0:Nat):Int)=1 by omega),cond_false]
  have hp':p=n.legs[i / 2].from_:=by
   rw [show i=2*(i / 2) by omega,n1] at hp
   exact (Option.some.inj hp).symm
  rw [← hp']
  rw [twL ho (body:=ZeH n ((i:Int),out) n.legs[i / 2]) (p:=p) (fun j=>by rw [hp']; rfl)]
  exact Zpg ho
 ·rw [hm,decide_eq_true (show ((1:Nat):Int)=1 by omega),cond_true]
  have hp':p=n.legs[i / 2].to_:=by
   rw [show i=2*(i / 2)+1 by omega] at hp
   rw [n2] at hp
   exact (Option.some.inj hp).symm
  rw [← hp']
  rw [twL ho (body:=ZeG n ((i:Int),out) n.legs[i / 2]) (p:=p) (fun j=>by rw [hp']; rfl)]
  exact Zpg ho
theorem Zj0 {n:Za} (h:n.legs.length≤1048576):Z0 n=some (Zf n):=by
 have key:∀ (ps:List ByteArray) (i N:Nat) (out:List ByteArray),(ZdI n).drop i=ps→i≤(ZdI n).length→ps.length<N→out.length≤i→Zj (Zbx n) N ((i:Int),out)=some (ps.foldl insS out):=by
  have hnl:=ZhK n
  intro ps
  induction ps with
  | nil=>
   intro i N out hd hi hN ho
   cases N with
   | zero=>omega
   | succ N=>
    have:i=(ZdI n).length:=by have:=congrArg List.length hd; simp at this; omega
    subst this
    have hw2:w64 (2*(n.legs.length:Int))=2*n.legs.length:=Zn (by omega)
    simp only [Zj,Zbx,hw2]
    rw [decide_eq_false (by rw [hnl]; omega)]
    rfl
  | cons p ps ih=>
   intro i N out hd hi hN ho
   cases N with
   | zero=>simp at hN
   | succ N=>
    have hp:(ZdI n)[i]?=some p:=by
     have:=congrArg (fun l=>l[0]?) hd
     simpa using this
    have hlt:=(List.getElem?_eq_some_iff.1 hp).1
    have hd':(ZdI n).drop (i+1)=ps:=by
     have:=congrArg (List.drop 1) hd
     simpa [List.drop_drop] using this
    simp only [Zj,Zp6 h hp (show out.length≤4194304 by omega)]
    exact ih (i+1) N (insS out p) hd' hlt (by simp at hN; omega) (by have:=Zla (p:=p) (xs:=out); omega)
 have hnl:=ZhK n
 unfold Z0
 rw [show ((0:Int))=((0:Nat):Int) from rfl,key (ZdI n) 0 NN [] rfl (Nat.zero_le _) (by unfold NN; omega) (by simp)]
 rfl
theorem ZdN {n:Za} (h:ZbC n):Zfs n=Z0 n∧Z0 n=some (Zf n):=⟨(ZnA h).trans (Zj0 h.legs).symm,Zj0 h.legs⟩
theorem ZdM (n:Za):(Zf n).length≤2*n.legs.length:=by
 have:=Zmf (l:=ZdI n) (acc:=[])
 rw [ZhK] at this
 simpa [Zf] using this
theorem Zre {α ο:Type} {xs:List α} {p:α→Bool} {body:Int→Option (Int ⊕ ο)} {f:Nat→ο} {e:ο} (h1:∀ i (hi:i<xs.length),body (i:Int)=some (if p xs[i]=true then .inr (f i) else .inl ((i+1:Nat):Int))) (h2:body (xs.length:Int)=some (.inr e)) (hN:xs.length<NN):
 Zj body NN 0=some ((xs.findIdx? p).elim e f):=by
 have key:∀ (ys:List α) (i N:Nat),xs.drop i=ys→i≤xs.length→ys.length<N→Zj body N (i:Int)=some ((ys.findIdx? p).elim e fun k=>f (i+k)):=by
  intro ys
  induction ys with
  | nil=>
   intro i N hd hi hN
   cases N with
   | zero=>omega
   | succ N=>
    have:i=xs.length:=by have:=congrArg List.length hd; simp at this; omega
    subst this
    simp only [Zj,h2]
    rfl
  | cons y ys ih=>
   intro i N hd hi hN
   cases N with
   | zero=>simp at hN
   | succ N=>
    have hy:xs[i]?=some y:=by
     have:=congrArg (fun l=>l[0]?) hd
     simpa using this
    have hlt:i<xs.length:=(List.getElem?_eq_some_iff.1 hy).1
    have hyv:xs[i]=y:=(List.getElem?_eq_some_iff.1 hy).2
    have hd':xs.drop (i+1)=ys:=by
     have:=congrArg (List.drop 1) hd
     simpa [List.drop_drop] using this
    simp only [Zj,h1 i hlt,hyv]
    rw [List.findIdx?_cons]
    cases hp:p y with
    | true=>simp
    | false=>
     simp only [Bool.false_eq_true,if_false]
     have:=ih (i+1) N hd' hlt (by simp at hN; omega)
     refine this.trans ?_
     cases ys.findIdx? p with
     | none=>rfl
     | some k=>simp only [Option.map_some,Option.elim_some]; congr 2; omega
 have:=key xs 0 NN rfl (Nat.zero_le _) hN
 simpa using this
def idxV (l:List ByteArray) (p:ByteArray):Int:=(l.findIdx? fun y=>decide (y=p)).elim (-1) fun k=>(k:Int)
theorem ZfS {l:List ByteArray} (h:l.length≤4194304) (p:ByteArray):ZE l p=some (idxV l p):=by
 unfold ZE
 rw [Zre (xs:=l) (p:=fun y=>decide (y=p)) (f:=fun i=>.inr (i:Int)) (e:=.inl ()) (fun i hi=>?_) (by simp [ZdX]) (by unfold NN; omega)]
 ·unfold idxV
  cases l.findIdx? fun y=>decide (y=p) <;> rfl
 ·have hw:=Z8 hi (by omega)
  have hg:getI l (i:Int)=some l[i]:=by rw [Zx]; exact List.getElem?_eq_getElem hi
  simp only [ZdX,decide_eq_true (show (i:Int)<l.length by omega),cond_true,hg,Option.bind_some,hw]
  cases decide (l[i]=p) <;> rfl
/-! Bookings: one for a thing and a trip. -/
theorem Zjc {n:Za} {l:List Zc} (h:Zet n l=true):Zm n=some true∧l.length≤120:=by
 unfold Zet at h
 simp only [Bool.and_eq_true,decide_eq_true_iff] at h
 refine ⟨?_,by omega⟩
 cases hn:Zm n with
 | none=>rw [hn] at h; cases h.1.1
 | some b=>rw [hn] at h; have:=h.1.1; simp at this; rw [this]
theorem ZsV {n:Za} {l:List Zc} (h:Zet n l=true) {i:Nat} (hi:i<l.length):bk1 n l i=true∧bk2 n l i=true:=by
 unfold Zet at h
 simp only [Bool.and_eq_true] at h
 have:=List.all_eq_true.1 h.2 i (List.mem_range.2 hi)
 simpa only [Bool.and_eq_true] using this
def Zk0 (l:List Zc) (thing:Int) (t:Zg) (wt:Int):Bool:=l.any fun y=>decide (y=(⟨thing,t,wt⟩:Zc))
theorem ZsU {l:List Zc} (h:l.length≤1048576) (thing:Int) (t:Zg) (wt:Int):Zdn l thing t wt=some (Zk0 l thing t wt):=by
 unfold Zdn
 rw [Zgt (xs:=l) (p:=fun y=>decide (y=(⟨thing,t,wt⟩:Zc))) (r:=.inr true) (e:=.inl ()) (fun i hi=>?_) (by simp [Zc9]) (by unfold NN; omega)]
 ·unfold Zk0
  cases l.any fun y=>decide (y=(⟨thing,t,wt⟩:Zc)) <;> rfl
 ·have hw:=Z8 hi (by omega)
  have hg:getI l (i:Int)=some l[i]:=by rw [Zx]; exact List.getElem?_eq_getElem hi
  simp only [Zc9,decide_eq_true (show (i:Int)<l.length by omega),cond_true,hg,Option.bind_some,hw]
  cases decide (l[i]=(⟨thing,t,wt⟩:Zc)) <;> rfl
theorem Zpi {n:Za} (h:ZbC n) {t:Zg} (ht:Zal n t=some true):∃ y,getI n.legs t.leg=some y:=by
 unfold Zal Zcl at ht
 obtain ⟨_,b,hb⟩:=Zeu h
 obtain ⟨_,b2,hb2⟩:=Zhq h t.leg t.day
 rw [hb] at ht
 simp only [Option.bind_some,hb2] at ht
 cases b with
 | false=>simp at ht
 | true=>
  simp at ht
  subst ht
  exact Zlz h hb2
theorem Zes {n:Za} {t:Zg} {y:YLeg} (h:getI n.legs t.leg=some y):∃ v,Zt n t=some v:=by
 unfold Zt; rw [h]; exact ⟨_,rfl⟩
theorem Zjy {n:Za} (h:ZbC n) (s:ZU):∃ b,Z6 n s=some b:=by
 obtain ⟨_,b,hb⟩:=Zeu h
 have hp:=(ZdN h).2
 have hpl:=ZdM n
 have hl:=h.legs
 obtain ⟨_,b2,hb2⟩:=ZhF h s.trip
 unfold Z6
 rw [hb,hp,hb2]
 simp only [Option.bind_some,Zac,ZfS (show (Zf n).length≤4194304 by omega)]
 cases b with
 | false=>exact ⟨_,rfl⟩
 | true=>
  cases decide (1≤s.thing) && decide (s.thing≤9999) <;> try exact ⟨_,rfl⟩
  cases decide (0≤s.at_) && decide (s.at_≤100000) <;> try exact ⟨_,rfl⟩
  cases decide (0≤idxV (Zf n) s.place)
  all_goals
   cases b2 with
   | false=>cases decide (s.kind=1) <;> cases decide (s.kind=3) <;> cases decide (s.kind=2) <;> cases decide (s.kind=4) <;> cases decide (s.place=⟨#[]⟩) <;> exact ⟨_,rfl⟩
   | true=>
    obtain ⟨y,hy⟩:=Zpi h hb2
    obtain ⟨v1,hv1⟩:=Zes hy
    obtain ⟨v2,hv2⟩:=Zd8 hy
    rw [hv1,hv2]
    cases decide (s.kind=1) <;> cases decide (s.kind=3) <;> cases decide (s.kind=2) <;> cases decide (s.kind=4) <;> cases decide (s.place=⟨#[]⟩) <;> exact ⟨_,rfl⟩
theorem ZkD {n:Za} (h:ZbC n) {way:List Zg} (hw:way.length≤1048576) (a b:ByteArray) (t:Int):∃ r,Zci n way a b t=some r:=by
 obtain ⟨_,b1,hb⟩:=Zeu h
 have hp:=(ZdN h).2
 have hpl:=ZdM n
 have hl:=h.legs
 have e:∃ o,Zj (ZbX n way b) NN (a,t,0)=some o:=by
  refine ZhG (fun k s=>∃ i:Nat,i+k=way.length∧s.2.2=(i:Int)) ?_ NN way.length _ ⟨0,by omega,rfl⟩ (by unfold NN; omega)
  rintro k ⟨p,r,s⟩ ⟨i,hi,hs⟩
  simp only at hs
  subst hs
  unfold ZbX
  rcases Nat.lt_or_ge i way.length with hlt | hge
  ·have hw:=Z8 hlt (by omega)
   have hg:getI way (i:Int)=some way[i]:=by rw [Zx]; exact List.getElem?_eq_getElem hlt
   obtain ⟨_,c,hc⟩:=ZhF h way[i]
   simp only [decide_eq_true (show (i:Int)<way.length by omega),cond_true,hg,Option.bind_some,hc,hw]
   cases c with
   | false=>exact ⟨_,rfl,fun s' e=>by cases e⟩
   | true=>
    obtain ⟨y,hy⟩:=Zpi h hc
    obtain ⟨v1,hv1⟩:=Zes hy
    obtain ⟨v2,hv2⟩:=Zd8 hy
    simp only [hy,hv1,hv2,Option.bind_some,Bool.not_true,cond_false]
    cases decide (y.from_=p) with
    | false=>exact ⟨_,rfl,fun s' e=>by cases e⟩
    | true=>
     simp only [Bool.not_true,cond_false]
     cases decide (v1<r) with
     | true=>exact ⟨_,rfl,fun s' e=>by cases e⟩
     | false=>exact ⟨_,rfl,fun s' e=>by cases e; exact ⟨k-1,by omega,i+1,by omega,rfl⟩⟩
  ·simp only [decide_eq_false (show ¬ (i:Int)<way.length by omega),cond_false]
   exact ⟨_,rfl,fun s' e=>by cases e⟩
 obtain ⟨o,ho⟩:=e
 unfold Zci
 rw [hp,hb]
 simp only [Option.bind_some,ZfS (show (Zf n).length≤4194304 by omega),ho]
 cases b1 with
 | false=>exact ⟨_,rfl⟩
 | true=>cases decide (idxV (Zf n) a<0) <;> cases decide (idxV (Zf n) b<0) <;> cases o <;> exact ⟨_,rfl⟩
theorem Zfg:∀ p∈Zhi,Zy p=some true∧p.size=3:=fun p hp=>by
 unfold Zhi at hp
 simp only [List.mem_cons,List.not_mem_nil,or_false] at hp
 rcases hp with rfl | rfl | rfl | rfl | rfl | rfl | rfl <;> exact ⟨by decide +kernel,by decide +kernel⟩
end Go.Proofs.YtkfbakhnpfmfmaaGreatDoor
namespace Go.Proofs.YtkfbakhnpfmfmaaGreatDoor
set_option maxRecDepth 10000
open Go.RowKit Go.Sort
set_option linter.unusedVariables false
set_option linter.unusedSimpArgs false
set_option maxHeartbeats 1000000
theorem ZaY (a b:List UInt8):txt a++txt b=txt (a++b):=by
 apply ByteArray.ext
 rw [ByteArray.data_append]
 simp [txt]
theorem Zj2 {a b:ByteArray} (h:a.size+b.size≤B60):ZaK a b=true:=by
 unfold ZaK
 unfold B60 at h
 exact decide_eq_true (by omega)
theorem Zr1 (k:Nat) (l:List UInt8):(48:UInt8)::(List.replicate k 48++l)=List.replicate (k+1) 48++l:=by rw [List.replicate_succ]; rfl
theorem Zak {n:Int} (h:in64 n):(Lib.itoa n).length≤21:=Lib.itoa_length_le n h.1 h.2
theorem Zhp {n:Int} {d:Nat} (h:in64 n) (hd:d≤20):ZcR n (d:Int)=some (txt (padL n d)):=by
 have hl:=Zak h
 unfold ZcR
 have hF:Zs n=some (txt (Lib.itoa n)):=by unfold Zs; rw [if_pos h]
 rw [hF,Option.bind_some]
 have key:∀ (k N c:Nat),k=d-((Lib.itoa n).length+c)→k<N→Zj (Zco (d:Int)) N (txt (List.replicate c 48++Lib.itoa n))=some (txt (List.replicate (c+k) 48++Lib.itoa n)):=by
  intro k
  induction k with
  | zero=>
   intro N c hk hN
   cases N with
   | zero=>omega
   | succ N=>
    simp only [Zj,Zco,Zo,List.length_append,List.length_replicate]
    rw [decide_eq_false (by omega)]
    rfl
  | succ k ih=>
   intro N c hk hN
   cases N with
   | zero=>omega
   | succ N=>
    have e1:(⟨#[48]⟩:ByteArray)++txt (List.replicate c 48++Lib.itoa n)=txt (List.replicate (c+1) 48++Lib.itoa n):=by
     rw [← Zr1]; exact ZaY [48] _
    simp only [Zj,Zco]
    rw [e1,Zj2 (by rw [Zo]; simp [ByteArray.size]; unfold B60; omega),Zo]
    rw [decide_eq_true (by simp; omega)]
    have:=ih N (c+1) (by omega) (by omega)
    rw [show c+1+k=c+(k+1) by omega] at this
    exact this
 have:=key (d-(Lib.itoa n).length) NN 0 (by omega) (by unfold NN; omega)
 simp only [List.replicate_zero,List.nil_append,Nat.zero_add] at this
 rw [this]
 rfl
theorem ZjM {n:Int} {d:Nat} (h:in64 n) (hd:d≤20):Zc4 n (d:Int)=some (txt (padL n d)):=by
 unfold Zc4
 rw [if_pos ⟨h,by omega,by omega⟩]
 rfl
theorem ZhO {n:Int} {d:Nat} (h:in64 n) (hd:d≤20):(padL n d).length≤21:=by
 have:=Zak h
 unfold padL
 simp
 omega
theorem Zhc {y:Int} (h:0≤y∧y≤255):IntKind.i64.wrap y=y:=Zn ⟨by omega,by omega⟩
theorem Ztn:@Ze2=@Zcj:=by
 have e:@ZeB=@Zag:=by
  funext s s0
  unfold ZeB Zag
  cases hd:decide (s0.2<(s.size:Int))
  ·rfl
  simp only [cond_true]
  cases hy:getB s s0.2 with
  | none=>rfl
  | some y=>
   have hw:=Zk7 hy
   simp only [Option.bind_some,Zhc hw,Zac]
   by_cases h1:y<48
   ·rw [decide_eq_true h1,decide_eq_false (show ¬ 48≤y by omega)]; rfl
   ·rw [decide_eq_false h1,decide_eq_true (show 48≤y by omega)]
    by_cases h2:57<y
    ·rw [decide_eq_true h2,decide_eq_false (show ¬ y≤57 by omega)]; rfl
    ·rw [decide_eq_false h2,decide_eq_true (show y≤57 by omega)]; rfl
 funext s
 unfold Ze2 Zcj
 rw [e]
theorem Zmo {s:ByteArray} (h:s.size<NN):∃ m,Zcj s=some m:=by
 have ht:∃ o,Zj (Zag s) NN (0,0)=some o:=by
  refine ZhG (fun k s0=>∃ i:Nat,i+k=s.size∧s0.2=(i:Int)) ?_ NN s.size (0,0) ⟨0,by omega,rfl⟩ h
  rintro k ⟨m,x⟩ ⟨i,hi,hx⟩
  simp only at hx
  subst hx
  unfold Zag
  by_cases hlt:i<s.size
  ·obtain ⟨y,hy⟩:=Zjr hlt
   have hw:=Zk7 hy
   simp only [hy,Option.bind_some,Zhc hw,Zac,decide_eq_true (show (i:Int)<(s.size:Int) by omega),cond_true]
   cases (decide (48≤y) && decide (y≤57))
   ·exact ⟨_,rfl,fun s' e=>by cases e⟩
   ·refine ⟨_,rfl,fun s' e=>?_⟩
    cases e
    exact ⟨k-1,by omega,i+1,by omega,Z8 hlt (by unfold NN at h; omega)⟩
  ·simp only [decide_eq_false (show ¬ (i:Int)<(s.size:Int) by omega),cond_false]
   exact ⟨_,rfl,fun s' e=>by cases e⟩
 obtain ⟨o,ho⟩:=ht
 unfold Zcj
 rw [ho]
 cases o with
 | inl a=>simp only [Option.bind_some,Zu]; cases decide (s=⟨#[]⟩) <;> exact ⟨_,rfl⟩
 | inr r=>exact ⟨_,rfl⟩
theorem ZgO {l:List UInt8} {i:Nat} {c:UInt8} (h:l[i]?=some c):getB (txt l) (i:Int)=some (c.toNat:Int):=by
 have hlt:=(List.getElem?_eq_some_iff.1 h).1
 unfold getB
 rw [if_pos ⟨by omega,by rw [Zo]; omega⟩]
 unfold Zfm
 have hb:(txt l)[i]?=some c:=by
  have hs:i<(txt l).size:=by rw [Zo]; exact hlt
  rw [getElem?_pos (txt l) i hs,← ZsB l i hs,h]
 rw [Int.toNat_natCast,hb]
 rfl
theorem ZtU {l:List UInt8} {i:Nat} {c:UInt8} (h:l[i]?=some c):subS (txt l) (i:Int) ((i+1:Nat):Int)=txt [c]:=by
 unfold subS
 apply ByteArray.ext
 rw [ByteArray.data_extract]
 simp only [txt,Int.toNat_natCast]
 apply Array.toList_inj.1
 rw [Array.toList_extract]
 simp only [List.extract_eq_take_drop]
 have hlt:=(List.getElem?_eq_some_iff.1 h).1
 rw [show i+1-i=1 by omega]
 apply List.ext_getElem?
 intro n
 rw [List.getElem?_take]
 cases n with
 | zero=>simp [h]
 | succ n=>simp
theorem Zjk {l:List UInt8} (hl:l.length≤100000):ZeC (txt l)=some (txt ((dgts l).getD []),(dgts l).isSome):=by
 have key:∀ (k N i:Nat) (acc:List UInt8),i+k=l.length→k<N→dgts (l.take i)=some acc→acc.length≤21*i→
  Zj (Zdi (txt l)) N (txt acc,(i:Int))=some (match dgts l with | some a=>.inl (txt a) | none=>.inr (⟨#[]⟩,false)):=by
  intro k
  induction k with
  | zero=>
   intro N i acc hi hN ha hal
   cases N with
   | zero=>omega
   | succ N=>
    obtain rfl:i=l.length:=by omega
    rw [List.take_length] at ha
    simp only [Zj,Zdi,Zo]
    rw [decide_eq_false (by omega),ha]
    rfl
  | succ k ih=>
   intro N i acc hi hN ha hal
   cases N with
   | zero=>omega
   | succ N=>
    have hlt:i<l.length:=by omega
    obtain ⟨c,hc⟩:∃ c,l[i]?=some c:=⟨_,List.getElem?_eq_getElem hlt⟩
    have hcl:=c.toNat_lt
    have htk:dgts (l.take (i+1))=match some acc,dgt c with
     | some a,some b=>some (a++b)
     | _,_=>none:=by
     rw [List.take_add_one,hc,show (some c).toList=[c] from rfl,Zmc,ha] <;> rfl
    have hw:IntKind.i64.wrap (c.toNat:Int)=(c.toNat:Int):=Zhc ⟨by omega,by omega⟩
    have h1:w64 ((i:Int)+1)=((i+1:Nat):Int):=Z8 hlt (by omega)
    simp only [Zj,Zdi,jn,Zo,ZgO hc,hw,Zac,h1,ZtU hc,Option.bind_some]
    rw [decide_eq_true (show (i:Int)<(l.length:Int) by omega)]
    by_cases hd1:48≤c.toNat∧c.toNat≤57
    ·have hd:dgt c=some [c]:=by unfold dgt; rw [if_pos hd1]
     rw [hd] at htk
     rw [decide_eq_true (show (48:Int)≤(c.toNat:Int) by omega),decide_eq_true (show (c.toNat:Int)≤57 by omega),Zj2 (by rw [Zo,Zo]; simp; unfold B60; omega),Zff (show slOk (i:Int) ((i+1:Nat):Int) l.length=true by unfold slOk; exact decide_eq_true (by omega)),ZaY]
     exact ih N (i+1) (acc++[c]) (by omega) (by omega) htk (by simp; omega)
    ·by_cases hd2:65≤c.toNat∧c.toNat≤90
     ·have hd:dgt c=some (Lib.itoa ((c.toNat-55:Nat):Int)):=by unfold dgt; rw [if_neg hd1,if_pos hd2]
      have hdl:=Znq hd
      rw [hd] at htk
      have e1:(decide ((48:Int)≤(c.toNat:Int)) && decide ((c.toNat:Int)≤57))=false:=by
       rw [decide_eq_false (show ¬ (c.toNat:Int)≤57 by omega),Bool.and_false]
      have e2:w64 (w64 ((c.toNat:Int)-65)+10)=((c.toNat-55:Nat):Int):=by
       rw [Zn (n:=(c.toNat:Int)-65) ⟨by omega,by omega⟩,Zn (n:=(c.toNat:Int)-65+10) ⟨by omega,by omega⟩]; omega
      have e3:Zs ((c.toNat-55:Nat):Int)=some (txt (Lib.itoa ((c.toNat-55:Nat):Int))):=by
       unfold Zs; rw [if_pos ⟨by omega,by omega⟩]
      rw [e1,decide_eq_true (show (65:Int)≤(c.toNat:Int) by omega),decide_eq_true (show (c.toNat:Int)≤90 by omega),e2,e3]
      simp only [Bool.and_true,cond_false,cond_true,Option.bind_some]
      rw [Zj2 (by rw [Zo,Zo]; unfold B60; omega),ZaY]
      exact ih N (i+1) _ (by omega) (by omega) htk (by simp; omega)
     ·have hd:dgt c=none:=by unfold dgt; rw [if_neg hd1,if_neg hd2]
      have hn:=Zmb hc hd
      have e1:(decide ((48:Int)≤(c.toNat:Int)) && decide ((c.toNat:Int)≤57))=false:=by
       by_cases h:48≤c.toNat
       ·rw [decide_eq_false (show ¬ (c.toNat:Int)≤57 by omega),Bool.and_false]
       ·rw [decide_eq_false (show ¬ (48:Int)≤(c.toNat:Int) by omega),Bool.false_and]
      have e2:(decide ((65:Int)≤(c.toNat:Int)) && decide ((c.toNat:Int)≤90))=false:=by
       by_cases h:65≤c.toNat
       ·rw [decide_eq_false (show ¬ (c.toNat:Int)≤90 by omega),Bool.and_false]
       ·rw [decide_eq_false (show ¬ (65:Int)≤(c.toNat:Int) by omega),Bool.false_and]
      rw [e1,e2,hn]
      rfl
 have:=key l.length NN 0 [] (by omega) (by unfold NN; omega) (by simp [dgts]) (by simp)
 unfold ZeC
 rw [show (⟨#[]⟩:ByteArray)=txt [] from rfl,show (0:Int)=((0:Nat):Int) from rfl,this]
 cases dgts l <;> rfl
theorem ZqQ {l:List UInt8} (hl:l.length≤100000):ZdQ (txt l)=some (txt ((dgts l).getD []),(dgts l).isSome):=by
 unfold ZdQ
 rw [if_pos (by rw [Zo]; omega)]
 rfl
end Go.Proofs.YtkfbakhnpfmfmaaGreatDoor
namespace Go.Proofs.YtkfbakhnpfmfmaaGreatDoor
set_option maxRecDepth 10000
open Go.RowKit
set_option linter.unusedVariables false
set_option linter.unusedSimpArgs false
theorem ZlJ {a b c:List UInt8} {i j:Nat} (hi:a.length=i) (hj:j=i+b.length):subS (txt (a++b++c)) (i:Int) (j:Int)=txt b:=by
 subst hi hj
 unfold subS
 apply ByteArray.ext
 rw [ByteArray.data_extract]
 simp only [txt,Int.toNat_natCast]
 apply Array.toList_inj.1
 rw [Array.toList_extract]
 simp [List.extract_eq_take_drop]
theorem ZnF {c:UInt8} (L:List UInt8) (hL:L.length≤100000000):∀ (rest pre cur:List UInt8) (O:List ByteArray) (N:Nat),L=pre++cur++rest→c ∉ cur→O.length≤pre.length→rest.length<N→
 ∃ f O',Zj (Zbc (txt L) (c.toNat:Int)) N ((pre.length:Int),((pre.length+cur.length:Nat):Int),O)=some (((f:Nat):Int),O')∧f≤L.length∧O'.length≤L.length∧O'++[txt (L.drop f)]=O++(Zdo c (cur++rest)).map txt
 | [],pre,cur,O,0,h,hc,hO,hN=>by simp at hN
 | [],pre,cur,O,N+1,h,hc,hO,hN=>by
  have hs:(txt L).size=pre.length+cur.length:=by rw [Zo,h]; simp
  refine ⟨pre.length,O,?_,by rw [h]; simp,by rw [h]; simp; omega,?_⟩
  ·unfold Zj Zbc
   have d:decide (((pre.length+cur.length:Nat):Int)<((txt L).size:Int))=false:=decide_eq_false (by rw [hs]; omega)
   simp only [d,cond_false,Option.bind_some,Zu]
  ·rw [List.append_nil,ZbZ hc,h]; simp
 | x::rest,pre,cur,O,0,h,hc,hO,hN=>by simp at hN
 | x::rest,pre,cur,O,N+1,h,hc,hO,hN=>by
  have hl:L.length=pre.length+cur.length+(rest.length+1):=by rw [h]; simp; omega
  have hs:(txt L).size=L.length:=Zo L
  have hx:L[pre.length+cur.length]?=some x:=by rw [h,← List.length_append]; simp
  have d:decide (((pre.length+cur.length:Nat):Int)<((txt L).size:Int))=true:=decide_eq_true (by rw [hs,hl]; omega)
  have hg:=ZgO hx
  have hw:w64 (((pre.length+cur.length:Nat):Int)+1)=((pre.length+cur.length+1:Nat):Int):=by rw [Zn (by omega)]; omega
  have hlen:N > rest.length:=by simp at hN; omega
  by_cases hxc:x=c
  ·subst hxc
   have e1:decide ((x.toNat:Int)=(x.toNat:Int))=true:=decide_eq_true rfl
   have hsub:subS (txt L) (pre.length:Int) ((pre.length+cur.length:Nat):Int)=txt cur:=by rw [h]; exact ZlJ rfl rfl
   have hsl:slOk (pre.length:Int) ((pre.length+cur.length:Nat):Int) ((txt L).size:Int)=true:=decide_eq_true ⟨by omega,by omega,by rw [hs,hl]; omega⟩
   have hap:Z9 (O.length+[txt cur].length) 16=true:=decide_eq_true ⟨by simp; omega,by simp; omega⟩
   obtain ⟨f,O',i1,i2,i3,i4⟩:=ZnF (c:=x) L hL rest (pre++cur++[x]) [] (O++[txt cur]) N (by rw [h]; simp) (by simp) (by simp; omega) hlen
   refine ⟨f,O',?_,i2,i3,?_⟩
   ·have e2:(pre++cur++[x]).length=pre.length+cur.length+1:=by simp; omega
    rw [e2] at i1
    rw [← i1]
    conv=>lhs; unfold Zj
    unfold Zbc jn
    simp only [d,cond_true,hg,Option.bind_some,e1,decide_true,hsl,hsub,hap,Zff,Zu,hw,List.length_nil,Nat.add_zero]
   ·rw [i4,Za0 hc]; simp
  ·have hxn:¬ (x.toNat:Int)=(c.toNat:Int):=fun e=>hxc (UInt8.toNat_inj.1 (by omega))
   have e1:decide ((x.toNat:Int)=(c.toNat:Int))=false:=decide_eq_false hxn
   obtain ⟨f,O',i1,i2,i3,i4⟩:=ZnF (c:=c) L hL rest pre (cur++[x]) O N (by rw [h]; simp) (by simp [hc,Ne.symm hxc]) hO hlen
   refine ⟨f,O',?_,i2,i3,?_⟩
   ·have e2:pre.length+(cur++[x]).length=pre.length+cur.length+1:=by simp; omega
    rw [e2] at i1
    rw [← i1]
    conv=>lhs; unfold Zj
    unfold Zbc jn
    simp only [d,cond_true,cond_false,hg,Option.bind_some,e1,Zu,hw]
   ·rw [i4]; simp
theorem ZdP {c:UInt8} {L:List UInt8} (hL:L.length≤100000000):ZX (txt L) (c.toNat:Int)=some ((Zdo c L).map txt):=by
 obtain ⟨f,O',i1,i2,i3,i4⟩:=ZnF (c:=c) L hL L [] [] [] NN (by simp) (by simp) (by simp) (by unfold NN; omega)
 unfold ZX
 have hs:(txt L).size=L.length:=Zo L
 have hsub:subS (txt L) (f:Int) ((txt L).size:Int)=txt (L.drop f):=by
  rw [hs]
  have:=ZlJ (a:=L.take f) (b:=L.drop f) (c:=[]) (i:=f) (j:=L.length) (by simp; omega) (by simp; omega)
  rwa [List.append_nil,List.take_append_drop] at this
 have hsl:slOk (f:Int) ((txt L).size:Int) ((txt L).size:Int)=true:=decide_eq_true ⟨by omega,by rw [hs]; omega,by omega⟩
 have hap:Z9 (O'.length+[txt (L.drop f)].length) 16=true:=decide_eq_true ⟨by simp; omega,by simp; omega⟩
 have i1':Zj (Zbc (txt L) (c.toNat:Int)) NN (0,0,([]:List ByteArray))=some ((f:Int),O'):=i1
 rw [i1']
 simp only [Option.bind_some,hsl,hsub,hap,Zff]
 rw [i4]
 rfl
end Go.Proofs.YtkfbakhnpfmfmaaGreatDoor
namespace Go.Proofs.YtkfbakhnpfmfmaaGreatDoor
set_option maxRecDepth 10000
open Go.RowKit Go.Sort
set_option linter.unusedVariables false
set_option linter.unusedSimpArgs false
set_option maxHeartbeats 1000000
def isDL (c:UInt8):Prop:=(48≤c.toNat∧c.toNat≤57)∨(65≤c.toNat∧c.toNat≤90)
theorem Zs1 {c:UInt8} (h:isDL c):∃ a,dgt c=some a:=by
 unfold dgt
 by_cases h1:48≤c.toNat∧c.toNat≤57
 ·exact ⟨_,if_pos h1⟩
 ·rw [if_neg h1]
  rcases h with h | h
  ·exact absurd h h1
  ·exact ⟨_,if_pos h⟩
theorem Zjj:∀ {l:List UInt8},(∀ c∈l,isDL c)→∃ a,dgts l=some a∧a.length≤21*l.length
 | [],_=>⟨[],rfl,by simp⟩
 | c::cs,h=>by
  obtain ⟨a,ha⟩:=Zs1 (h c (by simp))
  obtain ⟨b,hb,hbl⟩:=Zjj (l:=cs) fun x hx=>h x (by simp [hx])
  have:=Znq ha
  exact ⟨a++b,by simp only [dgts,ha,hb],by simp; omega⟩
theorem ZoE {l m a b:List UInt8} (h1:dgts l=some a) (h2:dgts m=some b):dgts (l++m)=some (a++b):=by
 induction l generalizing a with
 | nil=>simp [dgts] at h1; subst h1; simpa using h2
 | cons c l ih=>
  simp only [dgts] at h1
  cases hc:dgt c with
  | none=>rw [hc] at h1; cases h1
  | some x=>
   cases hl:dgts l with
   | none=>rw [hc,hl] at h1; cases h1
   | some y=>
    rw [hc,hl] at h1
    cases h1
    simp only [List.cons_append,dgts,hc,ih hl,List.append_assoc]
theorem Zu4:∀ (k u:Nat),u≤k→∀ c∈Lib.decDigits u,isDL c:=by
 intro k
 induction k with
 | zero=>
  intro u hu c hc
  obtain rfl:u=0:=by omega
  rw [Lib.decDigits,dif_pos (by omega)] at hc
  simp at hc
  subst hc
  left; decide
 | succ k ih=>
  intro u hu c hc
  rw [Lib.decDigits] at hc
  by_cases h10:u<10
  ·rw [dif_pos h10] at hc
   obtain rfl:=List.mem_singleton.1 hc
   left
   rw [UInt8.toNat_ofNat']
   omega
  ·rw [dif_neg h10] at hc
   rcases List.mem_append.1 hc with h | h
   ·exact ih _ (by omega) c h
   ·obtain rfl:=List.mem_singleton.1 h
    left
    rw [UInt8.toNat_ofNat']
    omega
theorem ZoW {n:Int} (h:0≤n):∀ c∈Lib.itoa n,isDL c:=by
 unfold Lib.itoa
 rw [if_neg (by omega)]
 exact Zu4 _ _ (Nat.le_refl _)
theorem Zo0 {n:Int} {d:Nat} (h:0≤n):∀ c∈padL n d,isDL c:=by
 intro c hc
 rcases List.mem_append.1 hc with h1 | h1
 ·rw [List.eq_of_mem_replicate h1]; left; decide
 ·exact ZoW h c h1
theorem ZjQ {l:List UInt8} {i:Nat} {c:UInt8} (h:l[i]?=some c) (hi:i<3):ZbM (txt l) (i:Int)=some (if 65≤c.toNat∧c.toNat≤90 then .inl ((i+1:Nat):Int) else .inr (.inr false)):=by
 have hcl:=c.toNat_lt
 unfold ZbM
 rw [decide_eq_true (show (i:Int)<3 by omega),ZgO h]
 simp only [cond_true,Option.bind_some,Zhc (y:=(c.toNat:Int)) ⟨by omega,by omega⟩,Zac,Z8 (n:=3) hi (by omega)]
 by_cases h1:65≤c.toNat∧c.toNat≤90
 ·rw [if_pos h1,decide_eq_true (show (65:Int)≤c.toNat by omega),decide_eq_true (show (c.toNat:Int)≤90 by omega)]; rfl
 ·rw [if_neg h1]
  have e:(decide ((65:Int)≤c.toNat) && decide ((c.toNat:Int)≤90))=false:=by
   by_cases h:65≤c.toNat
   ·rw [decide_eq_false (show ¬ (c.toNat:Int)≤90 by omega),Bool.and_false]
   ·rw [decide_eq_false (show ¬ (65:Int)≤(c.toNat:Int) by omega),Bool.false_and]
  rw [e]; rfl
theorem Zge (s:ByteArray):txt s.data.toList=s:=ByteArray.ext (by simp [txt])
theorem Zo5 {s:ByteArray} (h:Zy s=some true):s.size=3∧∀ c∈s.data.toList,isDL c:=by
 by_cases h3:s.size=3
 ·refine ⟨h3,?_⟩
  have hl:s.data.toList.length=3:=by rw [Array.length_toList]; exact h3
  obtain ⟨n,hn⟩:∃ n,NN=n+1+1+1:=⟨NN-3,by unfold NN; omega⟩
  unfold Zy at h
  rw [h3,hn,← Zge s] at h
  revert h hl
  generalize s.data.toList=l
  intro hl h
  match l,hl with
  | [a,b,c],_=>
   have ea:=ZjQ (l:=[a,b,c]) (i:=0) rfl (by omega)
   have eb:=ZjQ (l:=[a,b,c]) (i:=1) rfl (by omega)
   have ec:=ZjQ (l:=[a,b,c]) (i:=2) rfl (by omega)
   by_cases ha:65≤a.toNat∧a.toNat≤90
   ·rw [if_pos ha] at ea
    by_cases hb:65≤b.toNat∧b.toNat≤90
    ·rw [if_pos hb] at eb
     by_cases hc:65≤c.toNat∧c.toNat≤90
     ·intro x hx
      simp at hx
      rcases hx with rfl | rfl | rfl
      ·exact .inr ha
      ·exact .inr hb
      ·exact .inr hc
     ·rw [if_neg hc] at ec
      have e:=(itl (n:=n+1+1) ea).trans ((itl (n:=n+1) eb).trans (itr (n:=n) ec))
      rw [show ((0:Nat):Int)=0 from rfl] at e
      rw [e] at h
      cases h
    ·rw [if_neg hb] at eb
     have e:=(itl (n:=n+1+1) ea).trans (itr (n:=n+1) eb)
     rw [show ((0:Nat):Int)=0 from rfl] at e
     rw [e] at h
     cases h
   ·rw [if_neg ha] at ea
    have e:=itr (n:=n+1+1) ea
    rw [show ((0:Nat):Int)=0 from rfl] at e
    rw [e] at h
    cases h
 ·unfold Zy at h
  rw [decide_eq_false (by omega)] at h
  cases h
def Zg0 (l:Zw):List UInt8:=Lib.itoa l.service++padL l.serial 9++l.to_.data.toList
theorem Ze1 {l:Zw} (h:ZJ l=some true):l.to_.size=3∧∀ c∈Zg0 l,isDL c:=by
 unfold ZJ at h
 rw [Zac,Zac] at h
 simp only [Option.bind_some] at h
 cases h1:(decide (1≤l.service) && decide (l.service≤3)) with
 | false=>rw [h1] at h; cases h
 | true=>
  cases h2:(decide (0≤l.serial) && decide (l.serial≤999999999)) with
  | false=>rw [h1,h2] at h; cases h
  | true=>
   rw [h1,h2] at h
   have h3:Zy l.to_=some true:=by
    cases hp:Zy l.to_ with
    | none=>rw [hp] at h; cases h
    | some b=>rw [hp] at h; exact h
   obtain ⟨hs,hp⟩:=Zo5 h3
   simp only [Bool.and_eq_true,decide_eq_true_eq] at h1 h2
   refine ⟨hs,fun c hc=>?_⟩
   rcases List.mem_append.1 hc with hc | hc
   ·rcases List.mem_append.1 hc with hc | hc
    ·exact ZoW (by omega) c hc
    ·exact Zo0 (by omega) c hc
   ·exact hp c hc
theorem Zgl {l:Zw} (h1:in64 l.service) (h2:in64 l.serial) (h3:l.to_.size≤3):(Zg0 l).length≤45:=by
 have a:=Zak h1
 have b:=ZhO (d:=9) h2 (by omega)
 have c:l.to_.data.toList.length=l.to_.size:=by rw [Array.length_toList]; rfl
 unfold Zg0
 simp only [List.length_append]
 omega
theorem fI {n:Int} (h:in64 n):ZI n=some (txt (Lib.itoa n)):=by unfold ZI; rw [if_pos h]
theorem fS {n:Int} (h:in64 n):Zs n=some (txt (Lib.itoa n)):=by unfold Zs; rw [if_pos h]
theorem sOk {a b:ByteArray} (ha:a.size≤100000) (hb:b.size≤100000):chk (ZaK a b)=some ():=Zff (Zj2 (by unfold B60; omega))
theorem Zhy {l:Zw} (h1:in64 l.service) (h2:in64 l.serial) (h3:l.to_.size≤3):ZdR l=some (txt (Zg0 l))∧ZdV l=some (txt (Zg0 l)):=by
 have a:=Zak h1
 have b:=ZhO (d:=9) h2 (by omega)
 have e:(txt (Lib.itoa l.service)++txt (padL l.serial 9))++l.to_=txt (Zg0 l):=by
  rw [← Zge l.to_,ZaY,ZaY]; rfl
 have c1:chk (ZaK (txt (Lib.itoa l.service)) (txt (padL l.serial 9)))=some ():=sOk (by rw [Zo]; omega) (by rw [Zo]; omega)
 have c2:chk (ZaK (txt (Lib.itoa l.service)++txt (padL l.serial 9)) l.to_)=some ():=sOk (by rw [ZaY,Zo,List.length_append]; omega) (by omega)
 have p1:=ZjM (d:=9) h2 (by omega)
 have p2:=Zhp (d:=9) h2 (by omega)
 rw [show ((9:Nat):Int)=9 from rfl] at p1 p2
 refine ⟨?_,?_⟩
 ·unfold ZdR
  simp only [fI h1,p1,Option.bind_some,c1,c2,e]
 ·unfold ZdV
  simp only [fS h1,p2,Option.bind_some,c1,c2,e]
theorem Zvz {n:Int} (h:ZxF n):in64 n:=bounds_i64 h
theorem Zpl (n:Int):in64 (w64 n):=Zvz (wf_wrap .i64 n)
theorem Zkt {l:Zw} (h1:in64 l.service) (h2:in64 l.serial) (h:ZJ l=some true) (hi:Zbe l=some true):∃ n,in64 n∧Zd9 l=some n∧Zcs l=some n:=by
 obtain ⟨hs,hd⟩:=Ze1 h
 obtain ⟨b1,b2⟩:=Zhy h1 h2 (by omega)
 have hl:=Zgl h1 h2 (by omega)
 obtain ⟨a,ha,hal⟩:=Zjj hd
 have h00:dgts [48,48]=some [48,48]:=rfl
 have happ:=ZoE ha h00
 have e48:(⟨#[48,48]⟩:ByteArray)=txt [48,48]:=rfl
 have c1:chk (ZaK (txt a) (txt [48,48]))=some ():=sOk (by rw [Zo]; omega) (by rw [Zo]; simp)
 have c2:chk (ZaK (txt (Zg0 l)) (txt [48,48]))=some ():=sOk (by rw [Zo]; omega) (by rw [Zo]; simp)
 obtain ⟨m,hm⟩:=Zmo (s:=txt (a++[48,48])) (by rw [Zo,List.length_append]; unfold NN; simp; omega)
 refine ⟨w64 (98-m),Zpl _,?_,?_⟩
 ·unfold Zd9
  have d1:=ZqQ (l:=Zg0 l) (by omega)
  rw [ha] at d1
  simp only [Option.getD_some,Option.isSome_some] at d1
  simp only [hi,b1,d1,Option.bind_some,Bool.not_true,cond_false,e48,c1,ZaY,Ztn,hm]
 ·unfold Zcs
  have d1:=Zjk (l:=Zg0 l++[48,48]) (by rw [List.length_append]; simp; omega)
  rw [happ] at d1
  simp only [Option.getD_some,Option.isSome_some] at d1
  simp only [h,b2,d1,Option.bind_some,Bool.not_true,cond_false,e48,c2,ZaY,hm]
theorem ZkF {l:Zw} (h1:in64 l.service) (h2:in64 l.serial) (h3:l.to_.size≤B60):∃ b:List UInt8,b.length≤100∧ZM l=some (txt b)∧Z5 l=some (txt b):=by
 obtain ⟨e,v,hv⟩:=ZhH h3
 have hi:Zbe l=some v:=e.trans hv
 cases v with
 | false=>
  refine ⟨[],by simp,?_,?_⟩
  ·unfold ZM; simp only [hi,Option.bind_some,Bool.not_false,cond_true]; rfl
  ·unfold Z5; simp only [hv,Option.bind_some,Bool.not_false,cond_true]; rfl
 | true=>
  obtain ⟨hs,hd⟩:=Ze1 hv
  obtain ⟨b1,b2⟩:=Zhy h1 h2 (by omega)
  have hl:=Zgl h1 h2 (by omega)
  obtain ⟨n,hn,c1,c2⟩:=Zkt h1 h2 hv hi
  have p1:=ZjM (d:=2) hn (by omega)
  have p2:=Zhp (d:=2) hn (by omega)
  have pl:=ZhO (d:=2) hn (by omega)
  rw [show ((2:Nat):Int)=2 from rfl] at p1 p2
  have c3:chk (ZaK (txt (Zg0 l)) (txt (padL n 2)))=some ():=sOk (by rw [Zo]; omega) (by rw [Zo]; omega)
  refine ⟨Zg0 l++padL n 2,by rw [List.length_append]; omega,?_,?_⟩
  ·unfold ZM; simp only [hi,b1,c1,p1,c3,Option.bind_some,Bool.not_true,cond_false,ZaY]
  ·unfold Z5; simp only [hv,b2,c2,p2,c3,Option.bind_some,Bool.not_true,cond_false,ZaY]
end Go.Proofs.YtkfbakhnpfmfmaaGreatDoor
namespace Go.Proofs.YtkfbakhnpfmfmaaGreatDoor
set_option maxRecDepth 10000
open Go.RowKit
set_option linter.unusedVariables false
set_option linter.unusedSimpArgs false
theorem ZsC {y:Int} (h:0≤y∧y≤255):IntKind.u8.wrap y=y:=by
 simp only [IntKind.wrap,IntKind.bits,IntKind.signed,Bool.false_and,Bool.false_eq_true,if_false]
 omega
theorem Zlm:∀ (l:List UInt8) (acc u:Nat),Lib.parseUint10 acc l=.ok u→acc≤u
 | [],acc,u,h=>by
  simp only [Lib.parseUint10] at h
  injection h with h; omega
 | c::r,acc,u,h=>by
  simp only [Lib.parseUint10] at h
  split at h
  ·split at h
   ·cases h
   ·split at h
    ·cases h
    ·have:=Zlm r _ u h; omega
  ·cases h
theorem Zno:∀ (k u:Nat),u<10 ^ (k+1)→(Lib.decDigits u).length≤k+1
 | k,u,h=>by
  rw [Lib.decDigits]
  split
  ·simp
  ·rename_i hu
   match k,h with
   | 0,h=>omega
   | k+1,h=>
    have:=Zno k (u / 10) (by rw [Nat.pow_succ] at h; omega)
    simp; omega
theorem ZmG {L:List UInt8} (hL:L.length≤10) {u:Nat} (hu:u≤1000000000):∀ (rest pre:List UInt8) (acc N:Nat),L=pre++rest→Lib.parseUint10 acc rest=.ok u→rest.length<N→
 Zj (ZH (txt L)) N ((acc:Int),(pre.length:Int))=some (.inl (u:Int))
 | [],pre,acc,0,h,hp,hN=>by simp at hN
 | [],pre,acc,N+1,h,hp,hN=>by
  have hs:(txt L).size=pre.length:=by rw [Zo,h]; simp
  have d:decide ((pre.length:Int)<((txt L).size:Int))=false:=decide_eq_false (by omega)
  simp only [Lib.parseUint10] at hp
  injection hp with hp
  subst hp
  unfold Zj ZH
  simp only [d,cond_false,Option.bind_some,Zu]
 | x::rest,pre,acc,0,h,hp,hN=>by simp at hN
 | x::rest,pre,acc,N+1,h,hp,hN=>by
  have hl:L.length=pre.length+(rest.length+1):=by rw [h]; simp
  have hs:(txt L).size=L.length:=Zo L
  have hx:L[pre.length]?=some x:=by rw [h]; simp
  have hg:=ZgO hx
  have d:decide ((pre.length:Int)<((txt L).size:Int))=true:=decide_eq_true (by omega)
  have d2:decide ((pre.length:Int)<11)=true:=decide_eq_true (by omega)
  have hp0:=hp
  simp only [Lib.parseUint10] at hp
  split at hp
  ·rename_i hd
   split at hp
   ·cases hp
   ·split at hp
    ·cases hp
    ·have hle:=Zlm _ _ _ hp
     have i1:=ZmG hL hu rest (pre++[x]) _ N (by rw [h]; simp) hp (by simp at hN; omega)
     have w0:IntKind.i64.wrap (x.toNat:Int)=(x.toNat:Int):=Zhc ⟨by omega,by omega⟩
     have w1:IntKind.u8.wrap ((x.toNat:Int)-48)=(x.toNat:Int)-48:=ZsC ⟨by omega,by omega⟩
     have w2:IntKind.i64.wrap ((x.toNat:Int)-48)=(x.toNat:Int)-48:=Zhc ⟨by omega,by omega⟩
     have w3:w64 (10*(acc:Int))=10*(acc:Int):=Zn (by omega)
     have w4:w64 (10*(acc:Int)+((x.toNat:Int)-48))=((acc*10+(x.toNat-48):Nat):Int):=by rw [Zn (by omega)]; omega
     have w5:w64 ((pre.length:Int)+1)=((pre++[x]).length:Int):=by rw [Zn (by omega)]; simp
     have d3:(decide ((48:Int)≤(x.toNat:Int)) && decide ((x.toNat:Int)≤57))=true:=by rw [decide_eq_true (by omega),decide_eq_true (by omega)]; rfl
     rw [← i1]
     conv=>lhs; unfold Zj
     unfold ZH
     simp only [d,d2,cond_true,hg,Option.bind_some,w0,Zac,d3,Bool.not_true,cond_false,w1,w2,w3,w4,w5,Zu]
  ·cases hp
theorem ZdL {n:Int} (h0:0≤n) (h1:n≤1000000000):Z7 (txt (Lib.itoa n))=some (n,true):=by
 obtain ⟨u,rfl⟩:=Int.eq_ofNat_of_zero_le h0
 have hp:=ZhP u u (Nat.le_refl _) (by omega)
 have hl:=Zno 9 u (by omega)
 have hu:u≤1000000000:=by omega
 unfold Z7
 rw [ZnE]
 have i1:=ZmG (L:=Lib.decDigits u) hl hu (Lib.decDigits u) [] 0 NN rfl hp (by unfold NN; omega)
 have i2:Zj (ZH (txt (Lib.decDigits u))) NN (0,0)=some (.inl (u:Int)):=i1
 rw [i2]
 have d:decide ((1000000000:Int)<(u:Int))=false:=decide_eq_false (by omega)
 simp only [Option.bind_some,Zu,d,cond_false,fS (n:=(u:Int)) ⟨by omega,by omega⟩,ZnE,decide_true,Bool.not_true]
theorem Zo4 {s:ByteArray} (hs:s.size≤100000000):∃ r:Int × Bool,Z7 s=some r∧in64 r.1:=by
 have ht:∃ o,Zj (ZH s) NN (0,0)=some o∧(∀ a,o=.inl a→in64 a)∧∀ r,o=.inr r→in64 r.1:=by
  have key:∀ (k i:Nat) (acc:Int) (N:Nat),i+k=s.size→k<N→in64 acc→∃ o,Zj (ZH s) N (acc,(i:Int))=some o∧(∀ a,o=.inl a→in64 a)∧∀ r,o=.inr r→in64 r.1:=by
   intro k
   induction k with
   | zero=>
    intro i acc N hi hN ha
    obtain ⟨N,rfl⟩:∃ M,N=M+1:=⟨N-1,by omega⟩
    have d:decide ((i:Int)<(s.size:Int))=false:=decide_eq_false (by omega)
    refine ⟨.inl acc,?_,(fun a h=>by injection h with h; subst h; exact ha),(fun r h=>by cases h)⟩
    unfold Zj ZH
    simp only [d,cond_false,Option.bind_some,Zu]
   | succ k ih=>
    intro i acc N hi hN ha
    obtain ⟨N,rfl⟩:∃ M,N=M+1:=⟨N-1,by omega⟩
    have d:decide ((i:Int)<(s.size:Int))=true:=decide_eq_true (by omega)
    show ∃ o,(ZH s (acc,(i:Int))).bind (Zu (Zj (ZH s) N) some)=some o∧_
    by_cases d2:(i:Int)<11
    ·have hg:getB s (i:Int)=some (Zfm s i):=by unfold getB; rw [if_pos ⟨by omega,by omega⟩]; rfl
     have w5:w64 ((i:Int)+1)=((i+1:Nat):Int):=by rw [Zn (by omega)]; omega
     have hb:ZH s (acc,(i:Int))=cond (decide ((48:Int)≤IntKind.i64.wrap (Zfm s i)) && decide (IntKind.i64.wrap (Zfm s i)≤57)) (some (.inl (w64 (w64 (10*acc)+IntKind.i64.wrap (IntKind.u8.wrap (Zfm s i-48))),((i+1:Nat):Int)))) (some (.inr (.inr (0,false)))):=by
      unfold ZH
      simp only [d,decide_eq_true d2,cond_true,hg,Option.bind_some,Zac,w5]
      cases (decide ((48:Int)≤IntKind.i64.wrap (Zfm s i)) && decide (IntKind.i64.wrap (Zfm s i)≤57)) <;> rfl
     rw [hb]
     cases (decide ((48:Int)≤IntKind.i64.wrap (Zfm s i)) && decide (IntKind.i64.wrap (Zfm s i)≤57)) with
     | false=>exact ⟨.inr (0,false),rfl,(fun a h=>by cases h),(fun r h=>by injection h with h; subst h; exact ⟨by omega,by omega⟩)⟩
     | true=>exact ih (i+1) (w64 (w64 (10*acc)+IntKind.i64.wrap (IntKind.u8.wrap (Zfm s i-48)))) N (by omega) (by omega) (Zpl _)
    ·have hb:ZH s (acc,(i:Int))=some (.inr (.inl acc)):=by
      unfold ZH
      simp only [d,decide_eq_false d2,cond_true,cond_false]
     rw [hb]
     exact ⟨.inl acc,rfl,(fun a h=>by injection h with h; subst h; exact ha),(fun r h=>by cases h)⟩
  exact key s.size 0 0 NN (by omega) (by unfold NN; omega) ⟨by omega,by omega⟩
 obtain ⟨o,ho,hA,hB⟩:=ht
 unfold Z7
 rw [ho]
 cases o with
 | inr r=>exact ⟨r,rfl,hB r rfl⟩
 | inl a=>
  have ha:=hA a rfl
  have z:in64 0:=⟨by omega,by omega⟩
  simp only [Option.bind_some,Zu,fS ha]
  by_cases h1:(1000000000:Int)<a
  ·exact ⟨_,by rw [decide_eq_true h1]; rfl,z⟩
  ·rw [decide_eq_false h1,cond_false]
   cases decide (txt (Lib.itoa a)=s) with
   | true=>exact ⟨_,rfl,ha⟩
   | false=>exact ⟨_,rfl,z⟩
end Go.Proofs.YtkfbakhnpfmfmaaGreatDoor
namespace Go.Proofs.YtkfbakhnpfmfmaaGreatDoor
set_option maxRecDepth 10000
open Go.RowKit Go.Sort
set_option linter.unusedVariables false
set_option linter.unusedSimpArgs false
set_option maxHeartbeats 1000000
theorem Zrn {s:ByteArray} {m:Int} (hs:s.size<NN) (h:Zcj s=some m):-1≤m∧m≤96:=by
 have key:∀ (k N i:Nat) (a:Int),i+k=s.size→k<N→0≤a∧a≤96→∃ o,Zj (Zag s) N (a,(i:Int))=some o∧(∀ x,o=.inl x→0≤x∧x≤96)∧∀ x,o=.inr x→x=-1:=by
  intro k
  induction k with
  | zero=>
   intro N i a hi hN ha
   obtain ⟨N,rfl⟩:∃ M,N=M+1:=⟨N-1,by omega⟩
   refine ⟨.inl a,?_,fun x e=>by cases e; exact ha,fun x e=>by cases e⟩
   unfold Zj Zag
   simp only [decide_eq_false (show ¬ (i:Int)<(s.size:Int) by omega),cond_false,Option.bind_some,Zu]
  | succ k ih=>
   intro N i a hi hN ha
   obtain ⟨N,rfl⟩:∃ M,N=M+1:=⟨N-1,by omega⟩
   obtain ⟨y,hy⟩:=Zjr (s:=s) (i:=i) (by omega)
   have hw:=Zk7 hy
   have hb:Zag s (a,(i:Int))=if 48≤y∧y≤57 then some (.inl (Int.tmod (10*a+(y-48)) 97,((i+1:Nat):Int))) else some (.inr (.inr (-1))):=by
    unfold Zag
    simp only [decide_eq_true (show (i:Int)<(s.size:Int) by omega),cond_true,hy,Option.bind_some,Zhc hw,Zac]
    by_cases hd:48≤y∧y≤57
    ·rw [if_pos hd]
     simp only [decide_eq_true hd.1,decide_eq_true hd.2,Bool.and_true,Bool.not_true,cond_false]
     rw [ZsC (y:=y-48) ⟨by omega,by omega⟩,Zhc (y:=y-48) ⟨by omega,by omega⟩,Zn (n:=10*a) (by omega),Zn (n:=10*a+(y-48)) (by omega),Z8 (i:=i) (n:=s.size) (by omega) (by unfold NN at hs; omega)]
    ·have e:(decide (48≤y) && decide (y≤57))=false:=by
      rw [Bool.and_eq_false_iff,decide_eq_false_iff_not,decide_eq_false_iff_not]; omega
     rw [if_neg hd,e]; rfl
   show ∃ o,(Zag s (a,(i:Int))).bind (Zu (Zj (Zag s) N) some)=some o∧_
   rw [hb]
   by_cases hd:48≤y∧y≤57
   ·rw [if_pos hd]
    have t1:=Int.tmod_nonneg (a:=10*a+(y-48)) 97 (by omega)
    have t2:=Int.tmod_lt_of_pos (10*a+(y-48)) (b:=97) (by omega)
    exact ih N (i+1) _ (by omega) (by omega) ⟨t1,by omega⟩
   ·rw [if_neg hd]
    exact ⟨_,rfl,(fun x e=>by cases e),(fun x e=>by cases e; rfl)⟩
 obtain ⟨o,h1,h2,h3⟩:=key s.size NN 0 0 (by omega) hs ⟨by omega,by omega⟩
 unfold Zcj at h
 have h1':Zj (Zag s) NN (0,0)=some o:=h1
 rw [h1'] at h
 cases o with
 | inl x=>
  have:=h2 x rfl
  simp only [Option.bind_some,Zu] at h
  cases hd:decide (s=⟨#[]⟩) <;> rw [hd] at h <;> simp only [cond_true,cond_false] at h <;> injection h with h <;> omega
 | inr x=>
  have:=h3 x rfl
  simp only [Option.bind_some,Zu] at h
  injection h with h
  omega
theorem Zqw {l:Zw} {n:Int} (h1:in64 l.service) (h2:in64 l.serial) (h:ZJ l=some true) (hc:Zcs l=some n):0≤n∧n≤99:=by
 obtain ⟨hs,hd⟩:=Ze1 h
 obtain ⟨b1,b2⟩:=Zhy h1 h2 (by omega)
 have hl:=Zgl h1 h2 (by omega)
 obtain ⟨a,ha,hal⟩:=Zjj hd
 have happ:=ZoE ha (show dgts [48,48]=some [48,48] from rfl)
 have c2:chk (ZaK (txt (Zg0 l)) (txt [48,48]))=some ():=sOk (by rw [Zo]; omega) (by rw [Zo]; simp)
 have hz:(txt (a++[48,48])).size<NN:=by rw [Zo,List.length_append]; unfold NN; simp; omega
 obtain ⟨m,hm⟩:=Zmo hz
 have hr:=Zrn hz hm
 unfold Zcs at hc
 have d1:=Zjk (l:=Zg0 l++[48,48]) (by rw [List.length_append]; simp; omega)
 rw [happ] at d1
 simp only [Option.getD_some,Option.isSome_some] at d1
 simp only [h,b2,d1,Option.bind_some,Bool.not_true,cond_false,show (⟨#[48,48]⟩:ByteArray)=txt [48,48] from rfl,c2,ZaY,hm] at hc
 injection hc with hc
 rw [Zn (by omega)] at hc
 omega
def labT (l:Zw) (n:Int):List UInt8:=Zg0 l++padL n 2
theorem ZjA {l:Zw} (h:ZJ l=some true):(1≤l.service∧l.service≤3)∧(0≤l.serial∧l.serial≤999999999):=by
 unfold ZJ at h
 simp only [Zac,Option.bind_some] at h
 cases h1:(decide (1≤l.service) && decide (l.service≤3)) with
 | false=>rw [h1] at h; cases h
 | true=>
  cases h2:(decide (0≤l.serial) && decide (l.serial≤999999999)) with
  | false=>rw [h1,h2] at h; cases h
  | true=>simpa only [Bool.and_eq_true,decide_eq_true_eq] using And.intro h1 h2
theorem Zrg {l:Zw} (h3:l.to_.size≤B60) (h:ZJ l=some true):∃ n,0≤n∧n≤99∧ZM l=some (txt (labT l n))∧Z5 l=some (txt (labT l n)):=by
 obtain ⟨r1,r2⟩:=ZjA h
 have h1:in64 l.service:=⟨by omega,by omega⟩
 have h2:in64 l.serial:=⟨by omega,by omega⟩
 obtain ⟨e,v,hv⟩:=ZhH h3
 obtain rfl:true=v:=Option.some.inj (h.symm.trans hv)
 have hi:=e.trans h
 obtain ⟨hs,hd⟩:=Ze1 h
 obtain ⟨b1,b2⟩:=Zhy h1 h2 (by omega)
 have hl:=Zgl h1 h2 (by omega)
 obtain ⟨n,hn,c1,c2⟩:=Zkt h1 h2 h hi
 obtain ⟨n0,n1⟩:=Zqw h1 h2 h c2
 have p1:=ZjM (d:=2) hn (by omega)
 have p2:=Zhp (d:=2) hn (by omega)
 have pl:=ZhO (d:=2) hn (by omega)
 rw [show ((2:Nat):Int)=2 from rfl] at p1 p2
 have c3:chk (ZaK (txt (Zg0 l)) (txt (padL n 2)))=some ():=sOk (by rw [Zo]; omega) (by rw [Zo]; omega)
 refine ⟨n,n0,n1,?_,?_⟩
 ·unfold ZM; simp only [hi,b1,c1,p1,c3,Option.bind_some,Bool.not_true,cond_false,ZaY]; rfl
 ·unfold Z5; simp only [h,b2,c2,p2,c3,Option.bind_some,Bool.not_true,cond_false,ZaY]; rfl
theorem Zvl {l:Zw} {n:Int} (h:ZJ l=some true) (hn:0≤n):∀ c∈labT l n,isDL c:=fun c hc=>by
 rcases List.mem_append.1 hc with h1 | h1
 ·exact (Ze1 h).2 c h1
 ·exact Zo0 hn c h1
theorem ZxA {n:Int} (h0:0≤n) (h1:n≤9):Lib.itoa n=[UInt8.ofNat (48+n.toNat)]:=by
 obtain ⟨u,rfl⟩:=Int.eq_ofNat_of_zero_le h0
 rw [ZnE,Lib.decDigits,dif_pos (by omega)]; rfl
theorem Zry {n:Int} {k:Nat} (h0:0≤n) (h1:n.toNat<10 ^ (k+1)):(padL n (k+1)).length=k+1:=by
 obtain ⟨u,rfl⟩:=Int.eq_ofNat_of_zero_le h0
 have:=Zno k u (by simpa using h1)
 unfold padL
 rw [ZnE]
 simp
 omega
theorem ZrA (l:List UInt8):∀ k,Lib.parseUint10 0 (List.replicate k 48++l)=Lib.parseUint10 0 l
 | 0=>rfl
 | k+1=>by rw [List.replicate_succ,List.cons_append,Lib.parseUint10]; simpa using ZrA l k
theorem ZmE {n:Int} {d:Nat} (h0:0≤n) (h1:n≤1000000000000):Lib.parseUint10 0 (padL n d)=.ok n.toNat:=by
 obtain ⟨u,rfl⟩:=Int.eq_ofNat_of_zero_le h0
 unfold padL
 rw [ZrA,ZnE]
 exact ZhP u u (Nat.le_refl _) (by omega)
theorem ZvD {n:Int} {d:Nat} (h:0≤n):∀ c∈padL n d,48≤c.toNat∧c.toNat≤57:=by
 intro c hc
 rcases List.mem_append.1 hc with h1 | h1
 ·rw [List.eq_of_mem_replicate h1]; decide
 ·exact ZoV h c h1
theorem ZuO {l:List UInt8} {u:Nat} (hne:l≠[]) (hd:∀ c∈l,48≤c.toNat∧c.toNat≤57) (hp:Lib.parseUint10 0 l=.ok u) (hu:u≤1000000000000):Lib.atoiAll l=.ok u:=by
 cases l with
 | nil=>exact absurd rfl hne
 | cons c r=>
  have:=hd c List.mem_cons_self
  have e1:¬ c.toNat=43:=by omega
  have e2:¬ c.toNat=45:=by omega
  have e3:¬ (9223372036854775808:Nat)≤u:=by omega
  unfold Lib.atoiAll Lib.parseMag
  simp [e1,e2,hp,e3]
theorem ZqV {a b c:List UInt8} {i j:Nat} (hi:a.length=i) (hj:j=i+b.length):(txt (a++b++c)).extract i j=txt b:=ZlJ hi hj
theorem ZmH {L:List UInt8} {y1:Int} {u:Nat} (hu:u≤1000000000):∀ (rest:List UInt8) (k acc N:Nat),k+rest.length=10→(∀ i c,rest[i]?=some c→L[k+i]?=some c)→Lib.parseUint10 acc rest=.ok u→rest.length<N→
 Zj (ZaZ (txt L) y1) N ((k:Int),(acc:Int))=some (u:Int)
 | [],k,acc,0,_,_,_,hN=>by simp at hN
 | [],k,acc,N+1,hk,hL,hp,hN=>by
  simp only [Lib.parseUint10] at hp
  injection hp with hp
  subst hp
  unfold Zj ZaZ
  simp only [decide_eq_false (show ¬ (k:Int)<10 by simp at hk; omega),cond_false,Option.bind_some,Zu]
 | x::rest,k,acc,0,_,_,_,hN=>by simp at hN
 | x::rest,k,acc,N+1,hk,hL,hp,hN=>by
  have hg:=ZgO (hL 0 x rfl)
  simp only [Nat.add_zero] at hg
  simp only [List.length_cons] at hk hN
  simp only [Lib.parseUint10] at hp
  split at hp
  ·rename_i hd
   split at hp
   ·cases hp
   ·split at hp
    ·cases hp
    ·have hle:=Zlm _ _ _ hp
     have i1:=ZmH (y1:=y1) hu rest (k+1) _ N (by omega) (fun i c h=>by have:=hL (i+1) c h; rwa [show k+1+i=k+(i+1) by omega]) hp (by omega)
     rw [← i1]
     conv=>lhs; unfold Zj
     unfold ZaZ
     simp only [decide_eq_true (show (k:Int)<10 by omega),cond_true,hg,Option.bind_some,Zu]
     rw [Zhc (y:=(x.toNat:Int)) ⟨by omega,by omega⟩,Zn (n:=(k:Int)+1) (by omega),Zn (n:=10*(acc:Int)) (by omega),Zn (n:=10*(acc:Int)+(x.toNat:Int)) (by omega),Zn (by omega)]
     congr 2
     omega
  ·cases hp
theorem Ztk {l:Zw} (h3:l.to_.size≤B60) (h:ZJ l=some true) {n:Int} (n0:0≤n) (n1:n≤99) (f1:ZM l=some (txt (labT l n))) (f2:Z5 l=some (txt (labT l n))):
 ZaR (txt (labT l n))=some (l,true)∧ZcO (txt (labT l n))=some (l,true):=by
 obtain ⟨r1,r2⟩:=ZjA h
 obtain ⟨hs,_⟩:=Ze1 h
 have hl3:l.to_.data.toList.length=3:=by rw [Array.length_toList]; exact hs
 have e1:=ZxA (n:=l.service) (by omega) (by omega)
 have e9:(padL l.serial 9).length=9:=Zry (n:=l.serial) (k:=8) (by omega) (by omega)
 have e2:(padL n 2).length=2:=Zry (n:=n) (k:=1) n0 (by omega)
 have hT:labT l n=[UInt8.ofNat (48+l.service.toNat)]++padL l.serial 9++l.to_.data.toList++padL n 2:=by unfold labT Zg0; rw [e1]
 have hsz:(txt (labT l n)).size=15:=by rw [Zo,hT]; simp only [List.length_append,List.length_cons,List.length_nil]; omega
 have x1:(txt (labT l n)).extract 0 1=txt [UInt8.ofNat (48+l.service.toNat)]:=by
  rw [hT]; have:=ZqV (a:=[]) (b:=[UInt8.ofNat (48+l.service.toNat)]) (c:=padL l.serial 9++l.to_.data.toList++padL n 2) (i:=0) (j:=1) rfl rfl
  simpa only [List.nil_append,List.append_assoc] using this
 have x2:(txt (labT l n)).extract 1 10=txt (padL l.serial 9):=by
  rw [hT]; have:=ZqV (a:=[UInt8.ofNat (48+l.service.toNat)]) (b:=padL l.serial 9) (c:=l.to_.data.toList++padL n 2) (i:=1) (j:=10) rfl (by omega)
  simpa only [List.append_assoc] using this
 have x3:(txt (labT l n)).extract 10 13=l.to_:=by
  rw [hT]; have:=ZqV (a:=[UInt8.ofNat (48+l.service.toNat)]++padL l.serial 9) (b:=l.to_.data.toList) (c:=padL n 2) (i:=10) (j:=13) (by simp; omega) (by omega)
  rwa [Zge] at this
 have s1:((48+l.service.toNat:Nat):Int)=48+l.service:=by omega
 have u1:(UInt8.ofNat (48+l.service.toNat)).toNat=48+l.service.toNat:=by rw [UInt8.toNat_ofNat']; omega
 constructor
 ·have a1:Lib.atoiAll (txt [UInt8.ofNat (48+l.service.toNat)]).data.toList=.ok l.service:=by rw [ZiS,← e1]; exact ZlU (by omega) (by omega)
  have a2:Lib.atoiAll (txt (padL l.serial 9)).data.toList=.ok l.serial:=by
   rw [ZiS,ZuO (u:=l.serial.toNat) (fun e=>by rw [e] at e9; cases e9) (ZvD (by omega)) (ZmE (by omega) (by omega)) (by omega)]
   congr 1; omega
  unfold ZaR
  rw [if_pos (by omega),if_pos hsz,x1,x2,x3]
  simp only [a1,a2]
  rw [show (⟨l.service,l.serial,l.to_⟩:Zw)=l from rfl,f1]
  simp
 ·have g0:getB (txt (labT l n)) 0=some ((UInt8.ofNat (48+l.service.toNat)).toNat:Int):=ZgO (l:=labT l n) (i:=0) (by rw [hT]; rfl)
  have i1:=ZmH (L:=labT l n) (y1:=((UInt8.ofNat (48+l.service.toNat)).toNat:Int)) (u:=l.serial.toNat) (by omega) (padL l.serial 9) 1 0 NN (by omega) (fun i c hc=>by
   have hi:=(List.getElem?_eq_some_iff.1 hc).1
   rw [hT]
   simp only [List.cons_append,List.nil_append,Nat.add_comm 1,List.getElem?_cons_succ]
   rw [List.append_assoc,List.getElem?_append_left hi,hc]) (ZmE (by omega) (by omega)) (by unfold NN; omega)
  have i2:Zj (ZaZ (txt (labT l n)) ((UInt8.ofNat (48+l.service.toNat)).toNat:Int)) NN (1,0)=some (l.serial.toNat:Int):=i1
  unfold ZcO
  have x3':subS (txt (labT l n)) 10 13=l.to_:=x3
  have hsl:chk (slOk 10 13 ((txt (labT l n)).size:Int))=some ():=Zff (decide_eq_true ⟨by omega,by omega,by omega⟩)
  have w0:w64 (IntKind.i64.wrap ((UInt8.ofNat (48+l.service.toNat)).toNat:Int)-48)=l.service:=by
   rw [u1,Zhc ⟨by omega,by omega⟩,Zn (by omega)]; omega
  have w1:((l.serial.toNat:Nat):Int)=l.serial:=by omega
  rw [hsz] at hsl
  simp only [hsz,g0,hsl,i2,x3',w0,w1,f2,Option.bind_some,decide_true,Bool.not_true,cond_false,show decide (((15:Nat):Int)=15)=true from rfl]
theorem ZpB:in64 Zhn.service∧in64 Zhn.serial∧Zhn.to_.size≤15:=⟨by decide,by decide,by decide⟩
theorem Zpy {s:ByteArray} (hs:s.size≤100000000):∃ r:Zw × Bool,ZaR s=some r∧in64 r.1.service∧in64 r.1.serial∧r.1.to_.size≤15:=by
 unfold ZaR
 rw [if_pos hs]
 by_cases h15:s.size=15
 ·rw [if_pos h15]
  have hx:=Zjn (i:=10) (j:=13) h15
  cases h1:Lib.atoiAll (s.extract 0 1).data.toList with
  | ok a=>
   cases h2:Lib.atoiAll (s.extract 1 10).data.toList with
   | ok b=>
    obtain ⟨x,hx2,f1,f2⟩:=ZkF (l:=⟨a,b,s.extract 10 13⟩) (Zjb h1) (Zjb h2) (by unfold B60; simp only; omega)
    simp only [f1,Option.bind_some]
    by_cases he:txt x=s
    ·rw [if_pos he]; exact ⟨_,rfl,Zjb h1,Zjb h2,hx⟩
    ·rw [if_neg he]; exact ⟨_,rfl,ZpB⟩
   | _=>exact ⟨_,rfl,ZpB⟩
  | _=>exact ⟨_,rfl,ZpB⟩
 ·rw [if_neg h15]; exact ⟨_,rfl,ZpB⟩
end Go.Proofs.YtkfbakhnpfmfmaaGreatDoor
