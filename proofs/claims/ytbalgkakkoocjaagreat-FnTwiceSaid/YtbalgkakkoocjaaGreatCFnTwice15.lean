/- A part of the proof of the statement in the last file of this claim: texts on the language of the program and on its functions. No condition. -/
import Derived.Test.YtbalgkakkoocjaaGreatCFnTwice11
import Derived.Test.YtbalgkakkoocjaaGreatCFnTwice8
import Derived.Test.YtbalgkakkoocjaaGreatCFnTwice9
import Derived.Test.YtbalgkakkoocjaaGreatCFnTwice6
import Derived.Test.YtbalgkakkoocjaaGreatCFnTwice5
import Derived.Test.YtbalgkakkoocjaaGreatCFnTwice4
import Derived.Test.YtbalgkakkoocjaaGreatCFnTwice12
import Derived.Test.YtbalgkakkoocjaaGreatCFnTwice10
set_option linter.unusedVariables false
set_option linter.unusedSimpArgs false
set_option linter.unusedSectionVars false
namespace Go.Proofs.YtbalgkakkoocjaaGreat
open Option renaming bind_some→VS,map_some→Wr,getD_some→Ws,map_eq_some_iff→Ww
open List renaming length→Yq,getElem?_eq_some_iff→VU,drop_drop→XI,getElem?_eq_getElem→VT,getElem_of_mem→Wf,any_cons→XC,any_eq_true→W3,mem_cons_self→Wp,mem_cons_of_mem→Wi,any_eq_false→XN,foldl_cons→WI,getElem_mem→Wm,drop_eq_nil_of_le→XU,mem_of_getElem?→VW,getElem?_eq_none→Wy,mem_append→WC,mem_cons→V4,mem_singleton→Wc,length_map→Wg,getElem?_map→Wj,map_cons→Wx,sum_cons→WT,length_cons→VX,length_nil→VY,foldl_nil→WJ,nil_append→WM,length_set→WL,getElem?_set_self→Wl
open Nat renaming zero_le→WV,lt_or_ge→WB,pos_of_ne_zero→XJ,zero_add→Wb,le_refl→V3
open Bool renaming and_eq_true→VZ,or_eq_true→Yr,eq_false_iff→Ye,false_or→X9,not_true→V0,true_and→WH,not_false→Wz,not_eq_true'→Wa
open Option.some renaming inj→VV,injEq→V1
open _root_.Int renaming le_refl→Wv,toNat_natCast→WY
set_option maxRecDepth 10000
open Go.RowKit
variable {a b:Option Bool}{aY k u:Int}{ba:List bN}{c:Prop}{i:Nat}{l:List ao}{s:ByteArray}{t:au}{y:bM}{α:Type}
theorem lY:@bV=@cb:=rfl
theorem MO(w:av)(o:az):mQ w o=eQ w.aa o:=rfl
theorem Ob{n:aj}(h:aC n.ay t.bx=none):bn n t=none:=by
 unfold bn bq;rw[h];rfl
theorem oK{n:aj}(h:aC n.ay t.bx=some y):∃v,bn n t=some v:=by
 unfold bn bq;rw[h];exact⟨_,rfl⟩
theorem SS(w:av)(o:az):og w o=bW w.aa o w.now:=by
 unfold og bW
 rw[rY,pU]
 cases decide (0<o.aJ)with
 |false=>
  simp only[cond_false]
  cases decide (o.state=1)<;>cases decide (o.state=2)<;>cases decide (o.state=3)<;>try rfl
  all_goals cases decide (o.aJ=(o.aE.length:Int))<;>cases decide (o.place=o.aV)<;>cases decide (o.ar=o.aV)<;>rfl
 |true=>
  simp only[cond_true]
  cases hg:aC o.aE (aL (o.aJ-1))with
  |none=>rfl
  |some y1=>
   simp only[VS,hg]
   cases hl:aC w.aa.ay y1.bx with
   |none=>rw[Ob hl];rfl
   |some y2=>
    obtain⟨v,hv⟩:=oK hl
    simp only[hv,VS]
    cases decide (w.now<v)<;>try rfl
    simp only[cond_false]
    cases decide (o.state=1)<;>cases decide (o.state=2)<;>cases decide (o.state=3)<;>try rfl
    all_goals cases decide (o.aJ=(o.aE.length:Int))<;>cases decide (o.place=o.aV)<;>cases decide (y2.aV=o.aV)<;>rfl
theorem OC{α ο:Type}{xs:List α}{p:α→Bool}{body:Int→Option (Int⊕ο)}{f:Nat→ο}{e:ο}(h1:∀i (hi:i<xs.length),body (i:Int)=some (if p xs[i]=true then .inr (f i)else .inl ((i+1:Nat):Int)))(h2:body (xs.length:Int)=some (.inr e))(hN:xs.length<NN):
 aD body NN 0=some ((xs.findIdx? p).elim e f):=by
 have key:∀(ys:List α) (i N:Nat),xs.drop i=ys→i≤xs.length→ys.length<N→aD body N (i:Int)=some ((ys.findIdx? p).elim e fun k=>f (i+k)):=by
  intro ys
  induction ys with
  |nil=>
   intro i N hd hi hN
   cases N with
   |zero=>omega
   |succ N=>
    have:i=xs.length:=by have:=congrArg Yq hd;simp at this;omega
    subst this
    simp only[aD,h2]
    rfl
  |cons y ys ih=>
   intro i N hd hi hN
   cases N with
   |zero=>simp at hN
   |succ N=>
    have hy:xs[i]?=some y:=by
     have:=congrArg (fun l=>l[0]?) hd
     simpa using this
    have bF:i<xs.length:=(VU.1 hy).1
    have hyv:xs[i]=y:=(VU.1 hy).2
    have vt:xs.drop (i+1)=ys:=by
     have:=congrArg (List.drop 1) hd
     simpa[XI]using this
    simp only[aD,h1 i bF,hyv]
    rw[List.findIdx?_cons]
    cases hp:p y with
    |true=>simp
    |false=>
     simp only[Bool.false_eq_true,if_false]
     have:=ih (i+1) N vt bF (by simp at hN;omega)
     refine this.trans ?_
     cases ys.findIdx? p with
     |none=>rfl
     |some k=>simp only[Wr,Option.elim_some];congr 2;omega
 have:=key xs 0 NN rfl (WV _) hN
 simpa using this
def bb(l:List ByteArray)(p:ByteArray):Int:=(l.findIdx? fun y=>decide (y=p)).elim (-1) fun k=>(k:Int)
theorem oM{l:List ByteArray}(h:l.length≤4194304)(p:ByteArray):cb l p=some (bb l p):=by
 unfold cb
 rw[OC (xs:=l) (p:=fun y=>decide (y=p)) (f:=fun i=>.inr (i:Int)) (e:=.inl ()) (fun i hi=>?_) (by simp[nS]) (by unfold NN;omega)]
 ·unfold bb
  cases l.findIdx? fun y=>decide (y=p)<;>rfl
 ·have hw:=bI hi (by omega)
  have hg:aC l (i:Int)=some l[i]:=by rw[aR];exact VT hi
  simp only[nS,decide_eq_true (show(i:Int)<l.length by omega),cond_true,hg,VS,hw]
  cases decide (l[i]=p)<;>rfl
/-! P2: one for a bk and a bf. -/
def Zaf(l:List ao):Prop:=∀x∈l,∀y∈l,x.bk=y.bk→x.bf=y.bf→x=y
theorem Tz{a b c:ao}(h:nj a b=true)(h':nj b c=true):nj a c=true:=by
 unfold nj at *
 split at h
 ·have h1:=of_decide_eq_true h
  split at h'
  ·have h2:=of_decide_eq_true h'
   rw[if_pos (by omega)];exact decide_eq_true (by omega)
  ·rename_i h2
   rw[if_pos (by omega)];exact decide_eq_true (by omega)
 ·rename_i h0
  split at h
  ·have h1:=of_decide_eq_true h
   split at h'
   ·have h2:=of_decide_eq_true h'
    rw[if_pos (by omega)];exact decide_eq_true (by omega)
   ·rename_i h2
    rw[if_neg (by omega)]
    split at h'
    ·have h3:=of_decide_eq_true h'
     rw[if_pos (by omega)];exact decide_eq_true (by omega)
    ·rename_i h3
     rw[if_pos (by omega)];exact decide_eq_true (by omega)
  ·rename_i h00
   have h1:=of_decide_eq_true h
   split at h'
   ·have h2:=of_decide_eq_true h'
    rw[if_pos (by omega)];exact decide_eq_true (by omega)
   ·rename_i h2
    rw[if_neg (by omega)]
    split at h'
    ·have h3:=of_decide_eq_true h'
     rw[if_pos (by omega)];exact decide_eq_true (by omega)
    ·rename_i h3
     have h4:=of_decide_eq_true h'
     rw[if_neg (by omega)];exact decide_eq_true (by omega)
theorem cW{n:aj}(h:bJ n l=true):aU n=some true∧l.length≤120:=by
 unfold bJ at h
 simp only[VZ,decide_eq_true_iff]at h
 refine⟨?_,by omega⟩
 cases hn:aU n with
 |none=>rw[hn]at h;cases h.1.1
 |some b=>rw[hn]at h;have:=h.1.1;simp at this;rw[this]
theorem tE{n:aj}(h:bJ n l=true)(hi:i<l.length):F7 n l i=true∧Km n l i=true:=by
 unfold bJ at h
 simp only[VZ]at h
 have:=List.all_eq_true.1 h.2 i (List.mem_range.2 hi)
 simpa only[VZ]using this
theorem rm{n:aj}(h:bJ n l=true):∀(j i:Nat) (hj:j<l.length) (xa:i<j),nj (l[i]'(by omega)) l[j]=true:=by
 intro j
 induction j with
 |zero=>intro i hj xa;omega
 |succ j ih=>
  intro i hj xa
  have h1:=(tE h hj).1
  unfold F7 at h1
  rw[VT hj]at h1
  simp only[Nat.add_sub_cancel,VT (show j<l.length by omega),VZ,Yr,decide_eq_true_iff]at h1
  have h2:nj l[j] l[j+1]=true:=by
   rcases h1.2 with h3|h3
   ·omega
   ·exact h3
  rcases WB i j with h3|h3
  ·exact Tz (ih i (by omega) h3) h2
  ·have:i=j:=by omega
   subst this;exact h2
theorem yi{a b:ao}(h1:a.bk=b.bk)(h2:a.bf=b.bf):nj a b=false:=by
 unfold nj
 rw[h2,h1]
 simp
theorem B7{n:aj}(h:bJ n l=true):Zaf l:=by
 intro x hx y hy ht MR
 obtain⟨i,hi,rfl⟩:=Wf hx
 obtain⟨j,hj,rfl⟩:=Wf hy
 rcases Nat.lt_trichotomy i j with h1|h1|h1
 ·have:=rm h j i hj h1
  rw[yi ht MR]at this;cases this
 ·subst h1;rfl
 ·have:=rm h i j hi h1
  rw[yi ht.symm MR.symm]at this;cases this
def gE(l:List ao)(bk:Int)(t:au)(wt:Int):Bool:=l.any fun y=>decide (y=(⟨bk,t,wt⟩:ao))
theorem Qs(h:l.length≤1048576)(bk:Int)(t:au)(wt:Int):mH l bk t wt=some (gE l bk t wt):=by
 unfold mH
 rw[tV (xs:=l) (p:=fun y=>decide (y=(⟨bk,t,wt⟩:ao))) (r:=.inr true) (e:=.inl ()) (fun i hi=>?_) (by simp[l9]) (by unfold NN;omega)]
 ·unfold gE
  cases l.any fun y=>decide (y=(⟨bk,t,wt⟩:ao))<;>rfl
 ·have hw:=bI hi (by omega)
  have hg:aC l (i:Int)=some l[i]:=by rw[aR];exact VT hi
  simp only[l9,decide_eq_true (show(i:Int)<l.length by omega),cond_true,hg,VS,hw]
  cases decide (l[i]=(⟨bk,t,wt⟩:ao))<;>rfl
theorem Gk{w:av}(h:w.aq.length≤1048576)(hu:Zaf w.aq){id:Int}{o:az}(ho:aC w.ah (aL (id-1))=some o)(t:au):lA w id t=some (gE w.aq id t o.ab):=by
 unfold lA
 have e:aD (jk w id t) NN 0=tx (fun _ (_:Unit) (x:ao)=>some (if x.bk=id∧x.bf=t then .inr (.inr (decide (x.ab=o.ab)))else .inl ())) (fun _=>some (.inl ())) 0 w.aq ():=by
  refine qS (A:=Unit) (fun _ i=>i) _ _ (fun _ i x hx=>?_) (fun _=>?_) (by unfold NN;omega) ()
  ·have hi:=(VU.1 hx).1
   have hw:=bI hi (by omega)
   have hg:aC w.aq (i:Int)=some x:=by rw[aR];exact hx
   simp only[jk,decide_eq_true (show(i:Int)<w.aq.length by omega),cond_true,hg,VS,hw,ho]
   by_cases h1:x.bk=id
   ·by_cases h2:x.bf=t
    ·simp[h1,h2]
    ·simp[h1,h2]
   ·simp[h1]
  ·simp[jk]
 have key:∀(l:List ao) (i:Nat),(∀x∈l,x∈w.aq)→tx (fun _ (_:Unit) (x:ao)=>some (if x.bk=id∧x.bf=t then(.inr (.inr (decide (x.ab=o.ab))):Unit⊕(Unit⊕Bool))else .inl ())) (fun _=>some (Sum.inl ():Unit⊕Bool)) i l ()=some (if l.any (fun y=>decide (y.bk=id∧y.bf=t))=true then Sum.inr (gE l id t o.ab)else Sum.inl ()):=by
  intro l
  induction l with
  |nil=>intro i _;rfl
  |cons x l ih=>
   intro i hm
   simp only[tx]
   by_cases hc:x.bk=id∧x.bf=t
   ·rw[if_pos hc]
    simp only[VS,XC,decide_eq_true hc,Bool.true_or,if_true]
    show some (Sum.inr (decide (x.ab=o.ab)):Unit⊕Bool)=_
    congr 2
    unfold gE
    rw[XC]
    by_cases hw:x.ab=o.ab
    ·rw[decide_eq_true hw]
     have:x=(⟨id,t,o.ab⟩:ao):=by obtain⟨a,b,c⟩:=x;simp at hc hw⊢;exact⟨hc.1,hc.2,hw⟩
     rw[decide_eq_true this];rfl
    ·rw[decide_eq_false hw]
     symm
     rw[Bool.or_eq_false_iff]
     refine⟨decide_eq_false (fun e=>hw (by rw[e])),?_⟩
     rw[Ye]
     intro h3
     obtain⟨y,hy,he⟩:=W3.1 h3
     have he:=of_decide_eq_true he
     have:=hu x (hm x (Wp ..)) y (hm y (Wi _ hy)) (by rw[he];exact hc.1) (by rw[he];exact hc.2)
     exact hw (by rw[this,he])
   ·rw[if_neg hc]
    simp only[VS,bl]
    rw[ih (i+1) (fun y hy=>hm y (Wi _ hy))]
    simp only[XC,decide_eq_false hc,X9]
    have:gE (x::l) id t o.ab=gE l id t o.ab:=by
     unfold gE
     rw[XC,decide_eq_false (fun e=>hc (by rw[e];exact⟨rfl,rfl⟩)),X9]
    rw[this]
 rw[e,key w.aq 0 (fun x h=>h)]
 cases ha:w.aq.any (fun y=>decide (y.bk=id∧y.bf=t))with
 |true=>rfl
 |false=>
  show some false=_
  congr 1
  symm
  unfold gE
  rw[Ye]
  intro h3
  obtain⟨y,hy,he⟩:=W3.1 h3
  have he:=of_decide_eq_true he
  have:=XN.1 ha y hy
  apply this
  rw[he];simp
theorem Ja{σ τ ο:Type}{f:σ→Option (σ⊕ο)}{g:τ→Option (τ⊕ο)}(φ:σ→τ)(h:∀s,g (φ s)=(f s).bind (bl (fun s'=>some (.inl (φ s'))) (fun r=>some (.inr r)))):∀(N:Nat) (s:σ),aD g N (φ s)=aD f N s
 |0,s=>rfl
 |N+1,s=>by
  simp only[aD,h]
  cases f s with
  |none=>rfl
  |some o=>
   cases o with
   |inl s'=>exact Ja φ h N s'
   |inr r=>rfl
theorem Kf{n:aj}(h:cI n)(ht:dF n t=some true):∃y,aC n.ay t.bx=some y:=by
 unfold dF jY at ht
 obtain⟨_,b,hb⟩:=jP h
 obtain⟨_,b2,zk⟩:=qA h t.bx t.day
 rw[hb]at ht
 simp only[VS,zk]at ht
 cases b with
 |false=>simp at ht
 |true=>
  simp at ht
  subst ht
  exact vN h zk
theorem pV{n:aj}(h:aC n.ay t.bx=some y):∃v,bq n t=some v:=by
 unfold bq;rw[h];exact⟨_,rfl⟩
theorem OB{n:aj}(h:cI n)(s:br):ph n s=cu n s:=by
 unfold ph cu
 rw[(jP h).1,fV,(di h).1,(qR h s.bf).1,pU,rY,lY]
theorem AH{n:aj}(h:cI n)(s:br):∃b,cu n s=some b:=by
 obtain⟨_,b,hb⟩:=jP h
 have hp:=(di h).2
 have xC:=eA n
 have hl:=h.ay
 obtain⟨_,b2,zk⟩:=qR h s.bf
 unfold cu
 rw[hb,hp,zk]
 simp only[VS,dt,oM (show(ak n).length≤4194304 by omega)]
 cases b with
 |false=>exact⟨_,rfl⟩
 |true=>
  cases decide (1≤s.bk)&&decide (s.bk≤9999)<;>try exact⟨_,rfl⟩
  cases decide (0≤s.aO)&&decide (s.aO≤100000)<;>try exact⟨_,rfl⟩
  cases decide (0≤bb (ak n) s.place)
  all_goals
   cases b2 with
   |false=>cases decide (s.kind=1)<;>cases decide (s.kind=3)<;>cases decide (s.kind=2)<;>cases decide (s.kind=4)<;>cases decide (s.place=⟨#[]⟩)<;>exact⟨_,rfl⟩
   |true=>
    obtain⟨y,hy⟩:=Kf h zk
    obtain⟨v1,hv1⟩:=pV hy
    obtain⟨v2,hv2⟩:=oK hy
    rw[hv1,hv2]
    cases decide (s.kind=1)<;>cases decide (s.kind=3)<;>cases decide (s.kind=2)<;>cases decide (s.kind=4)<;>cases decide (s.place=⟨#[]⟩)<;>exact⟨_,rfl⟩
theorem RF{n:aj}(h:cI n)(aE:List au)(a b:ByteArray)(t:Int):qq n aE a b t=eJ n aE a b t:=by
 have e:aD (pE n aE b) NN (t,a,0)=aD (dy n aE b) NN (a,t,0):=by
  refine Ja (f:=dy n aE b) (fun s:ByteArray×Int×Int=>(s.2.1,s.1,s.2.2)) (fun s=>?_) NN (a,t,0)
  unfold pE dy
  simp only
  cases decide (s.2.2<(aE.length:Int))with
  |false=>rfl
  |true=>
   simp only[cond_true]
   cases hg:aC aE s.2.2 with
   |none=>rfl
   |some y=>
    simp only[VS,(qR h y).1,pU,rY]
    cases dF n y with
    |none=>rfl
    |some c=>
     cases c with
     |false=>rfl
     |true=>
      simp only[VS,V0,cond_false]
      cases aC n.ay y.bx with
      |none=>rfl
      |some g=>
       simp only[VS]
       cases decide (g.ar=s.1)with
       |false=>rfl
       |true=>
        simp only[V0,cond_false]
        cases bq n y with
        |none=>rfl
        |some v=>
         simp only[VS]
         cases decide (v<s.2.1)with
         |true=>rfl
         |false=>
          simp only[cond_false]
          cases bn n y<;>rfl
 unfold qq eJ
 rw[(jP h).1,(di h).1,lY,e]
theorem xI{n:aj}(h:cI n){aE:List au}(hw:aE.length≤1048576)(a b:ByteArray)(t:Int):∃r,eJ n aE a b t=some r:=by
 obtain⟨_,b1,hb⟩:=jP h
 have hp:=(di h).2
 have xC:=eA n
 have hl:=h.ay
 have e:∃o,aD (dy n aE b) NN (a,t,0)=some o:=by
  refine yN (fun k s=>∃i:Nat,i+k=aE.length∧s.2.2=(i:Int)) ?_ NN aE.length _ ⟨0,by omega,rfl⟩ (by unfold NN;omega)
  rintro k ⟨p,r,s⟩ ⟨i,hi,hs⟩
  simp only at hs
  subst hs
  unfold dy
  rcases WB i aE.length with bF|yz
  ·have hw:=bI bF (by omega)
   have hg:aC aE (i:Int)=some aE[i]:=by rw[aR];exact VT bF
   obtain⟨_,c,hc⟩:=qR h aE[i]
   simp only[decide_eq_true (show(i:Int)<aE.length by omega),cond_true,hg,VS,hc,hw]
   cases c with
   |false=>exact⟨_,rfl,fun s' e=>by cases e⟩
   |true=>
    obtain⟨y,hy⟩:=Kf h hc
    obtain⟨v1,hv1⟩:=pV hy
    obtain⟨v2,hv2⟩:=oK hy
    simp only[hy,hv1,hv2,VS,V0,cond_false]
    cases decide (y.ar=p)with
    |false=>exact⟨_,rfl,fun s' e=>by cases e⟩
    |true=>
     simp only[V0,cond_false]
     cases decide (v1<r)with
     |true=>exact⟨_,rfl,fun s' e=>by cases e⟩
     |false=>exact⟨_,rfl,fun s' e=>by cases e;exact⟨k-1,by omega,i+1,by omega,rfl⟩⟩
  ·simp only[decide_eq_false (show ¬(i:Int)<aE.length by omega),cond_false]
   exact⟨_,rfl,fun s' e=>by cases e⟩
 obtain⟨o,ho⟩:=e
 unfold eJ
 rw[hp,hb]
 simp only[VS,oM (show(ak n).length≤4194304 by omega),ho]
 cases b1 with
 |false=>exact⟨_,rfl⟩
 |true=>cases decide (bb (ak n) a<0)<;>cases decide (bb (ak n) b<0)<;>cases o<;>exact⟨_,rfl⟩
set_option maxHeartbeats 16000000
def lq(w:av)(s0:Int):Option (Int⊕(Unit⊕Bool)):=
 cond (decide (s0<(w.ae.length:Int)))
 ((aC w.ae s0).bind fun y4=>
 (dN w.aa y4).bind fun y5=>
 cond (!y5)
 (some (.inr (.inr false)))
 ((cL (gA 0 s0 w.ae.length)).bind fun _=>
 (eM (cD w.ae 0 s0) y4).bind fun y6=>
 cond y6
 (some (.inr (.inr false)))
 (some (.inl (aL (s0+1))))))
 (some (.inr (.inl ())))
instance (w:av):bm (lq w):=⟨fun s0=>(.un::.be 0 0 0::.un::.be 1 0 0::(U 55 (.sl (w.ae.map aS)::vi (w.ae.length:Int)::vi s0::(U 63 [])))),fun s0=>[some ⟨.of 33,10,[[.sl (w.aa.ay.map bp),.sl (w.aa.off.map aG),vi w.aa.change,.sl (w.ah.map bc),.sl (w.aq.map aB),.sl (w.ae.map aS),vi w.now,.sl (w.aH.map bt),.sl (w.skip.map aG),vi w.bd]]⟩,some ⟨.of 27,3,[[.sl (w.aa.ay.map bp),.sl (w.aa.off.map aG),vi w.aa.change]]⟩]⟩
def lr(w:av)(s1:Int):Option (Int⊕(Unit⊕Bool)):=
 cond (decide (s1<(w.aH.length:Int)))
 ((aC w.aH s1).bind fun y7=>
 (ph w.aa y7).bind fun y8=>
 cond (!y8)
 (some (.inr (.inr false)))
 (cond (decide (w.now<y7.aO))
 (some (.inr (.inr false)))
 (some (.inl (aL (s1+1))))))
 (some (.inr (.inl ())))
instance (w:av):bm (lr w):=⟨fun s1=>(.un::.be 0 0 0::.un::.be 1 0 0::(U 76 (.sl (w.aH.map bt)::vi (w.aH.length:Int)::vi s1::(U 42 [])))),fun s1=>[some ⟨.of 33,10,[[.sl (w.aa.ay.map bp),.sl (w.aa.off.map aG),vi w.aa.change,.sl (w.ah.map bc),.sl (w.aq.map aB),.sl (w.ae.map aS),vi w.now,.sl (w.aH.map bt),.sl (w.skip.map aG),vi w.bd]]⟩,some ⟨.of 27,3,[[.sl (w.aa.ay.map bp),.sl (w.aa.off.map aG),vi w.aa.change]]⟩]⟩
def lu(w:av)(y9:List ByteArray)(s2:Int×Int):Option ((Int×Int)⊕(Int⊕Bool)):=
 cond (decide (s2.2<(w.ah.length:Int)))
 ((aC w.ah s2.2).bind fun dM=>
 (oe w (aL (s2.2+1)) y9).bind fun jx=>
 cond (!jx)
 (some (.inr (.inr false)))
 (some (.inl ((aL (s2.1+(dM.aE.length:Int))),(aL (s2.2+1))))))
 (some (.inr (.inl s2.1)))
instance (w:av)(y9:List ByteArray):bm (lu w y9):=⟨fun s2=>(.un::.be 0 0 0::(U 6 (.ms 1::vi s2.1::(U 91 (.sl (w.ah.map bc)::vi (w.ah.length:Int)::vi s2.2::(U 21 [])))))),fun s2=>[some ⟨.of 33,10,[[.sl (w.aa.ay.map bp),.sl (w.aa.off.map aG),vi w.aa.change,.sl (w.ah.map bc),.sl (w.aq.map aB),.sl (w.ae.map aS),vi w.now,.sl (w.aH.map bt),.sl (w.skip.map aG),vi w.bd]]⟩,some ⟨.of 9,1,y9.map jH⟩]⟩
def gI(w:av):Option Bool:=
 (iI w.aa w.aq).bind fun y1=>
 cond (!y1)
 (some false)
 ((aZ w.now 0 100000).bind fun y2=>
 cond (!y2)
 (some false)
 (cond (decide (30<(w.ah.length:Int)))
 (some false)
 (cond (decide (20<(w.ae.length:Int)))
 (some false)
 (cond (decide (200<(w.aH.length:Int)))
 (some false)
 (cond (decide (50<(w.skip.length:Int)))
 (some false)
 ((aZ w.bd (w.aH.length:Int) 1000000000).bind fun y3=>
 cond (!y3)
 (some false)
 ((aD (lq w) NN 0).bind (bl (fun o0=>
 (aD (lr w) NN 0).bind (bl (fun o1=>
 (dx w.aa).bind fun y9=>
 (aD (lu w y9) NN (0,0)).bind (bl (fun o2=>
 some (decide (o2=(w.aq.length:Int)))) (fun r=>some r))) (fun r=>some r))) (fun r=>some r)))))))))
instance (w:av):CT Tryz.prog (gI w):=⟨97,[.ag (fK w)],[],fun r=>vb r,fun r=>[],fun H=>by replace H:=H0 H;unfold gI at H;exact aA Tryz.func97 rfl Tryz.ntmps97 Tryz.results97 fun Q hQ cR=>dU⟩
def allI{α:Type}(c:Nat→α→Bool):Nat→List α→Bool
 |_,[]=>true
 |i,x::xs=>c i x&&allI c (i+1) xs
theorem cJ{α:Type}{c:Nat→α→Bool}:∀{xs:List α} {i:Nat},allI c i xs=true↔∀(j:Nat) (x:α),xs[j]?=some x→c (i+j) x=true
 | [],i=>by simp[allI]
 |x::xs,i=>by
  simp only[allI,VZ,cJ]
  constructor
  ·rintro⟨h1,h2⟩ j y hj
   cases j with
   |zero=>obtain rfl:x=y:=by simpa using hj
          exact h1
   |succ j=>have:=h2 j y (by simpa using hj);rwa[Nat.add_right_comm]at this
  ·intro h
   exact⟨h 0 x rfl,fun j y hj=>by have:=h (j+1) y (by simpa using hj);rwa[←Nat.add_assoc,Nat.add_right_comm]at this⟩
theorem H4{α:Type}(c d:Nat→α→Bool):∀(xs:List α) (i:Nat),allI (fun i x=>c i x&&d i x) i xs=(allI c i xs&&allI d i xs)
 | [],i=>rfl
 |x::xs,i=>by
  simp only[allI,H4 c d xs (i+1)]
  cases c i x<;>cases d i x<;>cases allI c (i+1) xs<;>cases allI d (i+1) xs<;>rfl
theorem KG{c d:Nat→α→Bool}{xs:List α}(h:∀(j:Nat) (x:α),xs[j]?=some x→c (i+j) x=d (i+j) x):allI c i xs=allI d i xs:=by
 rw[Bool.eq_iff_iff,cJ,cJ]
 exact⟨fun H j x hx=>by rw[←h j x hx];exact H j x hx,fun H j x hx=>by rw[h j x hx];exact H j x hx⟩
theorem fD{A α σ γ:Type}{xs:List α}{body:σ→Option (σ⊕(γ⊕Bool))}(mk:A→Int→σ)(c:Nat→α→Bool)(f:A→α→A)(g:A→γ)
 (h1:∀a (i:Nat) x,xs[i]?=some x→body (mk a i)=some (if c i x=true then .inl (mk (f a x) ((i+1:Nat):Int))else .inr (.inr false)))
 (h2:∀a,body (mk a (xs.length:Int))=some (.inr (.inl (g a)))) (hN:xs.length<NN) (a:A):aD body NN (mk a 0)=some (if allI c 0 xs=true then .inl (g (xs.foldl f a))else .inr false):=by
 rw[qS mk (fun i a x=>some (if c i x=true then .inl (f a x)else .inr (.inr false))) (fun a=>some (.inl (g a))) (fun a i x hx=>by rw[h1 a i x hx];cases c i x<;>rfl) (fun a=>by rw[h2 a];rfl) hN a]
 have key:∀(xs:List α) (i:Nat) (a:A),tx (fun i a x=>some (if c i x=true then(.inl (f a x):A⊕(γ⊕Bool))else .inr (.inr false))) (fun a=>some (.inl (g a))) i xs a=some (if allI c i xs=true then .inl (g (xs.foldl f a))else .inr false):=by
  intro xs
  induction xs with
  |nil=>intro i a;rfl
  |cons x xs ih=>
   intro i a
   simp only[tx,allI]
   by_cases Td:c i x=true
   ·simp only[Td,if_true,VS,bl,ih,WH,WI]
   ·simp only[Bool.not_eq_true]at Td
    simp[Td]
 exact key xs 0 a
/-! The parts of an Zea test. -/
def et(n:aj)(t:au):Bool:=(cx n t.bx t.day).getD false
def bU(n:aj)(t:au):ByteArray:=((aC n.ay t.bx).map (·.aV)).getD ⟨#[]⟩
def ct(l:List au)(t:au):Bool:=l.any fun y=>decide (y=t)
theorem tl{n:aj}(h:cI n)(t:au):cx n t.bx t.day=some (et n t):=by
 obtain⟨_,b,hb⟩:=qA h t.bx t.day
 unfold et;rw[hb];rfl
theorem dG{n:aj}(h:cI n)(ht:et n t=true):∃y,aC n.ay t.bx=some y∧y∈n.ay:=by
 have:=tl h t
 rw[ht]at this
 obtain⟨y,hy⟩:=vN h this
 exact⟨y,hy,rn hy⟩
def uj(w:av)(id:Int)(o:az)(i:Nat)(t:au):Bool:=et w.aa t&&gE w.aq id t o.ab&&!(decide (bU w.aa t=o.aV)&&decide (i+1<o.aE.length))
def A7(n:aj)(o:az):ByteArray:=o.aE.foldl (fun _ t=>bU n t) o.ar
def aX(o:az):Int:=if o.state=2 then o.aJ+1 else o.aJ
def iV(w:av)(i:Nat)(o:az):Bool:=
 !decide (bb (ak w.aa) o.ar<0)&&!decide (bb (ak w.aa) o.aV<0)&&!decide (o.ar=o.aV)&&(decide (1≤o.ax)&&decide (o.ax≤3))&&(decide (1≤o.ab)&&decide (o.ab≤30000))&&(decide (0≤o.aO)&&decide (o.aO≤w.now))&&(decide (0≤o.dX)&&decide (o.dX≤200000))&&(decide (0≤o.aJ)&&decide (o.aJ≤(o.aE.length:Int))) &&
  allI (uj w ((i+1:Nat):Int) o) 0 o.aE&&(eJ w.aa o.aE o.ar (A7 w.aa o) (aL (o.aO+1))).getD false&&(bW w.aa o w.now).getD false&&!((o.aE.drop (aX o).toNat).any (ct w.ae))
structure pY(w:av):Prop where
 ey:cI w.aa
 ah:w.ah.length≤1048576
 aq:w.aq.length≤1048576
 ae:w.ae.length≤1048576
 aH:w.aH.length≤1048576
 skip:w.skip.length≤1048576
 aE:∀o∈w.ah,o.aE.length≤1048576
theorem DK{n:aj}{o:az}(hg:0≤o.aJ∧o.aJ≤o.aE.length)(hl:o.aE.length≤1048576)(hw:∀t∈o.aE,∃y,aC n.ay t.bx=some y)(now:Int):∃b,bW n o now=some b:=by
 have Bb:∀(i:Int),0≤i→i<o.aE.length→∃t y,aC o.aE i=some t∧aC n.ay t.bx=some y:=by
  intro i h0 h1
  have bF:i.toNat<o.aE.length:=by omega
  obtain⟨y,hy⟩:=hw o.aE[i.toNat] (Wm bF)
  exact⟨o.aE[i.toNat],y,by unfold aC;rw[if_pos h0];exact VT bF,hy⟩
 have wA:aL (o.aJ-1)=o.aJ-1:=aQ (by omega)
 have I0:o.aJ<o.aE.length→∃t s e,aC o.aE o.aJ=some t∧bq n t=some s∧bn n t=some e:=by
  intro h1
  obtain⟨t,y,ht,hy⟩:=Bb o.aJ hg.1 h1
  obtain⟨s,hs⟩:=pV hy
  obtain⟨e,he⟩:=oK hy
  exact⟨t,s,e,ht,hs,he⟩
 unfold bW
 rw[wA]
 by_cases h0:0<o.aJ
 ·rw[decide_eq_true h0,cond_true]
  obtain⟨t,y,ht,hy⟩:=Bb (o.aJ-1) (by omega) (by omega)
  obtain⟨e,he⟩:=oK hy
  simp only[ht,hy,he,VS]
  cases decide (now<e)with
  |true=>exact⟨_,rfl⟩
  |false=>
   simp only[cond_false]
   by_cases h1:o.aJ<o.aE.length
   ·obtain⟨t2,s2,e2,ht2,u6,he2⟩:=I0 h1
    simp only[ht2,u6,he2,VS]
    cases decide (o.state=1)<;>cases decide (o.state=2)<;>cases decide (o.state=3)<;>cases decide (o.place=y.aV)<;>cases decide (y.aV=o.aV)<;>cases decide (o.bD=0)<;>cases decide (o.aJ=(o.aE.length:Int))<;>cases decide (o.place=⟨#[]⟩)<;>cases decide (o.aJ<(o.aE.length:Int))<;>cases decide (s2≤now)<;>cases decide (o.place=o.aV)<;>exact⟨_,rfl⟩
   ·rw[decide_eq_true (show o.aJ=(o.aE.length:Int)by omega),decide_eq_false h1]
    cases decide (o.state=1)<;>cases decide (o.state=2)<;>cases decide (o.state=3)<;>cases decide (o.place=y.aV)<;>cases decide (y.aV=o.aV)<;>cases decide (o.bD=0)<;>cases decide (o.place=⟨#[]⟩)<;>cases decide (o.place=o.aV)<;>exact⟨_,rfl⟩
 ·rw[decide_eq_false h0,cond_false]
  by_cases h1:o.aJ<o.aE.length
  ·obtain⟨t2,s2,e2,ht2,u6,he2⟩:=I0 h1
   simp only[ht2,u6,he2,VS]
   cases decide (o.state=1)<;>cases decide (o.state=2)<;>cases decide (o.state=3)<;>cases decide (o.place=o.ar)<;>cases decide (o.ar=o.aV)<;>cases decide (o.bD=0)<;>cases decide (o.aJ=(o.aE.length:Int))<;>cases decide (o.place=⟨#[]⟩)<;>cases decide (o.aJ<(o.aE.length:Int))<;>cases decide (s2≤now)<;>cases decide (o.place=o.aV)<;>exact⟨_,rfl⟩
  ·rw[decide_eq_true (show o.aJ=(o.aE.length:Int)by omega),decide_eq_false h1]
   cases decide (o.state=1)<;>cases decide (o.state=2)<;>cases decide (o.state=3)<;>cases decide (o.place=o.ar)<;>cases decide (o.ar=o.aV)<;>cases decide (o.bD=0)<;>cases decide (o.place=⟨#[]⟩)<;>cases decide (o.place=o.aV)<;>exact⟨_,rfl⟩
theorem Im{w:av}(hc:w.ae.length≤1048576){o:az}(hl:o.aE.length≤1048576)(h0:0≤k):aD (iS w o) NN k=some (if(o.aE.drop k.toNat).any (ct w.ae)=true then .inr false else .inl ()):=by
 have key:∀(ts:List au) (i N:Nat),o.aE.drop i=ts→ts.length<N→aD (iS w o) N (i:Int)=some (if ts.any (ct w.ae)=true then .inr false else .inl ()):=by
  intro ts
  induction ts with
  |nil=>
   intro i N hd hN
   cases N with
   |zero=>omega
   |succ N=>
    have:o.aE.length≤i:=by have:=congrArg Yq hd;simp at this;omega
    simp only[aD,iS]
    rw[decide_eq_false (show ¬(i:Int)<o.aE.length by omega)]
    rfl
  |cons t ts ih=>
   intro i N hd hN
   cases N with
   |zero=>simp at hN
   |succ N=>
    have ht:o.aE[i]?=some t:=by
     have:=congrArg (fun l:List au=>l[0]?) hd
     simpa using this
    have bF:=(VU.1 ht).1
    have vt:o.aE.drop (i+1)=ts:=by
     have:=congrArg (List.drop 1) hd
     simpa[XI]using this
    have hg:aC o.aE (i:Int)=some t:=by rw[aR];exact ht
    simp only[aD,iS]
    rw[decide_eq_true (show(i:Int)<o.aE.length by omega),cond_true,hg]
    simp only[VS]
    rw[fP,fC hc,bI bF (by omega)]
    have Gl:(w.ae.any fun y=>decide (y=t))=ct w.ae t:=rfl
    rw[Gl]
    by_cases qD:ct w.ae t=true
    ·simp[qD,XC]
    ·simp only[Bool.not_eq_true]at qD
     simp only[qD,XC,VS,cond_false,bl,X9]
     exact ih (i+1) N vt (by simp at hN;omega)
 have:=key (o.aE.drop k.toNat) k.toNat NN rfl (by simp;unfold NN;omega)
 rw[show((k.toNat:Nat):Int)=k by omega]at this
 exact this
theorem As(cl:au→Bool)(k:Int):∀(ts:List au) (i:Nat),allI (fun i t=>!(decide (k≤(i:Int))&&cl t)) i ts=!((ts.drop (k-i).toNat).any cl)
 | [],i=>by simp[allI]
 |t::ts,i=>by
  simp only[allI,As cl k ts (i+1)]
  by_cases h:k≤(i:Int)
  ·rw[decide_eq_true h,show(k-(i:Int)).toNat=0 by omega,show(k-((i+1:Nat):Int)).toNat=0 by omega]
   simp
  ·rw[decide_eq_false h]
   obtain⟨m,hm⟩:∃m,(k-(i:Int)).toNat=m+1:=⟨(k-(i:Int)).toNat-1,by omega⟩
   rw[hm,show(k-((i+1:Nat):Int)).toNat=m by omega]
   simp
theorem s7{o:az}(h:0≤o.aJ∧o.aJ≤o.aE.length)(hl:o.aE.length≤1048576):eY o=some (aX o)∧0≤aX o∧gD o=some (if(o.aE.length:Int)<aX o then(o.aE.length:Int)else aX o):=by
 unfold eY gD aX
 have hw:aL (o.aJ+1)=o.aJ+1:=aQ (by omega)
 simp only[hw]
 by_cases h2:o.state=2
 ·rw[decide_eq_true h2,if_pos h2];exact⟨rfl,by omega,rfl⟩
 ·rw[decide_eq_false h2,if_neg h2];exact⟨rfl,by omega,by rw[if_neg (show ¬(o.aE.length:Int)<o.aJ by omega)];rfl⟩
section
variable {w:av} (hf:pY w) (hb:bJ w.aa w.aq=true)
include hf hb
theorem S7{o:az}(hl:o.aE.length≤1048576)(i:Nat)(hi:i<1048576):aD (kx w (i:Int) o) NN (o.ar,0)=some (if allI (uj w ((i+1:Nat):Int) o) 0 o.aE=true then .inl (A7 w.aa o)else .inr false):=by
 refine fD (A:=ByteArray) (fun a i=>(a,i)) _ (fun _ t=>bU w.aa t) id (fun a j t ht=>?_) (fun a=>?_) (by unfold NN;omega) o.ar
 ·have bF:=(VU.1 ht).1
  have hg:aC o.aE (j:Int)=some t:=by rw[aR];exact ht
  have hj:aL ((j:Int)+1)=((j+1:Nat):Int):=bI bF (by omega)
  have hi1:aL ((i:Int)+1)=((i+1:Nat):Int):=by rw[aQ (by omega)];omega
  unfold kx
  simp only[decide_eq_true (show(j:Int)<o.aE.length by omega),cond_true,hg,VS,hj,hi1,tl hf.ey,Qs hf.aq]
  unfold uj
  cases zJ:et w.aa t with
  |false=>simp
  |true=>
   obtain⟨y,hy,_⟩:=dG hf.ey zJ
   have Gp:bU w.aa t=y.aV:=by unfold bU;rw[hy];rfl
   simp only[hy,VS,Gp,V0,cond_false]
   cases gE w.aq ((i+1:Nat):Int) t o.ab with
   |false=>simp
   |true=>
    simp only[V0,cond_false,WH]
    by_cases h1:y.aV=o.aV
    ·by_cases h2:j+1<o.aE.length
     ·simp[h1,h2,show((j:Int)+1)<o.aE.length by omega]
     ·simp[h1,h2,show ¬((j:Int)+1)<o.aE.length by omega]
    ·simp[h1]
 ·unfold kx
  simp
theorem S6{o:az}(hl:o.aE.length≤1048576)(i:Nat)(hi:i<1048576)(ho:aC w.ah (i:Int)=some o)(hg0:0≤o.aJ∧o.aJ≤o.aE.length):
 aD (lB w ((i+1:Nat):Int) o) NN (o.ar,0)=some (if(allI (uj w ((i+1:Nat):Int) o) 0 o.aE&&!((o.aE.drop (aX o).toNat).any (ct w.ae)))=true then .inl (A7 w.aa o)else .inr false):=by
 obtain⟨c1,c2,c3⟩:=s7 hg0 hl
 have qD:(!((o.aE.drop (aX o).toNat).any (ct w.ae)))=allI (fun j t=>!(decide ((if(o.aE.length:Int)<aX o then(o.aE.length:Int)else aX o)≤(j:Int))&&ct w.ae t)) 0 o.aE:=by
  rw[As]
  congr 2
  split
  ·rename_i h
   rw[XU (by omega),XU (by omega)]
  ·congr 1;omega
 rw[qD,←H4]
 have nU:=(cW hb).1
 refine fD (A:=ByteArray) (fun a i=>(a,i)) _ (fun _ t=>bU w.aa t) id (fun a j t ht=>?_) (fun a=>?_) (by unfold NN;omega) o.ar
 ·have bF:=(VU.1 ht).1
  have hg:aC o.aE (j:Int)=some t:=by rw[aR];exact ht
  have hj:aL ((j:Int)+1)=((j+1:Nat):Int):=bI bF (by omega)
  have wA:aL ((o.aE.length:Int)-1)=(o.aE.length:Int)-1:=aQ (by omega)
  have zn:aC w.ah (aL (((i+1:Nat):Int)-1))=some o:=by rw[aQ (by omega),show((i+1:Nat):Int)-1=(i:Int)by omega];exact ho
  unfold lB
  simp only[decide_eq_true (show(j:Int)<o.aE.length by omega),cond_true,hg,VS,hj,wA,yJ hf.ey nU,tl hf.ey,Gk hf.aq (B7 hb) zn,c3,fC hf.ae]
  unfold uj
  cases zJ:et w.aa t with
  |false=>simp
  |true=>
   obtain⟨y,hy,_⟩:=dG hf.ey zJ
   have Gp:bU w.aa t=y.aV:=by unfold bU;rw[hy];rfl
   simp only[hy,VS,Gp,V0,cond_false]
   cases gE w.aq ((i+1:Nat):Int) t o.ab with
   |false=>simp
   |true=>
    simp only[V0,cond_false,WH]
    generalize (if(o.aE.length:Int)<aX o then(o.aE.length:Int)else aX o)=k
    have zH:ct w.ae t=w.ae.any fun y=>decide (y=t):=rfl
    rw[zH]
    by_cases h3:k≤(j:Int)
    ·rw[decide_eq_true h3,cond_true]
     cases w.ae.any fun y=>decide (y=t)with
     |true=>simp
     |false=>
      simp only[cond_false]
      by_cases h1:y.aV=o.aV
      ·by_cases h2:j+1<o.aE.length
       ·simp[h1,h2,show(j:Int)<(o.aE.length:Int)-1 by omega]
       ·simp[h1,h2,show ¬(j:Int)<(o.aE.length:Int)-1 by omega]
      ·simp[h1]
    ·rw[decide_eq_false h3,cond_false]
     by_cases h1:y.aV=o.aV
     ·by_cases h2:j+1<o.aE.length
      ·simp[h1,h2,show(j:Int)<(o.aE.length:Int)-1 by omega]
      ·simp[h1,h2,show ¬(j:Int)<(o.aE.length:Int)-1 by omega]
     ·simp[h1]
 ·unfold lB
  simp
theorem FO{o:az}(hl:o.aE.length≤1048576)(hg0:0≤o.aJ∧o.aJ≤o.aE.length)(h:allI (uj w ((i+1:Nat):Int) o) 0 o.aE=true):bW w.aa o w.now=some ((bW w.aa o w.now).getD false):=by
 obtain⟨b,uX⟩:=DK (n:=w.aa) hg0 hl (fun t ht=>by
  obtain⟨j,hj,rfl⟩:=Wf ht
  have:=cJ.1 h j _ (VT hj)
  unfold uj at this
  simp only[VZ]at this
  obtain⟨y,hy,_⟩:=dG hf.ey this.1.1
  exact⟨y,hy⟩) w.now
 rw[uX];rfl
theorem L5{o:az}(ho:aC w.ah (i:Int)=some o):nB w (i:Int)=some (iV w i o):=by
 have hl:=hf.aE o (rn ho)
 have hi:i<1048576:=by have:=(VU.1 (by rw[←aR];exact ho)).1;have:=hf.ah;omega
 have hp:=(di hf.ey).2
 have xC:=eA w.aa
 have DV:=hf.ey.ay
 unfold nB iV
 rw[ho,hp]
 simp only[VS,dt,oM (show(ak w.aa).length≤4194304 by omega)]
 cases decide (bb (ak w.aa) o.ar<0)with
 |true=>rfl
 |false=>
 cases decide (bb (ak w.aa) o.aV<0)with
 |true=>rfl
 |false=>
 cases decide (o.ar=o.aV)with
 |true=>rfl
 |false=>
 simp only[cond_false,Wz,WH]
 cases decide (1≤o.ax)&&decide (o.ax≤3)with
 |false=>rfl
 |true=>
 cases decide (1≤o.ab)&&decide (o.ab≤30000)with
 |false=>rfl
 |true=>
 cases decide (0≤o.aO)&&decide (o.aO≤w.now)with
 |false=>rfl
 |true=>
 cases decide (0≤o.dX)&&decide (o.dX≤200000)with
 |false=>rfl
 |true=>
 simp only[cond_false,V0,WH]
 cases hg:decide (0≤o.aJ)&&decide (o.aJ≤(o.aE.length:Int))with
 |false=>rfl
 |true=>
 simp only[VZ,decide_eq_true_iff]at hg
 obtain⟨c1,c2,c3⟩:=s7 hg hl
 simp only[V0,cond_false,WH]
 rw[S7 hf hb hl i hi]
 cases Uj:allI (uj w ((i+1:Nat):Int) o) 0 o.aE with
 |false=>rfl
 |true=>
 have rD:=FO hf hb hl hg Uj
 obtain⟨r,hr⟩:=xI hf.ey hl o.ar (A7 w.aa o) (aL (o.aO+1))
 simp only[if_true,VS,bl,hr,Ws,WH]
 cases r with
 |false=>rfl
 |true=>
 rw[rD]
 simp only[Ws]
 cases(bW w.aa o w.now).getD false with
 |false=>rfl
 |true=>
 simp only[V0,cond_false,VS,c1,Im hf.ae hl c2,WH]
 cases(o.aE.drop (aX o).toNat).any (ct w.ae)<;>rfl
theorem La{o:az}(ho:aC w.ah (i:Int)=some o):oe w ((i+1:Nat):Int) (ak w.aa)=some (iV w i o):=by
 have hl:=hf.aE o (rn ho)
 have hi:i<1048576:=by have:=(VU.1 (by rw[←aR];exact ho)).1;have:=hf.ah;omega
 have xC:=eA w.aa
 have DV:=hf.ey.ay
 have zn:aC w.ah (aL (((i+1:Nat):Int)-1))=some o:=by rw[aQ (by omega),show((i+1:Nat):Int)-1=(i:Int)by omega];exact ho
 unfold oe iV
 rw[zn,fV,lY]
 simp only[VS,dt,oM (show(ak w.aa).length≤4194304 by omega)]
 cases decide (o.ar=o.aV)with
 |true=>simp only[cond_true,V0,Bool.and_false,Bool.false_and]
 |false=>
 cases decide (bb (ak w.aa) o.ar<0)with
 |true=>rfl
 |false=>
 cases decide (bb (ak w.aa) o.aV<0)with
 |true=>rfl
 |false=>
 simp only[cond_false,Wz,WH]
 cases decide (1≤o.ax)&&decide (o.ax≤3)with
 |false=>rfl
 |true=>
 cases decide (1≤o.ab)&&decide (o.ab≤30000)with
 |false=>rfl
 |true=>
 cases decide (0≤o.aO)&&decide (o.aO≤w.now)with
 |false=>rfl
 |true=>
 cases decide (0≤o.dX)&&decide (o.dX≤200000)with
 |false=>rfl
 |true=>
 simp only[cond_false,V0,WH]
 cases hg:decide (0≤o.aJ)&&decide (o.aJ≤(o.aE.length:Int))with
 |false=>rfl
 |true=>
 simp only[VZ,decide_eq_true_iff]at hg
 simp only[V0,cond_false,WH]
 rw[S6 hf hb hl i hi ho hg]
 cases Uj:allI (uj w ((i+1:Nat):Int) o) 0 o.aE with
 |false=>rfl
 |true=>
 have rD:=FO hf hb hl hg Uj
 obtain⟨r,hr⟩:=xI hf.ey hl o.ar (A7 w.aa o) (aL (o.aO+1))
 simp only[WH]
 rw[hr]
 cases(o.aE.drop (aX o).toNat).any (ct w.ae)with
 |true=>simp
 |false=>
 simp only[Wz,if_true,VS,bl,RF hf.ey,hr,Ws,WH,SS,Bool.and_true]
 cases r with
 |false=>rfl
 |true=>
 rw[rD]
 rfl
end
set_option maxHeartbeats 1000000
def Nb(s:ByteArray):Bool:=(cM s).getD false
theorem Nc(h:s.size≤xl):cM s=some (Nb s):=by
 obtain⟨_,b,hb⟩:=n9 h
 unfold Nb;rw[hb];rfl
theorem Sf(h:s.size≤xl):dI s=some (Nb s):=(n9 h).1.trans (Nc h)
theorem Vw(a b:ByteArray):Hg a b=!qB b a:=by
 have h1:Hg a b=(qB a b ||(a.toList==b.toList)):=rfl
 rw[h1,baB]
 by_cases e:a=b
 ·subst e
  have:=Hh a
  simp[this]
 ·rw[decide_eq_false e,Bool.or_false]
  cases h:qB a b with
  |true=>
   have:=SG a b h
   simp[this]
  |false=>
   have:=Nn (a:=a) (b:=b) (by simp[h]) e
   simp[this]
def ZaA(o:Option bL)(z:bL):Bool:=match o with
 |some y=>qB y.last z.first
 |none=>false
theorem NK(y z:bL):ZaA (some y) z=qB y.last z.first:=rfl
def DR(l:List bL)(i:Nat)(z:bL):Bool:=
 Nb z.first&&(Nb z.last&&(Hg z.first z.last&&(decide (i=0) ||ZaA l[i-1]? z)))
def rM(l:List bL):Bool:=allI (DR l) 0 l&&decide ((l.length:Int)≤8)
def rC(l:List bL):Prop:=l.length≤1048576∧∀z∈l,z.first.size≤xl∧z.last.size≤xl
theorem zi{i n:Nat}(h0:0<i)(hi:i<n)(hn:n≤1048576):aL ((i:Int)-1)=((i-1:Nat):Int):=by
 rw[aQ (by omega)];omega
theorem Hu{l:List bL}(hf:rC l):jE l=some (rM l):=by
 have e:aD (ks l) NN 0=some (if allI (DR l) 0 l=true then .inl ()else .inr false):=by
  refine fD (A:=Unit) (fun _ i=>i) _ (fun a _=>a) (fun _=>()) (fun a i z hz=>?_) (fun a=>?_) (by have:=hf.1;unfold NN;omega) ()
  ·have bF:=(VU.1 hz).1
   have hl:=hf.1
   obtain⟨p1,p2⟩:=hf.2 z (VW hz)
   have hg:aC l (i:Int)=some z:=by rw[aR];exact hz
   have hi:aL ((i:Int)+1)=((i+1:Nat):Int):=bI bF (by omega)
   unfold ks
   simp only[mP,decide_eq_true (show(i:Int)<l.length by omega),cond_true,hg,VS,hi,Nc p1,Nc p2]
   unfold DR
   by_cases h0:i=0
   ·subst h0
    rw[decide_eq_false (show ¬(0<((0:Nat):Int))by omega)]
    cases Nb z.first<;>cases Nb z.last<;>cases Hg z.first z.last<;>rfl
   ·have hp:=zi (XJ h0) bF hl
    obtain⟨y,hy⟩:∃y,l[i-1]?=some y:=⟨_,VT (by omega)⟩
    have hgy:aC l ((i-1:Nat):Int)=some y:=by rw[aR];exact hy
    rw[decide_eq_true (show 0<(i:Int)by omega),decide_eq_false h0,hp,hgy,hy,NK]
    simp only[VS]
    cases Nb z.first<;>cases Nb z.last<;>cases Hg z.first z.last<;>cases qB y.last z.first<;>rfl
  ·unfold ks
   simp
 unfold jE rM
 rw[e]
 cases allI (DR l) 0 l<;>rfl
theorem Ht{l:List bL}(hf:rC l):jB l=some (rM l):=by
 have e:aD (kg l) NN 0=some (if allI (DR l) 0 l=true then .inl ()else .inr false):=by
  refine fD (A:=Unit) (fun _ i=>i) _ (fun a _=>a) (fun _=>()) (fun a i z hz=>?_) (fun a=>?_) (by have:=hf.1;unfold NN;omega) ()
  ·have bF:=(VU.1 hz).1
   have hl:=hf.1
   obtain⟨p1,p2⟩:=hf.2 z (VW hz)
   have hg:aC l (i:Int)=some z:=by rw[aR];exact hz
   have hi:aL ((i:Int)+1)=((i+1:Nat):Int):=bI bF (by omega)
   unfold kg
   simp only[mP,decide_eq_true (show(i:Int)<l.length by omega),cond_true,hg,VS,hi,Sf p1,Sf p2]
   unfold DR
   by_cases h0:i=0
   ·subst h0
    rw[decide_eq_false (show ¬(0<((0:Nat):Int))by omega)]
    cases Nb z.first<;>cases Nb z.last<;>cases Hg z.first z.last<;>rfl
   ·have hp:=zi (XJ h0) bF hl
    obtain⟨y,hy⟩:∃y,l[i-1]?=some y:=⟨_,VT (by omega)⟩
    have hgy:aC l ((i-1:Nat):Int)=some y:=by rw[aR];exact hy
    rw[decide_eq_true (show 0<(i:Int)by omega),decide_eq_false h0,hp,hgy,hy,NK]
    simp only[VS,Vw z.first y.last]
    cases Nb z.first<;>cases Nb z.last<;>cases Hg z.first z.last<;>cases qB y.last z.first<;>rfl
  ·unfold kg
   simp
 unfold jB rM
 rw[e]
 cases allI (DR l) 0 l<;>rfl
def tp(a b:bN):Bool:=decide (a.iY<b.iY) ||(decide (b.iY=a.iY)&&(decide (a.ax<b.ax) ||(decide (b.ax=a.ax)&&(decide (a.kI<b.kI)&&decide (a.kJ≤b.kJ)))))
theorem Tu(a b:bN):oC a b=some (tp a b):=by
 unfold oC tp
 cases decide (a.iY<b.iY)<;>cases decide (b.iY=a.iY)<;>cases decide (a.ax<b.ax)<;>cases decide (b.ax=a.ax)<;>cases decide (a.kI<b.kI)<;>rfl
def SD(o:Option bN)(r:bN):Bool:=match o with
 |some y=>tp y r
 |none=>false
theorem Hf(y r:bN):SD (some y) r=tp y r:=rfl
def AN(l:List bN)(aY:Int)(i:Nat)(r:bN):Bool:=
 !decide (r.iY<0)&&(!decide (aY≤r.iY)&&((decide (1≤r.ax)&&decide (r.ax≤3))&&((decide (1≤r.kI)&&decide (r.kI≤1000000000))&&((decide (0≤r.kJ)&&decide (r.kJ≤100000))&&(decide (i=0) ||SD l[i-1]? r)))))
def rL(l:List bN)(aY:Int):Bool:=allI (AN l aY) 0 l&&decide ((l.length:Int)≤24)
theorem Ng{l:List bN}(hl:l.length≤1048576):kY l aY=some (rL l aY):=by
 have e:aD (kr l aY) NN 0=some (if allI (AN l aY) 0 l=true then .inl ()else .inr false):=by
  refine fD (A:=Unit) (fun _ i=>i) _ (fun a _=>a) (fun _=>()) (fun a i z hz=>?_) (fun a=>?_) (by unfold NN;omega) ()
  ·have bF:=(VU.1 hz).1
   have hg:aC l (i:Int)=some z:=by rw[aR];exact hz
   have hi:aL ((i:Int)+1)=((i+1:Nat):Int):=bI bF (by omega)
   unfold kr
   simp only[mP,decide_eq_true (show(i:Int)<l.length by omega),cond_true,hg,VS,hi,dt]
   unfold AN
   generalize (decide (1≤z.ax)&&decide (z.ax≤3))=c1
   generalize (decide (1≤z.kI)&&decide (z.kI≤1000000000))=c2
   generalize (decide (0≤z.kJ)&&decide (z.kJ≤100000))=c3
   by_cases h0:i=0
   ·subst h0
    rw[decide_eq_false (show ¬(0<((0:Nat):Int))by omega)]
    cases decide (z.iY<0)<;>cases decide (aY≤z.iY)<;>cases c1<;>cases c2<;>cases c3<;>rfl
   ·have hp:=zi (XJ h0) bF hl
    obtain⟨y,hy⟩:∃y,l[i-1]?=some y:=⟨_,VT (by omega)⟩
    have hgy:aC l ((i-1:Nat):Int)=some y:=by rw[aR];exact hy
    rw[decide_eq_true (show 0<(i:Int)by omega),decide_eq_false h0,hp,hgy,hy,Hf]
    simp only[VS,Tu]
    cases decide (z.iY<0)<;>cases decide (aY≤z.iY)<;>cases c1<;>cases c2<;>cases c3<;>cases tp y z<;>rfl
  ·unfold kr
   simp
 unfold kY rL
 rw[e]
 cases allI (AN l aY) 0 l<;>rfl
theorem Tr(a b:bN)(h:¬(0≤(if tF a.iY b.iY≠0 then tF a.iY b.iY else if tF a.ax b.ax≠0 then tF a.ax b.ax else tF a.kI b.kI))):tp a b=!(decide (a.iY=b.iY)&&(decide (a.ax=b.ax)&&decide (b.kJ<a.kJ))):=by
 unfold tF at h
 unfold tp
 rw[Bool.eq_iff_iff]
 simp only[Yr,VZ,decide_eq_true_eq,Wa,Bool.and_eq_false_iff,decide_eq_false_iff_not]
 repeat' split at h
 all_goals omega
theorem Tt(a b:bN)(h:0≤(if tF a.iY b.iY≠0 then tF a.iY b.iY else if tF a.ax b.ax≠0 then tF a.ax b.ax else tF a.kI b.kI)):tp a b=false:=by
 unfold tF at h
 unfold tp
 rw[Ye]
 intro h2
 simp only[Yr,VZ,decide_eq_true_eq]at h2
 repeat' split at h
 all_goals omega
theorem Nf{l:List bN}(hl:l.length≤1048576):kT l aY=some (rL l aY):=by
 have e:aD (kf l aY) NN 0=some (if allI (AN l aY) 0 l=true then .inl ()else .inr false):=by
  refine fD (A:=Unit) (fun _ i=>i) _ (fun a _=>a) (fun _=>()) (fun a i z hz=>?_) (fun a=>?_) (by unfold NN;omega) ()
  ·have bF:=(VU.1 hz).1
   have hg:aC l (i:Int)=some z:=by rw[aR];exact hz
   have hi:aL ((i:Int)+1)=((i+1:Nat):Int):=bI bF (by omega)
   unfold kf
   simp only[mP,decide_eq_true (show(i:Int)<l.length by omega),cond_true,hg,VS,hi,sS]
   unfold AN
   generalize (decide (1≤z.ax)&&decide (z.ax≤3))=c1
   generalize (decide (1≤z.kI)&&decide (z.kI≤1000000000))=c2
   generalize (decide (0≤z.kJ)&&decide (z.kJ≤100000))=c3
   by_cases h0:i=0
   ·subst h0
    rw[decide_eq_true (show((0:Nat):Int)=0 by omega)]
    cases decide (z.iY<0)<;>cases decide (aY≤z.iY)<;>cases c1<;>cases c2<;>cases c3<;>rfl
   ·have hp:=zi (XJ h0) bF hl
    obtain⟨y,hy⟩:∃y,l[i-1]?=some y:=⟨_,VT (by omega)⟩
    have hgy:aC l ((i-1:Nat):Int)=some y:=by rw[aR];exact hy
    rw[decide_eq_false (show ¬((i:Int)=0)by omega),decide_eq_false h0,hp,hgy,hy,Hf]
    simp only[VS,Qy,Q0]
    by_cases hc:0≤(if tF y.iY z.iY≠0 then tF y.iY z.iY else if tF y.ax z.ax≠0 then tF y.ax z.ax else tF y.kI z.kI)
    ·rw[decide_eq_true hc,Tt y z hc]
     cases decide (z.iY<0)<;>cases decide (aY≤z.iY)<;>cases c1<;>cases c2<;>cases c3<;>rfl
    ·rw[decide_eq_false hc,Tr y z hc]
     cases decide (z.iY<0)<;>cases decide (aY≤z.iY)<;>cases c1<;>cases c2<;>cases c3<;>cases decide (y.iY=z.iY)<;>cases decide (y.ax=z.ax)<;>cases decide (z.kJ<y.kJ)<;>rfl
  ·unfold kf
   simp
 unfold kT rL
 rw[e]
 cases allI (AN l aY) 0 l<;>rfl
theorem Md:@oP=@iR:=by
 funext l q i
 unfold oP iR
 simp only[mP]
 cases aC l i<;>rfl
theorem Hs{l:List bL}(hl:l.length≤1048576)(q:ByteArray):∃o,aD (iR l q) NN 0=some o:=by
 refine yM (n:=l.length) (by unfold NN;omega) (fun i hi=>?_) ?_
 ·have hg:aC l (i:Int)=some l[i]:=by rw[aR];exact VT hi
  have hw:aL ((i:Int)+1)=((i+1:Nat):Int):=bI hi (by omega)
  unfold iR
  simp only[mP,decide_eq_true (show(i:Int)<l.length by omega),cond_true,hg,VS,hw]
  cases Hg l[i].first q<;>cases Hg q l[i].last
  ·exact DI rfl
  ·exact DI rfl
  ·exact DI rfl
  ·exact DJ rfl
 ·unfold iR
  rw[decide_eq_false (by omega)]
  exact⟨_,rfl⟩
theorem PJ{l:List bL}(hf:rC l){q:ByteArray}(hq:q.size≤xl):pk l q=nH l q∧∃v,nH l q=some v:=by
 unfold pk nH
 rw[Ht hf,Hu hf,Md,Sf hq,Nc hq]
 refine⟨rfl,?_⟩
 obtain⟨o,ho⟩:=Hs hf.1 q
 rw[ho]
 cases rM l<;>cases Nb q<;>(try exact⟨_,rfl⟩)
 cases o<;>exact⟨_,rfl⟩
theorem PD{l:List Int}(h:l.length<NN):nv l=lf l∧∃v,lf l=some v:=by
 unfold nv lf
 rw[DM,Ho h]
 refine⟨rfl,?_⟩
 cases ht:xU l with
 |false=>exact⟨_,rfl⟩
 |true=>
  match l,FI ht with
  | [x,y,z],_=>exact⟨_,rfl⟩
theorem N0{p:a8}(h1:p.label.aV.size≤xl)(h2:p.ar.size≤xl)(h3:p.cq.length<NN):gZ p=fM p∧∃v,fM p=some v:=by
 obtain⟨e1,b,hb⟩:=wK h1 h2 h3
 obtain⟨e2,v,hv⟩:=PD h3
 unfold gZ fM
 rw[e1,hb,e2,hv]
 simp only[VS]
 generalize IntKind.i64.wrap (Int.tdiv (aL (v+4999)) 5000)=x
 cases b
 ·exact⟨rfl,_,rfl⟩
 ·by_cases h:p.ab<x
  ·rw[if_pos h,decide_eq_true h];exact⟨rfl,_,rfl⟩
  ·rw[if_neg h,decide_eq_false h];exact⟨rfl,_,rfl⟩
theorem Pb{p:a8}{z:Int}(hc:gZ p=fM p):nO ba p z=gT ba p z:=by
 funext i
 unfold nO gT
 simp only[mP,hc]
 cases hg:aC ba i with
 |none=>simp
 |some y=>simp only[VS]
theorem C9{aY:List bL}{p:a8}(hz:rC aY)(hr:ba.length≤1048576)(h1:p.label.aV.size≤xl)(h2:p.ar.size≤xl)(h3:p.cq.length<NN):
 mn aY ba p=gS aY ba p∧∃v,gS aY ba p=some v:=by
 obtain⟨e1,b,hb⟩:=wK h1 h2 h3
 obtain⟨e2,z,hv⟩:=PJ hz h1
 obtain⟨e3,cw,hcw⟩:=N0 h1 h2 h3
 have hL:∃o,aD (gT ba p z) NN 0=some o:=by
  refine yM (n:=ba.length) (by unfold NN;omega) (fun i hi=>?_) ?_
  ·have hg:aC ba (i:Int)=some ba[i]:=by rw[aR];exact VT hi
   have hw:aL ((i:Int)+1)=((i+1:Nat):Int):=bI hi (by omega)
   unfold gT
   simp only[mP,decide_eq_true (show(i:Int)<ba.length by omega),cond_true,hg,VS,hw,hcw]
   cases decide (ba[i].iY=z)<;>cases decide (ba[i].ax=p.label.ax)<;>cases decide (cw≤ba[i].kI)<;>(first|exact DI rfl|exact DJ rfl)
  ·unfold gT
   rw[decide_eq_false (by omega)]
   exact⟨_,rfl⟩
 obtain⟨o,ho⟩:=hL
 unfold mn gS
 rw[Ht hz,Hu hz,Nf hr,Ng hr,e1,e2,hb,hv]
 simp only[VS,Pb e3,ho]
 refine⟨trivial,?_⟩
 cases rM aY
 ·exact⟨_,rfl⟩
 cases rL ba (aY.length:Int)
 ·exact⟨_,rfl⟩
 cases b
 ·exact⟨_,rfl⟩
 cases o<;>exact⟨_,rfl⟩
def rV(w:av)(i:Nat)(t:au):Bool:=et w.aa t&&!ct (w.ae.take i) t
def xg(w:av)(i:Nat)(s:br):Bool:=(cu w.aa s).getD false&&!decide (w.now<s.aO)
def uM(w:av):Int:=w.ah.foldl (fun a o=>aL (a+(o.aE.length:Int))) 0
def eu(w:av):Bool:=
 bJ w.aa w.aq&&(decide (0≤w.now)&&decide (w.now≤100000))&&!decide (30<(w.ah.length:Int))&&!decide (20<(w.ae.length:Int))&&!decide (200<(w.aH.length:Int))&&!decide (50<(w.skip.length:Int))&&(decide ((w.aH.length:Int)≤w.bd)&&decide (w.bd≤1000000000)) &&
  allI (rV w) 0 w.ae&&allI (xg w) 0 w.aH&&allI (iV w) 0 w.ah&&decide (uM w=(w.aq.length:Int))
theorem wO(xs:List α)(i:Nat):cD xs 0 (i:Int)=xs.take i:=by simp[cD]
section
variable {w:av} (hf:pY w) (hb:bJ w.aa w.aq=true)
include hf
theorem SK(s:br):cu w.aa s=some ((cu w.aa s).getD false):=by
 obtain⟨b,h⟩:=AH hf.ey s
 rw[h];rfl
theorem Io:aD (lN w) NN 0=some (if allI (rV w) 0 w.ae=true then .inl ()else .inr false):=by
 refine fD (A:=Unit) (fun _ i=>i) _ (fun a _=>a) id (fun a i t ht=>?_) (fun a=>?_) (by have:=hf.ae;unfold NN;omega) ()
 ·have bF:=(VU.1 ht).1
  have qD:=hf.ae
  have hg:aC w.ae (i:Int)=some t:=by rw[aR];exact ht
  have hi:aL ((i:Int)+1)=((i+1:Nat):Int):=bI bF (by omega)
  have hs:cL (gA 0 (i:Int) w.ae.length)=some ():=pR (by unfold gA;rw[decide_eq_true_iff];omega)
  unfold lN
  simp only[decide_eq_true (show(i:Int)<w.ae.length by omega),cond_true,hg,VS,hi,hs,tl hf.ey,wO,fP,fC (show(w.ae.take i).length≤1048576 by simp;omega)]
  unfold rV
  have Gl:((w.ae.take i).any fun y=>decide (y=t))=ct (w.ae.take i) t:=rfl
  rw[Gl]
  cases et w.aa t<;>cases ct (w.ae.take i) t<;>rfl
 ·unfold lN
  simp
theorem Il(hb:bJ w.aa w.aq=true):aD (lq w) NN 0=some (if allI (rV w) 0 w.ae=true then .inl ()else .inr false):=by
 have nU:=(cW hb).1
 refine fD (A:=Unit) (fun _ i=>i) _ (fun a _=>a) id (fun a i t ht=>?_) (fun a=>?_) (by have:=hf.ae;unfold NN;omega) ()
 ·have bF:=(VU.1 ht).1
  have qD:=hf.ae
  have hg:aC w.ae (i:Int)=some t:=by rw[aR];exact ht
  have hi:aL ((i:Int)+1)=((i+1:Nat):Int):=bI bF (by omega)
  have hs:cL (gA 0 (i:Int) w.ae.length)=some ():=pR (by unfold gA;rw[decide_eq_true_iff];omega)
  unfold lq
  simp only[decide_eq_true (show(i:Int)<w.ae.length by omega),cond_true,hg,VS,hi,hs,yJ hf.ey nU,tl hf.ey,wO,fC (show(w.ae.take i).length≤1048576 by simp;omega)]
  unfold rV
  have Gl:((w.ae.take i).any fun y=>decide (y=t))=ct (w.ae.take i) t:=rfl
  rw[Gl]
  cases et w.aa t<;>cases ct (w.ae.take i) t<;>rfl
 ·unfold lq
  simp
theorem L4:aD (lO w) NN 0=some (if allI (xg w) 0 w.aH=true then .inl ()else .inr false):=by
 refine fD (A:=Unit) (fun _ i=>i) _ (fun a _=>a) id (fun a i s hs=>?_) (fun a=>?_) (by have:=hf.aH;unfold NN;omega) ()
 ·have bF:=(VU.1 hs).1
  have qD:=hf.aH
  have hg:aC w.aH (i:Int)=some s:=by rw[aR];exact hs
  have hi:aL ((i:Int)+1)=((i+1:Nat):Int):=bI bF (by omega)
  unfold lO
  rw[decide_eq_true (show(i:Int)<w.aH.length by omega),cond_true,hg]
  simp only[VS]
  rw[SK hf s]
  simp only[VS,hi]
  unfold xg
  cases(cu w.aa s).getD false<;>cases decide (w.now<s.aO)<;>rfl
 ·unfold lO
  simp
theorem L3:aD (lr w) NN 0=some (if allI (xg w) 0 w.aH=true then .inl ()else .inr false):=by
 refine fD (A:=Unit) (fun _ i=>i) _ (fun a _=>a) id (fun a i s hs=>?_) (fun a=>?_) (by have:=hf.aH;unfold NN;omega) ()
 ·have bF:=(VU.1 hs).1
  have qD:=hf.aH
  have hg:aC w.aH (i:Int)=some s:=by rw[aR];exact hs
  have hi:aL ((i:Int)+1)=((i+1:Nat):Int):=bI bF (by omega)
  unfold lr
  rw[decide_eq_true (show(i:Int)<w.aH.length by omega),cond_true,hg]
  simp only[VS]
  rw[OB hf.ey,SK hf s]
  simp only[VS,hi]
  unfold xg
  cases(cu w.aa s).getD false<;>cases decide (w.now<s.aO)<;>rfl
 ·unfold lr
  simp
include hb
theorem Js:aD (lP w) NN (0,0)=some (if allI (iV w) 0 w.ah=true then .inl (uM w)else .inr false):=by
 refine fD (A:=Int) (fun a i=>(a,i)) _ (fun a (o:az)=>aL (a+(o.aE.length:Int))) id (fun a i o ho=>?_) (fun a=>?_) (by have:=hf.ah;unfold NN;omega) 0
 ·have bF:=(VU.1 ho).1
  have qD:=hf.ah
  have hg:aC w.ah (i:Int)=some o:=by rw[aR];exact ho
  have hi:aL ((i:Int)+1)=((i+1:Nat):Int):=bI bF (by omega)
  unfold lP
  simp only[decide_eq_true (show(i:Int)<w.ah.length by omega),cond_true,hg,VS,hi,L5 hf hb hg]
  cases iV w i o<;>rfl
 ·unfold lP
  simp
theorem Jr:aD (lu w (ak w.aa)) NN (0,0)=some (if allI (iV w) 0 w.ah=true then .inl (uM w)else .inr false):=by
 refine fD (A:=Int) (fun a i=>(a,i)) _ (fun a (o:az)=>aL (a+(o.aE.length:Int))) id (fun a i o ho=>?_) (fun a=>?_) (by have:=hf.ah;unfold NN;omega) 0
 ·have bF:=(VU.1 ho).1
  have qD:=hf.ah
  have hg:aC w.ah (i:Int)=some o:=by rw[aR];exact ho
  have hi:aL ((i:Int)+1)=((i+1:Nat):Int):=bI bF (by omega)
  unfold lu
  simp only[decide_eq_true (show(i:Int)<w.ah.length by omega),cond_true,hg,VS,hi,La hf hb hg]
  cases iV w i o<;>rfl
 ·unfold lu
  simp
end
theorem wD{γ:Type}{b:Bool}{x:γ}{K:γ→Option Bool}{r:Bool}(h:b=true→K x=some r)(h':b=false→r=false):(some (if b=true then(Sum.inl x:γ⊕Bool)else .inr false)).bind (bl K (fun r=>some r))=some r:=by
 cases b with
 |true=>exact h rfl
 |false=>rw[h' rfl];rfl
theorem pQ{w:av}(hf:pY w):fu w=some (eu w):=by
 unfold fu eu
 rw[iv hf.ey hf.aq]
 simp only[VS,dt]
 cases hb:bJ w.aa w.aq with
 |false=>rfl
 |true=>
 cases decide (0≤w.now)&&decide (w.now≤100000)with
 |false=>rfl
 |true=>
 cases decide (30<(w.ah.length:Int))with
 |true=>rfl
 |false=>
 cases decide (20<(w.ae.length:Int))with
 |true=>rfl
 |false=>
 cases decide (200<(w.aH.length:Int))with
 |true=>rfl
 |false=>
 cases decide (50<(w.skip.length:Int))with
 |true=>rfl
 |false=>
 cases decide ((w.aH.length:Int)≤w.bd)&&decide (w.bd≤1000000000)with
 |false=>rfl
 |true=>
 simp only[V0,Wz,cond_false,WH]
 rw[Io hf,L4 hf,Js hf hb]
 refine wD (fun h1=>?_) (fun h1=>by rw[h1];rfl)
 refine wD (fun h2=>?_) (fun h2=>by rw[h1,h2];rfl)
 refine wD (fun h3=>?_) (fun h3=>by rw[h1,h2,h3];rfl)
 rw[h1,h2,h3];rfl
theorem sF{w:av}(hf:pY w):gI w=some (eu w):=by
 unfold gI eu
 rw[vA hf.ey hf.aq,fV]
 simp only[VS,dt]
 cases hb:bJ w.aa w.aq with
 |false=>rfl
 |true=>
 cases decide (0≤w.now)&&decide (w.now≤100000)with
 |false=>rfl
 |true=>
 cases decide (30<(w.ah.length:Int))with
 |true=>rfl
 |false=>
 cases decide (20<(w.ae.length:Int))with
 |true=>rfl
 |false=>
 cases decide (200<(w.aH.length:Int))with
 |true=>rfl
 |false=>
 cases decide (50<(w.skip.length:Int))with
 |true=>rfl
 |false=>
 cases decide ((w.aH.length:Int)≤w.bd)&&decide (w.bd≤1000000000)with
 |false=>rfl
 |true=>
 simp only[V0,Wz,cond_false,WH]
 rw[Il hf hb,L3 hf,AF hf.ey]
 simp only[VS]
 rw[Jr hf hb]
 refine wD (fun h1=>?_) (fun h1=>by rw[h1];rfl)
 refine wD (fun h2=>?_) (fun h2=>by rw[h1,h2];rfl)
 refine wD (fun h3=>?_) (fun h3=>by rw[h1,h2,h3];rfl)
 rw[h1,h2,h3];rfl
theorem pW{w:av}(h:eu w=true){o:az}(ho:w.ah[i]?=some o):iV w i o=true:=by
 unfold eu at h
 simp only[VZ]at h
 have:=cJ.1 h.1.2 i o ho
 rwa[Wb]at this
theorem AW{w:av}(h:eu w=true):bJ w.aa w.aq=true:=by
 unfold eu at h
 simp only[VZ]at h
 exact h.1.1.1.1.1.1.1.1.1.1
structure Zac(l:bM):Prop where
 start:0≤l.start∧l.start≤1439
 lT:1≤l.lT∧l.lT≤4320
 fy:0≤l.fy∧l.fy≤1000000
theorem RE{l:bM}(h:CP l)(hv:fe l=some true):Zac l:=by
 obtain⟨_,b1,s1⟩:=n9 (s:=l.ar) h.1
 obtain⟨_,b2,s2⟩:=n9 (s:=l.aV) h.2
 unfold fe at hv
 rw[s1,s2]at hv
 simp only[VS,dt]at hv
 cases b1 with
 |false=>simp at hv
 |true=>
 cases b2 with
 |false=>simp at hv
 |true=>
 simp only[cond_true]at hv
 cases h1:decide (l.ar=l.aV)with
 |true=>rw[h1]at hv;simp at hv
 |false=>
 rw[h1]at hv
 cases h2:decide (0≤l.start)&&decide (l.start≤1439)with
 |false=>rw[h2]at hv;simp at hv
 |true=>
 rw[h2]at hv
 cases h3:decide (1≤l.lT)&&decide (l.lT≤4320)with
 |false=>rw[h3]at hv;simp at hv
 |true=>
 rw[h3]at hv
 cases h4:decide (1≤l.tI)&&decide (l.tI≤127)with
 |false=>rw[h4]at hv;simp at hv
 |true=>
 rw[h4]at hv
 cases h5:decide (0≤l.fy)&&decide (l.fy≤1000000)with
 |false=>rw[h5]at hv;simp at hv
 |true=>
 simp only[VZ,decide_eq_true_iff]at h2 h3 h5
 exact⟨h2,h3,h5⟩
theorem tj{n:aj}(h:cI n)(hn:aU n=some true):∀l∈n.ay,Zac l:=by
 have e:aD (bY n) NN 0=some (if allI (fun _ l=>(fe l).getD false) 0 n.ay=true then .inl ()else .inr false):=by
  refine fD (A:=Unit) (fun _ i=>i) _ (fun a _=>a) id (fun a i l hl=>?_) (fun a=>?_) (by have:=h.ay;unfold NN;omega) ()
  ·have bF:=(VU.1 hl).1
   have qD:=h.ay
   have hg:aC n.ay (i:Int)=some l:=by rw[aR];exact hl
   have hi:aL ((i:Int)+1)=((i+1:Nat):Int):=bI bF (by omega)
   obtain⟨_,b,hb⟩:=yG (h.bx l (VW hl))
   unfold bY
   simp only[decide_eq_true (show(i:Int)<n.ay.length by omega),cond_true,hg,VS,hb,hi,Ws]
   cases b<;>rfl
  ·unfold bY
   simp
 unfold aU at hn
 rw[e]at hn
 by_cases ha:allI (fun _ l=>(fe l).getD false) 0 n.ay=true
 ·intro l hl
  obtain⟨i,hi,rfl⟩:=Wf hl
  have:=cJ.1 ha i _ (VT hi)
  obtain⟨_,b,hb⟩:=yG (h.bx _ (Wm hi))
  rw[hb]at this
  simp at this
  subst this
  exact RE (h.bx _ (Wm hi)) hb
 ·rw[if_neg ha]at hn
  simp at hn
theorem zh{n:aj}(ht:et n t=true):0≤t.day∧t.day≤60:=by
 unfold et cx at ht
 rw[dt,dt]at ht
 simp only[VS]at ht
 cases h1:decide (0≤t.bx)&&decide (t.bx≤aL ((n.ay.length:Int)-1))with
 |false=>rw[h1]at ht;simp at ht
 |true=>
 rw[h1]at ht
 simp only[cond_true]at ht
 cases h2:decide (0≤t.day)&&decide (t.day≤60)with
 |false=>rw[h2]at ht;simp at ht
 |true=>simpa only[VZ,decide_eq_true_iff]using h2
def cd(n:aj)(t:au):Int:=(bq n t).getD 0
def cS(n:aj)(t:au):Int:=(bn n t).getD 0
theorem cH{n:aj}(h:cI n)(hn:aU n=some true)(ht:et n t=true):
 bq n t=some (cd n t)∧bn n t=some (cS n t)∧0≤cd n t∧cd n t<cS n t∧cS n t≤100000:=by
 obtain⟨y,hy,hm⟩:=dG h ht
 obtain⟨d0,d1⟩:=zh ht
 have hl:=tj h hn y hm
 obtain⟨a0,a1⟩:=hl.start
 obtain⟨b0,b1⟩:=hl.lT
 have e1:bq n t=some (t.day*1440+y.start):=by
  unfold bq
  rw[hy]
  simp only[VS]
  rw[aQ (n:=t.day*1440) (by omega),aQ (by omega)]
 have e2:bn n t=some (t.day*1440+y.start+y.lT):=by
  unfold bn
  rw[e1,hy]
  simp only[VS]
  rw[aQ (by omega)]
 have s1:cd n t=t.day*1440+y.start:=by unfold cd;rw[e1];rfl
 have s2:cS n t=t.day*1440+y.start+y.lT:=by unfold cS;rw[e2];rfl
 refine⟨by rw[e1,s1],by rw[e2,s2],by omega,by omega,by omega⟩
theorem J8{n:aj}{o:az}{now:Int}(h:bW n o now=some true):(o.state=1∧¬(o.place=o.aV))∨(o.state=2∧o.aJ<o.aE.length)∨(o.state=3∧o.aJ=o.aE.length∧0<o.aJ):=by
 by_cases h1:o.state=1
 ·refine .inl ⟨h1,fun hp=>?_⟩
  unfold bW at h
  rw[decide_eq_true h1]at h
  cases h0:decide (0<o.aJ)with
  |false=>
   rw[h0]at h
   simp only[cond_false,cond_true]at h
   cases hq:decide (o.place=o.ar)with
   |false=>rw[hq]at h;cases h
   |true=>
    rw[hq,decide_eq_true (show o.ar=o.aV from(of_decide_eq_true hq).symm.trans hp)]at h
    cases h
  |true=>
   rw[h0]at h
   simp only[cond_false,cond_true]at h
   cases hg:aC o.aE (aL (o.aJ-1))with
   |none=>rw[hg]at h;cases h
   |some y1=>
    rw[hg]at h
    simp only[VS]at h
    cases hl:aC n.ay y1.bx with
    |none=>rw[hl]at h;cases h
    |some y2=>
     rw[hl]at h
     simp only[VS]at h
     cases he:bn n y1 with
     |none=>rw[he]at h;cases h
     |some v=>
      rw[he]at h
      simp only[VS]at h
      cases hc:decide (now<v)with
      |true=>rw[hc]at h;cases h
      |false=>
       rw[hc]at h
       simp only[cond_false]at h
       cases hq:decide (o.place=y2.aV)with
       |false=>rw[hq]at h;cases h
       |true=>
        rw[hq,decide_eq_true (show y2.aV=o.aV from(of_decide_eq_true hq).symm.trans hp)]at h
        cases h
 ·by_cases h2:o.state=2
  ·refine .inr (.inl ⟨h2,?_⟩)
   rcases Classical.em (o.aJ<o.aE.length)with bF|bF
   ·exact bF
   exfalso
   unfold bW at h
   rw[decide_eq_false h1,decide_eq_true h2,decide_eq_false bF]at h
   cases h0:decide (0<o.aJ)with
   |false=>
    rw[h0]at h
    simp only[cond_false,cond_true]at h
    revert h;cases decide (o.place=⟨#[]⟩)<;>cases decide (o.bD=0)<;>(intro h;cases h)
   |true=>
    rw[h0]at h
    simp only[cond_false,cond_true]at h
    cases hg:aC o.aE (aL (o.aJ-1))with
    |none=>rw[hg]at h;cases h
    |some y1=>
     rw[hg]at h
     simp only[VS]at h
     cases hl:aC n.ay y1.bx with
     |none=>rw[hl]at h;cases h
     |some y2=>
      rw[hl]at h
      simp only[VS]at h
      cases he:bn n y1 with
      |none=>rw[he]at h;cases h
      |some v=>
       rw[he]at h
       simp only[VS]at h
       revert h;cases decide (now<v)<;>cases decide (o.place=⟨#[]⟩)<;>cases decide (o.bD=0)<;>(intro h;cases h)
  ·by_cases h3:o.state=3
   ·refine .inr (.inr ⟨h3,?_⟩)
    rcases Classical.em (o.aJ=o.aE.length∧0<o.aJ)with bF|bF
    ·exact bF
    exfalso
    unfold bW at h
    rw[decide_eq_false h1,decide_eq_false h2,decide_eq_true h3]at h
    cases h0:decide (0<o.aJ)with
    |false=>
     rw[h0]at h
     simp only[cond_false,cond_true]at h
     revert h;cases decide (o.place=o.aV)<;>cases decide (o.ar=o.aV)<;>cases decide (o.aJ=(o.aE.length:Int))<;>(intro h;cases h)
    |true=>
     have iw:¬o.aJ=(o.aE.length:Int):=fun e=>bF ⟨e,of_decide_eq_true h0⟩
     rw[h0,decide_eq_false iw]at h
     simp only[cond_false,cond_true]at h
     cases hg:aC o.aE (aL (o.aJ-1))with
     |none=>rw[hg]at h;cases h
     |some y1=>
      rw[hg]at h
      simp only[VS]at h
      cases hl:aC n.ay y1.bx with
      |none=>rw[hl]at h;cases h
      |some y2=>
       rw[hl]at h
       simp only[VS]at h
       cases he:bn n y1 with
       |none=>rw[he]at h;cases h
       |some v=>
        rw[he]at h
        simp only[VS]at h
        revert h;cases decide (now<v)<;>cases decide (o.place=o.aV)<;>cases decide (y2.aV=o.aV)<;>(intro h;cases h)
   ·exfalso
    unfold bW at h
    rw[decide_eq_false h1,decide_eq_false h2,decide_eq_false h3]at h
    cases h0:decide (0<o.aJ)with
    |false=>rw[h0]at h;cases h
    |true=>
     rw[h0]at h
     simp only[cond_false,cond_true]at h
     cases hg:aC o.aE (aL (o.aJ-1))with
     |none=>rw[hg]at h;cases h
     |some y1=>
      rw[hg]at h
      simp only[VS]at h
      cases hl:aC n.ay y1.bx with
      |none=>rw[hl]at h;cases h
      |some y2=>
       rw[hl]at h
       simp only[VS]at h
       cases he:bn n y1 with
       |none=>rw[he]at h;cases h
       |some v=>
        rw[he]at h
        simp only[VS]at h
        revert h;cases decide (now<v)<;>(intro h;cases h)
structure FV(w:av)(i:Nat)(o:az):Prop where
 aJ:0≤o.aJ∧o.aJ≤o.aE.length
 bf:∀t∈o.aE,et w.aa t=true
 aE:allI (uj w ((i+1:Nat):Int) o) 0 o.aE=true
 Zat:eJ w.aa o.aE o.ar (A7 w.aa o) (aL (o.aO+1))=some true
 st:bW w.aa o w.now=some true
 cases:(o.state=1∧¬(o.place=o.aV))∨(o.state=2∧o.aJ<o.aE.length)∨(o.state=3∧o.aJ=o.aE.length∧0<o.aJ)
 open_:((o.aE.drop (aX o).toNat).any (ct w.ae))=false
 ZaW:¬o.ar=o.aV
 aO:0≤o.aO∧o.aO≤w.now
 dX:0≤o.dX∧o.dX≤200000
theorem Jq{w:av}(hf:pY w){o:az}(hl:o.aE.length≤1048576)(h:iV w i o=true):FV w i o:=by
 unfold iV at h
 simp only[VZ,Wa,decide_eq_true_iff,decide_eq_false_iff_not]at h
 obtain⟨⟨⟨⟨⟨⟨⟨⟨⟨⟨⟨h1,h2⟩,h3⟩,h4⟩,h5⟩,h6⟩,h7⟩,h8⟩,h9⟩,xZ⟩,Cz⟩,Tb⟩:=h
 have ht:∀t∈o.aE,et w.aa t=true:=by
  intro t ht
  obtain⟨j,hj,rfl⟩:=Wf ht
  have:=cJ.1 h9 j _ (VT hj)
  unfold uj at this
  simp only[VZ]at this
  exact this.1.1
 obtain⟨r,hr⟩:=xI hf.ey hl o.ar (A7 w.aa o) (aL (o.aO+1))
 obtain⟨b,hb⟩:=DK (n:=w.aa) h8 hl (fun t htt=>by obtain⟨y,hy,_⟩:=dG hf.ey (ht t htt);exact⟨y,hy⟩) w.now
 rw[hr]at xZ
 rw[hb]at Cz
 simp only[Ws]at xZ Cz
 subst xZ Cz
 exact⟨h8,ht,h9,hr,hb,J8 hb,Tb,h3,h6,h7⟩
section
variable {w:av} (hf:pY w) (hv:eu w=true)
include hf hv
theorem mM{o:az}(ho:w.ah[i]?=some o):FV w i o:=Jq hf (hf.aE o (VW ho)) (pW hv ho)
theorem FP:aU w.aa=some true:=(cW (AW hv)).1
theorem DN{o:az}(ho:w.ah[i]?=some o)(h0:0≤k)(h1:k<o.aE.length):∃t,aC o.aE k=some t∧et w.aa t=true:=by
 have bF:k.toNat<o.aE.length:=by omega
 exact⟨o.aE[k.toNat],by unfold aC;rw[if_pos h0];exact VT bF,(mM hf hv ho).bf _ (Wm bF)⟩
theorem UZ:gr w=(aD (ie w) NN (0,(-1))).bind (fun o0=>some o0):=by
 have nU:=FP hf hv
 have Ti:=hf.ah
 let F:Nat→Int→az→Option (Int⊕Int):=fun _ a o=>
  if o.aJ=o.aE.length then some (.inl a)else(aC o.aE o.aJ).bind fun t=>
   let v:=if o.state=2 then cS w.aa t else cd w.aa t
   some (.inl (if a<0∨v<a then v else a))
 have e1:aD (eZ w) NN ((-1),0)=tx F some 0 w.ah (-1):=by
  refine qS (A:=Int) (fun a i=>(a,i)) F some (fun a i o ho=>?_) (fun a=>?_) (by unfold NN;omega) (-1)
  ·have bF:=(VU.1 ho).1
   have hg:aC w.ah (i:Int)=some o:=by rw[aR];exact ho
   have hi:aL ((i:Int)+1)=((i+1:Nat):Int):=bI bF (by omega)
   have ik:=mM hf hv ho
   unfold eZ
   simp only[decide_eq_true (show(i:Int)<w.ah.length by omega),cond_true,hg,VS,hi,pU,rY]
   show _=(F i a o).bind _
   simp only[F]
   by_cases sE:o.aJ<o.aE.length
   ·obtain⟨t,PU,yC⟩:=DN hf hv ho ik.aJ.1 sE
    obtain⟨t1,t2,t3,t4,t5⟩:=cH hf.ey nU yC
    rw[if_neg (show ¬o.aJ=(o.aE.length:Int)by omega),PU]
    simp only[VS,t1,t2,decide_eq_true sE]
    rcases ik.cases with⟨c1,_⟩ |⟨c1,_⟩ |⟨c1,c2,_⟩
    ·rw[c1]
     simp only[show decide ((1:Int)=2)=false from rfl,show decide ((1:Int)=1)=true from rfl,cond_true,cond_false,decide_eq_true t3,show ¬((1:Int)=2)by omega,if_false,bl]
     by_cases ha:a<0
     ·simp[ha]
     ·by_cases hb:cd w.aa t<a<;>simp[ha,hb]
    ·rw[c1]
     simp only[show decide ((2:Int)=2)=true from rfl,cond_true,decide_eq_true (show 0≤cS w.aa t by omega),if_true,bl]
     by_cases ha:a<0
     ·simp[ha]
     ·by_cases hb:cS w.aa t<a<;>simp[ha,hb]
    ·omega
   ·have yz:=ik.aJ.2
    rw[if_pos (show o.aJ=(o.aE.length:Int)by omega),decide_eq_false sE]
    rcases ik.cases with⟨c1,_⟩ |⟨c1,_⟩ |⟨c1,c2,_⟩
    ·rw[c1];rfl
    ·omega
    ·rw[c1];rfl
  ·unfold eZ
   simp
 have e2:aD (ie w) NN (0,(-1))=tx F some 0 w.ah (-1):=by
  refine qS (A:=Int) (fun a i=>(i,a)) F some (fun a i o ho=>?_) (fun a=>?_) (by unfold NN;omega) (-1)
  ·have bF:=(VU.1 ho).1
   have hg:aC w.ah (i:Int)=some o:=by rw[aR];exact ho
   have hi:aL ((i:Int)+1)=((i+1:Nat):Int):=bI bF (by omega)
   have ik:=mM hf hv ho
   unfold ie
   simp only[decide_eq_true (show(i:Int)<w.ah.length by omega),cond_true,hg,VS,hi]
   show _=(F i a o).bind _
   simp only[F]
   by_cases sE:o.aJ<o.aE.length
   ·obtain⟨t,PU,yC⟩:=DN hf hv ho ik.aJ.1 sE
    obtain⟨t1,t2,t3,t4,t5⟩:=cH hf.ey nU yC
    rw[if_neg (show ¬o.aJ=(o.aE.length:Int)by omega),decide_eq_false (show ¬o.aJ=(o.aE.length:Int)by omega),PU]
    simp only[VS,t1,t2,cond_false]
    by_cases c1:o.state=2
    ·simp only[decide_eq_true c1,cond_true,if_pos c1,bl]
     by_cases ha:a<0
     ·simp[ha]
     ·by_cases hb:cS w.aa t<a<;>simp[ha,hb]
    ·simp only[decide_eq_false c1,cond_false,if_neg c1,bl]
     by_cases ha:a<0
     ·simp[ha]
     ·by_cases hb:cd w.aa t<a<;>simp[ha,hb]
   ·have yz:=ik.aJ.2
    rw[if_pos (show o.aJ=(o.aE.length:Int)by omega),decide_eq_true (show o.aJ=(o.aE.length:Int)by omega)]
    rfl
  ·unfold ie
   simp
 unfold gr
 rw[e1,e2]
end
theorem J9{w:av}(hf:pY w)(hv:eu w=true){o:az}(ho:w.ah[i]?=some o):∃b,fR w o=some b∧iT w (i:Int)=some b∧(b=false→0<o.aE.length):=by
 have ik:=mM hf hv ho
 have hl:=hf.aE o (VW ho)
 obtain⟨c1,c2,c3⟩:=s7 ik.aJ hl
 have hg:aC w.ah (i:Int)=some o:=by rw[aR];exact ho
 unfold fR iT
 rw[hg]
 simp only[VS]
 rcases ik.cases with⟨k1,k2⟩ |⟨k1,k2⟩ |⟨k1,k2,k3⟩
 ·have yy:aX o=o.aJ:=by unfold aX;rw[k1];rfl
  have yz:=ik.aJ
  have hh:eQ w.aa o=some o.place:=by unfold eQ;rw[k1];rfl
  rw[MO,hh,c1,c3,yy,if_neg (show ¬(o.aE.length:Int)<o.aJ by omega),k1]
  simp only[VS]
  by_cases sE:o.aJ=o.aE.length
  ·refine⟨true,?_,?_,fun h=>by cases h⟩
   ·rw[decide_eq_true sE,decide_eq_false k2];rfl
   ·rw[decide_eq_true sE,decide_eq_false k2];rfl
  ·exact⟨false,by rw[decide_eq_false sE];rfl,by rw[decide_eq_false sE];rfl,fun _=>by omega⟩
 ·have yy:aX o=o.aJ+1:=by unfold aX;rw[k1];rfl
  have yz:=ik.aJ
  obtain⟨t,PU,yC⟩:=DN hf hv ho ik.aJ.1 k2
  obtain⟨y,hy,_⟩:=dG hf.ey yC
  have hh:eQ w.aa o=some y.aV:=by unfold eQ;rw[k1,PU];simp[hy]
  rw[MO,hh,c1,c3,yy,if_neg (show ¬(o.aE.length:Int)<o.aJ+1 by omega),k1]
  simp only[VS]
  cases decide (o.aJ+1=(o.aE.length:Int))with
  |true=>exact⟨_,rfl,rfl,fun _=>by omega⟩
  |false=>exact⟨_,rfl,rfl,fun _=>by omega⟩
 ·rw[k1]
  exact⟨false,rfl,rfl,fun _=>by omega⟩
theorem wE{σ ο:Type}{body:σ→Option (σ⊕ο)}{P:ο→Prop}(h:∀s o,body s=some (.inr o)→P o):∀(N:Nat) (s:σ) (o:ο),aD body N s=some o→P o
 |0,s,o,he=>by simp[aD]at he
 |N+1,s,o,he=>by
  simp only[aD]at he
  cases hb:body s with
  |none=>rw[hb]at he;cases he
  |some x=>
   rw[hb]at he
   cases x with
   |inl s'=>exact wE h N s' o he
   |inr r=>obtain rfl:r=o:=by simpa[bl]using he
           exact h s r hb
theorem M0{n:aj}(hn:aU n=some true):(0≤n.change∧n.change≤240)∧n.ay.length≤20∧n.off.length≤10:=by
 unfold aU at hn
 have p0:∀(N:Nat) (s:Int) (o:Unit⊕Bool),aD (bY n) N s=some o→o=.inl ()∨o=.inr false:=by
  refine wE fun s o h=>?_
  unfold bY at h
  cases hd:decide (s<(n.ay.length:Int))with
  |false=>rw[hd]at h;cases h;exact .inl rfl
  |true=>
   rw[hd,cond_true]at h
   cases hg:aC n.ay s with
   |none=>rw[hg]at h;cases h
   |some y=>
    rw[hg,VS]at h
    cases hl:fe y with
    |none=>rw[hl]at h;cases h
    |some b=>rw[hl,VS]at h;cases b<;>cases h;exact .inr rfl
 have p1:∀(N:Nat) (s:Int) (o:Unit⊕Bool),aD (bZ n) N s=some o→o=.inl ()∨o=.inr false:=by
  refine wE fun s o h=>?_
  unfold bZ at h
  cases hd:decide (s<(n.off.length:Int))with
  |false=>rw[hd]at h;cases h;exact .inl rfl
  |true=>
   rw[hd,cond_true]at h
   cases hg:aC n.off s with
   |none=>rw[hg]at h;cases h
   |some y=>
    rw[hg,VS,dt,VS]at h
    cases hb:decide (0≤y)&&decide (y≤60)with
    |false=>rw[hb]at h;cases h;exact .inr rfl
    |true=>
     rw[hb]at h
     cases hs:decide (0<s)with
     |false=>rw[hs]at h;cases h
     |true=>
      rw[hs]at h
      simp only[V0,cond_false,cond_true]at h
      cases PQ:aC n.off (aL (s-1))with
      |none=>rw[PQ]at h;cases h
      |some z=>
       rw[PQ]at h
       simp only[VS]at h
       cases hz:decide (y≤z)with
       |false=>rw[hz]at h;cases h
       |true=>rw[hz]at h;cases h;exact .inr rfl
 cases h0:aD (bY n) NN 0 with
 |none=>rw[h0]at hn;cases hn
 |some r0=>
 rw[h0]at hn
 rcases p0 _ _ _ h0 with rfl|rfl
 ·simp only[VS,bl]at hn
  cases h1:aD (bZ n) NN 0 with
  |none=>rw[h1]at hn;cases hn
  |some r1=>
  rw[h1]at hn
  rcases p1 _ _ _ h1 with rfl|rfl
  ·simp only[VS,bl,dt]at hn
   cases h2:decide ((n.ay.length:Int)≤20)with
   |false=>rw[h2]at hn;cases hn
   |true=>
   cases h3:decide ((n.off.length:Int)≤10)with
   |false=>rw[h2,h3]at hn;cases hn
   |true=>
   rw[h2,h3]at hn
   simp only[cond_true]at hn
   have:=VV hn
   have h2:=of_decide_eq_true h2
   have h3:=of_decide_eq_true h3
   exact⟨by simpa only[VZ,decide_eq_true_iff]using this,by omega,by omega⟩
  ·cases hn
 ·cases hn
theorem gm{n:aj}(hn:aU n=some true):0≤n.change∧n.change≤240:=(M0 hn).1
theorem qv{n:aj}(hn:aU n=some true):n.ay.length≤20:=(M0 hn).2.1
def jc(n:aj)(t:au):ByteArray:=((aC n.ay t.bx).map (·.ar)).getD ⟨#[]⟩
def gy(n:aj):ByteArray→Int→List au→Prop
 |_,_,[]=>True
 |p,a,t::ts=>et n t=true∧jc n t=p∧a≤cd n t∧gy n (bU n t) (cS n t+n.change) ts
theorem yI{n:aj}(h:cI n)(hn:aU n=some true)(t:au):dF n t=some (et n t):=by
 rw[←(qR h t).1,yJ h hn,tl h]
theorem AI{n:aj}(hf:cI n)(hn:aU n=some true){aE:List au}(hl:aE.length≤1048576){a b:ByteArray}{t:Int}(h:eJ n aE a b t=some true):gy n a t aE:=by
 obtain⟨ch0,ch1⟩:=gm hn
 have xC:=eA n
 have DV:=hf.ay
 let F:Nat→ByteArray×Int→au→Option ((ByteArray×Int)⊕(ByteArray⊕Bool)):=fun _ p t=>
  some (if et n t=true∧jc n t=p.1∧p.2≤cd n t then .inl (bU n t,cS n t+n.change)else .inr (.inr false))
 have e1:aD (dy n aE b) NN (a,t,0)=tx F (fun p=>some (.inl p.1)) 0 aE (a,t):=by
  refine qS (A:=ByteArray×Int) (fun p i=>(p.1,p.2,i)) F (fun p=>some (.inl p.1)) (fun p i x hx=>?_) (fun p=>?_) (by unfold NN;omega) (a,t)
  ·have bF:=(VU.1 hx).1
   have hg:aC aE (i:Int)=some x:=by rw[aR];exact hx
   have hi:aL ((i:Int)+1)=((i+1:Nat):Int):=bI bF (by omega)
   unfold dy
   simp only[decide_eq_true (show(i:Int)<aE.length by omega),cond_true,hg,VS,hi,yI hf hn,F]
   cases ht:et n x with
   |false=>simp[bl]
   |true=>
    obtain⟨y,hy,_⟩:=dG hf ht
    obtain⟨t1,t2,t3,t4,t5⟩:=cH hf hn ht
    have f1:jc n x=y.ar:=by unfold jc;rw[hy];rfl
    have f2:bU n x=y.aV:=by unfold bU;rw[hy];rfl
    have hw:aL (cS n x+n.change)=cS n x+n.change:=aQ (by omega)
    simp only[hy,VS,t1,t2,f1,f2,hw,V0,cond_false,true_and]
    by_cases h1:y.ar=p.1
    ·by_cases h2:cd n x<p.2
     ·rw[decide_eq_true h1,decide_eq_true h2,if_neg (show ¬(y.ar=p.1∧p.2≤cd n x)by omega)];rfl
     ·rw[decide_eq_true h1,decide_eq_false h2,if_pos ⟨h1,by omega⟩];rfl
    ·rw[decide_eq_false h1,if_neg (fun h=>h1 h.1)];rfl
  ·unfold dy
   simp
 have key:∀(ts:List au) (i:Nat) (p:ByteArray×Int) (r:ByteArray),tx F (fun p=>some (.inl p.1)) i ts p=some (.inl r)→gy n p.1 p.2 ts:=by
  intro ts
  induction ts with
  |nil=>intro i p r h;trivial
  |cons x ts ih=>
   intro i p r h
   simp only[tx,F]at h
   by_cases hc:et n x=true∧jc n x=p.1∧p.2≤cd n x
   ·rw[if_pos hc]at h
    exact⟨hc.1,hc.2.1,hc.2.2,ih (i+1) (bU n x,cS n x+n.change) r h⟩
   ·rw[if_neg hc]at h;cases h
 unfold eJ at h
 rw[(di hf).2,hn]at h
 simp only[VS,oM (show(ak n).length≤4194304 by omega),e1]at h
 cases h1:decide (bb (ak n) a<0)with
 |true=>rw[h1]at h;cases h
 |false=>
 cases h2:decide (bb (ak n) b<0)with
 |true=>rw[h1,h2]at h;cases h
 |false=>
 rw[h1,h2]at h
 simp only[V0,cond_false]at h
 cases hr:tx F (fun p=>some (.inl p.1)) 0 aE (a,t)with
 |none=>rw[hr]at h;cases h
 |some r=>
  cases r with
  |inl r=>exact key aE 0 (a,t) r hr
  |inr v=>
   exfalso
   have:∀(ts:List au) (i:Nat) (p:ByteArray×Int) (v:Bool),tx F (fun p=>some (.inl p.1)) i ts p=some (.inr v)→v=false:=by
    intro ts
    induction ts with
    |nil=>intro i p v h;cases h
    |cons x ts ih=>
     intro i p v h
     simp only[tx,F]at h
     by_cases hc:et n x=true∧jc n x=p.1∧p.2≤cd n x
     ·rw[if_pos hc]at h;exact ih _ _ _ h
     ·rw[if_neg hc]at h;cases h;rfl
   have hv:=this _ _ _ _ hr
   subst hv
   rw[hr]at h
   cases h
theorem Cc{n:aj}:∀{ts:List au} {p:ByteArray} {a:Int} {i:Nat} {t:au},gy n p a ts→ts[i]?=some t→et n t=true∧∀t',ts[i+1]?=some t'→cS n t+n.change≤cd n t'∧jc n t'=bU n t
 | [],_,_,_,_,_,h=>by simp at h
 |x::ts,p,a,0,t,hc,h=>by
  obtain rfl:x=t:=by simpa using h
  refine⟨hc.1,fun t' h'=>?_⟩
  cases ts with
  |nil=>simp at h'
  |cons y ts=>obtain rfl:y=t':=by simpa using h'
              exact⟨hc.2.2.2.2.2.1,hc.2.2.2.2.1⟩
 |x::ts,p,a,i+1,t,hc,h=>by
  have h':ts[i]?=some t:=by simpa using h
  have:=Cc hc.2.2.2 h'
  simpa using this
def oW(n:aj)(o:az):ByteArray:=if 0<o.aJ then((o.aE[(o.aJ-1).toNat]?).map (bU n)).getD ⟨#[]⟩else o.ar
structure mW(n:aj)(o:az)(now:Int):Prop where
 El:∀t,0<o.aJ→o.aE[(o.aJ-1).toNat]?=some t→cS n t≤now
 cases:(o.state=1∧o.place=oW n o∧¬oW n o=o.aV∧o.bD=0∧∀t,o.aE[o.aJ.toNat]?=some t→now<cd n t)∨
  (o.state=2∧o.place=⟨#[]⟩∧o.bD=0∧∃t,o.aE[o.aJ.toNat]?=some t∧cd n t≤now∧now<cS n t)∨
  (o.state=3∧o.place=o.aV∧oW n o=o.aV∧o.aJ=o.aE.length∧0<o.aJ∧∀t,o.aE[(o.aJ-1).toNat]?=some t→o.bD=cS n t)
theorem wj[Decidable c]:cond (decide c) a b=some true↔(c∧a=some true)∨(¬c∧b=some true):=by
 by_cases h:c<;>simp[h]
theorem ux[Decidable c]:cond (!decide c) a b=some true↔(¬c∧a=some true)∨(c∧b=some true):=by
 by_cases h:c<;>simp[h]
theorem uh{n:aj}(hf:cI n)(hn:aU n=some true){o:az}(hg:0≤o.aJ∧o.aJ≤o.aE.length)(hl:o.aE.length≤1048576)(ht:∀t∈o.aE,et n t=true)(now:Int):bW n o now=some true↔mW n o now:=by
 have wA:aL (o.aJ-1)=o.aJ-1:=aQ (by omega)
 have nx:(∃t,o.aJ<o.aE.length∧aC o.aE o.aJ=some t∧o.aE[o.aJ.toNat]?=some t∧bq n t=some (cd n t)∧bn n t=some (cS n t))∨(o.aJ=o.aE.length∧o.aE[o.aJ.toNat]?=none):=by
  by_cases h:o.aJ<o.aE.length
  ·have bF:o.aJ.toNat<o.aE.length:=by omega
   obtain⟨t1,t2,_⟩:=cH hf hn (ht _ (Wm bF))
   exact .inl ⟨o.aE[o.aJ.toNat],h,by unfold aC;rw[if_pos hg.1];exact VT bF,VT bF,t1,t2⟩
  ·exact .inr ⟨by omega,Wy (by omega)⟩
 unfold bW
 rw[wA]
 by_cases h0:0<o.aJ
 ·have bF:(o.aJ-1).toNat<o.aE.length:=by omega
  obtain⟨p,hp,Gr⟩:∃p,aC o.aE (o.aJ-1)=some p∧o.aE[(o.aJ-1).toNat]?=some p:=⟨o.aE[(o.aJ-1).toNat],by unfold aC;rw[if_pos (by omega)];exact VT bF,VT bF⟩
  have hpt:=ht p (VW Gr)
  obtain⟨y,hy,_⟩:=dG hf hpt
  obtain⟨t1,t2,t3,t4,t5⟩:=cH hf hn hpt
  have hh:oW n o=y.aV:=by unfold oW;rw[if_pos h0,Gr];simp[bU,hy]
  rcases nx with⟨t,n1,n2,n3,n4,n5⟩ |⟨n1,n3⟩
  ·have ng:¬o.aJ=o.aE.length:=by omega
   simp only[decide_eq_true h0,cond_true,hp,hy,t2,n2,n4,n5,VS,wj,ux,V1,decide_eq_true_iff]
   constructor
   ·intro h
    refine⟨fun q _ hq=>?_,?_⟩
    ·rw[Gr]at hq;obtain rfl:=VV hq
     rcases h with⟨_,h⟩ |⟨h,_⟩
     ·simp at h
     ·omega
    ·rw[hh];simp only[n3,Gr,V1,forall_eq',exists_eq_left']
     by_cases s1:o.state=1<;>by_cases s2:o.state=2<;>by_cases s3:o.state=3<;>simp_all
   ·rintro⟨k1,k2⟩
    have k1':=k1 p h0 Gr
    rw[hh]at k2;simp only[n3,Gr,V1,forall_eq',exists_eq_left']at k2
    have:¬now<cS n p:=by omega
    rcases k2 with k|k|k<;>simp_all
  ·simp only[decide_eq_true h0,cond_true,hp,hy,t2,VS,wj,ux,V1,decide_eq_true_iff]
   have ng:¬o.aJ<o.aE.length:=by omega
   constructor
   ·intro h
    refine⟨fun q _ hq=>?_,?_⟩
    ·rw[Gr]at hq;obtain rfl:=VV hq
     rcases h with⟨_,h⟩ |⟨h,_⟩
     ·simp at h
     ·omega
    ·rw[hh];simp only[n3,Gr,V1,forall_eq',exists_eq_left',reduceCtorEq,false_and,exists_false,false_implies,implies_true]
     by_cases s1:o.state=1<;>by_cases s2:o.state=2<;>by_cases s3:o.state=3<;>simp_all
   ·rintro⟨k1,k2⟩
    have k1':=k1 p h0 Gr
    rw[hh]at k2;simp only[n3,Gr,V1,forall_eq',exists_eq_left',reduceCtorEq,false_and,exists_false,false_implies,implies_true]at k2
    have:¬now<cS n p:=by omega
    rcases k2 with k|k|k<;>simp_all
 ·have hh:oW n o=o.ar:=by unfold oW;rw[if_neg h0]
  rcases nx with⟨t,n1,n2,n3,n4,n5⟩ |⟨n1,n3⟩
  ·have ng:¬o.aJ=o.aE.length:=by omega
   simp only[decide_eq_false h0,cond_false,n2,n4,n5,VS,wj,ux,V1,decide_eq_true_iff]
   constructor
   ·intro h
    refine⟨fun q hq=>absurd hq h0,?_⟩
    rw[hh];simp only[n3,V1,forall_eq',exists_eq_left']
    by_cases s1:o.state=1<;>by_cases s2:o.state=2<;>by_cases s3:o.state=3<;>simp_all
   ·rintro⟨k1,k2⟩
    rw[hh]at k2;simp only[n3,V1,forall_eq',exists_eq_left']at k2
    rcases k2 with k|k|k<;>simp_all
  ·have ng:¬o.aJ<o.aE.length:=by omega
   simp only[decide_eq_false h0,cond_false,VS,wj,ux,V1,decide_eq_true_iff]
   constructor
   ·intro h
    refine⟨fun q hq=>absurd hq h0,?_⟩
    rw[hh];simp only[n3,reduceCtorEq,false_and,exists_false,false_implies,implies_true]
    by_cases s1:o.state=1<;>by_cases s2:o.state=2<;>by_cases s3:o.state=3<;>simp_all
   ·rintro⟨k1,k2⟩
    rw[hh]at k2;simp only[n3,reduceCtorEq,false_and,exists_false,false_implies,implies_true]at k2
    rcases k2 with k|k|k
    ·simp_all
    ·simp_all
    ·exact absurd k.2.2.2.2.1 h0
def ek(n:aj)(o:az):Option Int:=(o.aE[o.aJ.toNat]?).map fun t=>if o.state=2 then cS n t else cd n t
def BV(n:aj)(aO:Int)(o:az)(t:au):az:=
 if bU n t=o.aV then { o with aJ:=o.aJ+1,state:=3,place:=bU n t,bD:=aO}else { o with aJ:=o.aJ+1,state:=1,place:=bU n t}
def cy(n:aj)(aO:Int)(o:az):az:=match o.aE[o.aJ.toNat]? with
 |some t=>if o.state=2∧cS n t=aO then BV n aO o t else o
 |none=>o
def nN(n:aj)(aO:Int)(o:az):az:=match o.aE[o.aJ.toNat]? with
 |some t=>if o.state=1∧cd n t=aO then { o with state:=2,place:=⟨#[]⟩}else o
 |none=>o
structure tC(n:aj)(o:az):Prop where
 aJ:0≤o.aJ∧o.aJ≤o.aE.length
 bf:∀t∈o.aE,0≤cd n t∧cd n t<cS n t∧cS n t≤100000
 next:∀(i:Nat) t t',o.aE[i]?=some t→o.aE[i+1]?=some t'→cS n t≤cd n t'
 last:∀(i:Nat) t,o.aE[i]?=some t→bU n t=o.aV→i+1=o.aE.length
structure qd(o o':az):Prop where
 ar:o'.ar=o.ar
 aV:o'.aV=o.aV
 ax:o'.ax=o.ax
 ab:o'.ab=o.ab
 aO:o'.aO=o.aO
 dX:o'.dX=o.dX
 aE:o'.aE=o.aE
theorem qd.refl(o:az):qd o o:=⟨rfl,rfl,rfl,rfl,rfl,rfl,rfl⟩
theorem qd.trans{a b c:az}(h:qd a b)(k:qd b c):qd a c:=⟨k.1.trans h.1,k.2.trans h.2,k.3.trans h.3,k.4.trans h.4,k.5.trans h.5,k.6.trans h.6,k.7.trans h.7⟩
theorem vg(n:aj)(aO:Int)(o:az):qd o (cy n aO o):=by
 unfold cy BV
 split
 ·split
  ·split<;>exact⟨rfl,rfl,rfl,rfl,rfl,rfl,rfl⟩
  ·exact .refl o
 ·exact .refl o
theorem OL(n:aj)(aO:Int)(o:az):qd o (nN n aO o):=by
 unfold nN
 split
 ·split
  ·exact⟨rfl,rfl,rfl,rfl,rfl,rfl,rfl⟩
  ·exact .refl o
 ·exact .refl o
def pA(n:aj)(aO:Int)(o:az):az:=nN n aO (cy n aO o)
theorem ui(n:aj)(aO:Int)(o:az):qd o (pA n aO o):=(vg n aO o).trans (OL n aO _)
theorem tC.same{n:aj}{o o':az}(h:tC n o)(k:qd o o')(hg:0≤o'.aJ∧o'.aJ≤o.aE.length):tC n o':=
 ⟨by rw[k.aE];exact hg,by rw[k.aE];exact h.bf,by rw[k.aE];exact h.next,by rw[k.aE,k.aV];exact h.last⟩
def jb(o:az):Nat:=2*(o.aE.length-o.aJ.toNat)-(if o.state=2 then 1 else 0)
structure FW(n:aj)(o:az)(aO:Int):Prop where
 ok:mW n o aO
 aJ:0≤o.aJ∧o.aJ≤o.aE.length
 next:∀e,ek n o=some e→aO<e
theorem qV{n:aj}{o:az}{aO:Int}(h:mW n o aO)(hg:0≤o.aJ∧o.aJ≤o.aE.length):FW n o aO:=by
 refine⟨h,hg,fun e he=>?_⟩
 unfold ek at he
 rcases h.cases with⟨c,_,_,_,k⟩ |⟨c,_,_,t,k1,_,k3⟩ |⟨c,_,_,k,_,_⟩
 ·cases ht:o.aE[o.aJ.toNat]? with
  |none=>rw[ht]at he;cases he
  |some t=>rw[ht]at he;simp[c]at he;subst he;exact k t ht
 ·rw[k1]at he;simp[c]at he;subst he;exact k3
 ·rw[Wy (by omega)]at he;cases he
theorem MY{n:aj}{o:az}{aO:Int}(hw:tC n o)(hp:∀t,0<o.aJ→o.aE[(o.aJ-1).toNat]?=some t→cS n t≤aO)
 (hs:o.state=1) (h1:o.place=oW n o) (h2:¬oW n o=o.aV) (h3:o.bD=0) (h4:∀t,o.aE[o.aJ.toNat]?=some t→aO≤cd n t):
 FW n (nN n aO o) aO∧jb (nN n aO o)≤jb o∧((∃t,o.aE[o.aJ.toNat]?=some t∧cd n t=aO)→jb (nN n aO o)<jb o):=by
 unfold nN
 cases ht:o.aE[o.aJ.toNat]? with
 |none=>
  refine⟨qV ⟨hp,.inl ⟨hs,h1,h2,h3,fun t h=>?_⟩⟩ hw.aJ,V3 _,fun⟨t,h,_⟩=>?_⟩
  ·rw[ht]at h;cases h
  ·cases h
 |some t=>
  have bF:=(VU.1 ht).1
  obtain⟨a1,a2,a3⟩:=hw.bf t (VW ht)
  have h4':=h4 t ht
  by_cases rD:cd n t=aO
  ·simp only[hs,rD,and_self,if_true]
   refine⟨qV ⟨fun q hq=>?_,.inr (.inl ⟨rfl,rfl,h3,t,ht,by omega,by omega⟩)⟩ hw.aJ,?_,fun _=>?_⟩
   ·exact hp q hq
   ·unfold jb;simp only[hs];simp
   ·unfold jb;simp only[hs];simp;omega
  ·have hng:¬(o.state=1∧cd n t=aO):=fun h=>rD h.2
   simp only[if_neg hng]
   refine⟨qV ⟨hp,.inl ⟨hs,h1,h2,h3,fun q hq=>?_⟩⟩ hw.aJ,V3 _,fun⟨q,hq,hq2⟩=>?_⟩
   ·rw[ht]at hq;obtain rfl:=VV hq;omega
   ·obtain rfl:=VV hq;exact absurd hq2 rD
theorem xJ{n:aj}{o:az}{aO:Int}(hs:¬o.state=1):nN n aO o=o:=by
 unfold nN
 cases o.aE[o.aJ.toNat]? with
 |none=>rfl
 |some t=>simp[hs]
theorem Nx{n:aj}{o:az}{now aO:Int}(hw:tC n o)(h:mW n o now)(hn:now≤aO)(he:∀e,ek n o=some e→aO≤e):
 FW n (pA n aO o) aO∧tC n (pA n aO o)∧jb (pA n aO o)≤jb o∧(ek n o=some aO→jb (pA n aO o)<jb o):=by
 have hg:=hw.aJ
 have main:FW n (pA n aO o) aO∧jb (pA n aO o)≤jb o∧(ek n o=some aO→jb (pA n aO o)<jb o):=by
  unfold pA
  rcases h.cases with⟨c1,c2,c3,c4,c5⟩ |⟨c1,c2,c3,t,c4,c5,c6⟩ |⟨c1,c2,c3,c4,c5,c6⟩
  ·have e1:cy n aO o=o:=by
    unfold cy
    cases o.aE[o.aJ.toNat]? with
    |none=>rfl
    |some t=>simp[c1]
   rw[e1]
   have h4:∀t,o.aE[o.aJ.toNat]?=some t→aO≤cd n t:=fun t ht=>he _ (by unfold ek;rw[ht];simp[c1])
   obtain⟨a,b,c⟩:=MY hw (fun t h1 h2=>by have:=h.El t h1 h2;omega) c1 c2 c3 c4 h4
   refine⟨a,b,fun Hz=>c ?_⟩
   unfold ek at Hz
   cases ht:o.aE[o.aJ.toNat]? with
   |none=>rw[ht]at Hz;cases Hz
   |some t=>rw[ht]at Hz;simp[c1]at Hz;exact⟨t,rfl,Hz⟩
  ·have bF:=(VU.1 c4).1
   obtain⟨a1,a2,a3⟩:=hw.bf t (VW c4)
   have Rj:=he (cS n t) (by unfold ek;rw[c4];simp[c1])
   by_cases hx:cS n t=aO
   ·have e1:cy n aO o=BV n aO o t:=by unfold cy;rw[c4];simp only[c1,hx,and_self,if_true]
    rw[e1]
    have PR:(o.aJ+1-1).toNat=o.aJ.toNat:=by omega
    have hgs:(o.aJ+1).toNat=o.aJ.toNat+1:=by omega
    unfold BV
    by_cases hd:bU n t=o.aV
    ·have hlen:=hw.last _ t c4 hd
     rw[if_pos hd,xJ (by simp)]
     have hh:oW n { o with aJ:=o.aJ+1,state:=3,place:=bU n t,bD:=aO}=bU n t:=by
      unfold oW;simp only[PR,c4];rw[if_pos (by omega)];rfl
     refine⟨qV ⟨fun q _ hq=>?_,.inr (.inr ⟨rfl,hd,hh.trans hd,by simp only;omega,by simp only;omega,fun q hq=>?_⟩)⟩ (by simp only;omega),?_,fun _=>?_⟩
     ·simp only[PR,c4,V1]at hq;subst hq;omega
     ·simp only[PR,c4,V1]at hq;subst hq;exact hx.symm
     ·unfold jb;simp only[hgs,c1];simp;omega
     ·unfold jb;simp only[hgs,c1];simp;omega
    ·rw[if_neg hd]
     have hh:oW n { o with aJ:=o.aJ+1,state:=1,place:=bU n t}=bU n t:=by
      unfold oW;simp only[PR,c4];rw[if_pos (by omega)];rfl
     have Uz:tC n { o with aJ:=o.aJ+1,state:=1,place:=bU n t}:=hw.same ⟨rfl,rfl,rfl,rfl,rfl,rfl,rfl⟩ (by simp only;omega)
     obtain⟨a,b,c⟩:=MY (aO:=aO) Uz (fun q _ hq=>by simp only[PR,c4,V1]at hq;subst hq;omega) rfl hh.symm (by rw[hh];exact hd) c3 (fun q hq=>by
      simp only[hgs]at hq
      have:=hw.next _ t q c4 hq
      omega)
     have hb:jb { o with aJ:=o.aJ+1,state:=1,place:=bU n t} < jb o:=by unfold jb;simp only[hgs,c1];simp;omega
     exact⟨a,by omega,fun _=>by omega⟩
   ·have e1:cy n aO o=o:=by unfold cy;rw[c4];simp only[hx,and_false,if_false]
    rw[e1,xJ (by omega)]
    refine⟨qV ⟨fun q h1 h2=>by have:=h.El q h1 h2;omega,.inr (.inl ⟨c1,c2,c3,t,c4,by omega,by omega⟩)⟩ hg,V3 _,fun Hz=>?_⟩
    unfold ek at Hz
    rw[c4]at Hz;simp[c1]at Hz;exact absurd Hz hx
  ·have EX:o.aE[o.aJ.toNat]?=none:=Wy (by omega)
   have e1:cy n aO o=o:=by unfold cy;rw[EX]
   rw[e1,xJ (by omega)]
   refine⟨qV ⟨fun q h1 h2=>by have:=h.El q h1 h2;omega,.inr (.inr ⟨c1,c2,c3,c4,c5,c6⟩)⟩ hg,V3 _,fun Hz=>?_⟩
   unfold ek at Hz
   rw[EX]at Hz;cases Hz
 have hs:=ui n aO o
 exact⟨main.1,hw.same hs (by have:=main.1.aJ;rw[hs.aE]at this;exact this),main.2⟩
theorem PC{n:aj}{o:az}(hw:tC n o){now:Int}(h:mW n o now)(h0:jb o=0):ek n o=none:=by
 have hg:=hw.aJ
 unfold ek
 rcases h.cases with⟨c,_⟩ |⟨c,_,_,t,k1,_⟩ |⟨c,_,_,k,_⟩
 ·unfold jb at h0;rw[if_neg (by omega)]at h0
  rw[Wy (by omega)];rfl
 ·have bF:=(VU.1 k1).1
  unfold jb at h0;rw[if_pos c]at h0;omega
 ·rw[Wy (by omega)];rfl
theorem DQ{w:av}(hf:pY w)(hv:eu w=true){s:br}(hs:s∈w.aH):cu w.aa s=some true∧s.aO≤w.now:=by
 unfold eu at hv
 simp only[VZ]at hv
 obtain⟨j,hj,rfl⟩:=Wf hs
 have:=cJ.1 hv.1.1.2 j _ (VT hj)
 unfold xg at this
 simp only[VZ,Wa,decide_eq_false_iff_not]at this
 obtain⟨b,hb⟩:=AH hf.ey w.aH[j]
 rw[hb]at this⊢
 simp only[Ws]at this
 exact⟨by rw[this.1],by omega⟩
def nJ(skip:List Int)(p:List br×Int)(s:br):List br×Int:=
 let m:=if p.2<1000000000 then p.2+1 else p.2
 (if(skip.any fun y=>decide (y=m))=false∧p.1.length<200 then p.1++[s]else p.1,m)
def gF(n:aj)(aO:Int)(i:Nat)(o:az):List br:=match o.aE[o.aJ.toNat]? with
 |some t=>if o.state=2∧cS n t=aO then⟨((i+1:Nat):Int),aO,2,⟨#[]⟩,t⟩::(if bU n t=o.aV then [⟨((i+1:Nat):Int),aO,4,bU n t,⟨0,0⟩⟩]else [])else []
 |none=>[]
def qo(n:aj)(aO:Int)(i:Nat)(o:az):List br:=match o.aE[o.aJ.toNat]? with
 |some t=>if o.state=1∧cd n t=aO then [⟨((i+1:Nat):Int),aO,3,⟨#[]⟩,t⟩]else []
 |none=>[]
def pJ(f:Nat→az→List br):Nat→List az→List br
 |_,[]=>[]
 |i,o::os=>f i o++pJ f (i+1) os
theorem vP{f:Nat→az→List br}{s:br}:∀{os:List az} {i:Nat},s∈pJ f i os→∃j o,os[j]?=some o∧s∈f (i+j) o
 | [],_,h=>by simp[pJ]at h
 |o::os,i,h=>by
  simp only[pJ,WC]at h
  rcases h with h|h
  ·exact⟨0,o,rfl,h⟩
  ·obtain⟨j,o',h1,h2⟩:=vP h
   exact⟨j+1,o',by simpa using h1,by rwa[show i+(j+1)=i+1+j by omega]⟩
def Ag(w:av)(aO:Int):List br:=pJ (gF w.aa aO) 0 w.ah++pJ (qo w.aa aO) 0 (w.ah.map (cy w.aa aO))
def fO(w:av)(aO:Int):av:=
 { w with ah:=w.ah.map (pA w.aa aO),now:=aO,aH:=((Ag w aO).foldl (nJ w.skip) (w.aH,w.bd)).1,bd:=((Ag w aO).foldl (nJ w.skip) (w.aH,w.bd)).2}
structure pL(w:av):Prop where
 fit:pY w
 ok:eu w=true
theorem pL.ey{w:av}(h:pL w):aU w.aa=some true:=FP h.fit h.ok
theorem pL.aE{w:av}(h:pL w){i:Nat}{o:az}(ho:w.ah[i]?=some o):tC w.aa o:=by
 have ik:=mM h.fit h.ok ho
 have hl:=h.fit.aE o (VW ho)
 have zl:=AI h.fit.ey h.ey hl ik.Zat
 refine⟨ik.aJ,fun t ht=>?_,fun i t t' h1 h2=>?_,fun i t h1 h2=>?_⟩
 ·obtain⟨_,_,a,b,c⟩:=cH h.fit.ey h.ey (ik.bf t ht)
  exact⟨a,b,c⟩
 ·have:=((Cc zl h1).2 t' h2).1
  have:=(gm h.ey).1
  omega
 ·have hw:=cJ.1 ik.aE i t h1
  unfold uj at hw
  simp only[Wb,VZ,Wa,Bool.and_eq_false_imp,decide_eq_true_iff,decide_eq_false_iff_not]at hw
  have h3:=hw.2 h2
  have:=(VU.1 h1).1
  omega
theorem pL.state{w:av}(h:pL w){o:az}(ho:w.ah[i]?=some o):mW w.aa o w.now:=by
 have ik:=mM h.fit h.ok ho
 exact(uh h.fit.ey h.ey ik.aJ (h.fit.aE o (VW ho)) ik.bf _).1 ik.st
theorem pL.parts{w:av}(h:pL w):(0≤w.now∧w.now≤100000)∧w.ah.length≤30∧w.ae.length≤20∧w.aH.length≤200∧w.skip.length≤50∧(w.aH.length≤w.bd∧w.bd≤1000000000)∧w.aq.length≤120:=by
 have hb:=cW (AW h.ok)
 have hv:=h.ok
 unfold eu at hv
 simp only[VZ,Wa,decide_eq_true_iff,decide_eq_false_iff_not]at hv
 obtain⟨⟨⟨⟨⟨⟨⟨⟨⟨⟨h1,h2⟩,h3⟩,h4⟩,h5⟩,h6⟩,h7⟩,h8⟩,h9⟩,xZ⟩,Cz⟩:=hv
 exact⟨h2,by omega,by omega,by omega,by omega,h7,hb.2⟩
structure Bm(n:aj)(aO:Int)(p:List br×Int):Prop where
 ZcP:∀s∈p.1,cu n s=some true∧s.aO≤aO
 len:p.1.length≤200
 bd:p.1.length≤p.2∧p.2≤1000000000
theorem Fc{n:aj}{aO:Int}{skip:List Int}{p:List br×Int}{s:br}(h:Bm n aO p)(hs:cu n s=some true∧s.aO≤aO):Bm n aO (nJ skip p s):=by
 obtain⟨h1,h2,h3⟩:=h
 unfold nJ
 by_cases hm:p.2<1000000000
 ·simp only[if_pos hm]
  split
  ·rename_i hc
   exact⟨fun x hx=>by rcases WC.1 hx with hx|hx
                      ·exact h1 x hx
                      ·obtain rfl:x=s:=by simpa using hx
                       exact hs,by simp;omega,by simp;omega⟩
  ·exact⟨h1,h2,by simp only;omega⟩
 ·simp only[if_neg hm]
  split
  ·rename_i hc
   exact⟨fun x hx=>by rcases WC.1 hx with hx|hx
                      ·exact h1 x hx
                      ·obtain rfl:x=s:=by simpa using hx
                       exact hs,by simp;omega,by simp;omega⟩
  ·exact⟨h1,h2,by simp only;omega⟩
theorem Cv{n:aj}{aO:Int}{skip:List Int}:∀(l:List br) (p:List br×Int),Bm n aO p→(∀s∈l,cu n s=some true∧s.aO≤aO)→Bm n aO (l.foldl (nJ skip) p)
 | [],p,h,_=>h
 |s::l,p,h,hl=>Cv l _ (Fc h (hl s Wp)) fun x hx=>hl x (Wi _ hx)
theorem F5{n:aj}{aO:Int}{o:az}:aX o≤aX (cy n aO o):=by
 unfold cy
 split
 ·split
  ·rename_i t ht hc
   unfold BV
   split<;>(unfold aX;simp[hc.1])
  ·exact Wv _
 ·exact Wv _
theorem Lh{n:aj}{aO:Int}{o:az}:aX o≤aX (nN n aO o):=by
 unfold nN
 split
 ·split
  ·rename_i t ht hc
   unfold aX
   simp[hc.1]
   omega
  ·exact Wv _
 ·exact Wv _
theorem L9{n:aj}{aO:Int}{o:az}:aX o≤aX (pA n aO o):=Int.le_trans F5 Lh
theorem QU{l:List α}{p:α→Bool}{a b:Nat}(h:a≤b)(hk:(l.drop a).any p=false):(l.drop b).any p=false:=by
 obtain⟨c,rfl⟩:∃c,b=a+c:=⟨b-a,by omega⟩
 rw[←XI]
 rw[XN]at hk⊢
 exact fun x hx=>hk x (List.mem_of_mem_drop hx)
section
variable {w:av} (h:pL w) {aO:Int} (hn:w.now≤aO) (hm:aO≤100000) (he:∀o∈w.ah,∀e,ek w.aa o=some e→aO≤e)
include h hn hm he
theorem xS{th:Int}{p:ByteArray}(h1:1≤th∧th≤9999)
 (hk:(k=2∧p=⟨#[]⟩∧et w.aa t=true∧cS w.aa t≤aO)∨(k=3∧p=⟨#[]⟩∧et w.aa t=true∧aO≤cd w.aa t)∨(k=4∧¬bb (ak w.aa) p<0∧t=⟨0,0⟩)):
 cu w.aa ⟨th,aO,k,p,t⟩=some true:=by
 have CF:=h.parts.1
 have xC:=eA w.aa
 have DV:=h.fit.ey.ay
 unfold cu
 rw[h.ey]
 simp only[VS,dt,V0,cond_false,decide_eq_true h1.1,decide_eq_true h1.2,decide_eq_true (show 0≤aO by omega),decide_eq_true hm,Bool.and_self,(di h.fit.ey).2,oM (show(ak w.aa).length≤4194304 by omega),yI h.fit.ey h.ey]
 rcases hk with⟨rfl,rfl,h2,h3⟩ |⟨rfl,rfl,h2,h3⟩ |⟨rfl,h2,rfl⟩
 ·obtain⟨a1,a2,_⟩:=cH h.fit.ey h.ey h2
  simp[h2,a1,a2,h3]
 ·obtain⟨a1,a2,_⟩:=cH h.fit.ey h.ey h2
  simp[h2,a1,a2,h3]
 ·have:0≤bb (ak w.aa) p:=by omega
  simp[this]
theorem Pt:∀s∈Ag w aO,cu w.aa s=some true∧s.aO≤aO:=by
 have hlen:=h.parts.2.1
 intro s hs
 unfold Ag at hs
 rcases WC.1 hs with hs|hs
 ·obtain⟨j,o,ho,hj⟩:=vP hs
  have bF:=(VU.1 ho).1
  have ik:=mM h.fit h.ok ho
  rw[Wb]at hj
  unfold gF at hj
  split at hj
  ·rename_i t ht
   have yC:=ik.bf t (VW ht)
   split at hj
   ·rename_i hc
    rcases V4.1 hj with rfl|hj
    ·exact⟨xS h hn hm he (by omega) (.inl ⟨rfl,rfl,yC,by omega⟩),Wv _⟩
    ·split at hj
     ·rename_i hd
      obtain rfl:=Wc.1 hj
      have EZ:¬bb (ak w.aa) o.aV<0:=by
       have:=pW h.ok ho
       unfold iV at this
       simp only[VZ,Wa,decide_eq_false_iff_not]at this
       exact this.1.1.1.1.1.1.1.1.1.1.2
      exact⟨xS h hn hm he (by omega) (.inr (.inr ⟨rfl,by rw[hd];exact EZ,rfl⟩)),Wv _⟩
     ·cases hj
   ·cases hj
  ·cases hj
 ·obtain⟨j,o,ho,hj⟩:=vP hs
  have bF:=(VU.1 ho).1
  rw[Wg]at bF
  rw[Wj]at ho
  obtain⟨o0,DW,rfl⟩:=Ww.1 ho
  have ik:=mM h.fit h.ok DW
  rw[Wb]at hj
  unfold qo at hj
  split at hj
  ·rename_i t ht
   rw[(vg w.aa aO o0).aE]at ht
   have yC:=ik.bf t (VW ht)
   split at hj
   ·rename_i hc
    obtain rfl:=Wc.1 hj
    exact⟨xS h hn hm he (by omega) (.inr (.inl ⟨rfl,rfl,yC,by omega⟩)),Wv _⟩
   ·cases hj
  ·cases hj
theorem Gj{o:az}(ho:w.ah[i]?=some o)(s:List br)(m:Int):iV { w with ah:=w.ah.map (pA w.aa aO),now:=aO,aH:=s,bd:=m} i (pA w.aa aO o)=true:=by
 have hv:=pW h.ok ho
 have ik:=mM h.fit h.ok ho
 have hl:=h.fit.aE o (VW ho)
 have hs:=ui w.aa aO o
 obtain⟨k1,k2,_⟩:=Nx (h.aE ho) (h.state ho) hn (he o (VW ho))
 have rD:=(uh h.fit.ey h.ey k2.aJ (by rw[hs.aE];exact hl) (by rw[hs.aE];exact ik.bf) aO).2 k1.ok
 have IZ:=L9 (n:=w.aa) (aO:=aO) (o:=o)
 have PR:=k2.aJ
 unfold iV at hv⊢
 simp only[VZ,Wa,decide_eq_true_iff,decide_eq_false_iff_not]at hv⊢
 obtain⟨⟨⟨⟨⟨⟨⟨⟨⟨⟨⟨h1,h2⟩,h3⟩,h4⟩,h5⟩,h6⟩,h7⟩,h8⟩,h9⟩,xZ⟩,Cz⟩,Tb⟩:=hv
 have I0:A7 w.aa (pA w.aa aO o)=A7 w.aa o:=by unfold A7;rw[hs.aE,hs.ar]
 refine⟨⟨⟨⟨⟨⟨⟨⟨⟨⟨⟨?_,?_⟩,?_⟩,?_⟩,?_⟩,?_⟩,?_⟩,?_⟩,?_⟩,?_⟩,?_⟩,?_⟩
 ·rw[hs.ar];exact h1
 ·rw[hs.aV];exact h2
 ·rw[hs.ar,hs.aV];exact h3
 ·rw[hs.ax];exact h4
 ·rw[hs.ab];exact h5
 ·rw[hs.aO];exact⟨h6.1,Int.le_trans h6.2 hn⟩
 ·rw[hs.dX];exact h7
 ·exact PR
 ·rw[hs.aE]
  refine(KG fun j x hx=>?_).trans h9
  unfold uj
  simp only[hs.ab,hs.aV,hs.aE]
 ·simp only[I0,hs.aE,hs.ar,hs.aO];exact xZ
 ·rw[rD];rfl
 ·rw[hs.aE]
  exact QU (by omega) Tb
theorem ET:pL (fO w aO):=by
 have hp:=h.parts
 have hv:=h.ok
 have Ec:=Cv (skip:=w.skip) (Ag w aO) (w.aH,w.bd) (n:=w.aa) (aO:=aO) ⟨fun s hs=>?_,hp.2.2.2.1,hp.2.2.2.2.2.1⟩ (Pt h hn hm he)
 ·refine⟨⟨h.fit.ey,by simp only[fO,Wg];exact h.fit.ah,h.fit.aq,h.fit.ae,by have:=Ec.len;simp only[fO];omega,h.fit.skip,fun o ho=>?_⟩,?_⟩
  ·simp only[fO,List.mem_map]at ho
   obtain⟨o0,DW,rfl⟩:=ho
   rw[(ui w.aa aO o0).aE]
   exact h.fit.aE o0 DW
  ·unfold eu at hv⊢
   simp only[VZ,Wa,decide_eq_true_iff,decide_eq_false_iff_not]at hv⊢
   obtain⟨⟨⟨⟨⟨⟨⟨⟨⟨⟨h1,h2⟩,h3⟩,h4⟩,h5⟩,h6⟩,h7⟩,h8⟩,h9⟩,xZ⟩,Cz⟩:=hv
   have hl:=Ec.len
   have hmd:=Ec.bd
   refine⟨⟨⟨⟨⟨⟨⟨⟨⟨⟨h1,?_⟩,?_⟩,h4⟩,?_⟩,h6⟩,?_⟩,h8⟩,?_⟩,?_⟩,?_⟩
   ·simp only[fO];omega
   ·simp only[fO,Wg];exact h3
   ·simp only[fO];omega
   ·simp only[fO];exact hmd
   ·refine cJ.2 fun j s hj=>?_
    obtain⟨a,b⟩:=Ec.ZcP s (VW hj)
    show((cu w.aa s).getD false&&!decide (aO<s.aO))=true
    rw[a,decide_eq_false (show ¬aO<s.aO by omega)];rfl
   ·refine cJ.2 fun j o hj=>?_
    simp only[fO,Wj]at hj
    obtain⟨o0,DW,rfl⟩:=Ww.1 hj
    rw[Wb]
    exact Gj h hn hm he DW _ _
   ·unfold uM at Cz⊢
    simp only[fO,List.foldl_map]
    rw[←Cz]
    congr 1
    funext a o
    rw[(ui w.aa aO o).aE]
 ·have:=DQ h.fit h.ok hs
  exact⟨this.1,by have:=this.2;omega⟩
end
def qG(a:Int)(e:Option Int):Int:=match e with
 |some v=>if a<0∨v<a then v else a
 |none=>a
def fI(w:av):Int:=w.ah.foldl (fun a o=>qG a (ek w.aa o)) (-1)
theorem zB{n:aj}:∀(os:List az) (a:Int),(∀o∈os,∀e,ek n o=some e→0≤e)→a<0∨0≤a→
 (os.foldl (fun a o=>qG a (ek n o)) a=a∧a<0∧∀o∈os,ek n o=none)∨
 (0≤os.foldl (fun a o=>qG a (ek n o)) a∧(os.foldl (fun a o=>qG a (ek n o)) a=a∨∃o∈os,ek n o=some (os.foldl (fun a o=>qG a (ek n o)) a))∧(0≤a→os.foldl (fun a o=>qG a (ek n o)) a≤a)∧∀o∈os,∀e,ek n o=some e→os.foldl (fun a o=>qG a (ek n o)) a≤e)
 | [],a,_,ha=>by
  rcases ha with ha|ha
  ·exact .inl ⟨rfl,ha,fun o h=>by cases h⟩
  ·exact .inr ⟨ha,.inl rfl,fun _=>Wv _,fun o h=>by cases h⟩
 |o::os,a,h,ha=>by
  simp only[WI]
  have h0:=h o Wp
  have hs:=fun x hx=>h x (Wi o hx)
  cases ho:ek n o with
  |none=>
   have e:qG a none=a:=rfl
   rw[e]
   rcases zB os a hs ha with⟨k1,k2,k3⟩ |⟨k1,k2,k3,k4⟩
   ·exact .inl ⟨k1,k2,fun x hx=>by rcases V4.1 hx with rfl|hx
                                   ·exact ho
                                   ·exact k3 x hx⟩
   ·refine .inr ⟨k1,?_,k3,fun x hx e he=>?_⟩
    ·rcases k2 with k2|⟨x,hx,k2⟩
     ·exact .inl k2
     ·exact .inr ⟨x,Wi _ hx,k2⟩
    ·rcases V4.1 hx with rfl|hx
     ·rw[ho]at he;cases he
     ·exact k4 x hx e he
  |some v=>
   have hv:=h0 v ho
   have e:0≤qG a (some v)∧qG a (some v)≤v∧(0≤a→qG a (some v)≤a)∧(qG a (some v)=a∨qG a (some v)=v):=by
    unfold qG;simp only;split<;>omega
   obtain⟨e1,e2,e3,e4⟩:=e
   rcases zB os (qG a (some v)) hs (.inr e1)with⟨k1,k2,k3⟩ |⟨k1,k2,k3,k4⟩
   ·omega
   ·have k3':=k3 e1
    refine .inr ⟨k1,?_,fun ha=>by have:=e3 ha;omega,fun x hx e he=>?_⟩
    ·rcases k2 with k2|⟨x,hx,k2⟩
     ·rcases e4 with e4|e4
      ·exact .inl (by rw[k2,e4])
      ·exact .inr ⟨o,Wp,by rw[k2,e4,ho]⟩
     ·exact .inr ⟨x,Wi _ hx,k2⟩
    ·rcases V4.1 hx with rfl|hx
     ·rw[ho]at he;obtain rfl:=VV he;omega
     ·exact k4 x hx e he
theorem Oc{n:aj}{o:az}(h:tC n o){e:Int}(he:ek n o=some e):0≤e∧e≤100000:=by
 unfold ek at he
 cases ht:o.aE[o.aJ.toNat]? with
 |none=>rw[ht]at he;cases he
 |some t=>
  rw[ht]at he
  obtain⟨a,b,c⟩:=h.bf t (VW ht)
  simp only[Wr,V1]at he
  subst he
  split<;>omega
theorem wJ{w:av}(h:pL w):(fI w=-1∧∀o∈w.ah,ek w.aa o=none)∨
 (w.now<fI w∧fI w≤100000∧(∃o∈w.ah,ek w.aa o=some (fI w))∧∀o∈w.ah,∀e,ek w.aa o=some e→fI w≤e):=by
 have hp:∀o∈w.ah,∀e,ek w.aa o=some e→0≤e∧e≤100000:=fun o ho e he=>by
  obtain⟨i,hi,rfl⟩:=Wf ho
  exact Oc (h.aE (VT hi)) he
 rcases zB w.ah (-1) (fun o ho e he=>(hp o ho e he).1) (.inl (by omega))with⟨k1,_,k3⟩ |⟨k1,k2,_,k4⟩
 ·exact .inl ⟨k1,k3⟩
 ·rcases k2 with k2|⟨o,ho,k2⟩
  ·exact absurd k1 (by rw[k2];omega)
  ·refine .inr ⟨?_,(hp o ho _ k2).2,⟨o,ho,k2⟩,k4⟩
   obtain⟨i,hi,rfl⟩:=Wf ho
   have hs:=qV (h.state (VT hi)) (h.aE (VT hi)).aJ
   exact hs.next _ k2
theorem s9{w:av}(h:pL w)(hn:0≤fI w):pL (fO w (fI w))∧w.now<fI w∧fI w≤100000:=by
 rcases wJ h with⟨k,_⟩ |⟨k1,k2,k3,k4⟩
 ·omega
 ·exact⟨ET h (by omega) k2 k4,k1,k2⟩
def oF(w:av):Nat:=(w.ah.map jb).sum
theorem S4{α:Type}{f g:α→Nat}:∀{l:List α},(∀x∈l,f x≤g x)→(∃x∈l,f x<g x)→(l.map f).sum<(l.map g).sum
 | [],_,⟨x,h,_⟩=>by cases h
 |a::l,h,⟨x,hx,bF⟩=>by
  have h1:=h a Wp
  have h2:(l.map f).sum≤(l.map g).sum:=S3 fun x hx=>h x (Wi _ hx)
  simp only[Wx,WT]
  rcases V4.1 hx with rfl|hx
  ·omega
  ·have:=S4 (fun x hx=>h x (Wi _ hx)) ⟨x,hx,bF⟩
   omega
where
 S3 {α:Type} {f g:α→Nat}:∀{l:List α},(∀x∈l,f x≤g x)→(l.map f).sum≤(l.map g).sum
 | [],_=>V3 _
 |a::l,h=>by
  have h1:=h a Wp
  have h2:=S3 fun x hx=>h x (Wi _ hx)
  simp only[Wx,WT]
  omega
theorem rq{w:av}(h:pL w)(hn:0≤fI w):oF (fO w (fI w))<oF w:=by
 rcases wJ h with⟨k,_⟩ |⟨k1,k2,⟨o,ho,k3⟩,k4⟩
 ·omega
 ·have xd:∀x∈w.ah,jb (pA w.aa (fI w) x)≤jb x∧(ek w.aa x=some (fI w)→jb (pA w.aa (fI w) x)<jb x):=fun x hx=>by
   obtain⟨i,hi,rfl⟩:=Wf hx
   have lV:=VT hi
   exact(Nx (h.aE lV) (h.state lV) (by omega) (k4 _ hx)).2.2
  unfold oF fO
  simp only[List.map_map]
  exact S4 (f:=jb∘pA w.aa (fI w)) (fun x hx=>(xd x hx).1) ⟨o,ho,(xd o ho).2 k3⟩
def sW:Nat→av→Int→av
 |0,w,_=>w
 |k+1,w,u=>if fI w<0∨u<fI w then w else sW k (fO w (fI w)) u
theorem FJ{w:av}(h:pL w)(h0:oF w=0):fI w=-1:=by
 rcases wJ h with⟨k,_⟩ |⟨k1,k2,⟨o,ho,k3⟩,k4⟩
 ·exact k
 ·exfalso
  have hz:jb o=0:=by
   unfold oF at h0
   have:=List.sum_eq_zero_iff_forall_eq_nat.1 h0 (jb o) (List.mem_map_of_mem ho)
   exact this
  obtain⟨i,hi,rfl⟩:=Wf ho
  have lV:=VT hi
  rw[PC (h.aE lV) (h.state lV) hz]at k3
  cases k3
structure x8(w w':av):Prop where
 aa:w'.aa=w.aa
 aq:w'.aq=w.aq
 ae:w'.ae=w.ae
 skip:w'.skip=w.skip
 len:w'.ah.length=w.ah.length
 ord:∀(i:Nat) (o o':az),w.ah[i]?=some o→w'.ah[i]?=some o'→qd o o'
theorem x8.refl(w:av):x8 w w:=⟨rfl,rfl,rfl,rfl,rfl,fun i o o' h h'=>by rw[h]at h';obtain rfl:=VV h';exact .refl o⟩
theorem x8.trans{a b c:av}(h:x8 a b)(k:x8 b c):x8 a c:=by
 refine⟨k.aa.trans h.aa,k.aq.trans h.aq,k.ae.trans h.ae,k.skip.trans h.skip,k.len.trans h.len,fun i o o' h1 h2=>?_⟩
 have bF:=(VU.1 h1).1
 have hb:b.ah[i]?=some (b.ah[i]'(by rw[h.len];exact bF)):=VT _
 exact(h.ord i o _ h1 hb).trans (k.ord i _ o' hb h2)
theorem IW(w:av)(aO:Int):x8 w (fO w aO):=by
 refine⟨rfl,rfl,rfl,rfl,by simp[fO],fun i o o' h h'=>?_⟩
 simp only[fO,Wj,h,Wr,V1]at h'
 subst h'
 exact ui _ _ o
theorem SF:∀(k:Nat) (w:av) (u:Int),pL w→oF w≤k→u≤100000→pL (sW k w u)∧(fI (sW k w u)<0∨u<fI (sW k w u))∧x8 w (sW k w u)∧(w.now≤u→(sW k w u).now≤u)
 |0,w,u,h,h0,hu=>⟨h,.inl (by have:=FJ h (by omega);show fI w<0;omega),.refl w,fun h=>h⟩
 |k+1,w,u,h,h0,hu=>by
  unfold sW
  split
  ·rename_i hc
   exact⟨h,hc,.refl w,fun h=>h⟩
  ·rename_i hc
   obtain⟨a,b,c⟩:=s9 h (by omega)
   have ht:=rq h (by omega)
   obtain⟨r1,r2,r3,r4⟩:=SF k (fO w (fI w)) u a (by omega) hu
   exact⟨r1,r2,(IW w _).trans r3,fun _=>r4 (by show fI w≤u;omega)⟩
theorem Dt:∀(k j:Nat) (w:av) (u:Int),pL w→oF w≤k→u≤100000→sW (k+j) w u=sW k w u
 |0,j,w,u,h,h0,hu=>by
  have:=FJ h (by omega)
  cases j with
  |zero=>rfl
  |succ j=>show sW (0+j+1) w u=w
           unfold sW
           rw[if_pos (.inl (by omega))]
 |k+1,j,w,u,h,h0,hu=>by
  rw[show k+1+j=(k+j)+1 by omega]
  unfold sW
  split
  ·rfl
  ·rename_i hc
   obtain⟨a,b,c⟩:=s9 h (by omega)
   have ht:=rq h (by omega)
   exact Dt k j _ u a (by omega) hu
theorem Vv{k j:Nat}{w:av}(h:pL w)(hk:oF w≤k)(hj:oF w≤j)(hu:u≤100000):sW k w u=sW j w u:=by
 obtain⟨a,rfl⟩:∃a,k=oF w+a:=⟨k-oF w,by omega⟩
 obtain⟨b,rfl⟩:∃b,j=oF w+b:=⟨j-oF w,by omega⟩
 rw[Dt _ a w u h (V3 _) hu,Dt _ b w u h (V3 _) hu]
theorem Pv{w:av}(h:pL w)(hu:w.now≤u)(hm:u≤100000)(hn:fI w<0∨u<fI w):pL { w with now:=u}:=by
 have he:∀o∈w.ah,∀e,ek w.aa o=some e→u<e:=fun o ho e he=>by
  rcases wJ h with⟨_,k⟩ |⟨k1,_,_,k4⟩
  ·rw[k o ho]at he;cases he
  ·have:=k4 o ho e he
   have:=h.parts.1
   omega
 have rD:∀o∈w.ah,pA w.aa u o=o:=fun o ho=>by
  have Hz:=he o ho
  have e1:cy w.aa u o=o:=by
   unfold cy
   cases ht:o.aE[o.aJ.toNat]? with
   |none=>rfl
   |some t=>
    simp only
    rw[if_neg]
    rintro⟨c1,c2⟩
    have:=Hz u (by unfold ek;rw[ht];simp[c1,c2])
    omega
  unfold pA
  rw[e1]
  unfold nN
  cases ht:o.aE[o.aJ.toNat]? with
  |none=>rfl
  |some t=>
   simp only
   rw[if_neg]
   rintro⟨c1,c2⟩
   have:=Hz u (by unfold ek;rw[ht];simp[c1,c2])
   omega
 have Oq:w.ah.map (pA w.aa u)=w.ah:=by
  conv=>rhs;rw[←List.map_id w.ah]
  exact List.map_congr_left fun o ho=>rD o ho
 have ik:=ET h hu hm (fun o ho e h'=>by have:=he o ho e h';omega)
 have hv:=h.ok
 have hk:=ik.ok
 refine⟨⟨h.fit.ey,h.fit.ah,h.fit.aq,h.fit.ae,h.fit.aH,h.fit.skip,h.fit.aE⟩,?_⟩
 unfold eu at hv hk⊢
 simp only[VZ,Wa,decide_eq_true_iff,decide_eq_false_iff_not]at hv hk⊢
 obtain⟨⟨⟨⟨⟨⟨⟨⟨⟨⟨h1,h2⟩,h3⟩,h4⟩,h5⟩,h6⟩,h7⟩,h8⟩,h9⟩,xZ⟩,Cz⟩:=hv
 obtain⟨⟨⟨⟨⟨⟨⟨⟨⟨⟨k1,k2⟩,k3⟩,k4⟩,k5⟩,k6⟩,k7⟩,k8⟩,k9⟩,k10⟩,k11⟩:=hk
 refine⟨⟨⟨⟨⟨⟨⟨⟨⟨⟨h1,⟨by omega,hm⟩⟩,h3⟩,h4⟩,h5⟩,h6⟩,h7⟩,h8⟩,?_⟩,?_⟩,Cz⟩
 ·refine cJ.2 fun j s hj=>?_
  have:=cJ.1 h9 j s hj
  unfold xg at this⊢
  simp only[VZ,Wa,decide_eq_false_iff_not]at this⊢
  exact⟨this.1,by omega⟩
 ·refine cJ.2 fun j o hj=>?_
  have wv:(fO w u).ah[j]?=some o:=by simp only[fO,Oq];exact hj
  have:=cJ.1 k10 j o wv
  have e:∀i,iV (fO w u) i o=iV { w with now:=u} i o:=fun i=>rfl
  rw[←e];exact this
def D0(w:av)(u:Int):av:={ sW (oF w) w u with now:=u}
theorem KF{w:av}(h:pL w)(hu:w.now≤u)(hm:u≤100000):pL (D0 w u)∧x8 w (D0 w u)∧(fI (D0 w u)<0∨u<fI (D0 w u)):=by
 obtain⟨a,b,c,d⟩:=SF _ w u h (V3 _) hm
 exact⟨Pv a (d hu) hm b,⟨c.aa,c.aq,c.ae,c.skip,c.len,c.ord⟩,b⟩
theorem Om:@ra=@lR:=rfl
def fB(w:av)(s:br):av:={ w with aH:=(nJ w.skip (w.aH,w.bd) s).1,bd:=(nJ w.skip (w.aH,w.bd) s).2}
structure pB(w:av):Prop where
 skip:w.skip.length≤1048576
 len:w.aH.length≤200
 bd:0≤w.bd∧w.bd≤1000000000
theorem eR{a b c:Nat}(h:a+b≤1048576)(hc:c≤1024):cL (bo (a+b) c)=some ():=by
 refine pR ?_
 unfold bo
 refine decide_eq_true ⟨by omega,?_⟩
 have:(a+b)*c≤1048576*1024:=Nat.mul_le_mul h hc
 omega
theorem UJ[Decidable c]{l:List α}{s:α}(h:c→l.length<200)(h2:l.length≤200):(if c then l++[s]else l).length≤200:=by
 by_cases hc:c
 ·have:=h hc;rw[if_pos hc];simp;omega
 ·rw[if_neg hc];exact h2
theorem ve{w:av}(h:pB w)(s:br):pB (fB w s):=by
 obtain⟨h1,h2,h3⟩:=h
 unfold fB nJ
 refine⟨h1,?_,?_⟩
 ·exact UJ (fun h=>h.2) h2
 ·simp only
  split<;>omega
theorem Hj{w:av}(h:pB w)(s:br):fq w s=some (fB w s):=by
 obtain⟨h1,h2,h3⟩:=h
 have hw:aL (w.bd+1)=w.bd+1:=aQ (by omega)
 have hm:(if 1000000000<w.bd+1 then 1000000000 else w.bd+1)=(if w.bd<1000000000 then w.bd+1 else w.bd):=by split<;>split<;>omega
 have ha:=eR (a:=w.aH.length) (b:=1) (c:=56) (by omega) (by omega)
 unfold fq fB nJ
 rw[hw,hm,Om,Gz h1]
 simp only[VS,VX,VY,Wb,ha]
 cases hb:w.skip.any fun y=>decide (y=if w.bd<1000000000 then w.bd+1 else w.bd)with
 |true=>simp
 |false=>
  by_cases hl:w.aH.length<200
  ·rw[decide_eq_true (show(w.aH.length:Int)<200 by omega)];simp[hl]
  ·rw[decide_eq_false (show ¬(w.aH.length:Int)<200 by omega)];simp[hl]
theorem Hk{w:av}(h:pB w)(s:br):fS w s=some (fB w s):=by
 obtain⟨h1,h2,h3⟩:=h
 have hw:aL (w.bd+1)=w.bd+1:=aQ (by omega)
 have ha:=eR (a:=w.aH.length) (b:=1) (c:=56) (by omega) (by omega)
 unfold fS fB nJ
 rw[hw]
 simp only[Gz h1,VS,VX,VY,Wb,ha]
 by_cases hm:w.bd<1000000000
 ·rw[decide_eq_true hm,cond_true]
  simp only[if_pos hm]
  cases hb:w.skip.any fun y=>decide (y=w.bd+1)with
  |true=>simp
  |false=>
   by_cases hl:w.aH.length<200
   ·rw[decide_eq_true (show(w.aH.length:Int)<200 by omega)];simp[hl]
   ·rw[decide_eq_false (show ¬(w.aH.length:Int)<200 by omega)];simp[hl]
 ·rw[decide_eq_false hm,cond_false]
  simp only[if_neg hm]
  cases hb:w.skip.any fun y=>decide (y=w.bd)with
  |true=>simp
  |false=>
   by_cases hl:w.aH.length<200
   ·rw[decide_eq_true (show(w.aH.length:Int)<200 by omega)];simp[hl]
   ·rw[decide_eq_false (show ¬(w.aH.length:Int)<200 by omega)];simp[hl]
abbrev OwT:=Int×Int×Int×(List bM)×(List Int)×(List az)×(List ao)×(List au)×(List Int)×(List br)
def wY(w:av):OwT:=(w.aa.change,w.now,w.bd,w.aa.ay,w.aa.off,w.ah,w.aq,w.ae,w.skip,w.aH)
def BG(i:Int)(w:av):Int×OwT:=(i,wY w)
def gn(w:av)(l:List br):av:=l.foldl fB w
theorem vf:∀(l:List br) (w:av),gn w l={ w with aH:=(l.foldl (nJ w.skip) (w.aH,w.bd)).1,bd:=(l.foldl (nJ w.skip) (w.aH,w.bd)).2}
 | [],w=>rfl
 |s::l,w=>by
  show gn (fB w s) l=_
  rw[vf l (fB w s)]
  rfl
def lS(f:az→az)(g:Nat→az→List br)(i:Nat)(o:az)(w:av):av:=gn { w with ah:=w.ah.set i (f o)} (g i o)
def rS(f:az→az)(g:Nat→az→List br):Nat→List az→av→av
 |_,[],w=>w
 |i,o::os,w=>rS f g (i+1) os (lS f g i o w)
theorem zb(f:az→az)(g:Nat→az→List br)(i:Nat)(o:az)(w:av):lS f g i o w={ w with ah:=w.ah.set i (f o),aH:=((g i o).foldl (nJ w.skip) (w.aH,w.bd)).1,bd:=((g i o).foldl (nJ w.skip) (w.aH,w.bd)).2}:=by
 unfold lS;rw[vf]
theorem C1(f:az→az)(g:Nat→az→List br):∀(os pre:List az) (w:av),w.ah=pre++os→
 rS f g pre.length os w={ w with ah:=pre++os.map f,aH:=((pJ g pre.length os).foldl (nJ w.skip) (w.aH,w.bd)).1,bd:=((pJ g pre.length os).foldl (nJ w.skip) (w.aH,w.bd)).2}
 | [],pre,w,h=>by simp only[rS,pJ,List.map_nil,WJ];rw[←h]
 |o::os,pre,w,h=>by
  have wV:w.ah.set pre.length (f o)=(pre++[f o])++os:=by rw[h,List.set_append_right _ _ (V3 _)];simp
  have:=C1 f g os (pre++[f o]) (lS f g pre.length o w) (by rw[zb];exact wV)
  simp only[List.length_append,VX,VY]at this
  show rS f g (pre.length+1) os (lS f g pre.length o w)=_
  rw[this,zb]
  simp only[pJ,List.foldl_append,Wx,List.append_assoc,List.cons_append,WM]
theorem tX{f:az→az}{g:Nat→az→List br}{body:Int×OwT→Option ((Int×OwT)⊕OwT)}{n:Nat}{Inv:av→Prop}{Good:Nat→az→Prop}
 (h1:∀(i:Nat) (o:az) (w:av),w.ah.length=n→w.ah[i]?=some o→Inv w→Good i o→body (BG i w)=some (.inl (BG ((i+1:Nat):Int) (lS f g i o w)))∧Inv (lS f g i o w))
 (h2:∀w:av,w.ah.length=n→body (BG n w)=some (.inr (wY w))):
 ∀(os:List az) (i:Nat) (N:Nat) (w:av),w.ah.drop i=os→w.ah.length=n→i≤n→os.length<N→Inv w→(∀(j:Nat) (o:az),os[j]?=some o→Good (i+j) o)→aD body N (BG i w)=some (wY (rS f g i os w))
 | [],i,0,w,_,_,_,hN,_,_=>by simp at hN
 | [],i,N+1,w,hd,hl,hi,hN,hI,hG=>by
  have:i=n:=by have:=congrArg Yq hd;simp at this;omega
  subst this
  simp only[aD,h2 w hl,rS]
  rfl
 |o::os,i,0,w,_,_,_,hN,_,_=>by simp at hN
 |o::os,i,N+1,w,hd,hl,hi,hN,hI,hG=>by
  have ho:w.ah[i]?=some o:=by
   have:=congrArg (fun l:List az=>l[0]?) hd
   simpa using this
  have bF:i<w.ah.length:=(VU.1 ho).1
  obtain⟨e1,e2⟩:=h1 i o w hl ho hI (by simpa using hG 0 o rfl)
  have Ti:(lS f g i o w).ah=w.ah.set i (f o):=by rw[zb]
  simp only[aD,e1,rS]
  refine tX h1 h2 os (i+1) N (lS f g i o w) ?_ (by rw[Ti,WL];exact hl) (by omega) (by simp at hN;omega) e2 fun j o' hj=>?_
  ·rw[Ti,List.drop_set]
   have:(w.ah.drop (i+1))=os:=by
    have:=congrArg (List.drop 1) hd
    simpa[XI]using this
   rw[if_pos (by omega),this]
  ·have:=hG (j+1) o' (by simpa using hj)
   rwa[show i+(j+1)=i+1+j by omega]at this
structure mV(n:aj)(k:Nat)(w:av):Prop where
 ey:w.aa=n
 aH:pB w
 ah:w.ah.length≤1048576
theorem yb:∀(l:List br) (w:av),pB w→pB (gn w l)
 | [],w,h=>h
 |s::l,w,h=>yb l _ (ve h s)
theorem mV.step{n:aj}{k:Nat}{w:av}(h:mV n k w)(f:az→az)(g:Nat→az→List br)(i:Nat)(o:az):mV n k (lS f g i o w):=by
 have hs:pB { w with ah:=w.ah.set i (f o)}:=⟨h.aH.skip,h.aH.len,h.aH.bd⟩
 have h1:=yb (g i o) _ hs
 rw[zb]
 unfold lS at *
 rw[vf]at h1
 exact⟨h.ey,h1,by simp only[WL];exact h.ah⟩
structure qJ(n:aj)(o:az):Prop where
 aJ:0≤o.aJ∧o.aJ≤o.aE.length
 len:o.aE.length≤1048576
 bf:∀t∈o.aE,et n t=true
 Fv:o.state=2→o.aJ<o.aE.length
theorem pv{xs:List α}{x:α}(h:xs[i]?=some x):xs.set i x=xs:=by
 apply List.ext_getElem?
 intro j
 rw[List.getElem?_set]
 split
 ·rename_i e;subst e
  split
  ·exact h.symm
  ·rename_i hl;exact absurd (VU.1 h).1 hl
 ·rfl
theorem so{n:aj}{aO:Int}{o:az}(h:¬o.state=1∨o.aE[o.aJ.toNat]?=none∨∃t,o.aE[o.aJ.toNat]?=some t∧¬cd n t=aO):nN n aO o=o∧qo n aO i o=[]:=by
 unfold nN qo
 rcases h with h|h|⟨t,h,h'⟩
 ·cases o.aE[o.aJ.toNat]? with
  |none=>exact⟨rfl,rfl⟩
  |some t=>simp[h]
 ·rw[h];exact⟨rfl,rfl⟩
 ·rw[h];simp[h']
section
variable {n:aj} (hf:cI n) (hn:aU n=some true)
include hf hn
theorem U8(w0:av)(h0:w0.aa=n)(D9:w0.ah.length≤1048576){aO:Int}(i:Nat)(o:az)(w:av)(hl:w.ah.length=w0.ah.length)(ho:w.ah[i]?=some o)(hI:mV n 0 w)(hG:qJ n o):
 hZ w0 aO (BG i w)=some (.inl (BG ((i+1:Nat):Int) (lS (cy n aO) (gF n aO) i o w))):=by
 have bF:=(VU.1 ho).1
 have hgg:=hG.aJ
 have hg:aC w.ah (i:Int)=some o:=by rw[aR];exact ho
 have hr:w7 w.ah (i:Int)=some o:=hg
 have hi:aL ((i:Int)+1)=((i+1:Nat):Int):=bI bF (by have:=hI.ah;omega)
 have hd:decide ((i:Int)<(w0.ah.length:Int))=true:=decide_eq_true (by omega)
 have nU:(⟨w.aa.ay,w.aa.off,w0.aa.change⟩:aj)=n:=by rw[hI.ey,h0]
 have AD:(⟨w.aa.ay,w.aa.off,w.aa.change⟩:aj)=n:=hI.ey
 unfold hZ BG wY
 simp only[hd,cond_true,hg,VS,hi,nU,rY]
 by_cases hs:o.state=2
 ·have sE:=hG.Fv hs
  have zm:o.aJ.toNat<o.aE.length:=by omega
  have ht:o.aE[o.aJ.toNat]?=some o.aE[o.aJ.toNat]:=VT zm
  generalize o.aE[o.aJ.toNat]=t at ht
  have Tg:aC o.aE o.aJ=some t:=by unfold aC;rw[if_pos hG.aJ.1];exact ht
  have yC:=hG.bf t (VW ht)
  obtain⟨y,hy,_⟩:=dG hf yC
  obtain⟨t1,t2,t3,t4,t5⟩:=cH hf hn yC
  have EZ:bU n t=y.aV:=by unfold bU;rw[hy];rfl
  have hyl:aC w.aa.ay t.bx=some y:=by rw[hI.ey];exact hy
  have wA:aL (o.aJ+1)=o.aJ+1:=aQ (by have:=hG.len;omega)
  simp only[decide_eq_true hs,V0,cond_false,Tg,VS,t2]
  by_cases he:cS n t=aO
  ·have inv1:∀os:List az,pB { w with ah:=os}:=fun os=>⟨hI.aH.skip,hI.aH.len,hI.aH.bd⟩
   have ea:cy n aO o=BV n aO o t:=by unfold cy;rw[ht];simp only[hs,he,and_self,if_true]
   have ed:gF n aO i o=⟨((i+1:Nat):Int),aO,2,⟨#[]⟩,t⟩::(if bU n t=o.aV then [⟨((i+1:Nat):Int),aO,4,bU n t,⟨0,0⟩⟩]else []):=by unfold gF;rw[ht];simp only[hs,he,and_self,if_true]
   unfold lS
   rw[ea,ed]
   unfold BV
   simp only[decide_eq_true he,V0,cond_false,hr,Tg,hyl,VS,A9,bh,AD,WY,wA]
   rw[show(⟨n,w.ah.set i ⟨o.ar,o.aV,o.ax,o.ab,o.aO,o.dX,o.aE,o.aJ+1,1,y.aV,o.bD⟩,w.aq,w.ae,w.now,w.aH,w.skip,w.bd⟩:av)={ w with ah:=w.ah.set i ⟨o.ar,o.aV,o.ax,o.ab,o.aO,o.dX,o.aE,o.aJ+1,1,y.aV,o.bD⟩}by rw[←hI.ey]]
   rw[Hj (inv1 _)]
   have Gp:i<(w.ah.set i (⟨o.ar,o.aV,o.ax,o.ab,o.aO,o.dX,o.aE,o.aJ+1,1,y.aV,o.bD⟩:az)).length:=by rw[WL];exact bF
   have hr2:w7 (w.ah.set i (⟨o.ar,o.aV,o.ax,o.ab,o.aO,o.dX,o.aE,o.aJ+1,1,y.aV,o.bD⟩:az)) (i:Int)=some ⟨o.ar,o.aV,o.ax,o.ab,o.aO,o.dX,o.aE,o.aJ+1,1,y.aV,o.bD⟩:=by
    unfold w7;rw[aR,Wl bF]
   simp only[VS,fB,hr2,EZ]
   by_cases hc:y.aV=o.aV
   ·have hr3:w7 (w.ah.set i (⟨o.ar,o.aV,o.ax,o.ab,o.aO,o.dX,o.aE,o.aJ+1,3,y.aV,aO⟩:az)) (i:Int)=some ⟨o.ar,o.aV,o.ax,o.ab,o.aO,o.dX,o.aE,o.aJ+1,3,y.aV,aO⟩:=by
     unfold w7;rw[aR,Wl bF]
    simp only[decide_eq_true hc,cond_true,List.set_set,hr3,VS]
    have inv2:=ve (inv1 (w.ah.set i ⟨o.ar,o.aV,o.ax,o.ab,o.aO,o.dX,o.aE,o.aJ+1,3,y.aV,aO⟩)) (⟨((i+1:Nat):Int),aO,2,⟨#[]⟩,t⟩:br)
    have e2:=Hj inv2 ⟨((i+1:Nat):Int),aO,4,y.aV,⟨0,0⟩⟩
    unfold fB at e2
    simp only at e2
    simp only[e2,VS,if_pos hc,gn,WI,WJ,fB]
   ·simp only[decide_eq_false hc,cond_false,if_neg hc,gn,WI,WJ,fB]
  ·have ea:cy n aO o=o:=by unfold cy;rw[ht];simp only[he,and_false,if_false]
   have ed:gF n aO i o=[]:=by unfold gF;rw[ht];simp only[he,and_false,if_false]
   simp only[decide_eq_false he,Wz,cond_true,lS,ea,ed,gn,WJ,pv ho]
 ·have ea:cy n aO o=o:=by
   unfold cy
   cases o.aE[o.aJ.toNat]? with
   |none=>rfl
   |some t=>simp[hs]
  have ed:gF n aO i o=[]:=by
   unfold gF
   cases o.aE[o.aJ.toNat]? with
   |none=>rfl
   |some t=>simp[hs]
  simp only[decide_eq_false hs,Wz,cond_true,lS,ea,ed,gn,WJ,pv ho]
theorem U9{aO:Int}(i:Nat)(o:az)(w:av)(ho:w.ah[i]?=some o)(hI:mV n 0 w)(hG:qJ n o):
 iL aO (BG i w)=some (.inl (BG ((i+1:Nat):Int) (lS (cy n aO) (gF n aO) i o w))):=by
 have bF:=(VU.1 ho).1
 have hgg:=hG.aJ
 have hg:aC w.ah (i:Int)=some o:=by rw[aR];exact ho
 have hi:aL ((i:Int)+1)=((i+1:Nat):Int):=bI bF (by have:=hI.ah;omega)
 have hd:decide ((i:Int)<(w.ah.length:Int))=true:=decide_eq_true (by omega)
 have AD:(⟨w.aa.ay,w.aa.off,w.aa.change⟩:aj)=n:=hI.ey
 unfold iL BG wY
 simp only[hd,cond_true,hg,VS,hi,AD]
 by_cases hs:o.state=2
 ·have sE:=hG.Fv hs
  have zm:o.aJ.toNat<o.aE.length:=by omega
  have ht:o.aE[o.aJ.toNat]?=some o.aE[o.aJ.toNat]:=VT zm
  generalize o.aE[o.aJ.toNat]=t at ht
  have Tg:aC o.aE o.aJ=some t:=by unfold aC;rw[if_pos hG.aJ.1];exact ht
  have yC:=hG.bf t (VW ht)
  obtain⟨y,hy,_⟩:=dG hf yC
  obtain⟨t1,t2,t3,t4,t5⟩:=cH hf hn yC
  have EZ:bU n t=y.aV:=by unfold bU;rw[hy];rfl
  have wA:aL (o.aJ+1)=o.aJ+1:=aQ (by have:=hG.len;omega)
  simp only[decide_eq_true hs,V0,cond_false,Tg,VS,t2]
  by_cases he:cS n t=aO
  ·have ea:cy n aO o=BV n aO o t:=by unfold cy;rw[ht];simp only[hs,he,and_self,if_true]
   have ed:gF n aO i o=⟨((i+1:Nat):Int),aO,2,⟨#[]⟩,t⟩::(if bU n t=o.aV then [⟨((i+1:Nat):Int),aO,4,bU n t,⟨0,0⟩⟩]else []):=by unfold gF;rw[ht];simp only[hs,he,and_self,if_true]
   unfold lS
   rw[ea,ed]
   unfold BV
   simp only[decide_eq_true he,V0,cond_false,VS,A9,bh,WY,wA]
   have e1:=Hk hI.aH ⟨((i+1:Nat):Int),aO,2,⟨#[]⟩,t⟩
   have hw:w=⟨n,w.ah,w.aq,w.ae,w.now,w.aH,w.skip,w.bd⟩:=by rw[←hI.ey]
   rw[←hI.ey]at hy
   rw[show(⟨n,w.ah,w.aq,w.ae,w.now,w.aH,w.skip,w.bd⟩:av)=w from hw.symm,e1]
   simp only[VS,fB,hg,hy,EZ]
   by_cases hc:y.aV=o.aV
   ·have inv2:pB { fB w ⟨((i+1:Nat):Int),aO,2,⟨#[]⟩,t⟩with ah:=w.ah.set i ⟨o.ar,o.aV,o.ax,o.ab,o.aO,o.dX,o.aE,o.aJ+1,3,y.aV,aO⟩}:=by
     obtain⟨a,b,c⟩:=ve hI.aH ⟨((i+1:Nat):Int),aO,2,⟨#[]⟩,t⟩
     exact⟨a,b,c⟩
    have e2:=Hk inv2 ⟨((i+1:Nat):Int),aO,4,o.aV,⟨0,0⟩⟩
    unfold fB at e2
    simp only at e2
    have Gl:decide (y.aV=o.aV)=true:=decide_eq_true hc
    simp only[Gl,cond_true,VS,e2,if_pos hc,gn,WI,WJ,fB]
    simp only[hc]
   ·simp only[decide_eq_false hc,cond_false,if_neg hc,gn,WI,WJ,fB]
  ·have ea:cy n aO o=o:=by unfold cy;rw[ht];simp only[he,and_false,if_false]
   have ed:gF n aO i o=[]:=by unfold gF;rw[ht];simp only[he,and_false,if_false]
   simp only[decide_eq_false he,Wz,cond_true,lS,ea,ed,gn,WJ,pv ho]
 ·have ea:cy n aO o=o:=by
   unfold cy
   cases o.aE[o.aJ.toNat]? with
   |none=>rfl
   |some t=>simp[hs]
  have ed:gF n aO i o=[]:=by
   unfold gF
   cases o.aE[o.aJ.toNat]? with
   |none=>rfl
   |some t=>simp[hs]
  simp only[decide_eq_false hs,Wz,cond_true,lS,ea,ed,gn,WJ,pv ho]
theorem Va(w0:av)(h0:w0.aa=n)(o0:OwT){aO:Int}(i:Nat)(o:az)(w:av)(hl:w.ah.length=o0.2.2.2.2.2.1.length)(ho:w.ah[i]?=some o)(hI:mV n 0 w)(hG:qJ n o):
 ia w0 aO o0 (BG i w)=some (.inl (BG ((i+1:Nat):Int) (lS (nN n aO) (qo n aO) i o w))):=by
 have bF:=(VU.1 ho).1
 have hgg:=hG.aJ
 have hg:aC w.ah (i:Int)=some o:=by rw[aR];exact ho
 have hr:w7 w.ah (i:Int)=some o:=hg
 have hi:aL ((i:Int)+1)=((i+1:Nat):Int):=bI bF (by have:=hI.ah;omega)
 have hd:decide ((i:Int)<(o0.2.2.2.2.2.1.length:Int))=true:=decide_eq_true (by omega)
 have nU:(⟨w.aa.ay,w.aa.off,w0.aa.change⟩:aj)=n:=by rw[hI.ey,h0]
 have AD:(⟨w.aa.ay,w.aa.off,w.aa.change⟩:aj)=n:=hI.ey
 unfold ia BG wY
 simp only[hd,cond_true,hg,VS,hi,nU,pU]
 by_cases hs:o.state=1
 ·by_cases sE:o.aJ<o.aE.length
  ·have zm:o.aJ.toNat<o.aE.length:=by omega
   have ht:o.aE[o.aJ.toNat]?=some o.aE[o.aJ.toNat]:=VT zm
   generalize o.aE[o.aJ.toNat]=t at ht
   have Tg:aC o.aE o.aJ=some t:=by unfold aC;rw[if_pos hG.aJ.1];exact ht
   have yC:=hG.bf t (VW ht)
   obtain⟨t1,t2,t3,t4,t5⟩:=cH hf hn yC
   simp only[decide_eq_true hs,decide_eq_true sE,cond_true,Tg,VS,t1]
   by_cases he:cd n t=aO
   ·have ea:nN n aO o=⟨o.ar,o.aV,o.ax,o.ab,o.aO,o.dX,o.aE,o.aJ,2,⟨#[]⟩,o.bD⟩:=by unfold nN;rw[ht];simp only[hs,he,and_self,if_true]
    have ed:qo n aO i o=[⟨((i+1:Nat):Int),aO,3,⟨#[]⟩,t⟩]:=by unfold qo;rw[ht];simp only[hs,he,and_self,if_true]
    have hr2:w7 (w.ah.set i (⟨o.ar,o.aV,o.ax,o.ab,o.aO,o.dX,o.aE,o.aJ,2,⟨#[]⟩,o.bD⟩:az)) (i:Int)=some ⟨o.ar,o.aV,o.ax,o.ab,o.aO,o.dX,o.aE,o.aJ,2,⟨#[]⟩,o.bD⟩:=by
     unfold w7;rw[aR,Wl bF]
    have inv1:pB { w with ah:=w.ah.set i ⟨o.ar,o.aV,o.ax,o.ab,o.aO,o.dX,o.aE,o.aJ,2,⟨#[]⟩,o.bD⟩}:=⟨hI.aH.skip,hI.aH.len,hI.aH.bd⟩
    have e1:=Hj inv1 ⟨((i+1:Nat):Int),aO,3,⟨#[]⟩,t⟩
    have hnw:w.aa=n:=hI.ey
    simp only[hnw]at e1
    unfold lS
    rw[ea,ed]
    simp only[decide_eq_true he,cond_true,hr,VS,A9,bh,ll,AD,WY,hr2,Tg,e1,gn,WI,WJ,fB,hnw]
   ·obtain⟨ea,ed⟩:=so (n:=n) (aO:=aO) (i:=i) (.inr (.inr ⟨t,ht,he⟩))
    simp only[decide_eq_false he,cond_false,lS,ea,ed,gn,WJ,pv ho]
  ·obtain⟨ea,ed⟩:=so (n:=n) (aO:=aO) (i:=i) (o:=o) (.inr (.inl (Wy (by omega))))
   simp only[decide_eq_true hs,decide_eq_false sE,cond_true,cond_false,lS,ea,ed,gn,WJ,pv ho]
 ·obtain⟨ea,ed⟩:=so (n:=n) (aO:=aO) (i:=i) (o:=o) (.inl hs)
  simp only[decide_eq_false hs,cond_false,lS,ea,ed,gn,WJ,pv ho]
theorem Vb{aO:Int}(i:Nat)(o:az)(w:av)(ho:w.ah[i]?=some o)(hI:mV n 0 w)(hG:qJ n o):
 iM aO (BG i w)=some (.inl (BG ((i+1:Nat):Int) (lS (nN n aO) (qo n aO) i o w))):=by
 have bF:=(VU.1 ho).1
 have hgg:=hG.aJ
 have hg:aC w.ah (i:Int)=some o:=by rw[aR];exact ho
 have hi:aL ((i:Int)+1)=((i+1:Nat):Int):=bI bF (by have:=hI.ah;omega)
 have hd:decide ((i:Int)<(w.ah.length:Int))=true:=decide_eq_true (by omega)
 have AD:(⟨w.aa.ay,w.aa.off,w.aa.change⟩:aj)=n:=hI.ey
 unfold iM BG wY
 simp only[hd,cond_true,hg,VS,hi,AD]
 by_cases hs:o.state=1
 ·by_cases sE:o.aJ<o.aE.length
  ·have zm:o.aJ.toNat<o.aE.length:=by omega
   have ht:o.aE[o.aJ.toNat]?=some o.aE[o.aJ.toNat]:=VT zm
   generalize o.aE[o.aJ.toNat]=t at ht
   have Tg:aC o.aE o.aJ=some t:=by unfold aC;rw[if_pos hG.aJ.1];exact ht
   have yC:=hG.bf t (VW ht)
   obtain⟨t1,t2,t3,t4,t5⟩:=cH hf hn yC
   simp only[decide_eq_true hs,decide_eq_true sE,cond_true,Tg,VS,t1]
   by_cases he:cd n t=aO
   ·have ea:nN n aO o=⟨o.ar,o.aV,o.ax,o.ab,o.aO,o.dX,o.aE,o.aJ,2,⟨#[]⟩,o.bD⟩:=by unfold nN;rw[ht];simp only[hs,he,and_self,if_true]
    have ed:qo n aO i o=[⟨((i+1:Nat):Int),aO,3,⟨#[]⟩,t⟩]:=by unfold qo;rw[ht];simp only[hs,he,and_self,if_true]
    have inv1:pB { w with ah:=w.ah.set i ⟨o.ar,o.aV,o.ax,o.ab,o.aO,o.dX,o.aE,o.aJ,2,⟨#[]⟩,o.bD⟩}:=⟨hI.aH.skip,hI.aH.len,hI.aH.bd⟩
    have e1:=Hk inv1 ⟨((i+1:Nat):Int),aO,3,⟨#[]⟩,t⟩
    have hnw:w.aa=n:=hI.ey
    simp only[hnw]at e1
    unfold lS
    rw[ea,ed]
    simp only[decide_eq_true he,cond_true,VS,A9,bh,ll,AD,WY,Tg,e1,gn,WI,WJ,fB,hnw]
   ·obtain⟨ea,ed⟩:=so (n:=n) (aO:=aO) (i:=i) (.inr (.inr ⟨t,ht,he⟩))
    simp only[decide_eq_false he,cond_false,lS,ea,ed,gn,WJ,pv ho]
  ·obtain⟨ea,ed⟩:=so (n:=n) (aO:=aO) (i:=i) (o:=o) (.inr (.inl (Wy (by omega))))
   simp only[decide_eq_true hs,decide_eq_false sE,cond_true,cond_false,lS,ea,ed,gn,WJ,pv ho]
 ·obtain⟨ea,ed⟩:=so (n:=n) (aO:=aO) (i:=i) (o:=o) (.inl hs)
  simp only[decide_eq_false hs,cond_false,lS,ea,ed,gn,WJ,pv ho]
end
structure Ev(w:av):Prop where
 ey:cI w.aa
 MW:aU w.aa=some true
 inv:mV w.aa 0 w
 ord:∀o∈w.ah,qJ w.aa o
theorem Jz{n:aj}{aO:Int}{o:az}(h:qJ n o):qJ n (cy n aO o):=by
 have hs:=vg n aO o
 refine⟨?_,by rw[hs.aE];exact h.len,by rw[hs.aE];exact h.bf,?_⟩
 ·rw[hs.aE]
  have:=h.aJ
  unfold cy
  split
  ·rename_i t ht
   have bF:=(VU.1 ht).1
   split
   ·unfold BV;split<;>(simp only;omega)
   ·exact this
  ·exact this
 ·unfold cy
  split
  ·split
   ·unfold BV;split<;>(intro h';simp at h')
   ·exact h.Fv
  ·exact h.Fv
theorem Ay{w:av}(h:Ev w)(aO:Int):mu w aO=some (fO w aO)∧nz w aO=some (fO w aO):=by
 have hlen:=h.inv.ah
 have p1:rS (cy w.aa aO) (gF w.aa aO) 0 w.ah w={ w with ah:=w.ah.map (cy w.aa aO),aH:=((pJ (gF w.aa aO) 0 w.ah).foldl (nJ w.skip) (w.aH,w.bd)).1,bd:=((pJ (gF w.aa aO) 0 w.ah).foldl (nJ w.skip) (w.aH,w.bd)).2}:=by
  have:=C1 (cy w.aa aO) (gF w.aa aO) w.ah [] w rfl
  simpa using this
 have i1:mV w.aa 0 (rS (cy w.aa aO) (gF w.aa aO) 0 w.ah w):=by
  have:∀(os:List az) (i:Nat) (v:av),mV w.aa 0 v→mV w.aa 0 (rS (cy w.aa aO) (gF w.aa aO) i os v):=by
   intro os
   induction os with
   |nil=>intro i v hv;exact hv
   |cons o os ih=>intro i v hv;exact ih (i+1) _ (hv.step _ _ i o)
  exact this _ _ _ h.inv
 have o1:(rS (cy w.aa aO) (gF w.aa aO) 0 w.ah w).ah=w.ah.map (cy w.aa aO):=by rw[p1]
 have p2:=C1 (nN w.aa aO) (qo w.aa aO) (w.ah.map (cy w.aa aO)) [] (rS (cy w.aa aO) (gF w.aa aO) 0 w.ah w) (by rw[o1];rfl)
 simp only[VY,WM]at p2
 have Rk:∀(j:Nat) (o:az),w.ah[j]?=some o→qJ w.aa o:=fun j o ho=>h.ord o (VW ho)
 have Rl:∀(j:Nat) (o:az),(w.ah.map (cy w.aa aO))[j]?=some o→qJ w.aa o:=fun j o ho=>by
  rw[Wj]at ho
  obtain⟨o0,h0,rfl⟩:=Ww.1 ho
  exact Jz (Rk j o0 h0)
 have fin:∀v:av,v=rS (nN w.aa aO) (qo w.aa aO) 0 (w.ah.map (cy w.aa aO)) (rS (cy w.aa aO) (gF w.aa aO) 0 w.ah w)→{ v with now:=aO}=fO w aO:=by
  rintro v rfl
  rw[p2,p1]
  unfold fO Ag pA
  simp only[List.map_map,List.foldl_append]
  rfl
 constructor
 ·unfold mu
  have l1:=tX (f:=cy w.aa aO) (g:=gF w.aa aO) (body:=hZ w aO) (n:=w.ah.length) (Inv:=mV w.aa 0) (Good:=fun _ o=>qJ w.aa o)
   (fun i o v hv ho hI hG=>⟨U8 h.ey h.MW w rfl hlen i o v hv ho hI hG,hI.step _ _ i o⟩)
   (fun v hv=>by unfold hZ BG wY;simp only[decide_eq_false (show ¬(w.ah.length:Int)<(w.ah.length:Int)by omega),cond_false]) w.ah 0 NN w rfl rfl (WV _) (by unfold NN;omega) h.inv Rk
  have e1:((0:Int),w.aa.change,w.now,w.bd,w.aa.ay,w.aa.off,w.ah,w.aq,w.ae,w.skip,w.aH)=BG ((0:Nat):Int) w:=rfl
  rw[e1,l1,VS]
  generalize hv1:rS (cy w.aa aO) (gF w.aa aO) 0 w.ah w=v1 at *
  have Bt:v1.ah.length=w.ah.length:=by rw[o1,Wg]
  have l2:=tX (f:=nN w.aa aO) (g:=qo w.aa aO) (body:=ia w aO (wY v1)) (n:=v1.ah.length) (Inv:=mV w.aa 0) (Good:=fun _ o=>qJ w.aa o)
   (fun i o v hv ho hI hG=>⟨Va h.ey h.MW w rfl (wY v1) i o v hv ho hI hG,hI.step _ _ i o⟩)
   (fun v hv=>by unfold ia BG wY;simp only[decide_eq_false (show ¬(v1.ah.length:Int)<(v1.ah.length:Int)by omega),cond_false]) (w.ah.map (cy w.aa aO)) 0 NN v1 (by rw[o1];rfl) rfl (WV _) (by rw[Wg];unfold NN;omega) i1 Rl
  have e2:((0:Int),(wY v1).1,(wY v1).2.1,(wY v1).2.2.1,(wY v1).2.2.2.1,(wY v1).2.2.2.2.1,(wY v1).2.2.2.2.2.1,(wY v1).2.2.2.2.2.2.1,(wY v1).2.2.2.2.2.2.2.1,(wY v1).2.2.2.2.2.2.2.2.1,(wY v1).2.2.2.2.2.2.2.2.2)=BG ((0:Nat):Int) v1:=rfl
  rw[e2,l2,VS]
  exact congrArg some (fin _ rfl)
 ·unfold nz
  have l1:=tX (f:=cy w.aa aO) (g:=gF w.aa aO) (body:=iL aO) (n:=w.ah.length) (Inv:=mV w.aa 0) (Good:=fun _ o=>qJ w.aa o)
   (fun i o v hv ho hI hG=>⟨U9 h.ey h.MW i o v ho hI hG,hI.step _ _ i o⟩)
   (fun v hv=>by unfold iL BG wY;simp only[decide_eq_false (show ¬(w.ah.length:Int)<(v.ah.length:Int)by omega),cond_false]) w.ah 0 NN w rfl rfl (WV _) (by unfold NN;omega) h.inv Rk
  have e1:((0:Int),w.aa.change,w.now,w.bd,w.aa.ay,w.aa.off,w.ah,w.aq,w.ae,w.skip,w.aH)=BG ((0:Nat):Int) w:=rfl
  rw[e1,l1,VS]
  generalize hv1:rS (cy w.aa aO) (gF w.aa aO) 0 w.ah w=v1 at *
  have l2:=tX (f:=nN w.aa aO) (g:=qo w.aa aO) (body:=iM aO) (n:=v1.ah.length) (Inv:=mV w.aa 0) (Good:=fun _ o=>qJ w.aa o)
   (fun i o v hv ho hI hG=>⟨Vb h.ey h.MW i o v ho hI hG,hI.step _ _ i o⟩)
   (fun v hv=>by unfold iM BG wY;simp only[decide_eq_false (show ¬(v1.ah.length:Int)<(v.ah.length:Int)by omega),cond_false]) (w.ah.map (cy w.aa aO)) 0 NN v1 (by rw[o1];rfl) rfl (WV _) (by rw[Wg];unfold NN;omega) i1 Rl
  have e2:((0:Int),(wY v1).1,(wY v1).2.1,(wY v1).2.2.1,(wY v1).2.2.2.1,(wY v1).2.2.2.2.1,(wY v1).2.2.2.2.2.1,(wY v1).2.2.2.2.2.2.1,(wY v1).2.2.2.2.2.2.2.1,(wY v1).2.2.2.2.2.2.2.2.1,(wY v1).2.2.2.2.2.2.2.2.2)=BG ((0:Nat):Int) v1:=rfl
  rw[e2,l2,VS]
  exact congrArg some (fin _ rfl)
set_option maxHeartbeats 16000000
def l4(bH:Int)(s0:Int×Int×Int×Int×(List bM)×(List Int)×(List az)×(List ao)×(List au)×(List br)×(List Int)):Option ((Int×Int×Int×Int×(List bM)×(List Int)×(List az)×(List ao)×(List au)×(List br)×(List Int))⊕(Int×Int×Int×(List bM)×(List Int)×(List az)×(List ao)×(List au)×(List br)×(List Int))):=
 cond (decide (0≤s0.1))
 (cond (decide (s0.1≤bH))
 ((bh [1,2,3,4,5,6,7,8]).bind fun _=>
 (mu (⟨(⟨s0.2.2.2.2.1,s0.2.2.2.2.2.1,s0.2.1⟩:aj),s0.2.2.2.2.2.2.1,s0.2.2.2.2.2.2.2.1,s0.2.2.2.2.2.2.2.2.1,s0.2.2.1,s0.2.2.2.2.2.2.2.2.2.1,s0.2.2.2.2.2.2.2.2.2.2,s0.2.2.2.1⟩:av) s0.1).bind fun y5=>
 (gr y5).bind fun y6=>
 some (.inl (y6,y5.aa.change,y5.now,y5.bd,y5.aa.ay,y5.aa.off,y5.ah,y5.aq,y5.ae,y5.aH,y5.skip)))
 (some (.inr (s0.2.1,s0.2.2.1,s0.2.2.2.1,s0.2.2.2.2.1,s0.2.2.2.2.2.1,s0.2.2.2.2.2.2.1,s0.2.2.2.2.2.2.2.1,s0.2.2.2.2.2.2.2.2.1,s0.2.2.2.2.2.2.2.2.2.1,s0.2.2.2.2.2.2.2.2.2.2))))
 (some (.inr (s0.2.1,s0.2.2.1,s0.2.2.2.1,s0.2.2.2.2.1,s0.2.2.2.2.2.1,s0.2.2.2.2.2.2.1,s0.2.2.2.2.2.2.2.1,s0.2.2.2.2.2.2.2.2.1,s0.2.2.2.2.2.2.2.2.2.1,s0.2.2.2.2.2.2.2.2.2.2)))
instance (bH:Int):bm (l4 bH):=⟨fun s0=>(.un::vi bH::.un::.un::.be 0 0 0::.be 1 0 0::vi s0.1::(U 29 [])),fun s0=>[some ⟨.of 33,10,[[.v (.slice none 0 0),.v (.slice none 0 0),vi 0,.v (.slice none 0 0),.v (.slice none 0 0),.v (.slice none 0 0),vi 0,.v (.slice none 0 0),.v (.slice none 0 0),vi 0]]⟩,some ⟨.of 33,10,[[.ms 2,.ms 3,vi s0.2.1,.ms 4,.ms 5,.ms 6,vi s0.2.2.1,.ms 7,.ms 8,vi s0.2.2.2.1]]⟩,some ⟨.of 174,6,s0.2.2.2.2.1.map bp⟩,some ⟨.of 3,1,s0.2.2.2.2.2.1.map aG⟩,some ⟨.of 155,11,s0.2.2.2.2.2.2.1.map bc⟩,some ⟨.of 177,4,s0.2.2.2.2.2.2.2.1.map aB⟩,some ⟨.of 46,2,s0.2.2.2.2.2.2.2.2.1.map aS⟩,some ⟨.of 181,6,s0.2.2.2.2.2.2.2.2.2.1.map bt⟩,some ⟨.of 3,1,s0.2.2.2.2.2.2.2.2.2.2.map aG⟩]⟩
def mj(w:av)(bH:Int):Option av:=
 (dP w).bind fun y1=>
 (gI w).bind fun y2=>
 cond (!y2)
 (some y1)
 ((aZ bH w.now 100000).bind fun y3=>
 cond (!y3)
 (some y1)
 ((gr y1).bind fun y4=>
 (aD (l4 bH) NN (y4,y1.aa.change,y1.now,y1.bd,y1.aa.ay,y1.aa.off,y1.ah,y1.aq,y1.ae,y1.aH,y1.skip)).bind (fun o0=>
 some (⟨(⟨o0.2.2.2.1,o0.2.2.2.2.1,o0.1⟩:aj),o0.2.2.2.2.2.1,o0.2.2.2.2.2.2.1,o0.2.2.2.2.2.2.2.1,bH,o0.2.2.2.2.2.2.2.2.1,o0.2.2.2.2.2.2.2.2.2,o0.2.2.1⟩:av))))
instance (w:av)(bH:Int):CT Tryz.prog (mj w bH):=⟨110,[.ag (fK w),vi bH],[],fun r=>.ag [.sl (r.aa.ay.map bp),.sl (r.aa.off.map aG),vi r.aa.change,.sl (r.ah.map bc),.sl (r.aq.map aB),.sl (r.ae.map aS),vi r.now,.sl (r.aH.map bt),.sl (r.skip.map aG),vi r.bd],fun r=>[],fun H=>by replace H:=H0 H;unfold mj at H;exact aA Tryz.func110 rfl Tryz.ntmps110 Tryz.results110 fun Q hQ cR=>dU⟩
def ki(o:aM)(s0:Int):Option (Int⊕(Unit⊕Bool)):=
 cond (decide (s0<(o.aK.length:Int)))
 ((aC o.aK s0).bind fun y6=>
 (aC o.world.ah s0).bind fun y7=>
 (mn o.aY o.ba y6).bind fun y8=>
 cond (!y8.2)
 (some (.inr (.inr false)))
 (cond (!decide (y7.ar=y6.ar))
 (some (.inr (.inr false)))
 (cond (!decide (y7.aV=y6.label.aV))
 (some (.inr (.inr false)))
 (cond (!decide (y7.ax=y6.label.ax))
 (some (.inr (.inr false)))
 (cond (!decide (y7.ab=y6.ab))
 (some (.inr (.inr false)))
 ((dY o.lines (aL (s0+1)) 1).bind fun y9=>
 cond (!decide (y9=y8.1))
 (some (.inr (.inr false)))
 (some (.inl (aL (s0+1))))))))))
 (some (.inr (.inl ())))
instance (o:aM):bm (ki o):=⟨fun s0=>(.un::.be 0 0 0::.un::.be 1 0 0::(U 57 (.sl (o.aK.map bS)::vi (o.aK.length:Int)::vi s0::(U 92 [])))),fun s0=>[some ⟨.of 40,16,[[.sl (o.world.aa.ay.map bp),.sl (o.world.aa.off.map aG),vi o.world.aa.change,.sl (o.world.ah.map bc),.sl (o.world.aq.map aB),.sl (o.world.ae.map aS),vi o.world.now,.sl (o.world.aH.map bt),.sl (o.world.skip.map aG),vi o.world.bd,.sl (o.aY.map cK),.sl (o.ba.map cO),.sl (o.aN.map aG),.sl (o.aK.map bS),.sl (o.lines.map bO),.sl (o.aF.map ig)]]⟩,some ⟨.of 33,10,[[.sl (o.world.aa.ay.map bp),.sl (o.world.aa.off.map aG),vi o.world.aa.change,.sl (o.world.ah.map bc),.sl (o.world.aq.map aB),.sl (o.world.ae.map aS),vi o.world.now,.sl (o.world.aH.map bt),.sl (o.world.skip.map aG),vi o.world.bd]]⟩]⟩
def kj(o:aM)(s1:Int):Option (Int⊕(Unit⊕Bool)):=
 cond (decide (s1<(o.lines.length:Int)))
 ((aC o.lines s1).bind fun dM=>
 cond (decide ((o.world.ah.length:Int)<dM.order))
 (some (.inr (.inr false)))
 (cond (decide (o.world.now<dM.aO))
 (some (.inr (.inr false)))
 (some (.inl (aL (s1+1))))))
 (some (.inr (.inl ())))
instance (o:aM):bm (kj o):=⟨fun s1=>(.un::.be 0 0 0::.un::.be 1 0 0::(U 121 (.sl (o.lines.map bO)::vi (o.lines.length:Int)::vi s1::(U 28 [])))),fun s1=>[some ⟨.of 40,16,[[.sl (o.world.aa.ay.map bp),.sl (o.world.aa.off.map aG),vi o.world.aa.change,.sl (o.world.ah.map bc),.sl (o.world.aq.map aB),.sl (o.world.ae.map aS),vi o.world.now,.sl (o.world.aH.map bt),.sl (o.world.skip.map aG),vi o.world.bd,.sl (o.aY.map cK),.sl (o.ba.map cO),.sl (o.aN.map aG),.sl (o.aK.map bS),.sl (o.lines.map bO),.sl (o.aF.map ig)]]⟩,some ⟨.of 33,10,[[.sl (o.world.aa.ay.map bp),.sl (o.world.aa.off.map aG),vi o.world.aa.change,.sl (o.world.ah.map bc),.sl (o.world.aq.map aB),.sl (o.world.ae.map aS),vi o.world.now,.sl (o.world.aH.map bt),.sl (o.world.skip.map aG),vi o.world.bd]]⟩]⟩
def kl(o:aM)(s2:Int):Option (Int⊕(Unit⊕Bool)):=
 cond (decide (s2<(o.aF.length:Int)))
 ((aC o.aF s2).bind fun jx=>
 (gH jx).bind fun oV=>
 cond (!oV)
 (some (.inr (.inr false)))
 (some (.inl (aL (s2+1)))))
 (some (.inr (.inl ())))
instance (o:aM):bm (kl o):=⟨fun s2=>(U 146 (.sl (o.aF.map ig)::vi (o.aF.length:Int)::vi s2::(U 7 []))),fun s2=>[]⟩
def nr(o:aM):Option Bool:=
 (gI o.world).bind fun y1=>
 cond (!y1)
 (some false)
 ((jB o.aY).bind fun y2=>
 cond (!y2)
 (some false)
 ((kT o.ba (o.aY.length:Int)).bind fun y3=>
 cond (!y3)
 (some false)
 ((eB o.aN).bind fun y4=>
 cond (!y4)
 (some false)
 ((ee o.lines).bind fun y5=>
 cond (!y5)
 (some false)
 (cond (!decide ((o.aK.length:Int)=(o.world.ah.length:Int)))
 (some false)
 (cond (decide (150<(o.aF.length:Int)))
 (some false)
 ((aD (ki o) NN 0).bind (bl (fun o0=>
 (aD (kj o) NN 0).bind (bl (fun o1=>
 (aD (kl o) NN 0).bind (bl (fun o2=>
 some true) (fun r=>some r))) (fun r=>some r))) (fun r=>some r)))))))))
instance (o:aM):CT Tryz.prog (nr o):=⟨30,[.ag (lk o)],[],fun r=>vb r,fun r=>[],fun H=>by replace H:=H0 H;unfold nr at H;exact aA Tryz.func30 rfl Tryz.ntmps30 Tryz.results30 fun Q hQ cR=>dU⟩
def fp(t:au)(s0:Int×Int×Int×Int×(List bM)×(List Int)×(List az)×(List ao)×(List au)×(List br)×(List Int)):Option ((Int×Int×Int×Int×(List bM)×(List Int)×(List az)×(List ao)×(List au)×(List br)×(List Int))⊕(Int×Int×Int×(List bM)×(List Int)×(List az)×(List ao)×(List au)×(List br)×(List Int))):=
 cond (decide (s0.1<(s0.2.2.2.2.2.2.1.length:Int)))
 ((aC s0.2.2.2.2.2.2.1 s0.1).bind fun y6=>
 (eY y6).bind fun y7=>
 (cL (gA y7 (y6.aE.length:Int) y6.aE.length)).bind fun _=>
 (df (cD y6.aE y7 (y6.aE.length:Int)) t).bind fun y8=>
 cond y8
 ((bh [2,3,4,5,6,7,8,9]).bind fun _=>
 (eE (⟨(⟨s0.2.2.2.2.1,s0.2.2.2.2.2.1,s0.2.1⟩:aj),s0.2.2.2.2.2.2.1,s0.2.2.2.2.2.2.2.1,s0.2.2.2.2.2.2.2.2.1,s0.2.2.1,s0.2.2.2.2.2.2.2.2.2.1,s0.2.2.2.2.2.2.2.2.2.2,s0.2.2.2.1⟩:av) s0.1).bind fun y9=>
 some (.inl ((aL (s0.1+1)),y9.aa.change,y9.now,y9.bd,y9.aa.ay,y9.aa.off,y9.ah,y9.aq,y9.ae,y9.aH,y9.skip)))
 (some (.inl ((aL (s0.1+1)),s0.2.1,s0.2.2.1,s0.2.2.2.1,s0.2.2.2.2.1,s0.2.2.2.2.2.1,s0.2.2.2.2.2.2.1,s0.2.2.2.2.2.2.2.1,s0.2.2.2.2.2.2.2.2.1,s0.2.2.2.2.2.2.2.2.2.1,s0.2.2.2.2.2.2.2.2.2.2))))
 (some (.inr (s0.2.1,s0.2.2.1,s0.2.2.2.1,s0.2.2.2.2.1,s0.2.2.2.2.2.1,s0.2.2.2.2.2.2.1,s0.2.2.2.2.2.2.2.1,s0.2.2.2.2.2.2.2.2.1,s0.2.2.2.2.2.2.2.2.2.1,s0.2.2.2.2.2.2.2.2.2.2)))
instance (t:au):bm (fp t):=⟨fun s0=>(U 3 (.be 0 0 0::.be 1 0 0::.un::.be 2 0 0::vi s0.1::(U 63 []))),fun s0=>[some ⟨.of 46,2,[[vi t.bx,vi t.day]]⟩,some ⟨.of 33,10,[[.v (.slice none 0 0),.v (.slice none 0 0),vi 0,.v (.slice none 0 0),.v (.slice none 0 0),.v (.slice none 0 0),vi 0,.v (.slice none 0 0),.v (.slice none 0 0),vi 0]]⟩,some ⟨.of 33,10,[[.ms 3,.ms 4,vi s0.2.1,.ms 5,.ms 6,.ms 7,vi s0.2.2.1,.ms 8,.ms 9,vi s0.2.2.2.1]]⟩,some ⟨.of 174,6,s0.2.2.2.2.1.map bp⟩,some ⟨.of 3,1,s0.2.2.2.2.2.1.map aG⟩,some ⟨.of 155,11,s0.2.2.2.2.2.2.1.map bc⟩,some ⟨.of 177,4,s0.2.2.2.2.2.2.2.1.map aB⟩,some ⟨.of 46,2,s0.2.2.2.2.2.2.2.2.1.map aS⟩,some ⟨.of 181,6,s0.2.2.2.2.2.2.2.2.2.1.map bt⟩,some ⟨.of 3,1,s0.2.2.2.2.2.2.2.2.2.2.map aG⟩]⟩
def cP(w:av)(t:au):Option (av×Bool):=
 (ep w).bind fun y1=>
 (fu w).bind fun y2=>
 cond (!y2)
 (some (y1,false))
 ((dF w.aa t).bind fun y3=>
 cond (!y3)
 (some (y1,false))
 ((bq w.aa t).bind fun y4=>
 cond (decide (y4≤w.now))
 (some (y1,false))
 ((df w.ae t).bind fun y5=>
 cond y5
 (some (y1,false))
 (cond (decide (20≤(w.ae.length:Int)))
 (some (y1,false))
 ((cL (bo ((y1.ae:List au).length+([t]:List au).length) 16)).bind fun _=>
 (aD (fp t) NN (0,y1.aa.change,y1.now,y1.bd,y1.aa.ay,y1.aa.off,y1.ah,y1.aq,((y1.ae:List au)++[t]),y1.aH,y1.skip)).bind (fun o0=>
 some ((⟨(⟨o0.2.2.2.1,o0.2.2.2.2.1,o0.1⟩:aj),o0.2.2.2.2.2.1,o0.2.2.2.2.2.2.1,o0.2.2.2.2.2.2.2.1,o0.2.1,o0.2.2.2.2.2.2.2.2.1,o0.2.2.2.2.2.2.2.2.2,o0.2.2.1⟩:av),true)))))))
instance (w:av)(t:au):CT Tryz.prog (cP w t):=⟨139,[.ag (fK w),.ag (aS t)],[],fun r=>.tu [.ag [.ms 0,.ms 1,vi r.1.aa.change,.ms 2,.ms 3,.ms 4,vi r.1.now,.ms 5,.ms 6,vi r.1.bd],vb r.2],fun r=>[some ⟨.of 174,6,r.1.aa.ay.map bp⟩,some ⟨.of 3,1,r.1.aa.off.map aG⟩,some ⟨.of 155,11,r.1.ah.map bc⟩,some ⟨.of 177,4,r.1.aq.map aB⟩,some ⟨.of 46,2,r.1.ae.map aS⟩,some ⟨.of 181,6,r.1.aH.map bt⟩,some ⟨.of 3,1,r.1.skip.map aG⟩],fun H=>by replace H:=H0 H;unfold cP at H;exact aA Tryz.func139 rfl Tryz.ntmps139 Tryz.results139 fun Q hQ cR=>dU⟩
def o4(y1:aj×aP)(s0:Int×(List YB8)×Int×Int×(List bM)):Option ((Int×(List YB8)×Int×Int×(List bM))⊕((List YB8)×Int×Int×(List bM))):=
 cond (decide (s0.1<(s0.2.2.2.2.length:Int)))
 ((bh [0]).bind fun _=>
 (bT (⟨s0.2.1,s0.2.2.1,s0.2.2.2.1⟩:aP) 3).bind fun y2=>
 cond y2.1
 ((ll 8 [4]).bind fun _=>
 (bh [0]).bind fun _=>
 (aw y2.2 20).bind fun y3=>
 (aC s0.2.2.2.2 s0.1).bind fun y4=>
 some (.inl ((aL (s0.1+1)),y3.2.b,y3.2.i,y3.2.h,(s0.2.2.2.2.set (Int.toNat s0.1) (⟨y4.ar,y4.aV,y4.start,y4.lT,y4.tI,(aL (3000+(aL (1000*y3.1))))⟩:bM)))))
 (some (.inl ((aL (s0.1+1)),y2.2.b,y2.2.i,y2.2.h,s0.2.2.2.2))))
 (some (.inr (s0.2.1,s0.2.2.1,s0.2.2.2.1,s0.2.2.2.2)))
instance (y1:aj×aP):bm (o4 y1):=⟨fun s0=>(.be 0 0 0::.un::.be 1 0 0::.be 2 0 0::vi s0.1::(U 84 [])),fun s0=>[some ⟨.of 139,3,[[.sl (s0.2.1.map cB8),vi s0.2.2.1,vi s0.2.2.2.1]]⟩,some ⟨.of 40,16,[[.v (.slice none 0 0),.v (.slice none 0 0),vi 0,.v (.slice none 0 0),.v (.slice none 0 0),.v (.slice none 0 0),vi 0,.v (.slice none 0 0),.v (.slice none 0 0),vi 0,.v (.slice none 0 0),.v (.slice none 0 0),.v (.slice none 0 0),.v (.slice none 0 0),.v (.slice none 0 0),.v (.slice none 0 0)]]⟩,some ⟨.of 27,3,[[.ms 3,.ms 4,vi y1.1.change]]⟩,some ⟨.of 174,6,s0.2.2.2.2.map bp⟩,some ⟨.of 3,1,y1.1.off.map aG⟩]⟩
def o5(y1:aj×aP)(o0:(List YB8)×Int×Int×(List bM))(s1:Int×(List YB8)×Int×Int×(List Int)):Option ((Int×(List YB8)×Int×Int×(List Int))⊕((List YB8)×Int×Int×(List Int))):=
 cond (decide (0<s1.1))
 ((bh [0]).bind fun _=>
 (aw (⟨s1.2.1,s1.2.2.1,s1.2.2.2.1⟩:aP) 20).bind fun y6=>
 (cL (bo ((s1.2.2.2.2:List Int).length+([(aL (1+y6.1))]:List Int).length) 8)).bind fun _=>
 some (.inl ((aL (s1.1-1)),y6.2.b,y6.2.i,y6.2.h,((s1.2.2.2.2:List Int)++[(aL (1+y6.1))]))))
 (some (.inr (s1.2.1,s1.2.2.1,s1.2.2.2.1,s1.2.2.2.2)))
instance (y1:aj×aP)(o0:(List YB8)×Int×Int×(List bM)):bm (o5 y1 o0):=⟨fun s1=>(.be 0 0 0::.un::.be 1 0 0::.be 2 0 0::.un::.ms 5::vi s1.1::(U 82 [])),fun s1=>[some ⟨.of 139,3,[[.sl (s1.2.1.map cB8),vi s1.2.2.1,vi s1.2.2.2.1]]⟩,some ⟨.of 40,16,[[.v (.slice none 0 0),.v (.slice none 0 0),vi 0,.v (.slice none 0 0),.v (.slice none 0 0),.v (.slice none 0 0),vi 0,.v (.slice none 0 0),.v (.slice none 0 0),vi 0,.v (.slice none 0 0),.v (.slice none 0 0),.v (.slice none 0 0),.v (.slice none 0 0),.v (.slice none 0 0),.v (.slice none 0 0)]]⟩,some ⟨.of 27,3,[[.ms 3,.ms 4,vi y1.1.change]]⟩,some ⟨.of 174,6,o0.2.2.2.map bp⟩,some ⟨.of 3,1,y1.1.off.map aG⟩,some ⟨.of 3,1,s1.2.2.2.2.map aG⟩]⟩
def o7(y1:aj×aP)(o0:(List YB8)×Int×Int×(List bM))(o1:(List YB8)×Int×Int×(List Int))(s2:Int×(List YB8)×Int×Int×(List bN))(s3:Int×(List YB8)×Int×Int×(List bN)):Option ((Int×(List YB8)×Int×Int×(List bN))⊕((List YB8)×Int×Int×(List bN))):=
 cond (decide (s3.1≤3))
 ((bh [0]).bind fun _=>
 (aw (⟨s3.2.1,s3.2.2.1,s3.2.2.2.1⟩:aP) 5).bind fun y7=>
 (cL (bo ((s3.2.2.2.2:List bN).length+([(⟨s2.1,s3.1,5000,(aL (500+(aL (100*y7.1))))⟩:bN)]:List bN).length) 32)).bind fun _=>
 (bh [0]).bind fun _=>
 (aw y7.2 9).bind fun y8=>
 (cL (bo ((((s3.2.2.2.2:List bN)++[(⟨s2.1,s3.1,5000,(aL (500+(aL (100*y7.1))))⟩:bN)]):List bN).length+([(⟨s2.1,s3.1,40000,(aL (1000+(aL (100*y8.1))))⟩:bN)]:List bN).length) 32)).bind fun _=>
 some (.inl ((aL (s3.1+1)),y8.2.b,y8.2.i,y8.2.h,((((s3.2.2.2.2:List bN)++[(⟨s2.1,s3.1,5000,(aL (500+(aL (100*y7.1))))⟩:bN)]):List bN)++[(⟨s2.1,s3.1,40000,(aL (1000+(aL (100*y8.1))))⟩:bN)]))))
 (some (.inr (s3.2.1,s3.2.2.1,s3.2.2.2.1,s3.2.2.2.2)))
instance (y1:aj×aP)(o0:(List YB8)×Int×Int×(List bM))(o1:(List YB8)×Int×Int×(List Int))(s2:Int×(List YB8)×Int×Int×(List bN)):bm (o7 y1 o0 o1 s2):=⟨fun s3=>(.be 0 0 0::.un::.be 1 0 0::.be 2 0 0::.un::.ms 5::.un::.ms 6::.ms 7::vi s2.1::vi s3.1::(U 78 [])),fun s3=>[some ⟨.of 139,3,[[.sl (s3.2.1.map cB8),vi s3.2.2.1,vi s3.2.2.2.1]]⟩,some ⟨.of 40,16,[[.v (.slice none 0 0),.v (.slice none 0 0),vi 0,.v (.slice none 0 0),.v (.slice none 0 0),.v (.slice none 0 0),vi 0,.v (.slice none 0 0),.v (.slice none 0 0),vi 0,.v (.slice none 0 0),.v (.slice none 0 0),.v (.slice none 0 0),.v (.slice none 0 0),.v (.slice none 0 0),.v (.slice none 0 0)]]⟩,some ⟨.of 27,3,[[.ms 3,.ms 4,vi y1.1.change]]⟩,some ⟨.of 174,6,o0.2.2.2.map bp⟩,some ⟨.of 3,1,y1.1.off.map aG⟩,some ⟨.of 3,1,o1.2.2.2.map aG⟩,some ⟨.of 104,2,[[vs (⟨#[65,65,65]⟩),vs (⟨#[67,90,90]⟩)],[vs (⟨#[68,65,65]⟩),vs (⟨#[90,90,90]⟩)]]⟩,some ⟨.of 107,4,s3.2.2.2.2.map cO⟩]⟩
def o6(y1:aj×aP)(o0:(List YB8)×Int×Int×(List bM))(o1:(List YB8)×Int×Int×(List Int))(s2:Int×(List YB8)×Int×Int×(List bN)):Option ((Int×(List YB8)×Int×Int×(List bN))⊕((List YB8)×Int×Int×(List bN))):=
 cond (decide (s2.1<2))
 ((aD (o7 y1 o0 o1 s2) NN (1,s2.2.1,s2.2.2.1,s2.2.2.2.1,s2.2.2.2.2)).bind (fun o3=>
 some (.inl ((aL (s2.1+1)),o3.1,o3.2.1,o3.2.2.1,o3.2.2.2))))
 (some (.inr (s2.2.1,s2.2.2.1,s2.2.2.2.1,s2.2.2.2.2)))
instance (y1:aj×aP)(o0:(List YB8)×Int×Int×(List bM))(o1:(List YB8)×Int×Int×(List Int)):bm (o6 y1 o0 o1):=⟨fun s2=>(.be 0 0 0::.un::.be 1 0 0::.be 2 0 0::.un::.ms 5::.un::.ms 6::.ms 7::vi s2.1::(U 79 [])),fun s2=>[some ⟨.of 139,3,[[.sl (s2.2.1.map cB8),vi s2.2.2.1,vi s2.2.2.2.1]]⟩,some ⟨.of 40,16,[[.v (.slice none 0 0),.v (.slice none 0 0),vi 0,.v (.slice none 0 0),.v (.slice none 0 0),.v (.slice none 0 0),vi 0,.v (.slice none 0 0),.v (.slice none 0 0),vi 0,.v (.slice none 0 0),.v (.slice none 0 0),.v (.slice none 0 0),.v (.slice none 0 0),.v (.slice none 0 0),.v (.slice none 0 0)]]⟩,some ⟨.of 27,3,[[.ms 3,.ms 4,vi y1.1.change]]⟩,some ⟨.of 174,6,o0.2.2.2.map bp⟩,some ⟨.of 3,1,y1.1.off.map aG⟩,some ⟨.of 3,1,o1.2.2.2.map aG⟩,some ⟨.of 104,2,[[vs (⟨#[65,65,65]⟩),vs (⟨#[67,90,90]⟩)],[vs (⟨#[68,65,65]⟩),vs (⟨#[90,90,90]⟩)]]⟩,some ⟨.of 107,4,s2.2.2.2.2.map cO⟩]⟩
def mA(c:aP):Option (aM×aP):=
 (bh [0]).bind fun _=>
 (j4 c 7).bind fun y1=>
 (aD (o4 y1) NN (0,y1.2.b,y1.2.i,y1.2.h,y1.1.ay)).bind (fun o0=>
 (bh [0]).bind fun _=>
 (aw (⟨o0.1,o0.2.1,o0.2.2.1⟩:aP) 5).bind fun y5=>
 (aD (o5 y1 o0) NN (y5.1,y5.2.b,y5.2.i,y5.2.h,([]:List Int))).bind (fun o1=>
 (aD (o6 y1 o0 o1) NN (0,o1.1,o1.2.1,o1.2.2.1,([]:List bN))).bind (fun o2=>
 (A8 (.be 0 0 0::.un::.be 1 0 0::.be 2 0 0::.un::.sl (o1.2.2.2.map aG)::.un::.sl (([(⟨⟨#[65,65,65]⟩,⟨#[67,90,90]⟩⟩:bL),(⟨⟨#[68,65,65]⟩,⟨#[90,90,90]⟩⟩:bL)]).map cK)::.sl (o2.2.2.2.map cO)::(U 80 [])) [some ⟨.of 139,3,[[.sl (o2.1.map cB8),vi o2.2.1,vi o2.2.2.1]]⟩,some ⟨.of 40,16,[[.v (.slice none 0 0),.v (.slice none 0 0),vi 0,.v (.slice none 0 0),.v (.slice none 0 0),.v (.slice none 0 0),vi 0,.v (.slice none 0 0),.v (.slice none 0 0),vi 0,.v (.slice none 0 0),.v (.slice none 0 0),.v (.slice none 0 0),.v (.slice none 0 0),.v (.slice none 0 0),.v (.slice none 0 0)]]⟩,some ⟨.of 27,3,[[.sl (o0.2.2.2.map bp),.sl (y1.1.off.map aG),vi y1.1.change]]⟩]).bind fun _=>
 (ll 8 [5]).bind fun _=>
 (bh [0]).bind fun _=>
 (dW (⟨o2.1,o2.2.1,o2.2.2.1⟩:aP)).bind fun y9=>
 (kp (⟨o0.2.2.2,y1.1.off,y1.1.change⟩:aj) o1.2.2.2 ([(⟨⟨#[65,65,65]⟩,⟨#[67,90,90]⟩⟩:bL),(⟨⟨#[68,65,65]⟩,⟨#[90,90,90]⟩⟩:bL)]) o2.2.2.2 y9.1).bind fun dM=>
 some (dM.1,y9.2))))
instance (c:aP):CT Tryz.prog (mA c):=⟨169,[.be 0 0 0],[some ⟨.of 139,3,[[.sl (c.b.map cB8),vi c.i,vi c.h]]⟩],fun r=>.ag [.sl (r.1.world.aa.ay.map bp),.sl (r.1.world.aa.off.map aG),vi r.1.world.aa.change,.sl (r.1.world.ah.map bc),.sl (r.1.world.aq.map aB),.sl (r.1.world.ae.map aS),vi r.1.world.now,.sl (r.1.world.aH.map bt),.sl (r.1.world.skip.map aG),vi r.1.world.bd,.sl (r.1.aY.map cK),.sl (r.1.ba.map cO),.sl (r.1.aN.map aG),.ms 1,.sl (r.1.lines.map bO),.ms 2],fun r=>[some ⟨.of 139,3,[[.sl (r.2.b.map cB8),vi r.2.i,vi r.2.h]]⟩,some ⟨.of 44,7,r.1.aK.map bS⟩,some ⟨.of 48,13,r.1.aF.map ig⟩],fun H=>by replace H:=H0 H;unfold mA at H;exact aA Tryz.func169 rfl Tryz.ntmps169 Tryz.results169 fun Q hQ cR=>xW⟩
end Go.Proofs.YtbalgkakkoocjaaGreat
