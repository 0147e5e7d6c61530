/- A part of the proof of the statement in the last file of this claim: texts on the language of the program and on its functions. No condition. -/
import Derived.Test.YtdilaemengjipaaGreatDoorCJ20
import Derived.Test.YtdilaemengjipaaGreatDoorCJ21
import Derived.Test.YtdilaemengjipaaGreatDoorCJ14
import Derived.Test.YtdilaemengjipaaGreatDoorCJ12
import Derived.Test.YtdilaemengjipaaGreatDoorCJ19
import Derived.OpenShut
import Derived.Test.YtdilaemengjipaaGreatDoorCJ10
import Derived.Test.YtdilaemengjipaaGreatDoorCJ1
set_option linter.unusedVariables false
set_option linter.unusedSimpArgs false
set_option linter.unusedSectionVars false
open Option renaming some->YW,none->YX
open Bool renaming true->YY,false->YZ
open Decidable renaming decide->Y0
set_option maxHeartbeats 40000000
open Option renaming bind_some->VT,map_eq_some_iff->Wb,map_some->WG,getD_some->Xj,isSome_some->XF
open List renaming getElem?_eq_some_iff->VU,getElem?_eq_getElem->VV,mem_of_getElem?->VW,getElem_of_mem->Wf,mem_append->Wi,mem_cons_self->Wo,mem_cons_of_mem->Wl,mem_cons->V5,mem_singleton->Wh,length_map->Wj,getElem?_map->Wk,cons_append->XZ,eq_of_mem_replicate->Ye,length_append->VZ,length_cons->V0,length_nil->V1
open Option.some renaming injEq->V6,inj->VX
open Nat renaming le_refl->VY,zero_add->Wc
open _root_.Int renaming le_refl->WR,eq_ofNat_of_zero_le->W8
open Bool renaming and_eq_true->Wd,false_and->Yc,not_true->V3
open _root_.Array renaming length_toList->WZ
namespace Go.Proofs.YtdilaemengjipaaGreatDoor
set_option maxRecDepth 10000
open Go.RowKit
variable {a b:Option Bool}{i:Nat}{n:ah}{s:br}{u:Int}
theorem wu{σ ο:Type}{body:σ->Option (σ⊕ο)}{P:ο->Prop}(h:∀s o,body s=YW (.inr o)->P o):∀(N:Nat) (s:σ) (o:ο),aE body N s=YW o->P o
 |0,s,o,he=>by simp[aE]at he
 |N+1,s,o,he=>by
  simp only[aE]at he
  cases hb:body s with
  |none=>grind
  |some x=>
   rw[hb]at he
   cases x with
   |inl s'=>exact wu h N s' o he
   |inr r=>grind
theorem NJ(hn:aW n=YW YY):(0<=n.change/\n.change<=240)/\n.aA.length<=20/\n.off.length<=10:=by
 unfold aW at hn
 have p0:∀(N:Nat) (s:Int) (o:Unit⊕Bool),aE (bY n) N s=YW o->o=.inl ()\/o=.inr false:=by
  refine wu λs o h=>?_
  unfold bY at h
  cases hd:Y0 (s<(n.aA.length:Int))with
  |false=>grind
  |true=>
   cases hg:aB n.aA s with
   |none=>grind
   |some y=>
    cases hl:fE y with
    |none=>simp_all
    |some b=>grind
 have p1:∀(N:Nat) (s:Int) (o:Unit⊕Bool),aE (bZ n) N s=YW o->o=.inl ()\/o=.inr false:=by
  refine wu λs o h=>?_
  unfold bZ at h
  cases hd:Y0 (s<(n.off.length:Int))with
  |false=>grind
  |true=>
   cases hg:aB n.off s with
   |none=>grind
   |some y=>
    rw[hg,VT,cN]at h
    cases hb:Y0 (0<=y)&&Y0 (y<=60)with
    |false=>grind
    |true=>
     cases hs:Y0 (0<s)with
     |false=>simp_all
     |true=>
      rw[hs]at h
      simp at h
      cases VS:aB n.off (aM (s-1))with
      |none=>simp_all
      |some z=>
       grind
 cases h0:aE (bY n) NN 0 with
 |none=>grind
 |some r0=>
 rcases p0 _ _ _ h0 with rfl|rfl
 ·cases h1:aE (bZ n) NN 0 with
  |none=>simp_all
  |some r1=>
  rw[h1]at hn
  rcases p1 _ _ _ h1 with rfl|rfl
  ·simp only[cN]at hn
   grind
  simp_all
 grind
theorem kW(hn:aW n=YW YY):0<=n.change/\n.change<=240:=(NJ hn).1
theorem rM(hn:aW n=YW YY):n.aA.length<=20:=(NJ hn).2.1
def mv(n:ah)(t:av):ByteArray:=((aB n.aA t.bH).map (·.ar)).getD ⟨#[]⟩
def iV(n:ah):ByteArray->Int->List av->Prop
 |_,_,[]=>True
 |p,a,t::ts=>gy n t=YY/\mv n t=p/\a<=cS n t/\iV n (cq n t) (dP n t+n.change) ts
theorem yu(h:cU n)(hn:aW n=YW YY)(t:av):dN n t=YW (gy n t):=by
 rw[<-(re h t).1,yv h hn,uO h]
theorem AJ(hf:cU n)(hn:aW n=YW YY){aK:List av}(hl:aK.length<=1048576){a b:ByteArray}{t:Int}(h:eW n aK a b t=YW YY):iV n a t aK:=by
 obtain⟨ch0,ch1⟩:=kW hn;have xL:=fv n;have I0:=hf.aA
 let F:Nat->ByteArray×Int->av->Option ((ByteArray×Int)⊕(ByteArray⊕Bool)):=λ_ p t=>
  YW (if gy n t=YY/\mv n t=p.1/\p.2<=cS n t then .inl (cq n t,dP n t+n.change)else .inr (.inr YZ))
 have e1:aE (dA n aK b) NN (a,t,0)=uf F (λp=>YW (.inl p.1)) 0 aK (a,t):=by
  refine rf (A:=ByteArray×Int) (λp i=>(p.1,p.2,i)) F (λp=>YW (.inl p.1)) (λp i x hx=>?_) (λp=>?_) Ys (a,t)
  ·have bX:=(VU.1 hx).1
   have hg:aB aK (i:Int)=YW x:=by rw[aP];omega
   have hi:aM ((i:Int)+1)=((i+1:Nat):Int):=bG bX Yn;unfold dA;simp only[Ya (show(i:Int)<aK.length by omega),hg,VT,yu hf hn,F]
   cases ht:gy n x with
   |false=>rfl
   |true=>
    obtain⟨y,hy,_⟩:=fp hf ht;obtain⟨t1,t2,t3,t4,t5⟩:=cY hf hn ht;have f1:mv n x=y.ar:=by unfold mv;simp_all
    have f2:cq n x=y.aY:=by unfold cq;simp_all
    have hw:aM (dP n x+n.change)=dP n x+n.change:=aR Yn
    grind
  ·unfold dA
   simp
 have key:∀(ts:List av) (i:Nat) (p:ByteArray×Int) (r:ByteArray),uf F (λp=>YW (.inl p.1)) i ts p=YW (.inl r)->iV n p.1 p.2 ts:=by
  intro ts
  induction ts with
  |nil=>intro i p r h;trivial
  |cons x ts ih=>
   intro i p r h;simp only[uf,F]at h
   by_cases hc:gy n x=YY/\mv n x=p.1/\p.2<=cS n x
   ·rw[if_pos hc]at h
    exact⟨hc.1,hc.2.1,hc.2.2,ih (i+1) (cq n x,dP n x+n.change) r h⟩
   simp_all
 unfold eW at h
 rw[(dH hf).2,hn]at h
 simp only[VT,o4 (show(ak n).length<=4194304 by omega)]at h
 cases h1:Y0 (bf (ak n) a<0)with
 |true=>simp_all
 |false=>
 cases h2:Y0 (bf (ak n) b<0)with
 |true=>simp_all
 |false=>
 rw[h2]at h
 cases hr:uf F (λp=>YW (.inl p.1)) 0 aK (a,t)with
 |none=>simp_all
 |some r=>
  cases r with
  |inl r=>grind
  |inr v=>
   exfalso;have:∀(ts:List av) (i:Nat) (p:ByteArray×Int) (v:Bool),uf F (λp=>YW (.inl p.1)) i ts p=YW (.inr v)->v=false:=by
    intro ts
    induction ts with
    |nil=>intro i p v h;cases h
    |cons x ts ih=>
     intro i p v h;simp only[uf]at h
     grind
   simp_all
theorem Cm{n:ah}:∀{ts:List av} {p:ByteArray} {a:Int} {i:Nat} {t:av},iV n p a ts->ts[i]?=YW t->gy n t=YY/\∀t',ts[i+1]?=YW t'->dP n t+n.change<=cS n t'/\mv n t'=cq n t
 | [],_,_,_,_,_,h=>by grind
 |x::ts,p,a,0,t,hc,h=>by
  obtain rfl:x=t:=by grind
  refine⟨hc.1,λt' h'=>?_⟩
  cases ts with
  |nil=>grind
  |cons y ts=>obtain rfl:y=t':=by grind
              exact⟨hc.2.2.2.2.2.1,hc.2.2.2.2.1⟩
 |x::ts,p,a,i+1,t,hc,h=>by
  have h':ts[i]?=YW t:=by grind
  have:=Cm hc.2.2.2 h'
  grind
def qS(n:ah)(o:az):ByteArray:=if 0<o.aO then((o.aK[(o.aO-1).toNat]?).map (cq n)).getD ⟨#[]⟩else o.ar
structure sX(n:ah)(o:az)(now:Int):Prop where
 past:∀t,0<o.aO->o.aK[(o.aO-1).toNat]?=YW t->dP n t<=now
 cases:(o.state=1/\o.place=qS n o/\¬qS n o=o.aY/\o.bQ=0/\∀t,o.aK[o.aO.toNat]?=YW t->now<cS n t)\/
  (o.state=2/\o.place=⟨#[]⟩/\o.bQ=0/\∃t,o.aK[o.aO.toNat]?=YW t/\cS n t<=now/\now<dP n t)\/
  (o.state=3/\o.place=o.aY/\qS n o=o.aY/\o.aO=o.aK.length/\0<o.aO/\∀t,o.aK[(o.aO-1).toNat]?=YW t->o.bQ=dP n t)
theorem wj{c:Prop}[Decidable c]:cond (Y0 c) a b=YW YY↔(c/\a=YW YY)\/(¬c/\b=YW YY):=by
 grind
theorem xb{c:Prop}[Decidable c]:cond (!decide c) a b=YW YY↔(¬c/\a=YW YY)\/(c/\b=YW YY):=by
 grind
theorem ug(hf:cU n)(hn:aW n=YW YY){o:az}(hg:0<=o.aO/\o.aO<=o.aK.length)(hl:o.aK.length<=1048576)(ht:∀t∈o.aK,gy n t=YY)(now:Int):cd n o now=YW YY↔sX n o now:=by
 have zi:aM (o.aO-1)=o.aO-1:=aR Yn;have nx:(∃t,o.aO<o.aK.length/\aB o.aK o.aO=YW t/\o.aK[o.aO.toNat]?=YW t/\bt n t=YW (cS n t)/\bm n t=YW (dP n t))\/(o.aO=o.aK.length/\o.aK[o.aO.toNat]?=YX):=by
  by_cases h:o.aO<o.aK.length
  ·have bX:o.aO.toNat<o.aK.length:=Yn
   obtain⟨t1,t2,_⟩:=cY hf hn (ht _ (List.getElem_mem bX));exact .inl ⟨o.aK[o.aO.toNat],h,by unfold aB;simp_all,VV bX,t1,t2⟩
  grind
 unfold cd;rw[zi]
 by_cases h0:0<o.aO
 ·have bX:(o.aO-1).toNat<o.aK.length:=Yn
  obtain⟨p,hp,hp1⟩:∃p,aB o.aK (o.aO-1)=YW p/\o.aK[(o.aO-1).toNat]?=YW p:=⟨o.aK[(o.aO-1).toNat],by unfold aB;rw[if_pos Yn];simp,VV bX⟩
  have hpt:=ht p (VW hp1);obtain⟨y,hy,_⟩:=fp hf hpt;obtain⟨t1,t2,t3,t4,t5⟩:=cY hf hn hpt;have hh:qS n o=y.aY:=by unfold qS;rw[if_pos h0,hp1];simp[cq,hy]
  rcases nx with⟨t,n1,n2,n3,n4,n5⟩ |⟨n1,n3⟩
  ·have ng:¬o.aO=o.aK.length:=Yn
   simp only[hp,hy,t2,n2,n4,VT,wj,xb];constructor
   ·intro h
    refine⟨λq _ hq=>?_,?_⟩
    ·simp_all
    ·simp
     by_cases s1:o.state=1<;>by_cases s2:o.state=2<;>by_cases s3:o.state=3<;>simp_all
   ·rintro⟨k1,k2⟩
    have k1':=k1 p h0 hp1;simp at k2
    have:¬now<dP n p:=Yn
    rcases k2 with k|k|k<;>simp_all
  ·simp only[hp,hy,t2,VT,wj,xb]
   constructor
   ·intro h
    refine⟨λq _ hq=>?_,?_⟩
    ·simp_all
    ·rw[hh];simp
     by_cases s1:o.state=1<;>by_cases s2:o.state=2<;>by_cases s3:o.state=3<;>simp_all
   ·rintro⟨k1,k2⟩
    have k1':=k1 p h0 hp1;rw[hh]at k2;simp at k2
    have:¬now<dP n p:=Yn
    rcases k2 with k|k|k<;>simp_all
 ·have hh:qS n o=o.ar:=by unfold qS;grind
  rcases nx with⟨t,n1,n2,n3,n4,n5⟩ |⟨n1,n3⟩
  ·have ng:¬o.aO=o.aK.length:=Yn
   simp only[wj,V6];constructor
   ·intro h
    refine⟨λq hq=>absurd hq h0,?_⟩
    grind
   ·rintro⟨k1,k2⟩
    simp at k2
    rcases k2 with k|k|k<;>simp_all
  ·simp only[wj,xb]
   constructor
   ·intro h
    refine⟨λq hq=>absurd hq h0,?_⟩
    simp_all
   ·rintro⟨k1,k2⟩
    simp_all
def eA(n:ah)(o:az):Option Int:=(o.aK[o.aO.toNat]?).map λt=>if o.state=2 then dP n t else cS n t
def B9(n:ah)(aQ:Int)(o:az)(t:av):az:=
 if cq n t=o.aY then { o with aO:=o.aO+1,state:=3,place:=cq n t,bQ:=aQ}else { o with aO:=o.aO+1,state:=1,place:=cq n t}
def cD(n:ah)(aQ:Int)(o:az):az:=match o.aK[o.aO.toNat]? with
 |some t=>if o.state=2/\dP n t=aQ then B9 n aQ o t else o
 |none=>o
def oj(n:ah)(aQ:Int)(o:az):az:=match o.aK[o.aO.toNat]? with
 |some t=>if o.state=1/\cS n t=aQ then { o with state:=2,place:=⟨#[]⟩}else o
 |none=>o
structure vg(n:ah)(o:az):Prop where
 aO:0<=o.aO/\o.aO<=o.aK.length
 bk:∀t∈o.aK,0<=cS n t/\cS n t<dP n t/\dP n t<=100000
 next:∀(i:Nat) t t',o.aK[i]?=YW t->o.aK[i+1]?=YW t'->dP n t<=cS n t'
 last:∀(i:Nat) t,o.aK[i]?=YW t->cq n t=o.aY->i+1=o.aK.length
structure qu(o o':az):Prop where
 ar:o'.ar=o.ar
 aY:o'.aY=o.aY
 aw:o'.aw=o.aw
 ab:o'.ab=o.ab
 aQ:o'.aQ=o.aQ
 eJ:o'.eJ=o.eJ
 aK:o'.aK=o.aK
theorem qu.refl(o:az):qu o o:=⟨rfl,rfl,rfl,rfl,rfl,rfl,rfl⟩
theorem qu.trans{a b c:az}(h:qu a b)(k:qu b c):qu a c:=⟨k.1.trans h.1,k.2.trans h.2,k.3.trans h.3,k.4.trans h.4,k.5.trans h.5,k.6.trans h.6,k.7.trans h.7⟩
theorem vl(n:ah)(aQ:Int)(o:az):qu o (cD n aQ o):=by
 unfold cD B9
 split
 ·split
  ·split<;>exact⟨rfl,rfl,rfl,rfl,rfl,rfl,rfl⟩
  ·exact .refl o
 ·exact .refl o
theorem PG(n:ah)(aQ:Int)(o:az):qu o (oj n aQ o):=by
 unfold oj
 split
 ·split
  ·exact⟨rfl,rfl,rfl,rfl,rfl,rfl,rfl⟩
  ·exact .refl o
 ·exact .refl o
def pM(n:ah)(aQ:Int)(o:az):az:=oj n aQ (cD n aQ o)
theorem uh(n:ah)(aQ:Int)(o:az):qu o (pM n aQ o):=(vl n aQ o).trans (PG n aQ _)
theorem vg.same{o o':az}(h:vg n o)(k:qu o o')(hg:0<=o'.aO/\o'.aO<=o.aK.length):vg n o':=
 ⟨by rw[k.aK];omega,by rw[k.aK];exact h.bk,by rw[k.aK];exact h.next,by rw[k.aK,k.aY];exact h.last⟩
def jo(o:az):Nat:=2*(o.aK.length-o.aO.toNat)-(if o.state=2 then 1 else 0)
structure FN(n:ah)(o:az)(aQ:Int):Prop where
 ok:sX n o aQ
 aO:0<=o.aO/\o.aO<=o.aK.length
 next:∀e,eA n o=YW e->aQ<e
theorem rm{o:az}{aQ:Int}(h:sX n o aQ)(hg:0<=o.aO/\o.aO<=o.aK.length):FN n o aQ:=by
 refine⟨h,hg,λe he=>?_⟩
 unfold eA at he
 rcases h.cases with⟨c,_,_,_,k⟩ |⟨c,_,_,t,k1,_,k3⟩ |⟨c,_,_,k,_,_⟩
 all_goals grind
theorem NH{o:az}{aQ:Int}(hw:vg n o)(hp:∀t,0<o.aO->o.aK[(o.aO-1).toNat]?=YW t->dP n t<=aQ)
 (hs:o.state=1) (h1:o.place=qS n o) (h2:¬qS n o=o.aY) (h3:o.bQ=0) (h4:∀t,o.aK[o.aO.toNat]?=YW t->aQ<=cS n t):
 FN n (oj n aQ o) aQ/\jo (oj n aQ o)<=jo o/\((∃t,o.aK[o.aO.toNat]?=YW t/\cS n t=aQ)->jo (oj n aQ o)<jo o):=by
 unfold oj
 cases ht:o.aK[o.aO.toNat]? with
 |none=>
  refine⟨rm ⟨hp,.inl ⟨hs,h1,h2,h3,λt h=>?_⟩⟩ hw.aO,VY _,λ⟨t,h,_⟩=>?_⟩
  all_goals grind
 |some t=>
  have bX:=(VU.1 ht).1;obtain⟨a1,a2,a3⟩:=hw.bk t (VW ht)
  by_cases u0:cS n t=aQ
  ·simp only[hs,u0]
   refine⟨rm ⟨λq hq=>?_,.inr (.inl ⟨rfl,rfl,h3,t,ht,Yn,Yn⟩)⟩ hw.aO,?_,λ_=>?_⟩
   ·grind
   ·unfold jo;simp_all
   ·unfold jo;simp only[hs];simp;omega
  ·have hng:¬(o.state=1/\cS n t=aQ):=λh=>u0 h.2
   simp only[if_neg hng];refine⟨rm ⟨hp,.inl ⟨hs,h1,h2,h3,λq hq=>?_⟩⟩ hw.aO,VY _,λ⟨q,hq,hq2⟩=>?_⟩
   all_goals grind
theorem xo{o:az}{aQ:Int}(hs:¬o.state=1):oj n aQ o=o:=by
 unfold oj
 grind
theorem step_ok{o:az}{now aQ:Int}(hw:vg n o)(h:sX n o now)(hn:now<=aQ)(he:∀e,eA n o=YW e->aQ<=e):
 FN n (pM n aQ o) aQ/\vg n (pM n aQ o)/\jo (pM n aQ o)<=jo o/\(eA n o=YW aQ->jo (pM n aQ o)<jo o):=by
 have hg:=hw.aO;have main:FN n (pM n aQ o) aQ/\jo (pM n aQ o)<=jo o/\(eA n o=YW aQ->jo (pM n aQ o)<jo o):=by
  unfold pM
  rcases h.cases with⟨c1,c2,c3,c4,c5⟩ |⟨c1,c2,c3,t,c4,c5,c6⟩ |⟨c1,c2,c3,c4,c5,c6⟩
  ·have e1:cD n aQ o=o:=by
    unfold cD
    grind
   rw[e1];have h4:∀t,o.aK[o.aO.toNat]?=YW t->aQ<=cS n t:=λt ht=>he _ YU
   obtain⟨a,b,c⟩:=NH hw (λt h1 h2=>by have:=h.past t h1 h2;omega) c1 c2 c3 c4 h4
   refine⟨a,b,λQT=>c ?_⟩
   unfold eA at QT
   grind
  ·have he':=he (dP n t) YU
   by_cases hx:dP n t=aQ
   ·have e1:cD n aQ o=B9 n aQ o t:=by unfold cD;grind
    rw[e1];have hgn:(o.aO+1-1).toNat=o.aO.toNat:=Yn;have hgs:(o.aO+1).toNat=o.aO.toNat+1:=Yn;unfold B9
    by_cases hd:cq n t=o.aY
    ·have hlen:=hw.last _ t c4 hd
     rw[if_pos hd,xo Yq];have hh:qS n { o with aO:=o.aO+1,state:=3,place:=cq n t,bQ:=aQ}=cq n t:=by
      unfold qS;grind
     refine⟨rm ⟨λq _ hq=>?_,.inr (.inr ⟨rfl,hd,hh.trans hd,by grind,by grind,λq hq=>?_⟩)⟩ Yr,?_,λ_=>?_⟩
     ·grind
     ·grind
     ·unfold jo;grind
     ·unfold jo;grind
    ·rw[if_neg hd]
     have hh:qS n { o with aO:=o.aO+1,state:=1,place:=cq n t}=cq n t:=by
      unfold qS;grind
     have hw':vg n { o with aO:=o.aO+1,state:=1,place:=cq n t}:=hw.same ⟨rfl,rfl,rfl,rfl,rfl,rfl,rfl⟩ Yr
     obtain⟨a,b,c⟩:=NH (aQ:=aQ) hw' (λq _ hq=>by grind) rfl hh.symm Yr c3 (λq hq=>by
      simp only[hgs]at hq
      have:=hw.next _ t q c4 hq;omega)
     have hb:jo { o with aO:=o.aO+1,state:=1,place:=cq n t} < jo o:=by unfold jo;grind
     grind
   ·have e1:cD n aQ o=o:=by unfold cD;grind
    rw[e1,xo Yn];refine⟨rm ⟨λq h1 h2=>by have:=h.past q h1 h2;omega,.inr (.inl ⟨c1,c2,c3,t,c4,Yn,Yn⟩)⟩ hg,VY _,λQT=>?_⟩
    unfold eA at QT
    grind
  ·have e1:cD n aQ o=o:=by unfold cD;grind
   rw[e1,xo Yn];refine⟨rm ⟨λq h1 h2=>by have:=h.past q h1 h2;omega,.inr (.inr ⟨c1,c2,c3,c4,c5,c6⟩)⟩ hg,VY _,λQT=>?_⟩
   unfold eA at QT
   grind
 have hs:=uh n aQ o;exact⟨main.1,hw.same hs (by have:=main.1.aO;rw[hs.aK]at this;omega),main.2⟩
theorem QJ{o:az}(hw:vg n o){now:Int}(h:sX n o now)(h0:jo o=0):eA n o=none:=by
 unfold eA
 rcases h.cases with⟨c,_⟩ |⟨c,_,_,t,k1,_⟩ |⟨c,_,_,k,_⟩
 ·unfold jo at h0;grind
 ·unfold jo at h0;grind
 grind
theorem D2{w:ax}(hf:rF w)(hv:fB w=YY)(hs:s∈w.aN):cH w.aa s=YW YY/\s.aQ<=w.now:=by
 unfold fB at hv
 simp at hv
 obtain⟨j,hj,rfl⟩:=Wf hs;have:=cP.1 hv.1.1.2 j _ (VV hj);unfold wX at this
 obtain⟨b,hb⟩:=AI hf.fC w.aN[j]
 grind
def og(skip:List Int)(p:List br×Int)(s:br):List br×Int:=
 let m:=if p.2<1000000000 then p.2+1 else p.2
 (if(skip.any λy=>Y0 (y=m))=YZ/\p.1.length<200 then p.1++[s]else p.1,m)
def iK(n:ah)(aQ:Int)(i:Nat)(o:az):List br:=match o.aK[o.aO.toNat]? with
 |some t=>if o.state=2/\dP n t=aQ then⟨((i+1:Nat):Int),aQ,2,⟨#[]⟩,t⟩::(if cq n t=o.aY then [⟨((i+1:Nat):Int),aQ,4,cq n t,⟨0,0⟩⟩]else [])else []
 |none=>[]
def qE(n:ah)(aQ:Int)(i:Nat)(o:az):List br:=match o.aK[o.aO.toNat]? with
 |some t=>if o.state=1/\cS n t=aQ then [⟨((i+1:Nat):Int),aQ,3,⟨#[]⟩,t⟩]else []
 |none=>[]
def pX(f:Nat->az->List br):Nat->List az->List br
 |_,[]=>[]
 |i,o::os=>f i o++pX f (i+1) os
theorem vS{f:Nat->az->List br}{s:br}:∀{os:List az} {i:Nat},s∈pX f i os->∃j o,os[j]?=YW o/\s∈f (i+j) o
 | [],_,h=>by simp[pX]at h
 |o::os,i,h=>by
  simp only[pX,Wi]at h
  rcases h with h|h
  ·exact⟨0,o,rfl,h⟩
  ·obtain⟨j,o',h1,h2⟩:=vS h
   exact⟨j+1,o',by grind,by grind⟩
def DH(w:ax)(aQ:Int):List br:=pX (iK w.aa aQ) 0 w.aj++pX (qE w.aa aQ) 0 (w.aj.map (cD w.aa aQ))
def gv(w:ax)(aQ:Int):ax:=
 { w with aj:=w.aj.map (pM w.aa aQ),now:=aQ,aN:=((DH w aQ).foldl (og w.skip) (w.aN,w.bg)).1,bg:=((DH w aQ).foldl (og w.skip) (w.aN,w.bg)).2}
structure qw(w:ax):Prop where
 fit:rF w
 ok:fB w=YY
theorem qw.fC{w:ax}(h:qw w):aW w.aa=YW true:=FI h.fit h.ok
theorem qw.aK{w:ax}(h:qw w){i:Nat}{o:az}(ho:w.aj[i]?=YW o):vg w.aa o:=by
 have hok:=mX h.fit h.ok ho;have hl:=h.fit.aK o (VW ho);have Ea:=AJ h.fit.fC h.fC hl hok.Zb9;refine⟨hok.aO,λt ht=>?_,λi t t' h1 h2=>?_,λi t h1 h2=>?_⟩
 ·obtain⟨_,_,a,b,c⟩:=cY h.fit.fC h.fC (hok.bk t ht)
  omega
 ·have:=((Cm Ea h1).2 t' h2).1
  have:=(kW h.fC).1;omega
 ·have hw:=cP.1 hok.aK i t h1
  unfold uk at hw
  grind
theorem qw.state{w:ax}(h:qw w){o:az}(ho:w.aj[i]?=YW o):sX w.aa o w.now:=by
 have hok:=mX h.fit h.ok ho;exact(ug h.fit.fC h.fC hok.aO (h.fit.aK o (VW ho)) hok.bk _).1 hok.st
theorem qw.parts{w:ax}(h:qw w):(0<=w.now/\w.now<=100000)/\w.aj.length<=30/\w.ae.length<=20/\w.aN.length<=200/\w.skip.length<=50/\(w.aN.length<=w.bg/\w.bg<=1000000000)/\w.au.length<=120:=by
 have hb:=dQ (AX h.ok);have hv:=h.ok;unfold fB at hv
 grind
structure Br(n:ah)(aQ:Int)(p:List br×Int):Prop where
 A9:∀s∈p.1,cH n s=YW YY/\s.aQ<=aQ
 len:p.1.length<=200
 bg:p.1.length<=p.2/\p.2<=1000000000
theorem E3{aQ:Int}{skip:List Int}{p:List br×Int}(h:Br n aQ p)(hs:cH n s=YW YY/\s.aQ<=aQ):Br n aQ (og skip p s):=by
 obtain⟨h1,h2,h3⟩:=h;unfold og
 by_cases hm:p.2<1000000000
 ·simp only[if_pos hm]
  split
  ·exact⟨λx hx=>by grind,by grind,by grind⟩
  ·exact⟨h1,h2,by grind⟩
 ·simp only[if_neg hm]
  split
  ·exact⟨λx hx=>by grind,by grind,by grind⟩
  ·exact⟨h1,h2,Yn⟩
theorem CD{n:ah}{aQ:Int}{skip:List Int}:∀(l:List br) (p:List br×Int),Br n aQ p->(∀s∈l,cH n s=YW YY/\s.aQ<=aQ)->Br n aQ (l.foldl (og skip) p)
 | [],p,h,_=>h
 |s::l,p,h,hl=>CD l _ (E3 h (hl s Wo)) λx hx=>hl x (Wl _ hx)
theorem FT{aQ:Int}{o:az}:bd o<=bd (cD n aQ o):=by
 unfold cD
 split
 ·split
  ·rename_i t ht hc
   unfold B9
   split<;>(unfold bd;simp[hc.1])
  omega
 omega
theorem LR{aQ:Int}{o:az}:bd o<=bd (oj n aQ o):=by
 unfold oj
 split
 ·split
  ·unfold bd
   grind
  omega
 omega
theorem MQ{aQ:Int}{o:az}:bd o<=bd (pM n aQ o):=Int.le_trans FT LR
theorem R0{α:Type}{l:List α}{p:α->Bool}{a b:Nat}(h:a<=b)(hk:(l.drop a).any p=YZ):(l.drop b).any p=false:=by
 obtain⟨c,rfl⟩:∃c,b=a+c:=⟨b-a,Yn⟩;rw[<-List.drop_drop]
 grind
section
variable {w:ax} (h:qw w) {aQ:Int} (hn:w.now<=aQ) (hm:aQ<=100000) (he:∀o∈w.aj,∀e,eA w.aa o=YW e->aQ<=e)
include h hn hm he
theorem xE{th:Int}{k:Int}{p:ByteArray}{t:av}(h1:1<=th/\th<=9999)
 (hk:(k=2/\p=⟨#[]⟩/\gy w.aa t=YY/\dP w.aa t<=aQ)\/(k=3/\p=⟨#[]⟩/\gy w.aa t=YY/\aQ<=cS w.aa t)\/(k=4/\¬bf (ak w.aa) p<0/\t=⟨0,0⟩)):
 cH w.aa ⟨th,aQ,k,p,t⟩=YW true:=by
 have CP:=h.parts.1;have xL:=fv w.aa;have I0:=h.fit.fC.aA;unfold cH;rw[h.fC];simp only[VT,cN,Ya (show 0<=aQ by omega),(dH h.fit.fC).2,o4 (show(ak w.aa).length<=4194304 by omega),yu h.fit.fC h.fC]
 rcases hk with⟨rfl,rfl,h2,h3⟩ |⟨rfl,rfl,h2,h3⟩ |⟨rfl,h2,rfl⟩
 ·obtain⟨a1,a2,_⟩:=cY h.fit.fC h.fC h2
  grind
 ·obtain⟨a1,a2,_⟩:=cY h.fit.fC h.fC h2
  grind
 grind
theorem Qy:∀s∈DH w aQ,cH w.aa s=YW YY/\s.aQ<=aQ:=by
 have hlen:=h.parts.2.1;intro s hs
 rcases Wi.1 hs with hs|hs
 ·obtain⟨j,o,ho,hj⟩:=vS hs
  have bX:=(VU.1 ho).1;have hok:=mX h.fit h.ok ho;rw[Wc]at hj
  unfold iK at hj
  split at hj
  ·rename_i t ht
   have zh:=hok.bk t (VW ht)
   split at hj
   ·rcases V5.1 hj with rfl|hj
    ·exact⟨xE h hn hm he Yn (.inl ⟨rfl,rfl,zh,Yn⟩),WR _⟩
    ·split at hj
     ·rename_i hd
      obtain rfl:=Wh.1 hj;have KQ:¬bf (ak w.aa) o.aY<0:=by
       have:=qn h.ok ho;unfold j9 at this
       simp_all
      exact⟨xE h hn hm he Yn (.inr (.inr ⟨rfl,by simp_all,rfl⟩)),WR _⟩
     simp_all
   grind
  grind
 ·obtain⟨j,o,ho,hj⟩:=vS hs
  have bX:=(VU.1 ho).1;rw[Wj]at bX
  rw[Wk]at ho
  obtain⟨o0,Pk,rfl⟩:=Wb.1 ho;have hok:=mX h.fit h.ok Pk;rw[Wc]at hj
  unfold qE at hj
  split at hj
  ·rename_i t ht
   rw[(vl w.aa aQ o0).aK]at ht
   have zh:=hok.bk t (VW ht)
   split at hj
   ·obtain rfl:=Wh.1 hj
    exact⟨xE h hn hm he Yn (.inr (.inl ⟨rfl,rfl,zh,Yn⟩)),WR _⟩
   grind
  grind
theorem F8{o:az}(ho:w.aj[i]?=YW o)(s:List br)(m:Int):j9 { w with aj:=w.aj.map (pM w.aa aQ),now:=aQ,aN:=s,bg:=m} i (pM w.aa aQ o)=true:=by
 have hv:=qn h.ok ho;have hok:=mX h.fit h.ok ho;have hl:=h.fit.aK o (VW ho);have hs:=uh w.aa aQ o;obtain⟨k1,k2,_⟩:=step_ok (h.aK ho) (h.state ho) hn (he o (VW ho));have u0:=(ug h.fit.fC h.fC k2.aO (by rw[hs.aK];omega) (by rw[hs.aK];exact hok.bk) aQ).2 k1.ok
 have KP:=MQ (n:=w.aa) (aQ:=aQ) (o:=o);have hgn:=k2.aO;unfold j9 at hv⊢
 simp only[Wd,Bool.not_eq_true',Yl]at hv⊢
 obtain⟨⟨⟨⟨⟨⟨⟨⟨⟨⟨⟨h1,h2⟩,h3⟩,h4⟩,h5⟩,h6⟩,h7⟩,h8⟩,h9⟩,zG⟩,EL⟩,UL⟩:=hv;have IW:A1 w.aa (pM w.aa aQ o)=A1 w.aa o:=by unfold A1;rw[hs.aK,hs.ar]
 refine⟨⟨⟨⟨⟨⟨⟨⟨⟨⟨⟨?_,?_⟩,?_⟩,?_⟩,?_⟩,?_⟩,?_⟩,?_⟩,?_⟩,?_⟩,?_⟩,?_⟩
 ·rw[hs.ar];omega
 ·rw[hs.aY];omega
 ·rw[hs.ar,hs.aY];omega
 ·rw[hs.aw];omega
 ·rw[hs.ab];omega
 ·rw[hs.aQ];omega
 ·rw[hs.eJ];omega
 ·omega
 ·rw[hs.aK]
  refine(K9 λj x hx=>?_).trans h9
  unfold uk;simp only[hs.ab,hs.aY,hs.aK]
 ·simp only[IW,hs.aK,hs.ar,hs.aQ];omega
 ·grind
 ·rw[hs.aK]
  exact R0 Yn UL
theorem EM:qw (gv w aQ):=by
 have hp:=h.parts;have hv:=h.ok;have Ee:=CD (skip:=w.skip) (DH w aQ) (w.aN,w.bg) (n:=w.aa) (aQ:=aQ) ⟨λs hs=>?_,hp.2.2.2.1,hp.2.2.2.2.2.1⟩ (Qy h hn hm he)
 ·refine⟨⟨h.fit.fC,by simp only[gv,Wj];omega,h.fit.au,h.fit.ae,by have:=Ee.len;simp only[gv];omega,h.fit.skip,λo ho=>?_⟩,?_⟩
  ·simp only[gv,List.mem_map]at ho
   obtain⟨o0,Pk,rfl⟩:=ho;rw[(uh w.aa aQ o0).aK];exact h.fit.aK o0 Pk
  ·unfold fB at hv⊢
   simp at hv⊢
   obtain⟨⟨⟨⟨⟨⟨⟨⟨⟨⟨h1,h2⟩,h3⟩,h4⟩,h5⟩,h6⟩,h7⟩,h8⟩,h9⟩,zG⟩,EL⟩:=hv;have hl:=Ee.len;have hmd:=Ee.bg;refine⟨⟨⟨⟨⟨⟨⟨⟨⟨⟨h1,?_⟩,?_⟩,h4⟩,?_⟩,h6⟩,?_⟩,h8⟩,?_⟩,?_⟩,?_⟩
   ·simp only[gv];omega
   ·simp only[gv,Wj];omega
   ·simp only[gv];omega
   ·simp only[gv];omega
   ·refine cP.2 λj s hj=>?_
    obtain⟨a,b⟩:=Ee.A9 s (VW hj);show((cH w.aa s).getD YZ&&!decide (aQ<s.aQ))=YY
    grind
   ·refine cP.2 λj o hj=>?_
    simp only[gv,Wk]at hj
    obtain⟨o0,Pk,rfl⟩:=Wb.1 hj;rw[Wc];exact F8 h hn hm he Pk _ _
   ·unfold uP at EL⊢
    simp only[gv,List.foldl_map];rw[<-EL]
    congr 1
    funext a o
    rw[(uh w.aa aQ o).aK]
 ·have:=D2 h.fit h.ok hs
  grind
end
def qT(a:Int)(e:Option Int):Int:=match e with
 |some v=>if a<0\/v<a then v else a
 |none=>a
def gm(w:ax):Int:=w.aj.foldl (λa o=>qT a (eA w.aa o)) (-1)
theorem zD{n:ah}:∀(os:List az) (a:Int),(∀o∈os,∀e,eA n o=YW e->0<=e)->a<0\/0<=a->
 (os.foldl (λa o=>qT a (eA n o)) a=a/\a<0/\∀o∈os,eA n o=YX)\/
 (0<=os.foldl (λa o=>qT a (eA n o)) a/\(os.foldl (λa o=>qT a (eA n o)) a=a\/∃o∈os,eA n o=YW (os.foldl (λa o=>qT a (eA n o)) a))/\(0<=a->os.foldl (λa o=>qT a (eA n o)) a<=a)/\∀o∈os,∀e,eA n o=YW e->os.foldl (λa o=>qT a (eA n o)) a<=e)
 | [],a,_,ha=>by
  grind
 |o::os,a,h,ha=>by
  have h0:=h o Wo;have hs:=λx hx=>h x (Wl o hx)
  cases ho:eA n o with
  |none=>
   have e:qT a YX=a:=rfl
   rcases zD os a hs ha with⟨k1,k2,k3⟩ |⟨k1,k2,k3,k4⟩
   all_goals grind
  |some v=>
   have e:0<=qT a (YW v)/\qT a (YW v)<=v/\(0<=a->qT a (YW v)<=a)/\(qT a (YW v)=a\/qT a (YW v)=v):=by
    unfold qT;grind
   obtain⟨e1,e2,e3,e4⟩:=e
   rcases zD os (qT a (YW v)) hs (.inr e1)with⟨k1,k2,k3⟩ |⟨k1,k2,k3,k4⟩
   all_goals grind
theorem O4{o:az}(h:vg n o){e:Int}(he:eA n o=YW e):0<=e/\e<=100000:=by
 unfold eA at he
 cases ht:o.aK[o.aO.toNat]? with
 |none=>grind
 |some t=>
  obtain⟨a,b,c⟩:=h.bk t (VW ht)
  grind
theorem wC{w:ax}(h:qw w):(gm w=-1/\∀o∈w.aj,eA w.aa o=YX)\/
 (w.now<gm w/\gm w<=100000/\(∃o∈w.aj,eA w.aa o=YW (gm w))/\∀o∈w.aj,∀e,eA w.aa o=YW e->gm w<=e):=by
 have hp:∀o∈w.aj,∀e,eA w.aa o=YW e->0<=e/\e<=100000:=λo ho e he=>by
  obtain⟨i,hi,rfl⟩:=Wf ho;exact O4 (h.aK (VV hi)) he
 rcases zD w.aj (-1) (λo ho e he=>(hp o ho e he).1) (.inl Yn)with⟨k1,_,k3⟩ |⟨k1,k2,_,k4⟩
 ·exact .inl ⟨k1,k3⟩
 ·rcases k2 with k2|⟨o,ho,k2⟩
  ·omega
  ·refine .inr ⟨?_,(hp o ho _ k2).2,⟨o,ho,k2⟩,k4⟩
   obtain⟨i,hi,rfl⟩:=Wf ho;have hs:=rm (h.state (VV hi)) (h.aK (VV hi)).aO;exact hs.next _ k2
theorem tb{w:ax}(h:qw w)(hn:0<=gm w):qw (gv w (gm w))/\w.now<gm w/\gm w<=100000:=by
 rcases wC h with⟨k,_⟩ |⟨k1,k2,k3,k4⟩
 ·omega
 ·exact⟨EM h Yn k2 k4,k1,k2⟩
def pk(w:ax):Nat:=(w.aj.map jo).sum
theorem Ux{α:Type}{f g:α->Nat}:∀{l:List α},(∀x∈l,f x<=g x)->(∃x∈l,f x<g x)->(l.map f).sum<(l.map g).sum
 | [],_,⟨x,h,_⟩=>by cases h
 |a::l,h,⟨x,hx,bX⟩=>by
  have h1:=h a Wo;have h2:(l.map f).sum<=(l.map g).sum:=Uw λx hx=>h x (Wl _ hx)
  simp
  rcases V5.1 hx with rfl|hx
  ·omega
  ·have:=Ux (λx hx=>h x (Wl _ hx)) ⟨x,hx,bX⟩
   omega
 where
 Uw {α:Type} {f g:α->Nat}:∀{l:List α},(∀x∈l,f x<=g x)->(l.map f).sum<=(l.map g).sum
 | [],_=>VY _
 |a::l,h=>by
  have h2:=Uw λx hx=>h x (Wl _ hx)
  grind
theorem rI{w:ax}(h:qw w)(hn:0<=gm w):pk (gv w (gm w))<pk w:=by
 rcases wC h with⟨k,_⟩ |⟨k1,k2,⟨o,ho,k3⟩,k4⟩
 ·omega
 ·have I4:∀x∈w.aj,jo (pM w.aa (gm w) x)<=jo x/\(eA w.aa x=YW (gm w)->jo (pM w.aa (gm w) x)<jo x):=λx hx=>by
   obtain⟨i,hi,rfl⟩:=Wf hx;have nj:=VV hi;exact(step_ok (h.aK nj) (h.state nj) Yn (k4 _ hx)).2.2
  unfold pk gv;simp;exact Ux (f:=jo∘pM w.aa (gm w)) (λx hx=>(I4 x hx).1) ⟨o,ho,(I4 o ho).2 k3⟩
def tz:Nat->ax->Int->ax
 |0,w,_=>w
 |k+1,w,u=>if gm w<0\/u<gm w then w else tz k (gv w (gm w)) u
theorem FD{w:ax}(h:qw w)(h0:pk w=0):gm w=-1:=by
 rcases wC h with⟨k,_⟩ |⟨k1,k2,⟨o,ho,k3⟩,k4⟩
 ·exact k
 ·have hz:jo o=0:=by
   have:=List.sum_eq_zero_iff_forall_eq_nat.1 h0 (jo o) (List.mem_map_of_mem ho);omega
  obtain⟨i,hi,rfl⟩:=Wf ho;have nj:=VV hi;rw[QJ (h.aK nj) (h.state nj) hz]at k3
  grind
structure xP(w w':ax):Prop where
 aa:w'.aa=w.aa
 au:w'.au=w.au
 ae:w'.ae=w.ae
 skip:w'.skip=w.skip
 len:w'.aj.length=w.aj.length
 ord:∀(i:Nat) (o o':az),w.aj[i]?=YW o->w'.aj[i]?=YW o'->qu o o'
theorem xP.refl(w:ax):xP w w:=⟨rfl,rfl,rfl,rfl,rfl,λi o o' h h'=>by rw[h]at h';obtain rfl:=VX h';exact .refl o⟩
theorem xP.trans{a b c:ax}(h:xP a b)(k:xP b c):xP a c:=by
 refine⟨k.aa.trans h.aa,k.au.trans h.au,k.ae.trans h.ae,k.skip.trans h.skip,k.len.trans h.len,λi o o' h1 h2=>?_⟩
 have bX:=(VU.1 h1).1;have hb:b.aj[i]?=YW (b.aj[i]'(by rw[h.len];omega)):=VV _
 exact(h.ord i o _ h1 hb).trans (k.ord i _ o' hb h2)
theorem IS(w:ax)(aQ:Int):xP w (gv w aQ):=by
 refine⟨rfl,rfl,rfl,rfl,by simp[gv],λi o o' h h'=>?_⟩
 simp only[gv,Wk,h,WG,V6]at h'
 subst h';exact uh _ _ o
theorem Ud:∀(k:Nat) (w:ax) (u:Int),qw w->pk w<=k->u<=100000->qw (tz k w u)/\(gm (tz k w u)<0\/u<gm (tz k w u))/\xP w (tz k w u)/\(w.now<=u->(tz k w u).now<=u)
 |0,w,u,h,h0,hu=>⟨h,.inl (by have:=FD h Yn;show gm w<0;omega),.refl w,λh=>h⟩
 |k+1,w,u,h,h0,hu=>by
  unfold tz
  split
  ·rename_i hc
   exact⟨h,hc,.refl w,λh=>h⟩
  ·obtain⟨a,b,c⟩:=tb h Yn
   have ht:=rI h Yn;obtain⟨r1,r2,r3,r4⟩:=Ud k (gv w (gm w)) u a Yn hu;exact⟨r1,r2,(IS w _).trans r3,λ_=>r4 (by show gm w<=u;omega)⟩
theorem DF:∀(k j:Nat) (w:ax) (u:Int),qw w->pk w<=k->u<=100000->tz (k+j) w u=tz k w u
 |0,j,w,u,h,h0,hu=>by
  have:=FD h Yn
  cases j with
  |zero=>rfl
  |succ j=>unfold tz
           grind
 |k+1,j,w,u,h,h0,hu=>by
  rw[show k+1+j=(k+j)+1 by omega]
  unfold tz
  split
  ·rfl
  ·obtain⟨a,b,c⟩:=tb h Yn
   have ht:=rI h Yn;exact DF k j _ u a Yn hu
theorem Zbo{k j:Nat}{w:ax}(h:qw w)(hk:pk w<=k)(hj:pk w<=j)(hu:u<=100000):tz k w u=tz j w u:=by
 obtain⟨a,rfl⟩:∃a,k=pk w+a:=⟨k-pk w,Yn⟩;obtain⟨b,rfl⟩:∃b,j=pk w+b:=⟨j-pk w,Yn⟩;rw[DF _ a w u h (VY _) hu,DF _ b w u h (VY _) hu]
theorem Qz{w:ax}(h:qw w)(hu:w.now<=u)(hm:u<=100000)(hn:gm w<0\/u<gm w):qw { w with now:=u}:=by
 have he:∀o∈w.aj,∀e,eA w.aa o=YW e->u<e:=λo ho e he=>by
  rcases wC h with⟨_,k⟩ |⟨k1,_,_,k4⟩
  ·grind
  ·have:=k4 o ho e he
   have:=h.parts.1;omega
 have u0:∀o∈w.aj,pM w.aa u o=o:=λo ho=>by
  have QT:=he o ho;have e1:cD w.aa u o=o:=by
   unfold cD
   cases ht:o.aK[o.aO.toNat]? with
   |none=>rfl
   |some t=>
    simp only;rw[if_neg];rintro⟨c1,c2⟩;have:=QT u YU;omega
  unfold pM;rw[e1];unfold oj
  cases ht:o.aK[o.aO.toNat]? with
  |none=>rfl
  |some t=>
   simp only;rw[if_neg];rintro⟨c1,c2⟩;have:=QT u YU;omega
 have Sv:w.aj.map (pM w.aa u)=w.aj:=by
  conv=>rhs;rw[<-List.map_id w.aj]
  exact List.map_congr_left λo ho=>u0 o ho
 have hok:=EM h hu hm (λo ho e h'=>by grind)
 have hv:=h.ok;have hk:=hok.ok;refine⟨⟨h.fit.fC,h.fit.aj,h.fit.au,h.fit.ae,h.fit.aN,h.fit.skip,h.fit.aK⟩,?_⟩;unfold fB at hv hk⊢
 simp at hv hk⊢
 obtain⟨⟨⟨⟨⟨⟨⟨⟨⟨⟨h1,h2⟩,h3⟩,h4⟩,h5⟩,h6⟩,h7⟩,h8⟩,h9⟩,zG⟩,EL⟩:=hv;obtain⟨⟨⟨⟨⟨⟨⟨⟨⟨⟨k1,k2⟩,k3⟩,k4⟩,k5⟩,k6⟩,k7⟩,k8⟩,k9⟩,k10⟩,k11⟩:=hk;refine⟨⟨⟨⟨⟨⟨⟨⟨⟨⟨h1,⟨Yn,hm⟩⟩,h3⟩,h4⟩,h5⟩,h6⟩,h7⟩,h8⟩,?_⟩,?_⟩,EL⟩
 ·refine cP.2 λj s hj=>?_
  have:=cP.1 h9 j s hj;unfold wX at this⊢
  grind
 ·refine cP.2 λj o hj=>?_
  have CM:(gv w u).aj[j]?=YW o:=by simp only[gv,Sv];omega
  have:=cP.1 k10 j o CM;have e:∀i,j9 (gv w u) i o=j9 { w with now:=u} i o:=λi=>rfl
  grind
def FP(w:ax)(u:Int):ax:={ tz (pk w) w u with now:=u}
theorem K8{w:ax}(h:qw w)(hu:w.now<=u)(hm:u<=100000):qw (FP w u)/\xP w (FP w u)/\(gm (FP w u)<0\/u<gm (FP w u)):=by
 obtain⟨a,b,c,d⟩:=Ud _ w u h (VY _) hm;exact⟨Qz a (d hu) hm b,⟨c.aa,c.au,c.ae,c.skip,c.len,c.ord⟩,b⟩
end Go.Proofs.YtdilaemengjipaaGreatDoor
namespace Go.Proofs.YtdilaemengjipaaGreatDoor
set_option maxRecDepth 10000
open Go.RowKit Go.Sort
variable {a b:ByteArray}{l:bl}{n:Int}
def CW(c:UInt8):Prop:=(48<=c.toNat/\c.toNat<=57)\/(65<=c.toNat/\c.toNat<=90)
theorem RZ{c:UInt8}(h:CW c):∃a,Aw c=YW a:=by
 unfold Aw
 by_cases h1:48<=c.toNat/\c.toNat<=57
 ·exact⟨_,if_pos h1⟩
 ·rw[if_neg h1]
  rcases h with h|h
  ·exact absurd h h1
  ·exact⟨_,if_pos h⟩
theorem zz:∀{l:List UInt8},(∀c∈l,CW c)->∃a,nh l=YW a/\a.length<=21*l.length
 | [],_=>⟨[],rfl,by simp⟩
 |c::cs,h=>by
  obtain⟨a,ha⟩:=RZ (h c Yq);obtain⟨b,hb,zI⟩:=zz (l:=cs) λx hx=>h x (by simp[hx])
  have:=F0 ha;exact⟨a++b,by simp only[nh,ha,hb],by simp;omega⟩
theorem Ir{l m a b:List UInt8}(h1:nh l=YW a)(h2:nh m=YW b):nh (l++m)=YW (a++b):=by
 induction l generalizing a with
 |nil=>simp[nh]at h1;subst h1;simpa using h2
 |cons c l ih=>
  simp only[nh]at h1
  cases hc:Aw c with
  |none=>rw[hc]at h1;cases h1
  |some x=>
   cases hl:nh l with
   |none=>rw[hc,hl]at h1;cases h1
   |some y=>
    rw[hc,hl]at h1
    cases h1
    simp only[XZ,nh,hc,ih hl,List.append_assoc]
theorem Vz:∀(k u:Nat),u<=k->∀c∈Lib.decDigits u,CW c:=by
 intro k
 induction k with
 |zero=>
  intro u hu c hc;obtain rfl:u=0:=Yn;rw[Lib.decDigits,dif_pos Yn]at hc
  simp at hc
  subst hc;left;decide
 |succ k ih=>
  intro u hu c hc;rw[Lib.decDigits]at hc
  by_cases zG:u<10
  ·rw[dif_pos zG]at hc
   obtain rfl:=Wh.1 hc;left;rw[UInt8.toNat_ofNat'];omega
  ·rw[dif_neg zG]at hc
   rcases Wi.1 hc with h|h
   ·exact ih _ Yn c h
   ·obtain rfl:=Wh.1 h
    left;rw[UInt8.toNat_ofNat'];omega
theorem Jk(h:0<=n):∀c∈Lib.itoa n,CW c:=by
 unfold Lib.itoa;rw[if_neg Yn];exact Vz _ _ (VY _)
theorem JO{d:Nat}(h:0<=n):∀c∈qd n d,CW c:=by
 intro c hc
 rcases Wi.1 hc with h1|h1
 ·rw[Ye h1];left;decide
 ·exact Jk h c h1
theorem Ag{l:List UInt8}{i:Nat}{c:UInt8}(h:l[i]?=YW c)(hi:i<3):jL (cE l) (i:Int)=YW (if 65<=c.toNat/\c.toNat<=90 then .inl ((i+1:Nat):Int)else .inr (.inr YZ)):=by
 have uo:=c.toNat_lt;unfold jL;rw[Ya (show(i:Int)<3 by omega),IH h]
 simp only[Yj,VT,Ap (y:=(c.toNat:Int)) ⟨Yn,Yn⟩,cN,bG (n:=3) hi Yn]
 by_cases h1:65<=c.toNat/\c.toNat<=90
 ·rw[if_pos h1,Ya (show(65:Int)<=c.toNat by omega),Ya (show(c.toNat:Int)<=90 by omega)];rfl
 ·rw[if_neg h1]
  have e:(Y0 ((65:Int)<=c.toNat)&&Y0 ((c.toNat:Int)<=90))=false:=by
   by_cases h:65<=c.toNat
   ·rw[Yg (show ¬(c.toNat:Int)<=90 by omega),Bool.and_false]
   ·rw[Yg (show ¬(65:Int)<=(c.toNat:Int)by omega),Yc]
  rw[e];rfl
theorem sP(s:ByteArray):cE s.data.toList=s:=ByteArray.ext (by simp[cE])
theorem JX{s:ByteArray}(h:bV s=YW YY):s.size=3/\∀c∈s.data.toList,CW c:=by
 by_cases h3:s.size=3
 ·refine⟨h3,?_⟩
  have hl:s.data.toList.length=3:=by rw[WZ];exact h3
  obtain⟨n,hn⟩:∃n,NN=n+1+1+1:=⟨NN-3,by unfold NN;omega⟩
  unfold bV at h
  rw[h3,hn,<-sP s]at h
  revert h hl
  generalize s.data.toList=l;intro hl h
  match l,hl with
  | [a,b,c],_=>
   have ea:=Ag (l:=[a,b,c]) (i:=0) rfl Yn;have eb:=Ag (l:=[a,b,c]) (i:=1) rfl Yn;have ec:=Ag (l:=[a,b,c]) (i:=2) rfl Yn
   by_cases ha:65<=a.toNat/\a.toNat<=90
   ·rw[if_pos ha]at ea
    by_cases hb:65<=b.toNat/\b.toNat<=90
    ·rw[if_pos hb]at eb
     by_cases hc:65<=c.toNat/\c.toNat<=90
     ·intro x hx
      simp at hx
      rcases hx with rfl|rfl|rfl
      ·exact .inr ha
      ·exact .inr hb
      ·exact .inr hc
     ·rw[if_neg hc]at ec
      have e:=(zN (n:=n+1+1) ea).trans ((zN (n:=n+1) eb).trans (ND (n:=n) ec));rw[show((0:Nat):Int)=0 from rfl]at e
      rw[e]at h
      cases h
    ·rw[if_neg hb]at eb
     have e:=(zN (n:=n+1+1) ea).trans (ND (n:=n+1) eb);rw[show((0:Nat):Int)=0 from rfl]at e
     rw[e]at h
     cases h
   ·rw[if_neg ha]at ea
    have e:=ND (n:=n+1+1) ea;rw[show((0:Nat):Int)=0 from rfl]at e
    rw[e]at h
    cases h
 ·unfold bV at h
  rw[Yg Yn]at h
  cases h
def sY(l:bl):List UInt8:=Lib.itoa l.aw++qd l.bO 9++l.aY.data.toList
theorem ra(h:cC l=YW YY):l.aY.size=3/\∀c∈sY l,CW c:=by
 unfold cC at h
 rw[cN,cN]at h
 simp only[VT]at h
 cases h1:(Y0 (1<=l.aw)&&Y0 (l.aw<=3))with
 |false=>rw[h1]at h;cases h
 |true=>
  cases h2:(Y0 (0<=l.bO)&&Y0 (l.bO<=999999999))with
  |false=>rw[h1,h2]at h;cases h
  |true=>
   rw[h1,h2]at h
   have h3:bV l.aY=YW true:=by
    cases hp:bV l.aY with
    |none=>rw[hp]at h;cases h
    |some b=>rw[hp]at h;exact h
   obtain⟨hs,hp⟩:=JX h3;simp only[Wd,decide_eq_true_eq]at h1 h2
   refine⟨hs,λc hc=>?_⟩
   rcases Wi.1 hc with hc|hc
   ·rcases Wi.1 hc with hc|hc
    ·exact Jk Yn c hc
    ·exact JO Yn c hc
   ·exact hp c hc
theorem wh(h1:qp l.aw)(h2:qp l.bO)(h3:l.aY.size<=3):(sY l).length<=45:=by
 have a:=gB h1;have b:=yK (d:=9) h2 Yn;have c:l.aY.data.toList.length=l.aY.size:=by rw[WZ];rfl
 unfold sY;simp only[VZ];omega
theorem fI(h:qp n):cz n=YW (cE (Lib.itoa n)):=by unfold cz;rw[if_pos h]
theorem fS(h:qp n):bN n=YW (cE (Lib.itoa n)):=by unfold bN;rw[if_pos h]
theorem sOk(ha:a.size<=100000)(hb:b.size<=100000):cr (dC a b)=YW ():=ku (yW (by unfold sy;omega))
theorem zr(h1:qp l.aw)(h2:qp l.bO)(h3:l.aY.size<=3):n7 l=YW (cE (sY l))/\oc l=YW (cE (sY l)):=by
 have a:=gB h1;have b:=yK (d:=9) h2 Yn;have e:(cE (Lib.itoa l.aw)++cE (qd l.bO 9))++l.aY=cE (sY l):=by
  rw[<-sP l.aY,gG,gG];rfl
 have c1:cr (dC (cE (Lib.itoa l.aw)) (cE (qd l.bO 9)))=YW ():=sOk YK YK;have c2:cr (dC (cE (Lib.itoa l.aw)++cE (qd l.bO 9)) l.aY)=YW ():=sOk (by rw[gG,bD,VZ];omega) Yn
 have p1:=Fa (d:=9) h2 Yn;have p2:=AR (d:=9) h2 Yn;rw[show((9:Nat):Int)=9 from rfl]at p1 p2
 refine⟨?_,?_⟩
 ·unfold n7
  simp only[fI h1,p1,VT,c1,c2,e]
 ·unfold oc
  simp only[fS h1,p2,VT,c1,c2,e]
theorem ZaN(h:ZfN n):qp n:=bounds_i64 h
theorem UC(n:Int):qp (aM n):=ZaN (wf_wrap .i64 n)
theorem Le(h1:qp l.aw)(h2:qp l.bO)(h:cC l=YW YY)(hi:ju l=YW YY):∃n,qp n/\oH l=YW n/\kN l=YW n:=by
 obtain⟨hs,hd⟩:=ra h;obtain⟨b1,b2⟩:=zr h1 h2 Yn;have hl:=wh h1 h2 Yn;obtain⟨a,ha,VO⟩:=zz hd;have h00:nh [48,48]=YW [48,48]:=rfl;have Pc:=Ir ha h00;have e48:(⟨#[48,48]⟩:ByteArray)=cE [48,48]:=rfl;have c1:cr (dC (cE a) (cE [48,48]))=YW ():=sOk YK (by rw[bD];simp)
 have c2:cr (dC (cE (sY l)) (cE [48,48]))=YW ():=sOk YK (by rw[bD];simp)
 obtain⟨m,hm⟩:=E4 (s:=cE (a++[48,48])) (by rw[bD,VZ];unfold NN;simp;omega)
 refine⟨aM (98-m),UC _,?_,?_⟩
 ·unfold oH
  have d1:=OY (l:=sY l) Yn;rw[ha]at d1
  simp only[Xj,XF]at d1
  simp only[hi,b1,d1,VT,V3,Yk,e48,c1,gG,Tf,hm]
 ·unfold kN
  have d1:=Ax (l:=sY l++[48,48]) (by rw[VZ];simp;omega)
  rw[Pc]at d1
  simp only[Xj,XF]at d1
  simp only[h,b2,d1,VT,V3,Yk,e48,c2,gG,hm]
theorem OC(ha:a.size+b.size<=100000000):cr (dC a b)=YW ():=ku (yW (by unfold sy;omega))
abbrev zP:aL:=⟨⟨0,0,⟨#[]⟩⟩,⟨#[]⟩,0,[],0⟩
theorem zO(h:cC l=YW YY):(1<=l.aw/\l.aw<=3)/\(0<=l.bO/\l.bO<=999999999):=by
 unfold cC at h
 simp only[cN,VT]at h
 cases h1:(Y0 (1<=l.aw)&&Y0 (l.aw<=3))with
 |false=>rw[h1]at h;cases h
 |true=>
  cases h2:(Y0 (0<=l.bO)&&Y0 (l.bO<=999999999))with
  |false=>rw[h1,h2]at h;cases h
  |true=>simpa only[Wd,decide_eq_true_eq]using And.intro h1 h2
theorem L9{p:aL}(h1:p.label.aY.size<=sy)(h2:p.ar.size<=sy)(h3:p.bE.length<NN)(h:ey p=YW YY):cC p.label=YW YY/\bV p.ar=YW YY/\(1<=p.ab/\p.ab<=30000)/\tB p.bE=YY/\(0<=p.value/\p.value<=500000):=by
 obtain⟨_,b1,qZ⟩:=C3 h1;obtain⟨_,b2,xJ⟩:=np h2;obtain⟨_,b3,hb3⟩:=IK h3
 revert h
 unfold ey;simp only[qZ,xJ,hb3,BN h3,cN,VT]
 cases b1<;>cases b2<;>cases(!decide (p.ar=p.label.aY))<;>cases hw:(Y0 (1<=p.ab)&&Y0 (p.ab<=30000))<;>cases tB p.bE<;>cases Y0 (b3<=3600)<;>simp_all
theorem Uz{l:List Int}(h:tB l=YY):∃x y z,l=[x,y,z]/\(1<=x/\x<=2000)/\(1<=y/\y<=2000)/\(1<=z/\z<=2000):=by
 have hl:=Ao h
 match l,hl with
 | [x,y,z],_=>exact⟨x,y,z,rfl,by simpa[tB]using h⟩
theorem eH(h:0<=n/\n<=1000000000):qp n:=⟨Yn,Yn⟩
end Go.Proofs.YtdilaemengjipaaGreatDoor
namespace Go.Proofs.YtdilaemengjipaaGreatDoor
set_option maxRecDepth 10000
open Go.RowKit
theorem ZbM{y:Int}(h:0<=y/\y<=255):IntKind.u8.wrap y=y:=by
 simp only[IntKind.wrap,IntKind.bits,IntKind.signed,Yc,Bool.false_eq_true,if_false];omega
theorem Ni:∀(k u:Nat),u<10 ^ (k+1)->(Lib.decDigits u).length<=k+1
 |k,u,h=>by
  rw[Lib.decDigits]
  split
  ·simp
  ·rename_i hu
   match k,h with
   |0,h=>omega
   |k+1,h=>
    have:=Ni k (u / 10) (by rw[Nat.pow_succ]at h;omega)
    simp;omega
end Go.Proofs.YtdilaemengjipaaGreatDoor
namespace Go.Proofs.YtdilaemengjipaaGreatDoor
set_option maxRecDepth 10000
open Go.RowKit Go.Sort
variable {d:Nat}{l:List UInt8}{n:Int}{p:aL}
theorem PM{s:ByteArray}{m:Int}(hs:s.size<NN)(h:j8 s=YW m):-1<=m/\m<=96:=by
 have key:∀(k N i:Nat) (a:Int),i+k=s.size->k<N->0<=a/\a<=96->∃o,aE (dS s) N (a,(i:Int))=YW o/\(∀x,o=.inl x->0<=x/\x<=96)/\∀x,o=.inr x->x=-1:=by
  intro k
  induction k with
  |zero=>
   intro N i a hi hN ha;obtain⟨N,rfl⟩:∃M,N=M+1:=⟨N-1,Yn⟩;refine⟨.inl a,?_,λx e=>by cases e;exact ha,λx e=>by cases e⟩
   unfold aE dS;simp only[Yg (show ¬(i:Int)<(s.size:Int)by omega),Yk,VT,bh]
  |succ k ih=>
   intro N i a hi hN ha;obtain⟨N,rfl⟩:∃M,N=M+1:=⟨N-1,Yn⟩;obtain⟨y,hy⟩:=zE (s:=s) (i:=i) Yn;have hw:=Bz hy;have hb:dS s (a,(i:Int))=if 48<=y/\y<=57 then YW (.inl (Int.tmod (10*a+(y-48)) 97,((i+1:Nat):Int)))else YW (.inr (.inr (-1))):=by
    unfold dS;simp only[Ya (show(i:Int)<(s.size:Int)by omega),Yj,hy,VT,Ap hw,cN]
    by_cases hd:48<=y/\y<=57
    ·rw[if_pos hd]
     simp only[Ya hd.1,Ya hd.2,Bool.and_true,V3,Yk];rw[ZbM (y:=y-48) ⟨Yn,Yn⟩,Ap (y:=y-48) ⟨Yn,Yn⟩,aR (n:=10*a) Yn,aR (n:=10*a+(y-48)) Yn,bG (i:=i) (n:=s.size) Yn (by unfold NN at hs;omega)]
    ·have e:(Y0 (48<=y)&&Y0 (y<=57))=false:=by
      rw[Bool.and_eq_false_iff,Ym,Ym];omega
     rw[if_neg hd,e];rfl
   show ∃o,(dS s (a,(i:Int))).bind (bh (aE (dS s) N) YW)=YW o/\_;rw[hb]
   by_cases hd:48<=y/\y<=57
   ·rw[if_pos hd]
    have t1:=Int.tmod_nonneg (a:=10*a+(y-48)) 97 Yn;have t2:=Int.tmod_lt_of_pos (10*a+(y-48)) (b:=97) Yn;exact ih N (i+1) _ Yn Yn ⟨t1,Yn⟩
   ·rw[if_neg hd]
    exact⟨_,rfl,(λx e=>by cases e),(λx e=>by cases e;rfl)⟩
 obtain⟨o,h1,h2,h3⟩:=key s.size NN 0 0 Yn hs ⟨Yn,Yn⟩;unfold j8 at h
 have KN:aE (dS s) NN (0,0)=YW o:=h1;rw[KN]at h
 cases o with
 |inl x=>
  have:=h2 x rfl;simp only[VT,bh]at h
  cases hd:Y0 (s=⟨#[]⟩)<;>rw[hd]at h<;>simp only[Yj,Yk]at h<;>injection h with h<;>omega
 |inr x=>
  have:=h3 x rfl;simp only[VT,bh]at h
  injection h with h
  omega
theorem OM{l:bl}(h1:qp l.aw)(h2:qp l.bO)(h:cC l=YW YY)(hc:kN l=YW n):0<=n/\n<=99:=by
 obtain⟨hs,hd⟩:=ra h;obtain⟨b1,b2⟩:=zr h1 h2 Yn;have hl:=wh h1 h2 Yn;obtain⟨a,ha,VO⟩:=zz hd;have Pc:=Ir ha (show nh [48,48]=YW [48,48]from rfl);have c2:cr (dC (cE (sY l)) (cE [48,48]))=YW ():=sOk YK (by rw[bD];simp)
 have hz:(cE (a++[48,48])).size<NN:=by rw[bD,VZ];unfold NN;simp;omega
 obtain⟨m,hm⟩:=E4 hz;have hr:=PM hz hm;unfold kN at hc
 have d1:=Ax (l:=sY l++[48,48]) (by rw[VZ];simp;omega)
 rw[Pc]at d1
 simp only[Xj,XF]at d1
 simp only[h,b2,d1,VT,V3,Yk,show(⟨#[48,48]⟩:ByteArray)=cE [48,48]from rfl,c2,gG,hm]at hc
 injection hc with hc
 rw[aR Yn]at hc
 omega
def vI(l:bl)(n:Int):List UInt8:=sY l++qd n 2
theorem PA{l:bl}(h3:l.aY.size<=sy)(h:cC l=YW YY):∃n,0<=n/\n<=99/\dE l=YW (cE (vI l n))/\je l=YW (cE (vI l n)):=by
 obtain⟨r1,r2⟩:=zO h;have h1:qp l.aw:=⟨Yn,Yn⟩;have h2:qp l.bO:=⟨Yn,Yn⟩;obtain⟨e,v,hv⟩:=C3 h3;obtain rfl:YY=v:=VX (h.symm.trans hv);have hi:=e.trans h;obtain⟨hs,hd⟩:=ra h;obtain⟨b1,b2⟩:=zr h1 h2 Yn;have hl:=wh h1 h2 Yn;obtain⟨n,hn,c1,c2⟩:=Le h1 h2 h hi;obtain⟨n0,n1⟩:=OM h1 h2 h c2;have p1:=Fa (d:=2) hn Yn;have p2:=AR (d:=2) hn Yn;have pl:=yK (d:=2) hn Yn;rw[show((2:Nat):Int)=2 from rfl]at p1 p2
 have c3:cr (dC (cE (sY l)) (cE (qd n 2)))=YW ():=sOk YK YK;refine⟨n,n0,n1,?_,?_⟩
 ·unfold dE;simp only[hi,b1,c1,p1,c3,VT,V3,Yk,gG];rfl
 ·unfold je;simp only[h,b2,c2,p2,c3,VT,V3,Yk,gG];rfl
theorem NF{l:bl}(h:cC l=YW YY)(hn:0<=n):∀c∈vI l n,CW c:=λc hc=>by
 rcases Wi.1 hc with h1|h1
 ·exact(ra h).2 c h1
 ·exact JO hn c h1
theorem Zfy(h0:0<=n)(h1:n<=9):Lib.itoa n=[UInt8.ofNat (48+n.toNat)]:=by
 obtain⟨u,rfl⟩:=W8 h0;rw[Ji,Lib.decDigits,dif_pos Yn];rfl
theorem NR{k:Nat}(h0:0<=n)(h1:n.toNat<10 ^ (k+1)):(qd n (k+1)).length=k+1:=by
 obtain⟨u,rfl⟩:=W8 h0;have:=Ni k u (by simpa using h1)
 unfold qd;rw[Ji];simp;omega
theorem NS(l:List UInt8):∀k,Lib.parseUint10 0 (List.replicate k 48++l)=Lib.parseUint10 0 l
 |0=>rfl
 |k+1=>by rw[List.replicate_succ,XZ,Lib.parseUint10];simpa using NS l k
theorem P0(h0:0<=n)(h1:n<=1000000000000):Lib.parseUint10 0 (qd n d)=.ok n.toNat:=by
 obtain⟨u,rfl⟩:=W8 h0;unfold qd;rw[NS,Ji];exact Af u u (VY _) Yn
theorem ZaT(h:0<=n):∀c∈qd n d,48<=c.toNat/\c.toNat<=57:=by
 intro c hc
 rcases Wi.1 hc with h1|h1
 ·rw[Ye h1];decide
 ·exact Jj h c h1
theorem Va{u:Nat}(gZ:l≠[])(hd:∀c∈l,48<=c.toNat/\c.toNat<=57)(hp:Lib.parseUint10 0 l=.ok u)(hu:u<=1000000000000):Lib.atoiAll l=.ok u:=by
 cases l with
 |nil=>exact absurd rfl gZ
 |cons c r=>
  have:=hd c Wo;have e1:¬c.toNat=43:=Yn;have e2:¬c.toNat=45:=Yn;have e3:¬(9223372036854775808:Nat)<=u:=Yn;unfold Lib.atoiAll Lib.parseMag;simp[e1,e2,hp,e3]
theorem Ls{a b c:List UInt8}{i j:Nat}(hi:a.length=i)(hj:j=i+b.length):(cE (a++b++c)).extract i j=cE b:=Of hi hj
def qN:List Int->List UInt8
 | [x,y,z]=>Lib.itoa x++120::(Lib.itoa y++120::Lib.itoa z)
 |_=>[]
def pI(p:aL)(n:Int):List UInt8:=vI p.label n++32::(p.ar.data.toList++32::(Lib.itoa p.ab++32::(qN p.bE++32::Lib.itoa p.value)))
theorem BF(h:∀c∈l,CW c){c:UInt8}(hc:c.toNat<48\/90<c.toNat):c ∉ l:=λhm=>by have:=h c hm;unfold CW at this;omega
theorem hY(h:0<=n){c:UInt8}(hc:c.toNat<48\/57<c.toNat):c ∉ Lib.itoa n:=ZaM (Jj h) hc
theorem QB{x y z:Int}(hx:0<=x)(hy:0<=y)(hz:0<=z):(32:UInt8) ∉ qN [x,y,z]:=by
 have a:=hY hx (c:=32) Yy;have b:=hY hy (c:=32) Yy;have c:=hY hz (c:=32) Yy;unfold qN;simp[a,b,c]
structure BS(p:aL)(n:Int):Prop where
 lab:cC p.label=YW YY
 n0:0<=n
 n1:n<=99
 fli:dE p.label=YW (cE (vI p.label n))
 fls:je p.label=YW (cE (vI p.label n))
 fi:gq p=YW (cE (pI p n))
 fs:j2 p=YW (cE (pI p n))
 to3:p.label.aY.size=3
 fr:p.ar.size=3/\∀c∈p.ar.data.toList,CW c
 w:1<=p.ab/\p.ab<=30000
 v:0<=p.value/\p.value<=500000
 sd:∃x y z,p.bE=[x,y,z]/\(1<=x/\x<=2000)/\(1<=y/\y<=2000)/\(1<=z/\z<=2000)
theorem Jm{l:bl}(h:cC l=YW YY)(hn:0<=n/\n<=99):(vI l n).length<=100:=by
 obtain⟨r1,r2⟩:=zO h;have a:=wh (l:=l) (eH Yn) (eH Yn) (by have:=(ra h).1;omega)
 have b:=yK (n:=n) (d:=2) (eH Yn) Yn;unfold vI;rw[VZ];omega
theorem Mb(h1:p.label.aY.size<=sy)(h2:p.ar.size<=sy)(h3:p.bE.length<NN)(h:ey p=YW YY):∃n,BS p n:=by
 obtain⟨q1,q2,q3,q4,q5⟩:=L9 h1 h2 h3 h;obtain⟨n,n0,n1,f1,f2⟩:=PA h1 q1;obtain⟨x,y,z,hs,hx,hy,hz⟩:=Uz q4;obtain⟨g1,g2⟩:=JX q2;have hi:gE p=YW true:=(tZ h1 h2 h3).1.trans h;have i1:qp x:=eH Yn;have i2:qp y:=eH Yn;have i3:qp z:=eH Yn;have i4:qp p.ab:=eH Yn;have i5:qp p.value:=eH Yn;have l1:=gB i1;have l2:=gB i2;have l3:=gB i3;have l4:=gB i4;have l5:=gB i5;have lb:=Jm q1 ⟨n0,n1⟩;have s0:aB p.bE 0=YW x:=by rw[hs];rfl
 have s1:aB p.bE 1=YW y:=by rw[hs];rfl
 have s2:aB p.bE 2=YW z:=by rw[hs];rfl
 have ex:(⟨#[120]⟩:ByteArray)=cE [120]:=rfl;have es:(⟨#[32]⟩:ByteArray)=cE [32]:=rfl;have Lx:p.ar.data.toList.length=p.ar.size:=by rw[WZ];rfl
 have hft:p.ar=cE p.ar.data.toList:=(sP _).symm;refine⟨n,q1,n0,n1,f1,f2,?_,?_,(ra q1).1,⟨g1,g2⟩,q3,q5,x,y,z,hs,hx,hy,hz⟩
 ·unfold gq pI
  simp only[hi,s0,s1,s2,fI i1,fI i2,fI i3,fI i4,fI i5,f1,VT,V3,Yk,ex,es];generalize p.ar.data.toList=fl at *
  rw[hft];simp only[gG]
  repeat rw[OC Yx,VT]
  simp[hs,qN]
 ·unfold j2 pI
  simp only[h,s0,s1,s2,fS i1,fS i2,fS i3,fS i4,fS i5,f2,VT,V3,Yk,ex,es];generalize p.ar.data.toList=fl at *
  rw[hft];simp only[gG]
  repeat rw[OC Yx,VT]
  simp[hs,qN]
theorem L8(h:BS p n):jD 32 (pI p n)=[vI p.label n,p.ar.data.toList,Lib.itoa p.ab,qN p.bE,Lib.itoa p.value]:=by
 obtain⟨x,y,z,hs,hx,hy,hz⟩:=h.sd;unfold pI;rw[nE (BF (NF h.lab h.n0) Yy),nE (BF h.fr.2 Yy),nE (hY (by have:=h.w;omega) Yy),nE (by rw[hs];exact QB Yn Yn Yn),rN (hY h.v.1 Yy)]
theorem Kn{x y z:Int}(hx:0<=x)(hy:0<=y)(hz:0<=z):jD 120 (qN [x,y,z])=[Lib.itoa x,Lib.itoa y,Lib.itoa z]:=by
 unfold qN;rw[nE (hY hx Yy),nE (hY hy Yy),rN (hY hz Yy)]
theorem Fb(h:BS p n):(pI p n).length<=1000:=by
 obtain⟨x,y,z,hs,hx,hy,hz⟩:=h.sd;have l1:=gB (n:=x) (eH Yn);have l2:=gB (n:=y) (eH Yn);have l3:=gB (n:=z) (eH Yn);have l4:=gB (n:=p.ab) (eH (by have:=h.w;omega))
 have l5:=gB (n:=p.value) (eH (by have:=h.v;omega))
 have lb:=Jm h.lab ⟨h.n0,h.n1⟩;have Lx:p.ar.data.toList.length=p.ar.size:=by rw[WZ];rfl
 have:=h.fr.1;unfold pI;rw[hs];simp only[qN,VZ,V0];omega
theorem w1':aM ((0:Int)+1)=1:=by decide
theorem w2':aM ((1:Int)+1)=2:=by decide
theorem w3':aM ((2:Int)+1)=3:=by decide
theorem Zcv{a b:List Int}(h:a.length+b.length<=100000000):cr (bn (a.length+b.length) 8)=YW ():=ku (Ya ⟨Yn,Yn⟩)
theorem qC(h:0<=n/\n<=1000000000):dc (cE (Lib.itoa n))=YW (n,YY):=Pr h.1 h.2 (by have:=gB (eH h);omega)
end Go.Proofs.YtdilaemengjipaaGreatDoor
