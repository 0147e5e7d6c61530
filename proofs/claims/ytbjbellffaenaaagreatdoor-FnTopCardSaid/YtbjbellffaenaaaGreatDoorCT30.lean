/- A part of the proof of this claim's last theorem. No condition. -/
import Derived.Test.YtbjbellffaenaaaGreatDoorCT29
import Derived.Test.YtbjbellffaenaaaGreatDoorCT28
import Derived.Test.YtbjbellffaenaaaGreatDoorCT23
set_option linter.all false
set_option maxRecDepth 10000
open Option renaming some->E,none->Zd
open Bool renaming true->J,false->V
open Decidable renaming decide->Zg
open List renaming length->D
open Option renaming bind->S
open _root_ renaming List->v,Nat->C,Option->O,cond->R,congrArg->Zo
open Go.Proofs.YtbjbellffaenaaaGreatDoor renaming YA->F,YB8->L,aJ->K,aY->G,ab->Y,aj->X,bB->T,vi->W
open Go.Proofs.Tryz
set_option maxHeartbeats 40000000
namespace Go.Proofs.YtbjbellffaenaaaGreatDoor
open List renaming mem_cons->VY,nodup_cons->Xs,Nodup->XT,pairwise_map->XA,length_cons->V0,length_append->V5,mem_append_left->W0,mem_of_getElem?->VU,any_eq_true->W6,getLast?_eq_getElem?->Ym,pairwise_iff_getElem->Wr,any_eq_false->XC,length_nil->V2,mem_append->We,mem_filter->WW,getElem_of_mem->V3,getElem_mem->Wk,getElem?_eq_getElem->VS,countP_eq_length_filter->X7,length_map->Wi,mem_map->WH,length_filter_le->WV,take_succ_eq_append_getElem->Wt,getElem?_eq_some_iff->VT,nodup_append->XW,length_set->Xd
open Option renaming bind_some->Z,getD_some->W9
open Bool renaming not_true->VX,and_eq_true->V7,not_eq_true'->Ww,and_eq_false_imp->Xi
open _root_.Int renaming le_refl->WT,toNat_natCast->WS
open Nat renaming zero_add->Wa,le_trans->Wd
open Option.some renaming inj->VV
open List.Pairwise renaming nil->Xw,sublist->W5
open Go.RowKit
variable {aZ ar p:ByteArray}{ak rest ts:v au}{bs l l':v aq}{id th wt:Int}
structure ZdQ(n:Y)(l:v aq)(ak:v au)(ah:Int)(ar aZ:ByteArray)(aQ:Int)(aE:v au):Prop where
 hC:cb n l=J/\0<=bc (X n) ar/\aQ<=100000/\1<=ah
 zL:0<=bc (X n) aZ
 len:aE.length<=20
 gK:∃e,az (bT n l ak ah (bc (X n) ar) aQ (X n).length) (bc (X n) aZ)=E e/\0<=e/\e<=100000/\(aE=[]/\e=(if 0 > aQ then 0 else aQ)\/∃t,aE.getLast?=E t/\cH n t=e)
 nodup:(ar::aE.map (T n)).Nodup
 last:(ar::aE.map (T n)).getLast?=E aZ
 chain:gm n ar (if 0 > aQ then 0 else aQ) aE
 found:∀t∈aE,dZ ak t=E V/\∃y q,az n.aC t.bq=E y/\eJ l t=E q/\ah<=K (y.jb-q)
theorem nU{n:Y}:∀{ts:v au} {p:ByteArray} {a:Int},gm n p a ts->∀t∈ts,fA n t=J
 |x::ts,p,a,h,t,ht=>by
  rcases VY.1 ht with rfl|ht
  ·exact h.1
  ·exact nU h.2.2.2 t ht
section
variable {n:Y} (hf:cD n)
include hf
theorem Zez(hl:D l<=1048576){aQ ah:Int}(hC:¬(cb n l=J/\0<=bc (X n) ar/\aQ<=100000/\1<=ah))(k:Int):cW n l ak ar aQ ah k=E []:=by
 unfold cW;rw[(cV hf).2];simp only[Z,kP hf,ie hf hl]
 grind
theorem ZgC{aQ:Int}{aE:v au}(hn:aX n=E J)(hnd:(ar::aE.map (T n)).Nodup)(hc:gm n ar aQ aE):D aE<=20:=by
 have hlg:=pZ hn;have hb:∀t∈aE,0<=t.bq/\t.bq.toNat<D n.aC:=λt ht=>by
  obtain⟨y,hy,_⟩:=cZ hf (nU hc t ht);obtain⟨a,b⟩:=ky hy
  grind
 have h1:=(Xs.1 hnd).2;unfold XT at h1
 rw[XA]at h1
 have h2:(aE.map λt=>t.bq.toNat).Nodup:=by
  unfold XT;rw[XA];refine h1.imp_of_mem λ{a b} ha Ex h e=>h ?_
  have e1:a.bq=b.bq:=by grind
  unfold T;rw[e1]
 have:=Dj (D n.aC) _ h2 λx hx=>by
  grind
 grind
theorem sB(hl:D l<=1048576)(hc:D ak<=1048576){aQ ah:Int}{aE:v au}(h:bI n l ak ar aZ aQ ah=E (aE,J)):ZdQ n l ak ah ar aZ aQ aE:=by
 unfold bI at h
 rw[(cV hf).2]at h
 simp only[Z,kP hf]at h
 by_cases hC:cb n l=J/\0<=bc (X n) ar/\aQ<=100000/\1<=ah
 case neg=>
  rw[Zez hf hl hC]at h
  grind
 have hn:=(dJ hC.1).1;have hlg:=pZ hn;have hp:D (X n)<=40:=by have:=dR n;omega
 have zY:=ou hf hl hc ah (bc (X n) ar) aQ;have htl:=(jf (X n) aZ).2;rw[qU hf hl hc ah aQ hC (Nat.le_refl _)]at h
 simp only[Z]at h
 by_cases ht:bc (X n) aZ<0
 ·grind
 obtain⟨e,he,_⟩:=fB (xs:=bT n l ak ah (bc (X n) ar) aQ (D (X n))) (i:=bc (X n) aZ) ⟨F,by grind⟩
 simp only[Yt ht,Yt (show ¬((D (bT n l ak ah (bc (X n) ar) aQ (D (X n))):Int)=0)by grind),he]at h
 by_cases hd:e<0
 ·grind
 obtain⟨k,q1,q2,q3,q4,q5⟩:=F4 hf hl hc ah aQ hp hC ⟨F,htl⟩ he;obtain⟨w,p1,p2⟩:=ZfE hf hn hl hc ah aQ hC k aZ e [] F q2 F q3 YD NN YF;rw[List.append_nil]at p1
 simp only[Yt hd,q4,Z,p1]at h
 obtain⟨rfl,_⟩:=h;have po:=ZfF hf hn hl hc ah aQ hC.2.1 hC.2.2.1 p2;exact⟨hC,F,ZgC hf hn po.nodup po.chain,⟨e,he,po.time.1,po.time.2,po.ends⟩,po.nodup,po.last,po.chain,po.found⟩
theorem DT(hn:aX n=E J){aE:v au}(hl:D aE<=1048576){a b:ByteArray}{t:Int}(ha:0<=bc (X n) a)(hb:0<=bc (X n) b)(hc:gm n a t aE)(he:aE.foldl (λ_ t=>T n t) a=b):fN n aE a b t=E true:=by
 obtain⟨ch0,ch1⟩:=iH hn;have key:∀(d i:C) (p:ByteArray) (u:Int),i+d=D aE->gm n p u (aE.drop i)->∀N,d<N->aB (dY n aE b) N (p,u,(i:Int))=E (.inl ((aE.drop i).foldl (λ_ t=>T n t) p)):=by
  intro d
  induction d with
  |zero=>
   intro i p u hi h N hN;rw[List.drop_of_length_le F];unfold aB dY
   grind
  |succ d ih=>
   intro i p u hi h N hN;obtain⟨N,rfl⟩:∃M,N=M+1:=⟨N-1,F⟩;have bD:i<D aE:=F;have hg:az aE (i:Int)=E aE[i]:=by rw[aS];simp
   have hw:K ((i:Int)+1)=((i+1:C):Int):=bz bD F;rw[List.drop_eq_getElem_cons bD]at h⊢
   obtain⟨c1,c2,c3,c4⟩:=h;obtain⟨y,hy,_⟩:=cZ hf c1;obtain⟨t1,t2,t3,t4,t5⟩:=bX hf hn c1;have f1:ic n aE[i]=y.ar:=by unfold ic;grind
   have f2:T n aE[i]=y.aZ:=by unfold T;grind
   have hwe:K (cH n aE[i]+n.change)=cH n aE[i]+n.change:=aV F;have Ni:dY n aE b (p,u,(i:Int))=E (.inl (T n aE[i],cH n aE[i]+n.change,((i+1:C):Int))):=by
    unfold dY;simp only[Yi (show(i:Int)<D aE by omega),Yw,hg,Z,yB hf hn,c1,VX,Yx,hy,t1,t2,Yi (show y.ar=p by grind),Yt (show ¬bY n aE[i]<u by omega),hwe,hw,f2]
   unfold aB
   grind
 have hk:=key (D aE) 0 a t F YD NN YF;have uP:=dR n;have Ia:=hf.aC;unfold fN;rw[(cV hf).2];simp only[Z,qW (show(X n).length<=4194304 by omega)]
 grind
end
theorem F7{α β:Type}(f:α->β):∀(l:v α) (a b:β),(a::l.map f).getLast?=E b->l.foldl (λ_ x=>f x) a=b
 | [],a,b,h=>by grind
 |x::l,a,b,h=>by
  exact F7 f l (f x) b h
theorem Lm:∀(l:v aq),D l<=1048575->∃d:v aq,d.Perm l/\d.Pairwise leB
 | [],_=>⟨[],.nil,.nil⟩
 |x::l,h=>by
  rw[V0]at h
  obtain⟨d,h1,h2⟩:=Lm l F;have:=h1.length_eq;obtain⟨r,_,_,h3,h4⟩:=RV (l:=d) F x h2
  grind
def mO(w:aw)(ar aZ:ByteArray)(ax ah fc:Int)(aE:v au):ay:=⟨ar,aZ,ax,ah,w.now,fc,aE,0,1,ar,0⟩
def yh(w:aw)(o:ay)(ys:v aq):aw:=ir ⟨w.aa,w.ae++[o],ys,w.ak,w.now,w.aL,w.skip,w.br⟩ ⟨(D w.ae:Int)+1,w.now,1,o.ar,⟨0,0⟩⟩
theorem Mo(h:∀b∈l,b∈l'){t:au}(hb:kY l th t wt=J):kY l' th t wt=true:=by
 unfold kY at *
 grind
theorem Uh(os:v ay)(o:ay):(os++[o]).foldl (λa (o:ay)=>K (a+(D o.aE:Int))) 0=K (os.foldl (λa (o:ay)=>K (a+(D o.aE:Int))) 0+(D o.aE:Int)):=by
 simp
section
variable {w:aw} (h:oc w)
include h
theorem Zdm(h1:1<=th/\th<=9999)(hp:0<=bc (X w.aa) p):cz w.aa ⟨th,w.now,1,p,⟨0,0⟩⟩=E true:=by
 have yx:=h.parts.1;have uP:=dR w.aa;have Ia:=h.fit.dp.aC;unfold cz;rw[h.dp];simp only[Z,cO,VX,Yx,Yi h1.1,Yi h1.2,Yi yx.1,Yi yx.2,Bool.and_self,(cV h.fit.dp).2,qW (show(X w.aa).length<=4194304 by omega),decide_true,Yw,Yi hp]
theorem Zhi(Zoe:D w.ae<30)(gL:¬ar=aZ){ax ah fc:Int}(hs:1<=ax/\ax<=3)(hw:1<=ah/\ah<=30000)(ZeJ:0<=fc/\fc<=200000){aE:v au}(hR:ZdQ w.aa w.av w.ak ah ar aZ (w.now+1) aE)
 {ys:v aq} (hp:ys.Perm (w.av++iU ((D w.ae:Int)+1) ah aE)) (hb:cb w.aa ys=J):oc (yh w (mO w ar aZ ax ah fc aE) ys):=by
 obtain⟨p1,p2,p3,p4,p5,p6,p7⟩:=h.parts;have hlen:=hR.len;have hyl:=hp.length_eq;rw[V5]at hyl
 have E3:D (iU ((D w.ae:Int)+1) ah aE)=D aE:=by unfold iU;simp
 have hv:=h.ok;have uu:(if 0 > w.now+1 then 0 else w.now+1)=w.now+1:=if_neg F
 have Av:=hR.chain;rw[uu]at Av
 have ZgV:=nU Av;have Gi:∀b∈w.av,b∈ys:=λb hb=>hp.mem_iff.2 (W0 _ hb)
 have ve:=F7 (T w.aa) aE ar aZ hR.last;have CC:=I2 (n:=w.aa) (aQ:=w.now) (skip:=w.skip) (p:=(w.aL,w.br)) (s:=⟨(D w.ae:Int)+1,w.now,1,ar,⟨0,0⟩⟩) ⟨λs hs=>vC h.fit h.ok hs,p4,p6⟩ ⟨Zdm h F hR.hC.2.1,WT _⟩
 have Ur:kv (yh w (mO w ar aZ ax ah fc aE) ys) (D w.ae) (mO w ar aZ ax ah fc aE)=true:=by
  have C4:G (mO w ar aZ ax ah fc aE)=0:=by rfl
  have tV:cA w.aa (mO w ar aZ ax ah fc aE) w.now=E true:=by
   refine(xa h.fit.dp h.dp ⟨WT _,by simp only[mO];omega⟩ (by simp only[mO];omega) ZgV w.now).2 ⟨λt h0=>by simp[mO]at h0,.inl ⟨rfl,?_,?_,rfl,λt ht=>?_⟩⟩
   ·rfl
   ·unfold pK mO;grind
   ·have HQ:aE[0]?=E t:=ht
    cases aE with
    |nil=>grind
    |cons x xs=>
     obtain rfl:x=t:=by grind
     have:=Av.2.2.1;omega
  unfold kv;simp only[V7,Ww,Yy,Yz];have hid:¬bc (X w.aa) ar<0:=by have:=hR.hC.2.1;omega
  have Zmo:¬bc (X w.aa) aZ<0:=by have:=hR.zL;omega
  have Ac:K (w.now+1)=w.now+1:=aV F;refine⟨⟨⟨⟨⟨⟨⟨⟨⟨⟨⟨hid,Zmo⟩,gL⟩,hs⟩,hw⟩,p1.1,WT _⟩,ZeJ⟩,WT _,by simp only[mO];omega⟩,?_⟩,?_⟩,?_⟩,?_⟩
  ·refine cX.2 λj t hj=>?_
   have H7:aE[j]?=E t:=hj;have htm:=VU H7;unfold xd;simp only[V7,Ww,Xi,Yy,Yz,Wa];refine⟨⟨ZgV t htm,?_⟩,λhe hj1=>?_⟩
   ·unfold kY
    refine W6.2 ⟨⟨(D w.ae:Int)+1,t,ah⟩,hp.mem_iff.2 (List.mem_append_right _ ?_),Yi ?_⟩
    ·unfold iU;grind
    rfl
   ·have Zkb:j+1<D aE:=hj1
    have he':T w.aa t=aZ:=he;have hnd:=hR.nodup;have Qd:=hR.last;rw[Ym,V0]at Qd
    have h1:(ar::aE.map (T w.aa))[j+1]?=E aZ:=by grind
    have h2:=Wr.1 hnd (j+1) (D aE) YD YE F
    grind
  ·have C5:Et w.aa (mO w ar aZ ax ah fc aE)=aZ:=ve
   show(fN w.aa aE ar (Et w.aa (mO w ar aZ ax ah fc aE)) (K (w.now+1))).getD V=J;rw[C5,Ac,DT h.fit.dp h.dp F hR.hC.2.1 hR.zL Av ve];rfl
  ·show(cA w.aa (mO w ar aZ ax ah fc aE) w.now).getD V=J
   grind
  ·rw[C4]
   refine XC.2 λt ht=>?_
   have htm:t∈aE:=List.mem_of_mem_drop ht;have:=(hR.found t htm).1;rw[jH,jx h.fit.ak]at this
   have:=VV this;show ¬dx w.ak t=J;unfold dx
   grind
 have hold:∀(i:C) (o:ay),w.ae[i]?=E o->kv (yh w (mO w ar aZ ax ah fc aE) ys) i o=true:=λi o hi=>by
  have hv:=o9 h.ok hi;unfold kv at hv⊢
  simp at hv⊢
  obtain⟨⟨⟨⟨⟨⟨⟨⟨⟨⟨⟨h1,h2⟩,h3⟩,h4⟩,h5⟩,h6⟩,h7⟩,h8⟩,h9⟩,EW⟩,II⟩,h12⟩:=hv;refine⟨⟨⟨⟨⟨⟨⟨⟨⟨⟨⟨h1,h2⟩,h3⟩,h4⟩,h5⟩,h6⟩,h7⟩,h8⟩,?_⟩,EW⟩,II⟩,h12⟩;refine cX.2 λj t hj=>?_
  have:=cX.1 h9 j t hj;unfold xd at this⊢
  simp at this⊢
  exact⟨⟨this.1.1,Mo Gi this.1.2⟩,this.2⟩
 refine⟨⟨h.fit.dp,?_,?_,h.fit.ak,?_,h.fit.skip,λo ho=>?_⟩,?_⟩
 ·simp only[yh,ir,V5,V0,V2];omega
 ·simp only[yh,ir];omega
 ·have:=CC.len;simp only[yh,ir,mO];omega
 ·have zK:o∈w.ae++[mO w ar aZ ax ah fc aE]:=ho
  rcases We.1 zK with ho|ho
  ·exact h.fit.aE o ho
  ·obtain rfl:=List.mem_singleton.1 ho;simp only[mO];omega
 ·unfold eY at hv⊢
  simp at hv⊢
  obtain⟨⟨⟨⟨⟨⟨⟨⟨⟨⟨h1,h2⟩,h3⟩,h4⟩,h5⟩,h6⟩,h7⟩,h8⟩,h9⟩,EW⟩,II⟩:=hv;have hl:=CC.len;have hmd:=CC.br;refine⟨⟨⟨⟨⟨⟨⟨⟨⟨⟨hb,h2⟩,?_⟩,h4⟩,?_⟩,h6⟩,?_⟩,h8⟩,?_⟩,?_⟩,?_⟩
  ·simp only[yh,ir,V5,V0,V2];omega
  ·simp only[yh,ir,mO];omega
  ·simp only[yh,ir,mO];omega
  ·refine cX.2 λj s hj=>?_
   obtain⟨a,b⟩:=CC.ZeF s (VU hj);show((cz w.aa s).getD V&&!decide (w.now<s.aQ))=J
   grind
  ·refine cX.2 λj o hj=>?_
   rw[Wa];have H7:(w.ae++[mO w ar aZ ax ah fc aE])[j]?=E o:=hj
   grind
  ·have Zl8:w.ae.foldl (λa (o:ay)=>K (a+(D o.aE:Int))) 0=(D w.av:Int):=II
   show(w.ae++[mO w ar aZ ax ah fc aE]).foldl (λa (o:ay)=>K (a+(D o.aE:Int))) 0=(D ys:Int)
   rw[Uh,Zl8];show K ((D w.av:Int)+(D aE:Int))=_;rw[aV F];omega
end
def RO(w:aw)(ar aZ:ByteArray)(ax ah:Int):Prop:=
 30<=D w.ae\/ar=aZ\/¬(1<=ax/\ax<=3)\/¬(1<=ah/\ah<=30000)\/(∃x,bI w.aa w.av w.ak ar aZ (w.now+1) ah=E (x,V))\/
  ∃aE l,bI w.aa w.av w.ak ar aZ (w.now+1) ah=E (aE,J)/\cG w.aa w.av ((D w.ae:Int)+1) ah aE=E (l,V)
structure Zat(w:aw)(ar aZ:ByteArray)(ax ah:Int)(r:aw×Int×Bool)(aE:v au)(ys:v aq)(fc:Int):Prop where
 jb:bI w.aa w.av w.ak ar aZ (w.now+1) ah=E (aE,J)
 book:cG w.aa w.av ((w.ae.length:Int)+1) ah aE=E (ys,J)
 prom:gN w.aa ax ar aZ (w.now+1)=E fc
 res:r=(yh w (mO w ar aZ ax ah fc aE) ys,(w.ae.length:Int)+1,J)
 ne:¬ar=aZ
 ok:oc (yh w (mO w ar aZ ax ah fc aE) ys)
theorem Zav{w:aw}(h:oc w)(ar aZ:ByteArray)(ax ah:Int)(hpr:∀aE,bI w.aa w.av w.ak ar aZ (w.now+1) ah=E (aE,J)->1<=ax/\ax<=3->∃d,gN w.aa ax ar aZ (w.now+1)=E d/\0<=d/\d<=200000):
 ∃r,gq w ar aZ ax ah=E r/\(r=(w,0,V)/\RO w ar aZ ax ah\/∃aE ys fc,Zat w ar aZ ax ah r aE ys fc):=by
 have hf:=h.fit;obtain⟨p1,p2,p3,p4,p5,p6,p7⟩:=h.parts;have Ac:K (w.now+1)=w.now+1:=aV F;have C8:K ((D w.ae:Int)+1)=(D w.ae:Int)+1:=aV F;unfold gq;rw[Bu hf,Z,qz hf,h.ok,Z,gV,Ac,C8];simp only[VX,Yx,cO,Z]
 by_cases c1:30<=D w.ae
 ·exact⟨_,by grind,.inl ⟨rfl,.inl c1⟩⟩
 rw[Yt (show ¬(30:Int)<=(D w.ae:Int)by omega),Yx]
 by_cases c2:ar=aZ
 ·exact⟨_,by simp_all,.inl ⟨rfl,.inr (.inl c2)⟩⟩
 rw[Yt c2,Yx]
 by_cases c3:1<=ax/\ax<=3
 case neg=>
  refine⟨(w,0,V),?_,.inl ⟨rfl,.inr (.inr (.inl c3))⟩⟩
  grind
 rw[Yi c3.1,Yi c3.2]
 by_cases c4:1<=ah/\ah<=30000
 case neg=>
  refine⟨(w,0,V),?_,.inl ⟨rfl,.inr (.inr (.inr (.inl c4)))⟩⟩
  grind
 rw[Yi c4.1,Yi c4.2];simp only[Bool.and_self,VX,Yx];obtain⟨⟨aE,b⟩,e1,e2⟩:=tG hf.dp hf.av hf.ak ar aZ (w.now+1) ah;rw[e1,Z]
 cases b with
 |false=>exact⟨(w,0,V),rfl,.inl ⟨rfl,.inr (.inr (.inr (.inr (.inl ⟨aE,e2⟩))))⟩⟩
 |true=>
 have hR:=sB hf.dp hf.av hf.ak e2;have hlen:=hR.len;simp only[VX,Yx];have E3:D (iU ((D w.ae:Int)+1) ah aE)=D aE:=by unfold iU;simp
 obtain⟨d,d1,d2⟩:=Lm (w.av++iU ((D w.ae:Int)+1) ah aE) YD;have yw:gE w.aa w.av ((D w.ae:Int)+1) ah aE=cG w.aa w.av ((D w.ae:Int)+1) ah aE:=by
  unfold gE;rw[if_pos ⟨yu.2 hf.dp,F,F⟩]
 have D9:=wC hf.dp (show (D w.av)<=1048000 by omega) ((D w.ae:Int)+1) ah d1 d2
 rw[yw]
 by_cases hbd:cb w.aa d=J
 case neg=>
  rw[if_neg (λhx=>hbd hx.2.2)]at D9
  refine⟨(w,0,V),?_,.inl ⟨rfl,.inr (.inr (.inr (.inr (.inr ⟨aE,w.av,e2,D9⟩))))⟩⟩
  simp_all
 rw[if_pos ⟨hR.hC.1,hlen,hbd⟩]at D9
 obtain⟨fc,q1,q2,q3⟩:=hpr aE e2 c3;have C3:=Zhi h F c2 c3 c4 ⟨q2,q3⟩ hR d1 hbd;have ha:cf (bn (D w.ae+D ([mO w ar aZ ax ah fc aE]:v ay)) 128)=E ():=fv YD F;have hct:eQ aE=E aE:=vO F;have hsi:=Lh (w:=⟨w.aa,w.ae++[mO w ar aZ ax ah fc aE],d,w.ak,w.now,w.aL,w.skip,w.br⟩) ⟨by grind,p4,by grind⟩ ⟨(D w.ae:Int)+1,w.now,1,ar,⟨0,0⟩⟩
 refine⟨(yh w (mO w ar aZ ax ah fc aE) d,(D w.ae:Int)+1,J),?_,.inr ⟨aE,d,fc,e2,D9,q1,rfl,c2,C3⟩⟩;rw[D9];simp only[Z,VX,Yx,Ev,q1,hct,bw];unfold mO at ha hsi⊢
 rw[ha];simp only[Z];rw[hsi];rfl
theorem uW{α:Type}[DecidableEq α]:∀{xs ys:v α},xs.Nodup->(∀x∈xs,x∈ys)->D xs<=D ys
 | [],ys,_,_=>Nat.zero_le _
 |x::xs,ys,hn,hs=>by
  obtain⟨h1,h2⟩:=Xs.1 hn;have:=uW (ys:=ys.erase x) h2 λy hy=>(List.mem_erase_of_ne (λe:y=x=>h1 (e▸hy))).2 (hs y YD)
  grind
theorem Ti{α:Type}(f:α->C):∀{l:v α} {i:C} {o:α} (x:α),l[i]?=E o->((l.set i x).map f).sum+f o=(l.map f).sum+f x
 | [],_,_,_,h=>by grind
 |a::l,0,o,x,h=>by
  grind
 |a::l,i+1,o,x,h=>by
  have:=Ti f x (l:=l) (i:=i) (o:=o) YD
  grind
theorem JI:∀(os:v ay) (a:C),(∀o∈os,D o.aE<=1048576)->a+1048576*D os<=1099511627776->os.foldl (λa (o:ay)=>K (a+(D o.aE:Int))) (a:Int)=((a+(os.map λo=>D o.aE).sum:C):Int)
 | [],a,_,_=>by simp
 |o::os,a,h,hb=>by
  have h1:=h o YE;simp at hb
  rw[List.foldl_cons,aV F,show((a:Int)+(D o.aE:Int))=((a+D o.aE:C):Int)by omega,JI os _ (λx hx=>h x YD) F]
  grind
/-! ZnS in two parts. -/
section
variable {n:Y}
def yt(n:Y)(p:ByteArray)(ts:v au):ByteArray:=ts.foldl (λ_ t=>T n t) p
def Kb(n:Y)(a:Int)(ts:v au):Int:=ts.foldl (λ_ t=>cH n t+n.change) a
theorem wF:∀(xs:v au) {ys:v au} {p:ByteArray} {a:Int},gm n p a (xs++ys)↔gm n p a xs/\gm n (yt n p xs) (Kb n a xs) ys
 | [],ys,p,a=>by simp[gm,yt,Kb]
 |x::xs,ys,p,a=>by
  have:=wF xs (ys:=ys) (p:=T n x) (a:=cH n x+n.change);simp only[List.cons_append,gm,yt,Kb]at this⊢
  grind
theorem Bq{a b:Int}(h:gm n p a ts)(C2:b<=a):gm n p b ts:=by
 cases ts with
 |nil=>trivial
 |cons t ts=>exact⟨h.1,h.2.1,Int.le_trans C2 h.2.2.1,h.2.2.2⟩
variable (hf:cD n) (hn:aX n=E J)
include hf hn
theorem xo:∀{ts:v au} {p:ByteArray} {a:Int},gm n p a ts->∀t∈ts,a<=bY n t
 |x::ts,p,a,h,t,ht=>by
  rcases VY.1 ht with rfl|ht
  ·exact h.2.2.1
  ·obtain⟨t1,t2,t3,t4,t5⟩:=bX hf hn h.1
   obtain⟨c0,c1⟩:=iH hn;have:=xo h.2.2.2 t ht;have:=h.2.2.1;omega
theorem Bp:∀{ts:v au} {p:ByteArray} {a:Int},gm n p a ts->ts.Pairwise λx y=>bY n x<bY n y
 | [],_,_,_=>Xw
 |x::ts,p,a,h=>by
  obtain⟨t1,t2,t3,t4,t5⟩:=bX hf hn h.1;obtain⟨c0,c1⟩:=iH hn;refine List.pairwise_cons.2 ⟨λy hy=>?_,Bp h.2.2.2⟩
  have:=xo hf hn h.2.2.2 y hy;omega
theorem yn{a:Int}(h:gm n p a ts):ts.Nodup:=by
 exact(Bp hf hn h).imp λ{a b} bD e=>by grind
theorem GR(hp:0<=bc (X n) p)(h:∀t∈ts,fA n t=J):0<=bc (X n) (yt n p ts):=by
 induction ts generalizing p with
 |nil=>exact hp
 |cons t ts ih=>
  obtain⟨y,hy,hym⟩:=cZ hf (h t YE);have e:T n t=y.aZ:=by unfold T;grind
  have:=ih (p:=T n t) (by rw[e];exact iX (mz hym).2) λx hx=>h x YD
  exact this
end
theorem ZbV{l:v ByteArray}(h:0<=bc l p):p∈l:=by
 unfold bc at h
 cases hx:l.findIdx? λy=>Zg (y=p)with
 |none=>grind
 |some k=>
  obtain⟨h1,h2,_⟩:=List.findIdx?_eq_some_iff_getElem.1 hx
  grind
theorem qT{n:Y}{p:ByteArray}:∀{ts:v au} {t:au},ts.getLast?=E t->yt n p ts=T n t
 | [],_,h=>by grind
 | [x],t,h=>by obtain rfl:x=t:=by grind
               rfl
 |x::y::ts,t,h=>by
  have:=qT (n:=n) (p:=T n x) (ts:=y::ts) (t:=t) YD;exact this
theorem CS{n:Y}{a:Int}:∀{ts:v au} {t:au},ts.getLast?=E t->Kb n a ts=cH n t+n.change
 | [],_,h=>by grind
 | [x],t,h=>by obtain rfl:x=t:=by grind
               rfl
 |x::y::ts,t,h=>by
  have:=CS (n:=n) (a:=cH n x+n.change) (ts:=y::ts) (t:=t) YD;exact this
/-! Zaj of ZnP Zc are dropped. -/
def rj(id:Int)(rest:v au)(bs:v aq):v aq:=bs.filter λb=>!(Zg (b.aR=id)&&dx rest b.aN)
theorem jG{l:v au}{t:au}:dx l t=J↔t∈l:=by
 unfold dx;simp
theorem I1{b:aq}:b∈rj id rest bs↔b∈bs/\¬(b.aR=id/\b.aN∈rest):=by
 unfold rj;rw[WW];simp only[Ww,Xi,Yy,not_and];refine and_congr_right λ_=>⟨λh h1 h2=>?_,λh h1=>?_⟩
 ·have:=h h1;rw[jG.2 h2]at this;grind
 ·cases hc:dx rest b.aN with
  |false=>rfl
  |true=>exact absurd (jG.1 hc) (h h1)
theorem Ud(id:Int)(bs:v aq):rj id [] bs=bs:=by
 exact List.filter_eq_self.2 λb _=>by simp[dx]
theorem UH(h:l'.Sublist l)(hw:∀b∈l,1<=b.ah/\b.ah<=1000000)(t:au):sy l' t<=sy l t:=by
 induction h with
 |slnil=>omega
 |cons a h ih=>
  have:=ih λb hb=>hw b YD
  unfold sy at *
  grind
 |cons_cons a h ih=>
  have:=ih λb hb=>hw b YD
  unfold sy at *
  grind
theorem CL{n:Y}(hf:cD n)(hb:cb n l=J)(hs:l'.Sublist l):cb n l'=true:=by
 obtain⟨hn,hl⟩:=dJ hb;have Ia:=hs.length_le;have hw:∀b∈l,1<=b.ah/\b.ah<=1000000:=λb hm=>by
  obtain⟨i,hi,rfl⟩:=V3 hm;have h1:=(wD hb hi).1;unfold PS at h1
  grind
 have hp:l'.Pairwise λa b=>rE a b=true:=by
  refine W5 hs ?_;exact Wr.2 λi j hi hj AY=>u5 hb j i hj AY
 unfold cb;rw[hn];simp only[W9,Bool.true_and,V7,Yy];refine⟨F,List.all_eq_true.2 λi hi=>?_⟩
 have od:i<D l':=List.mem_range.1 hi;obtain⟨j,hj,hje⟩:=V3 (hs.subset (Wk od));obtain⟨b1,b2⟩:=wD hb hj;unfold PS at b1
 unfold bk2 at b2
 rw[VS hj,hje]at b1 b2
 simp only[V7]at b1⊢
 constructor
 ·unfold PS
  rw[VS od];simp only[V7];refine⟨b1.1,?_⟩
  cases i with
  |zero=>rfl
  |succ i=>
   have hi2:i<D l':=F;have:=Wr.1 hp i (i+1) hi2 od F
   grind
 ·unfold bk2
  rw[VS od];have hw':∀b∈l',1<=b.ah/\b.ah<=1000000:=λb hb=>hw b (hs.subset hb)
  simp only[Kw (show (D l)<=1000 by omega) hw]at b2
  simp only[Kw (show (D l')<=1000 by omega) hw']
  cases hg:az n.aC l'[i].aN.bq with
  |none=>grind
  |some g=>
   rw[hg]at b2
   simp at b2⊢
   have:=UH hs hw l'[i].aN;omega
theorem wI(id:Int)(rest:v au)(bs:v aq):(rj id rest bs).Sublist bs:=List.filter_sublist
theorem Mq{n:Y}(hb:cb n l=J):l.Nodup:=by
 refine Wr.2 λi j hi hj AY e=>?_
 have:=u5 hb j i hj AY;rw[FB Zb Zb]at this
 grind
theorem Uc{n:Y}(hb:cb n l=J)(hr:rest.Nodup)(hm:∀t∈rest,(⟨id,t,wt⟩:aq)∈l):D (rj id rest l)+D rest=D l:=by
 have hu:=FJ hb;have e:=List.length_eq_countP_add_countP (p:=λb:aq=>Zg (b.aR=id)&&dx rest b.aN) (l:=l)
 have e2:l.countP (λb=>Zg ¬(Zg (b.aR=id)&&dx rest b.aN)=J)=D (rj id rest l):=by
  rw[X7];unfold rj;simp
 have e3:l.countP (λb:aq=>Zg (b.aR=id)&&dx rest b.aN)=D rest:=by
  rw[X7];refine Nat.le_antisymm ?_ ?_
  ·have el:D ((l.filter λb=>Zg (b.aR=id)&&dx rest b.aN).map λb:aq=>b.aN)=D (l.filter λb=>Zg (b.aR=id)&&dx rest b.aN):=Wi ..
   rw[<-el];refine uW ?_ λt ht=>?_
   ·unfold XT
    rw[XA];refine(W5 List.filter_sublist (Mq hb)).imp_of_mem λ{a b} ha Ex gL e=>gL ?_
    have Ex:=WW.1 Ex;simp at ha Ex
    exact hu a ha.1 b Ex.1 (ha.2.1.trans Ex.2.1.symm) e
   ·obtain⟨b,qV,rfl⟩:=WH.1 ht
    have:=(WW.1 qV).2;simp at this
    exact jG.1 this.2
  ·have el:D (rest.map λt=>(⟨id,t,wt⟩:aq))=D rest:=Wi ..
   rw[<-el];refine uW ?_ λb qV=>?_
   ·grind
   ·obtain⟨t,ht,rfl⟩:=WH.1 qV
    refine WW.2 ⟨hm t ht,?_⟩;simp;exact jG.2 ht
 omega
def gT(n:Y)(o:ay):ByteArray:=if o.state=2 then((o.aE[o.aH.toNat]?).map (T n)).getD ⟨#[]⟩else o.place
def bW(o:ay):v au:=o.aE.take (G o).toNat
def nR(o:ay):v au:=o.aE.drop (G o).toNat
def atR(n:Y)(now:Int)(o:ay):Int:=match(bW o).getLast? with
 |some t=>if cH n t+n.change > now+1 then cH n t+n.change else now+1
 |none=>now+1
def iz(w:aw)(i:C)(o:ay):v aq:=rj ((i+1:C):Int) (nR o) w.av
def gU(o:ay)(ts:v au):ay:=⟨o.ar,o.aZ,o.ax,o.ah,o.aQ,o.fc,ts,o.aH,o.state,o.place,o.bK⟩
def AF(w:aw)(i:C)(o:ay)(ts:v au)(bs:v aq):aw:=⟨w.aa,w.ae.set i (gU o ts),bs,w.ak,w.now,w.aL,w.skip,w.br⟩
def Zan(w:aw)(i:C)(o:ay):Prop:=(∃x,bI w.aa (iz w i o) w.ak (gT w.aa o) o.aZ (atR w.aa w.now o) o.ah=E (x,V))\/
 ∃aE,bI w.aa (iz w i o) w.ak (gT w.aa o) o.aZ (atR w.aa w.now o) o.ah=E (aE,J)/\cG w.aa (iz w i o) ((i+1:C):Int) o.ah aE=E (iz w i o,V)
structure Zam(w:aw)(i:C)(o:ay)(aE:v au)(bs:v aq):Prop where
 jb:bI w.aa (iz w i o) w.ak (gT w.aa o) o.aZ (atR w.aa w.now o) o.ah=E (aE,J)
 book:cG w.aa (iz w i o) ((i+1:C):Int) o.ah aE=E (bs,J)
 Pp:ZdQ w.aa (iz w i o) w.ak o.ah (gT w.aa o) o.aZ (atR w.aa w.now o) aE
 perm:bs.Perm (iz w i o++iU ((i+1:C):Int) o.ah aE)
 n7:cb w.aa bs=J
def xj(w:aw)(i:C)(o:ay)(w':aw):Prop:=(Zan w i o/\w'=AF w i o (bW o) (iz w i o))\/∃aE bs,Zam w i o aE bs/\w'=AF w i o (bW o++aE) bs
section
variable {w:aw} {i:C} {o:ay}
theorem UD(hb:D w.av<=1000)(ho:az w.ae (i:Int)=E o)(hl:D o.aE<=1048576)(hi:i<=1000){k:Int}(hk:0<=k/\k<=D o.aE):
 aB (jC w ((i+1:C):Int) k) NN (0,[])=E (rj ((i+1:C):Int) (o.aE.drop k.toNat) w.av):=by
 have hid:K (((i+1:C):Int)-1)=(i:Int):=by rw[aV F];omega
 have yy:da o.aE k (D o.aE:Int)=o.aE.drop k.toNat:=by
  unfold da;rw[List.take_of_length_le YE]
 have Ax:cf (iq k (D o.aE:Int) (D o.aE))=E ():=oB Y1;refine il (body:=jC w ((i+1:C):Int) k) (λj:C=>((j:Int),rj ((i+1:C):Int) (o.aE.drop k.toNat) (w.av.take j))) (n:=D w.av) (λj hj=>?_) ?_ NN YF
 ·have hg:az w.av (j:Int)=E w.av[j]:=by rw[aS];simp
  have hw:K ((j:Int)+1)=((j+1:C):Int):=bz hj F;have LO:D (rj ((i+1:C):Int) (o.aE.drop k.toNat) (w.av.take j))<=1000:=Wd (WV _ _) YD;have ha:cf (bn (D (rj ((i+1:C):Int) (o.aE.drop k.toNat) (w.av.take j))+D ([w.av[j]]:v aq)) 32)=E ():=fv YD F;have hs:rj ((i+1:C):Int) (o.aE.drop k.toNat) (w.av.take (j+1))=rj ((i+1:C):Int) (o.aE.drop k.toNat) (w.av.take j)++(if(Zg (w.av[j].aR=((i+1:C):Int))&&dx (o.aE.drop k.toNat) w.av[j].aN)=J then []else [w.av[j]]):=by
   unfold rj;rw[Wt hj]
   grind
  unfold jC;rw[hs]
  by_cases h:w.av[j].aR=((i+1:C):Int)
  ·simp only[zU,hid,ho,Z,yy,jx (show(o.aE.drop k.toNat).length<=1048576 by grind)]
   have e:((o.aE.drop k.toNat).any λy=>Zg (y=w.av[j].aN))=dx (o.aE.drop k.toNat) w.av[j].aN:=rfl
   grind
  grind
 ·unfold jC
  simp
variable (hf:sE w) (hn:aX w.aa=E J) (hb:cb w.aa w.av=J) (yx:0<=w.now/\w.now<=100000) (hi:i<=1000)
 (ho:w.ae[i]?=E o) (hg:0<=o.aH/\o.aH<=o.aE.length) (h2:o.state=2->o.aH<o.aE.length) (ht:∀t∈o.aE,fA w.aa t=J) (hwl:o.aE.length<=1000)
include hf hn hb yx hi ho hg h2 ht hwl
theorem ZfT:∃w',fZ w ((i+1:C):Int)=E w'/\xj w i o w':=by
 have hl:=hf.aE o (VU ho);obtain⟨_,zY⟩:=dJ hb;obtain⟨c0,c1⟩:=iH hn;have hoi:az w.ae (i:Int)=E o:=by rw[aS];omega
 have hid:K (((i+1:C):Int)-1)=(i:Int):=by rw[aV F];omega
 have hk:0<=G o/\G o<=D o.aE:=by
  unfold G;omega
 have IL:jc o=E (G o):=by
  rw[(sL hg hl).2.2,if_neg F]
 have hkl:D (bW o)=(G o).toNat:=by unfold bW;grind
 have yy:da o.aE 0 (G o)=bW o:=by rfl
 have Ax:cf (iq 0 (G o) (D o.aE))=E ():=oB Y1;have hct:eQ (bW o)=E (bW o):=vO F;have Ac:K (w.now+1)=w.now+1:=aV F;have Ia:D (iz w i o)<=120:=Wd (wI _ _ _).length_le zY;have vE:=CL hf.dp hb (wI ((i+1:C):Int) (nR o) w.av);have uu:ks w.aa (gU o (bW o))=E (gT w.aa o):=by
  have e0:ks w.aa (gU o (bW o))=R (Zg (o.state=2)) ((az (bW o) o.aH).bind λy1=>(az w.aa.aC y1.bq).bind λy2=>E y2.aZ) (E o.place):=rfl
  rw[e0];unfold gT
  by_cases h:o.state=2
  ·have EY:o.aH.toNat<D o.aE:=F
   have e1:az (bW o) o.aH=E o.aE[o.aH.toNat]:=by
    unfold az bW G
    grind
   obtain⟨y,hy,_⟩:=cZ hf.dp (ht _ (Wk EY));unfold T
   grind
  grind
 obtain⟨⟨aE,b⟩,e1,e2⟩:=tG hf.dp (l:=iz w i o) F hf.ak (gT w.aa o) o.aZ (atR w.aa w.now o) o.ah
 -- RL follows when the aE was looked for
 have tail:∀a,a=atR w.aa w.now o->∃w',((jI w.aa (iz w i o) w.ak (gT w.aa o) o.aZ a o.ah).bind λoY=>
  R (!oY.2) (E (AF w i o (bW o) (iz w i o)))
  ((zU w.ae (K (((i+1:C):Int)-1))).bind λrT=>
  (gE w.aa (iz w i o) ((i+1:C):Int) o.ah oY.1).bind λpI=>
  R pI.2
  ((zU w.ae (K (((i+1:C):Int)-1))).bind λtE=>
  (cf (bn (D ((bW o):v au)+D (oY.1:v au)) 16)).bind λ_=>
  E (AF w i o (bW o++oY.1) pI.1))
  (E (AF w i o (bW o) (iz w i o)))))=E w'/\xj w i o w':=by
  rintro a rfl;rw[e1]
  cases b with
  |false=>exact⟨_,rfl,.inl ⟨.inl ⟨aE,e2⟩,rfl⟩⟩
  |true=>
  have hR:=sB hf.dp (show(iz w i o).length<=1048576 by omega) hf.ak e2
  have hlen:=hR.len;have E3:D (iU ((i+1:C):Int) o.ah aE)=D aE:=by unfold iU;simp
  obtain⟨d,d1,d2⟩:=Lm (iz w i o++iU ((i+1:C):Int) o.ah aE) YD;have yw:gE w.aa (iz w i o) ((i+1:C):Int) o.ah aE=cG w.aa (iz w i o) ((i+1:C):Int) o.ah aE:=by
   unfold gE;rw[if_pos ⟨yu.2 hf.dp,F,F⟩]
  have D9:=wC hf.dp (show(iz w i o).length<=1048000 by omega) ((i+1:C):Int) o.ah d1 d2
  simp only[zU]
  by_cases hbd:cb w.aa d=J
  ·rw[if_pos ⟨vE,hlen,hbd⟩]at D9
   have ha:cf (bn (D (bW o)+D aE) 16)=E ():=fv F F;exact⟨_,by grind,.inr ⟨aE,d,⟨e2,D9,hR,d1,hbd⟩,rfl⟩⟩
  ·rw[if_neg (λhx=>hbd hx.2.2)]at D9
   exact⟨_,by grind,.inl ⟨.inr ⟨aE,e2,D9⟩,rfl⟩⟩
 unfold fZ;simp only[zU,hid,hoi,Z,IL,UD (show (D w.av)<=1000 by omega) hoi hl hi hk,Ax,yy,hct]
 have hdl:rj ((i+1:C):Int) (List.drop (G o).toNat o.aE) w.av=iz w i o:=rfl;rw[hdl]
 by_cases h0:0<G o
 ·have hkt:(G o).toNat-1<D o.aE:=F
  have ve:(bW o).getLast?=E o.aE[(G o).toNat-1]:=by
   unfold bW
   grind
  have hgk:az (bW o) (K (G o-1))=E o.aE[(G o).toNat-1]:=by
   rw[aV F];unfold az bW;rw[if_pos F,List.getElem?_take,if_pos F];simp
  obtain⟨t1,t2,t3,t4,t5⟩:=bX hf.dp hn (ht _ (Wk hkt));have he:cE w.aa o.aE[(G o).toNat-1]=E (cH w.aa o.aE[(G o).toNat-1]):=by rw[qm];omega
  have hwe:K (cH w.aa o.aE[(G o).toNat-1]+w.aa.change)=cH w.aa o.aE[(G o).toNat-1]+w.aa.change:=aV F;have Zby:(if cH w.aa o.aE[(G o).toNat-1]+w.aa.change > w.now+1 then cH w.aa o.aE[(G o).toNat-1]+w.aa.change else w.now+1)=atR w.aa w.now o:=by
   unfold atR;grind
  rw[Yi h0,Yw,hgk];simp only[Z,he,Ac,hwe];have ZhX:ks w.aa ⟨o.ar,o.aZ,o.ax,o.ah,o.aQ,o.fc,bW o,o.aH,o.state,o.place,o.bK⟩=E (gT w.aa o):=uu;rw[ZhX];obtain⟨w',q1,q2⟩:=tail _ Zby;refine⟨w',?_,q2⟩;rw[<-q1];simp only[zU,hid,hoi,Z,AF,gU,WS]
 ·have Zby:w.now+1=atR w.aa w.now o:=by unfold atR;grind
  rw[Yt h0,Yx];have ZhX:ks w.aa ⟨o.ar,o.aZ,o.ax,o.ah,o.aQ,o.fc,bW o,o.aH,o.state,o.place,o.bK⟩=E (gT w.aa o):=uu;rw[ZhX,Ac];obtain⟨w',q1,q2⟩:=tail _ Zby;refine⟨w',?_,q2⟩;rw[<-q1];simp only[zU,hid,hoi,Z,AF,gU,WS]
end
def AL(n:Y)(bs:v aq)(cl:v au)(now:Int)(i:C)(o:ay):Bool:=kv ⟨n,[],bs,cl,now,[],[],0⟩ i o
structure ye(w:aw)(c:C->v au):Prop where
 fit:sE w
 n7:cb w.aa w.av=J
 now:0<=w.now/\w.now<=100000
 N4:w.ae.length<=30
 ord:∀(i:C) (o:ay),w.ae[i]?=E o->AL w.aa w.av (c i) w.now i o=J
 sum:(w.ae.map λo=>o.aE.length).sum=w.av.length
 cl:∀i,(c i).length<=1048576
theorem Zcb{α:Type}(f:α->C):∀{l:v α} {x:α},x∈l->f x<=(l.map f).sum
 |a::l,x,h=>by
  simp
  rcases VY.1 h with rfl|h
  ·omega
  ·have:=Zcb f h;omega
theorem Tq{w:aw}(hf:sE w)(ho:D w.ae<=1000):xP w=((w.ae.map λo=>D o.aE).sum:C):=by
 have:=JI w.ae 0 hf.aE F;rw[Wa]at this
 exact this
structure Fp(w:aw):Prop where
 ak:w.ak.length<=20
 aL:w.aL.length<=200
 skip:w.skip.length<=50
 br:w.aL.length<=w.br/\w.br<=1000000000
 cl:allI (uB w) 0 w.ak=J
 sc:allI (Ah w) 0 w.aL=J
theorem jN{w:aw}(h:oc w):ye w (λ_=>w.ak)/\Fp w:=by
 obtain⟨p1,p2,p3,p4,p5,p6,p7⟩:=h.parts;have hv:=h.ok;unfold eY at hv
 simp at hv
 obtain⟨⟨⟨⟨⟨⟨⟨⟨⟨⟨h1,h2⟩,h3⟩,h4⟩,h5⟩,h6⟩,h7⟩,h8⟩,h9⟩,EW⟩,II⟩:=hv;refine⟨⟨h.fit,h1,p1,p2,λi o ho=>?_,?_,λ_=>h.fit.ak⟩,⟨p3,p4,p5,p6,h8,h9⟩⟩
 ·exact o9 h.ok ho
 ·have:=Tq h.fit F
  omega
theorem Ps{w:aw}(h:ye w (λ_=>w.ak))(k:Fp w):oc w:=by
 refine⟨h.fit,?_⟩;have:=h.N4;have:=k.ak;have:=k.aL;have:=k.skip;unfold eY;simp;refine⟨⟨⟨⟨⟨⟨⟨⟨⟨⟨h.n7,h.now⟩,F⟩,F⟩,F⟩,F⟩,k.br⟩,k.cl⟩,k.sc⟩,?_⟩,?_⟩
 ·refine cX.2 λi o ho=>?_
  rw[Wa];exact h.ord i o ho
 ·rw[Tq h.fit F,h.sum]
structure ZlE(n:Y)(bs:v aq)(cl:v au)(now:Int)(i:C)(o:ay):Prop where
 ok:JT ⟨n,[],bs,cl,now,[],[],0⟩ i o
 chain:gm n o.ar (o.aQ+1) o.aE
 st:vL n o now
section
variable {w:aw} {c:C->v au} (h:ye w c) {i:C} {o:ay} (ho:w.ae[i]?=E o)
include h ho
theorem wY:D o.aE<=120:=by
 have:=Zcb (λo:ay=>D o.aE) (VU ho)
 have:=(dJ h.n7).2;have:=h.sum;omega
theorem fW:ZlE w.aa w.av (c i) w.now i o:=by
 have hn:=(dJ h.n7).1;have hl:=wY h ho;have hO:=N6 (w:=⟨w.aa,[],w.av,c i,w.now,[],[],0⟩) ⟨h.fit.dp,by simp,h.fit.av,h.cl i,by simp,by simp,by simp⟩ (i:=i) (o:=o) F (h.ord i o ho)
 have hw:K (o.aQ+1)=o.aQ+1:=by
  have h1:0<=o.aQ:=hO.aQ.1;have h2:o.aQ<=w.now:=hO.aQ.2;have:=h.now;rw[aV F]
 have hc:=yC h.fit.dp hn F hO.Zb2;rw[hw]at hc
 exact⟨hO,hc,(xa h.fit.dp hn hO.aH F hO.aN w.now).1 hO.st⟩
theorem nY:0<=G o/\G o<=D o.aE/\(D (bW o))=(G o).toNat/\o.aH<=G o:=by
 have hO:=(fW h ho).ok;obtain⟨g0,g1⟩:=hO.aH;have hk:0<=G o/\G o<=D o.aE/\o.aH<=G o:=by
  unfold G
  by_cases hs:o.state=2
  ·rcases hO.cases with c1|c1|c1
   all_goals omega
  omega
 unfold bW
 grind
theorem vw:o.aE=bW o++nR o:=(List.take_append_drop _ _).symm
theorem NH{j:C}(hj:j<D (bW o)):(bW o)[j]?=o.aE[j]?:=by
 have:=(nY h ho).2.2.1;unfold bW
 grind
theorem CU(hs:¬o.state=3):yt w.aa o.ar (bW o)=gT w.aa o:=by
 have hP:=fW h ho;obtain⟨g0,g1⟩:=hP.ok.aH;unfold gT
 rcases hP.st.cases with⟨s1,s2,s3,s4,s5⟩ |⟨s1,s2,s3,t,t1,t2,t3⟩ |s
 ·rw[if_neg F,s2]
  unfold pK;have C4:G o=o.aH:=by unfold G;omega
  by_cases hg:0<o.aH
  ·have bD:(o.aH-1).toNat<D o.aE:=F
   rw[if_pos hg,VS bD];refine qT ?_;unfold bW
   grind
  ·rw[if_neg hg]
   unfold bW;rw[C4,show o.aH.toNat=0 by omega];rfl
 ·rw[if_pos s1,t1]
  refine qT ?_;have C4:G o=o.aH+1:=by unfold G;omega
  unfold bW
  grind
 omega
theorem Sb:Kb w.aa (o.aQ+1) (bW o)<=atR w.aa w.now o/\w.now+1<=atR w.aa w.now o/\0<=atR w.aa w.now o:=by
 have hP:=fW h ho;have yx:=h.now;have h2:o.aQ<=w.now:=hP.ok.aQ.2;unfold atR
 cases hl:(bW o).getLast? with
 |none=>
  rw[List.getLast?_eq_none_iff]at hl
  rw[hl];refine⟨?_,?_,?_⟩<;>simp only[Kb,List.foldl_nil]<;>omega
 |some t=>
  rw[CS hl]
  grind
theorem I5{more:v au}(hs:¬o.state=3)(gL:¬gT w.aa o=o.aZ)
 (qV:∀t∈bW o,kY bs ((i+1:C):Int) t o.ah=J) (yb:∀t∈more,kY bs ((i+1:C):Int) t o.ah=J)
 (hc:gm w.aa (gT w.aa o) (atR w.aa w.now o) more) (hl:D more<=20) (C5:more=[]\/(gT w.aa o::more.map (T w.aa)).Nodup/\(gT w.aa o::more.map (T w.aa)).getLast?=E o.aZ)
 (Znx:more.any (dx w.ak)=V):AL w.aa bs w.ak w.now i (gU o (bW o++more))=true:=by
 have hP:=fW h ho;have hn:=(dJ h.n7).1;have hlen:=wY h ho;obtain⟨k0,k1,k2,k3⟩:=nY h ho;obtain⟨g0,g1⟩:=hP.ok.aH;have yx:=h.now;obtain⟨a1,a2,a3⟩:=Sb h ho;have hep:=CU h ho hs;have hv:=h.ord i o ho;unfold AL kv at hv⊢
 simp only[V7,Ww,Yy,Yz]at hv⊢
 obtain⟨⟨⟨⟨⟨⟨⟨⟨⟨⟨⟨h1,h2⟩,h3⟩,h4⟩,h5⟩,h6⟩,h7⟩,h8⟩,h9⟩,EW⟩,II⟩,h12⟩:=hv;have Av:gm w.aa o.ar (o.aQ+1) (bW o++more):=by
  have:=hP.chain;rw[vw h ho]at this
  refine(wF _).2 ⟨((wF _).1 this).1,?_⟩;rw[hep];exact Bq hc a1
 have Ey:=nU Av;have zJ:∀(j:C),j<D (bW o)->(bW o++more)[j]?=o.aE[j]?:=λj hj=>by
  rw[List.getElem?_append_left hj];exact NH h ho hj
 refine⟨⟨⟨⟨⟨⟨⟨⟨⟨⟨⟨h1,h2⟩,h3⟩,h4⟩,h5⟩,h6⟩,h7⟩,?_⟩,?_⟩,?_⟩,?_⟩,?_⟩
 ·simp only[gU,V5];omega
 ·refine cX.2 λj t hj=>?_
  have H7:(bW o++more)[j]?=E t:=hj;have htm:=VU H7;unfold xd;simp only[V7,Ww,Xi,Yy,Yz,Wa];refine⟨⟨Ey t htm,?_⟩,λhe hj1=>?_⟩
  ·rcases We.1 htm with hm|hm
   ·exact qV t hm
   ·exact yb t hm
  ·have Zkb:j+1<D (bW o++more):=hj1
   have he':T w.aa t=o.aZ:=he;rw[V5]at Zkb
   by_cases hjk:j<D (bW o)
   ·rw[zJ j hjk]at H7
    have:=cX.1 h9 j t H7;unfold xd at this
    simp only[V7,Ww,Xi,Yy,Yz,Wa]at this
    have EZ:=(VT.1 H7).1;refine gL ?_;rw[<-hep,<-he'];refine qT ?_
    grind
   ·rcases C5 with rfl|⟨hnd,hla⟩
    ·grind
    rw[Ym,V0,Wi,Nat.add_sub_cancel]at hla
    have q1:(gT w.aa o::more.map (T w.aa))[j-D (bW o)+1]?=E o.aZ:=by grind
    have q2:=Wr.1 hnd (j-D (bW o)+1) (D more) YD YE F
    grind
 ·have hw:K (o.aQ+1)=o.aQ+1:=by
   have q2:o.aQ<=w.now:=h6.2;rw[aV F]
  show(fN w.aa (bW o++more) o.ar (yt w.aa o.ar (bW o++more)) (K (o.aQ+1))).getD V=J;have Qd:D (bW o++more)<=1048576:=by grind
  rw[hw,DT h.fit.dp hn Qd F (GR h.fit.dp hn F Ey) Av rfl];rfl
 ·have hS:vL w.aa (gU o (bW o++more)) w.now:=by
   refine⟨λt hg ht=>?_,?_⟩
   ·have hg':0<o.aH:=hg
    have HQ:(bW o++more)[(o.aH-1).toNat]?=E t:=ht;rw[zJ _ F]at HQ
    exact hP.st.past t hg' HQ
   ·have Nc:pK w.aa (gU o (bW o++more))=pK w.aa o:=by
     unfold pK
     by_cases hg:0<o.aH
     ·rw[if_pos hg,if_pos (show 0<(gU o (bW o++more)).aH from hg)]
      show(((bW o++more)[(o.aH-1).toNat]?).map (T w.aa)).getD ⟨#[]⟩=_;rw[zJ _ F]
     ·rw[if_neg hg,if_neg (show ¬0<(gU o (bW o++more)).aH from hg)];rfl
    rcases hP.st.cases with⟨s1,s2,s3,s4,s5⟩ |⟨s1,s2,s3,t,t1,t2,t3⟩ |s
    ·refine .inl ⟨s1,by rw[Nc];exact s2,by rw[Nc];exact s3,s4,λt ht=>?_⟩
     have HQ:(bW o++more)[o.aH.toNat]?=E t:=ht;have C4:G o=o.aH:=by unfold G;omega
     rw[List.getElem?_append_right F,show o.aH.toNat-D (bW o)=0 by omega]at HQ
     cases more with
     |nil=>grind
     |cons x xs=>
      obtain rfl:x=t:=by grind
      have:=hc.2.2.1;omega
    ·have C4:G o=o.aH+1:=by unfold G;omega
     refine .inr (.inl ⟨s1,s2,s3,t,?_,t2,t3⟩);show(bW o++more)[o.aH.toNat]?=E t
     grind
    omega
  rw[(xa h.fit.dp hn (o:=gU o (bW o++more)) ⟨g0,by simp only[gU,V5];omega⟩ (by simp only[gU,V5];omega) Ey w.now).2 hS];rfl
 ·have hd:((gU o (bW o++more)).aE.drop (G (gU o (bW o++more))).toNat)=more:=by
   show(bW o++more).drop (G o).toNat=more
   grind
  grind
theorem vT{t:au}(ht:t∈o.aE):(⟨((i+1:C):Int),t,o.ah⟩:aq)∈w.av:=by
 obtain⟨j,hj,rfl⟩:=V3 ht;have:=cX.1 (fW h ho).ok.aE j _ (VS hj);unfold xd at this
 unfold kY at this
 grind
theorem IY{t:au}(ht:t∈bW o):(⟨((i+1:C):Int),t,o.ah⟩:aq)∈iz w i o:=by
 have hP:=fW h ho;have hn:=(dJ h.n7).1;have hnd:=yn h.fit.dp hn hP.chain;rw[vw h ho]at hnd
 have hw:t∈o.aE:=by rw[vw h ho];grind
 exact I1.2 ⟨vT h ho hw,λhx=>(XW.1 hnd).2.2 t ht t hx.2 rfl⟩
theorem Zcc:D (iz w i o)+D (nR o)=D w.av:=by
 have hP:=fW h ho;have hn:=(dJ h.n7).1;have hnd:=yn h.fit.dp hn hP.chain;rw[vw h ho]at hnd
 exact Uc h.n7 (XW.1 hnd).2.1 λt ht=>vT h ho (by rw[vw h ho];grind)
theorem NV{more:v au}(hb:cb w.aa bs=J)(hl:D bs=D (iz w i o)+D more)(xg:∀b∈iz w i o,b∈bs)
 (hO:AL w.aa bs w.ak w.now i (gU o (bW o++more))=J) (hm:D more<=20):ye (AF w i o (bW o++more) bs) (λj=>if j=i then w.ak else c j):=by
 have hlen:=wY h ho;have zY:=(dJ hb).2;have hwl:D (bW o)+D (nR o)=D o.aE:=by
  have:=Zo List.length (vw h ho)
  grind
 refine⟨⟨h.fit.dp,?_,?_,h.fit.ak,h.fit.aL,h.fit.skip,λx hx=>?_⟩,hb,h.now,?_,λj x hx=>?_,?_,λj=>?_⟩
 ·simp only[AF,Xd];exact h.fit.ae
 ·simp only[AF];omega
 ·rcases List.mem_or_eq_of_mem_set hx with hx|rfl
  ·exact h.fit.aE x hx
  ·simp only[gU,V5];omega
 ·simp only[AF,Xd];exact h.N4
 ·have xi:(w.ae.set i (gU o (bW o++more)))[j]?=E x:=hx
  show AL w.aa bs (if j=i then w.ak else c j) w.now j x=J
  by_cases H8:j=i
  ·grind
  ·rw[if_neg H8]
   rw[List.getElem?_set_ne (λe=>H8 e.symm)]at xi
   have hv:=h.ord j x xi;unfold AL kv at hv⊢
   simp at hv⊢
   obtain⟨⟨⟨⟨⟨⟨⟨⟨⟨⟨⟨h1,h2⟩,h3⟩,h4⟩,h5⟩,h6⟩,h7⟩,h8⟩,h9⟩,EW⟩,II⟩,h12⟩:=hv;refine⟨⟨⟨⟨⟨⟨⟨⟨⟨⟨⟨h1,h2⟩,h3⟩,h4⟩,h5⟩,h6⟩,h7⟩,h8⟩,?_⟩,EW⟩,II⟩,h12⟩;refine cX.2 λa t ha=>?_
   have:=cX.1 h9 a t ha;unfold xd at this⊢
   simp at this⊢
   refine⟨⟨this.1.1,?_⟩,this.2⟩;have yw:=this.1.2;unfold kY at yw⊢
   obtain⟨y,y1,y2⟩:=W6.1 yw;obtain rfl:=Yu y2;exact W6.2 ⟨_,xg _ (I1.2 ⟨y1,λe=>H8 YD⟩),y2⟩
 ·have:=Ti (λo:ay=>D o.aE) (gU o (bW o++more)) ho
  have e:(gU o (bW o++more)).aE.length=D (bW o)+D more:=V5;simp only[e]at this
  have hs:=h.sum;have Ia:=Zcc h ho;show((w.ae.set i (gU o (bW o++more))).map λo=>D o.aE).sum=D bs
  omega
 ·show(if j=i then w.ak else c j).length<=1048576
  split
  ·exact h.fit.ak
  ·exact h.cl j
theorem Ri(hs:¬o.state=3)(gL:¬gT w.aa o=o.aZ):∃w',fZ w ((i+1:C):Int)=E w'/\xj w i o w'/\ye w' (λj=>if j=i then w.ak else c j):=by
 have hP:=fW h ho;have hn:=(dJ h.n7).1;have hlen:=wY h ho;have CA:=(VT.1 ho).1;have hol:=h.N4;obtain⟨w',e,hR⟩:=ZfT h.fit hn h.n7 h.now F ho hP.ok.aH (λh2=>by
  rcases hP.ok.cases with c1|c1|c1
  all_goals omega) hP.ok.aN F
 refine⟨w',e,hR,?_⟩
 rcases hR with⟨_,rfl⟩ |⟨aE,bs,hN,rfl⟩
 ·have hO:=I5 h ho (more:=[]) (bs:=iz w i o) hs gL (λt ht=>?_) YE trivial YE (.inl rfl) rfl
  ·have:=NV h ho (more:=[]) (bs:=iz w i o) (CL h.fit.dp h.n7 (wI _ _ _)) YE (λb hb=>hb) hO YE
   grind
  ·exact W6.2 ⟨_,IY h ho ht,Yi rfl⟩
 ·obtain⟨a1,a2,a3⟩:=Sb h ho
  have uu:(if 0 > atR w.aa w.now o then 0 else atR w.aa w.now o)=atR w.aa w.now o:=if_neg F
  have Av:=hN.Pp.chain;rw[uu]at Av
  have uP:=hN.perm.length_eq;have E3:D (iU ((i+1:C):Int) o.ah aE)=D aE:=by unfold iU;simp
  rw[V5,E3]at uP
  have hO:=I5 h ho (more:=aE) (bs:=bs) hs gL (λt ht=>?_) (λt ht=>?_) Av hN.Pp.len (.inr ⟨hN.Pp.nodup,hN.Pp.last⟩) ?_
  ·exact NV h ho hN.n7 uP (λb hb=>hN.perm.mem_iff.2 (W0 _ hb)) hO hN.Pp.len
  ·exact W6.2 ⟨_,hN.perm.mem_iff.2 (W0 _ (IY h ho ht)),Yi rfl⟩
  ·refine W6.2 ⟨⟨((i+1:C):Int),t,o.ah⟩,hN.perm.mem_iff.2 (List.mem_append_right _ ?_),Yi rfl⟩
   unfold iU;grind
  ·refine XC.2 λt ht=>?_
   have:=(hN.Pp.found t ht).1;rw[jH,jx h.fit.ak]at this
   unfold dx
   grind
end
/-! The av are ZnB of the ways. -/
def CH:C->v ay->v aq
 |_,[]=>[]
 |i,o::os=>iU ((i+1:C):Int) o.ah o.aE++CH (i+1) os
theorem Mb:∀(os:v ay) (i:C),D (CH i os)=(os.map λo=>D o.aE).sum
 | [],_=>rfl
 |o::os,i=>by
  unfold CH iU;rw[V5,Wi,Mb os,List.map_cons,List.sum_cons]
theorem Bc{b:aq}:∀{os:v ay} {i:C},b∈CH i os↔∃(j:C) (o:ay) (t:au),os[j]?=E o/\t∈o.aE/\b=⟨((i+j+1:C):Int),t,o.ah⟩
 | [],i=>by simp[CH]
 |o::os,i=>by
  unfold CH iU;rw[We,Bc (os:=os) (i:=i+1),WH];constructor
  ·rintro(⟨t,h1,h2⟩ |⟨j,o',t,h1,h2,h3⟩)
   ·exact⟨0,o,t,rfl,h1,h2.symm⟩
   ·exact⟨j+1,o',t,by simp_all,h2,by grind⟩
  grind
theorem Fx:∀{os:v ay} {i:C},(∀o∈os,o.aE.Nodup)->(CH i os).Nodup
 | [],i,_=>List.nodup_nil
 |o::os,i,h=>by
  unfold CH;refine XW.2 ⟨?_,Fx λx hx=>h x YD,λa ha b hb e=>?_⟩
  ·unfold iU XT
   grind
  ·obtain⟨j,o',t,_,_,h3⟩:=Bc.1 hb
   unfold iU at ha
   grind
theorem FK{w:aw}{c:C->v au}(h:ye w c){b:aq}(hb:b∈w.av):∃(j:C) (o:ay) (t:au),w.ae[j]?=E o/\t∈o.aE/\b=⟨((j+1:C):Int),t,o.ah⟩:=by
 have hn:=(dJ h.n7).1;have hnd:(CH 0 w.ae).Nodup:=Fx λo ho=>by
  obtain⟨i,hi,rfl⟩:=V3 ho;exact yn h.fit.dp hn (fW h (VS hi)).chain
 have yy:∀x∈CH 0 w.ae,x∈w.av:=λx hx=>by
  obtain⟨j,o,t,h1,h2,rfl⟩:=Bc.1 hx;rw[Wa];exact vT h h1 h2
 have hlen:D (CH 0 w.ae)=D w.av:=by rw[Mb,h.sum]
 have xg:b∈CH 0 w.ae:=Classical.byContradiction λhx=>by
  have:=uW (xs:=b::CH 0 w.ae) (ys:=w.av) (Xs.2 ⟨hx,hnd⟩) λx hm=>by
   grind
  grind
 obtain⟨j,o,t,h1,h2,h3⟩:=Bc.1 xg
 grind
theorem Rk{w:aw}{c:C->v au}(h:ye w c){i:C}{o:ay}(ho:w.ae[i]?=E o)(hr:¬nR o=[]):¬o.state=3/\¬gT w.aa o=o.aZ:=by
 have hP:=fW h ho;obtain⟨k0,k1,k2,k3⟩:=nY h ho;have bD:G o<D o.aE:=by
  rcases Int.lt_or_le (G o) (D o.aE) with hx|hx
  ·omega
  ·exact absurd (List.drop_eq_nil_of_le F) hr
 have hs:¬o.state=3:=λhs=>by
  rcases hP.ok.cases with⟨c1,_⟩ |⟨c1,_⟩ |⟨c1,c2,_⟩
  all_goals omega
 refine⟨hs,λhe=>?_⟩
 rw[<-CU h ho hs]at he
 by_cases h0:0<G o
 ·have hkt:(G o).toNat-1<D o.aE:=F
  have ve:(bW o).getLast?=E o.aE[(G o).toNat-1]:=by
   unfold bW
   grind
  rw[qT ve]at he
  have:=cX.1 hP.ok.aE _ _ (VS hkt);unfold xd at this
  grind
 ·have:bW o=[]:=by unfold bW;simp_all
  rw[this]at he
  exact hP.ok.ZhK he
structure sJ(w w':aw):Prop where
 aa:w'.aa=w.aa
 now:w'.now=w.now
 ak:w'.ak=w.ak
 aL:w'.aL=w.aL
 skip:w'.skip=w.skip
 br:w'.br=w.br
 len:w'.ae.length=w.ae.length
theorem sJ.refl(w:aw):sJ w w:=⟨rfl,rfl,rfl,rfl,rfl,rfl,rfl⟩
theorem sJ.trans{a b c:aw}(h:sJ a b)(k:sJ b c):sJ a c:=⟨k.1.trans h.1,k.2.trans h.2,k.3.trans h.3,k.4.trans h.4,k.5.trans h.5,k.6.trans h.6,k.7.trans h.7⟩
theorem sJ.new(w:aw)(i:C)(o:ay)(ts:v au)(bs:v aq):sJ w (AF w i o ts bs):=⟨rfl,rfl,rfl,rfl,rfl,rfl,by simp only[AF,Xd]⟩
theorem Tv{n:Y}(hf:cD n){ah aQ:Int}{aE:v au}(h:ZdQ n l ak ah ar aZ aQ aE):D aE<=D (X n)-1:=by
 have:=uW (xs:=ar::aE.map (T n)) (ys:=X n) h.nodup λp hp=>by
  rcases VY.1 hp with rfl|hp
  ·exact ZbV h.hC.2.1
  ·obtain⟨t,ht,rfl⟩:=WH.1 hp
   obtain⟨y,hy,hym⟩:=cZ hf (nU h.chain t ht);have f2:T n t=y.aZ:=by unfold T;simp_all
   rw[f2];exact(mz hym).2
 grind
def rU(n:Y)(o o':ay):Prop:=o'=o\/∃more,D more<=D (X n)-1/\o'=gU o (bW o++more)
theorem OJ{w w':aw}(hf:cD w.aa){i:C}{o:ay}(hR:xj w i o w')(ho:w.ae[i]?=E o):sJ w w'/\(∃o',w'.ae[i]?=E o'/\rU w.aa o o')/\∀j,¬j=i->w'.ae[j]?=w.ae[j]?:=by
 have CA:=(VT.1 ho).1
 rcases hR with⟨_,rfl⟩ |⟨aE,bs,hN,rfl⟩
 ·refine⟨sJ.new _ _ _ _ _,⟨gU o (bW o),?_,.inr ⟨[],by simp,by simp⟩⟩,λj hj=>?_⟩
  ·show(w.ae.set i _)[i]?=_
   simp_all
  ·show(w.ae.set i _)[j]?=_
   grind
 ·refine⟨sJ.new _ _ _ _ _,⟨_,?_,.inr ⟨aE,Tv hf hN.Pp,rfl⟩⟩,λj hj=>?_⟩
  ·show(w.ae.set i _)[i]?=_
   simp_all
  ·show(w.ae.set i _)[j]?=_
   grind
def sG(w:aw):Int×Int×Int×(v bP)×(v Int)×(v ay)×(v aq)×(v au)×(v aI)×(v Int):=(w.aa.change,w.now,w.br,w.aa.aC,w.aa.off,w.ae,w.av,w.ak,w.aL,w.skip)
theorem lq{α β:Type}{x:O α}{f:α->O β}{r:β}:x.bind f=E r↔∃a,x=E a/\f a=E r:=by
 cases x<;>simp
theorem PZ{α:Type}{b:Bool}{x y:α}{P:α->Prop}(h:b=J->P x)(k:b=V->P y):P (R b x y):=by
 grind
theorem Vy{n:Y}{aQ ah:Int}{x:v au}(h:bI n l ak ar aZ aQ ah=E (x,V)):x=[]:=by
 obtain⟨y1,_,h⟩:=lq.1 h;obtain⟨y2,_,h⟩:=lq.1 h;obtain⟨y3,_,h⟩:=lq.1 h;obtain⟨y4,_,h⟩:=lq.1 h
 revert h
 have nil:(E (([]:v au),V))=E (x,V)->x=[]:=λe=>by
  grind
 refine PZ (P:=λz=>z=E (x,V)->x=[]) (λ_=>nil) λ_=>PZ (P:=λz=>z=E (x,V)->x=[]) (λ_=>nil) λ_ h=>?_
 obtain⟨y5,_,h⟩:=lq.1 h
 revert h
 refine PZ (P:=λz=>z=E (x,V)->x=[]) (λ_=>nil) λ_ h=>?_
 obtain⟨y6,_,h⟩:=lq.1 h;obtain⟨o0,_,h⟩:=lq.1 h;obtain⟨o1,_,h⟩:=lq.1 h
 grind
section
variable {w:aw} {c:C->v au} (h:ye w c) {i:C} {o:ay} (ho:w.ae[i]?=E o)
include h ho
theorem KY{a b:C}{s t:au}(C2:a<b)(ha:o.aE[a]?=E s)(hb:o.aE[b]?=E t):cH w.aa s<=bY w.aa t/\bY w.aa s<cH w.aa s:=by
 have hn:=(dJ h.n7).1;have hO:=fW h ho;obtain⟨c0,c1⟩:=iH hn;have hs:=hO.ok.aN s (VU ha);obtain⟨t1,t2,t3,t4,t5⟩:=bX h.fit.dp hn hs;have zY:=(VT.1 hb).1;have h1:o.aE[a+1]?=E o.aE[a+1]:=VS F;have hn1:=((FQ hO.chain ha).2 _ h1).1
 by_cases qV:b=a+1
 ·grind
 ·have bD:=Bp h.fit.dp hn hO.chain
  have:=Wr.1 bD (a+1) b F zY F
  grind
theorem Kr{t:au}(ht:t∈bW o):bY w.aa t<=w.now:=by
 have hO:=fW h ho;obtain⟨k0,k1,k2,k3⟩:=nY h ho;obtain⟨a,ha,hae⟩:=V3 ht;have hao:o.aE[a]?=E t:=by rw[<-NH h ho ha,<-hae];simp
 have past:0<o.aH->a<=(o.aH-1).toNat->bY w.aa t<=w.now:=λhg hle=>by
  have vd:(o.aH-1).toNat<D o.aE:=F;have hp:=hO.st.past _ hg (VS vd)
  by_cases D4:a=(o.aH-1).toNat
  ·subst D4
   rw[VS vd]at hao
   rw[VV hao]at hp
   have hn:=(dJ h.n7).1;obtain⟨t1,t2,t3,t4,t5⟩:=bX h.fit.dp hn (hO.ok.aN t YD);omega
  ·have:=KY h ho (a:=a) (b:=(o.aH-1).toNat) F hao (VS vd)
   have hn:=(dJ h.n7).1;obtain⟨t1,t2,t3,t4,t5⟩:=bX h.fit.dp hn (hO.ok.aN _ (Wk vd));omega
 rcases hO.st.cases with⟨s1,s2,s3,s4,s5⟩ |⟨s1,s2,s3,t2,u1,u2,u3⟩ |⟨s1,s2,s3,s4,s5,s6⟩
 ·have C4:G o=o.aH:=by unfold G;omega
  omega
 ·have C4:G o=o.aH+1:=by unfold G;omega
  grind
 omega
theorem Rj{t:au}(ht:t∈nR o):w.now<bY w.aa t:=by
 have hO:=fW h ho;obtain⟨k0,k1,k2,k3⟩:=nY h ho;obtain⟨g0,g1⟩:=hO.ok.aH;obtain⟨a,ha,hae⟩:=V3 ht;have hao:o.aE[(G o).toNat+a]?=E t:=by
  have:=VS ha;rw[hae]at this
  unfold nR at this
  grind
 have hal:=(VT.1 hao).1
 rcases hO.st.cases with⟨s1,s2,s3,s4,s5⟩ |⟨s1,s2,s3,t2,u1,u2,u3⟩ |⟨s1,s2,s3,s4,s5,s6⟩
 ·have C4:G o=o.aH:=by unfold G;omega
  have vd:o.aH.toNat<D o.aE:=F;have h5:=s5 _ (VS vd)
  by_cases h0:a=0
  ·grind
  ·have:=KY h ho (a:=o.aH.toNat) F (VS vd) hao
   omega
 ·have C4:G o=o.aH+1:=by unfold G;omega
  have:=KY h ho (a:=o.aH.toNat) F u1 hao;omega
 omega
theorem Zbh:jL w.aa w.av ((i+1:C):Int) (w.now+1)=E (iz w i o):=by
 have hn:=(dJ h.n7).1;have zY:=(dJ h.n7).2;unfold jL;rw[ie h.fit.dp h.fit.av,h.n7];have e:aB (iG w.aa w.av ((i+1:C):Int) (w.now+1) J) NN (0,[])=E (iz w i o):=by
  refine il (body:=iG w.aa w.av ((i+1:C):Int) (w.now+1) J) (λj:C=>((j:Int),rj ((i+1:C):Int) (nR o) (w.av.take j))) (n:=D w.av) (λj hj=>?_) ?_ NN YF
  ·have hg:az w.av (j:Int)=E w.av[j]:=by rw[aS];simp
   have hw:K ((j:Int)+1)=((j+1:C):Int):=bz hj F;have LO:D (rj ((i+1:C):Int) (nR o) (w.av.take j))<=1000:=Wd (WV _ _) YD;have ha:cf (bn (D (rj ((i+1:C):Int) (nR o) (w.av.take j))+D ([w.av[j]]:v aq)) 32)=E ():=fv YD F;have hs:rj ((i+1:C):Int) (nR o) (w.av.take (j+1))=rj ((i+1:C):Int) (nR o) (w.av.take j)++(if(Zg (w.av[j].aR=((i+1:C):Int))&&dx (nR o) w.av[j].aN)=J then []else [w.av[j]]):=by
    unfold rj;rw[Wt hj]
    grind
   obtain⟨t1,t2,t3,t4,t5⟩:=bX h.fit.dp hn (FI h.fit.dp h.n7 (Wk hj));unfold iG;rw[hs]
   by_cases hth:w.av[j].aR=((i+1:C):Int)
   ·rw[Yi hth]
    simp;obtain⟨j',o',t',q1,q2,q3⟩:=FK h (Wk hj);have hjj:j'=i:=by
     grind
    subst hjj;rw[ho]at q1
    obtain rfl:=VV q1;have Ey:w.av[j].aN=t':=Zo aq.aN q3;rw[Ey];rw[vw h ho]at q2
    cases hc:dx (nR o) t' with
    |true=>
     have:=Rj h ho (jG.1 hc)
     grind
    |false=>
     rcases We.1 q2 with q2|q2
     ·have:=Kr h ho q2
      grind
     ·rw[jG.2 q2]at hc;grind
   grind
  ·unfold iG iz
   simp
 grind
theorem ZdZ(hs:¬o.state=3):∃w',ey w (i:Int)=E w'/\xj w i o w':=by
 have hn:=(dJ h.n7).1;have zY:=(dJ h.n7).2;have hO:=fW h ho;have hlen:=wY h ho;obtain⟨k0,k1,k2,k3⟩:=nY h ho;obtain⟨g0,g1⟩:=hO.ok.aH;obtain⟨c0,c1⟩:=iH hn;have CA:=(VT.1 ho).1;have hol:=h.N4;have yx:=h.now;have hoi:az w.ae (i:Int)=E o:=by rw[aS];omega
 have IL:ga o=E (G o):=(sL hO.ok.aH F).1;have yy:da o.aE 0 (G o)=bW o:=by rfl
 have Ax:cf (iq 0 (G o) (D o.aE))=E ():=oB Y1;have Ac:K (w.now+1)=w.now+1:=aV F;have BL:K ((i:Int)+1)=((i+1:C):Int):=by rw[aV F];omega
 have Ia:D (iz w i o)<=120:=Wd (wI _ _ _).length_le zY;have vE:=CL h.fit.dp h.n7 (wI ((i+1:C):Int) (nR o) w.av);have Nc:eA w.aa o=E (gT w.aa o):=by
  unfold eA gT
  rcases hO.st.cases with⟨s1,_⟩ |⟨s1,s2,s3,t2,u1,u2,u3⟩ |⟨s1,_⟩
  ·grind
  ·have hg:az o.aE o.aH=E t2:=by unfold az;grind
   obtain⟨y,hy,_⟩:=cZ h.fit.dp (hO.ok.aN t2 (VU u1));unfold T
   grind
  omega
 have ha0:cf (bn (D (([]:v au))+D (bW o)) 16)=E ():=fv YD F;obtain⟨⟨aE,b⟩,_,e2⟩:=tG h.fit.dp (l:=iz w i o) F h.fit.ak (gT w.aa o) o.aZ (atR w.aa w.now o) o.ah;have tail:∀a,a=atR w.aa w.now o->∃w',((bI w.aa (iz w i o) w.ak (gT w.aa o) o.aZ a o.ah).bind λy8=>
  (cG w.aa (iz w i o) ((i+1:C):Int) o.ah y8.1).bind λy9=>
  R y9.2
  ((cf (bn (D (([]++bW o):v au)+D (y8.1:v au)) 16)).bind λ_=>
  E (AF w i o (bW o++y8.1) y9.1))
  (E (AF w i o (bW o) (iz w i o))))=E w'/\xj w i o w':=by
  rintro a rfl
  cases b with
  |false=>
   obtain rfl:=Vy e2;have D9:=wC h.fit.dp (show(iz w i o).length<=1048000 by omega) ((i+1:C):Int) o.ah (aE:=[]) (d:=iz w i o) (by simp[iU]) (Mp vE)
   rw[if_pos ⟨vE,by simp,vE⟩]at D9
   have ha:cf (bn (D (([]++bW o):v au)+D ([]:v au)) 16)=E ():=fv YD F;exact⟨_,by grind,.inl ⟨.inl ⟨[],e2⟩,rfl⟩⟩
  |true=>
  have hR:=sB h.fit.dp (show(iz w i o).length<=1048576 by omega) h.fit.ak e2
  have hwl:=hR.len;have E3:D (iU ((i+1:C):Int) o.ah aE)=D aE:=by unfold iU;simp
  obtain⟨d,d1,d2⟩:=Lm (iz w i o++iU ((i+1:C):Int) o.ah aE) YD;have D9:=wC h.fit.dp (show(iz w i o).length<=1048000 by omega) ((i+1:C):Int) o.ah d1 d2
  by_cases hbd:cb w.aa d=J
  ·rw[if_pos ⟨vE,hwl,hbd⟩]at D9
   have ha:cf (bn (D (([]++bW o):v au)+D aE) 16)=E ():=fv YD F;exact⟨_,by grind,.inr ⟨aE,d,⟨e2,D9,hR,d1,hbd⟩,rfl⟩⟩
  ·rw[if_neg (λhx=>hbd hx.2.2)]at D9
   exact⟨_,by grind,.inl ⟨.inr ⟨aE,e2,D9⟩,rfl⟩⟩
 unfold ey;rw[hoi,Z,IL,Z]
 by_cases h0:0<G o
 ·have hkt:(G o).toNat-1<D o.aE:=F
  have ve:(bW o).getLast?=E o.aE[(G o).toNat-1]:=by
   unfold bW
   grind
  have hgk:az o.aE (K (G o-1))=E o.aE[(G o).toNat-1]:=by
   rw[aV F];unfold az;rw[if_pos F];simp
  obtain⟨t1,t2,t3,t4,t5⟩:=bX h.fit.dp hn (hO.ok.aN _ (Wk hkt));have hwe:K (cH w.aa o.aE[(G o).toNat-1]+w.aa.change)=cH w.aa o.aE[(G o).toNat-1]+w.aa.change:=aV F;have ZbM:gv (w.now+1) (cH w.aa o.aE[(G o).toNat-1]+w.aa.change)=E (atR w.aa w.now o):=by
   unfold gv atR
   grind
  rw[Yi h0,hgk];simp only[Z,t2,Ac,hwe,ZbM,BL,Zbh h ho,Nc,Ax,yy,ha0];obtain⟨w',q1,q2⟩:=tail _ rfl;refine⟨w',?_,q2⟩;rw[<-q1];rfl
 ·have Zby:w.now+1=atR w.aa w.now o:=by unfold atR;grind
  rw[Yt h0];simp only[Ac,BL,Zbh h ho,Nc,Ax,yy,ha0];obtain⟨w',q1,q2⟩:=tail _ Zby;refine⟨w',?_,q2⟩;rw[<-q1];rfl
omit h ho in
theorem Vt{a b:aw}(h1:xj w i o a)(h2:xj w i o b):a=b:=by
 have no:∀{aE bs},Zan w i o->Zam w i o aE bs->False:=λ{aE bs} hx hy=>by
  rcases hx with⟨x,hx⟩ |⟨x,hx,hb⟩
  ·rw[hy.jb]at hx
   grind
  ·rw[hy.jb]at hx
   have hxx:aE=x:=Zo Prod.fst (VV hx);rw[<-hxx,hy.book]at hb
   grind
 rcases h1 with⟨n1,rfl⟩ |⟨w1,b1,n1,rfl⟩<;>rcases h2 with⟨n2,rfl⟩ |⟨w2,b2,n2,rfl⟩
 ·rfl
 ·grind
 ·grind
 ·have e:=n2.jb
  rw[n1.jb]at e
  have hw:w1=w2:=Zo Prod.fst (VV e);subst hw;have e2:=n2.book;rw[n1.book]at e2
  grind
theorem Fw(hs:¬o.state=3)(gL:¬gT w.aa o=o.aZ):∃w',ey w (i:Int)=E w'/\fZ w ((i+1:C):Int)=E w'/\xj w i o w'/\ye w' (λj=>if j=i then w.ak else c j):=by
 obtain⟨a,a1,a2,a3⟩:=Ri h ho hs gL;obtain⟨b,b1,b2⟩:=ZdZ h ho hs;obtain rfl:=Vt b2 a2
 grind
end
def rv(y1:Y×bl)(s0:Int×(v L)×Int×Int×(v bP)):O ((Int×(v L)×Int×Int×(v bP))⊕((v L)×Int×Int×(v bP))):=
 R (Zg (s0.1<(D s0.2.2.2.2:Int)))
 (S (bw [0]) λ_=>
 S (cS (⟨s0.2.1,s0.2.2.1,s0.2.2.2.1⟩:bl) 3) λy2=>
 R y2.1
 (S (rF 8 [4]) λ_=>
 S (bw [0]) λ_=>
 S (aA y2.2 20) λy3=>
 S (az s0.2.2.2.2 s0.1) λy4=>
 E (.inl ((K (s0.1+1)),y3.2.b,y3.2.i,y3.2.h,(s0.2.2.2.2.set (Int.toNat s0.1) (⟨y4.ar,y4.aZ,y4.start,y4.o8,y4.yr,(K (3000+(K (1000*y3.1))))⟩:bP)))))
 (E (.inl ((K (s0.1+1)),y2.2.b,y2.2.i,y2.2.h,s0.2.2.2.2))))
 (E (.inr (s0.2.1,s0.2.2.1,s0.2.2.2.1,s0.2.2.2.2)))
instance (y1:Y×bl):bm (rv y1):=⟨λs0=>(.be 0 0 0::.un::.be 1 0 0::.be 2 0 0::W s0.1::(U 84 [])),λs0=>[E ⟨.of 133,3,[[.sl (s0.2.1.map Zl),W s0.2.2.1,W s0.2.2.2.1]]⟩,E ⟨.of 40,16,[uy]⟩,E ⟨.of 27,3,[[.ms 3,.ms 4,W y1.1.change]]⟩,E ⟨.of 101,6,s0.2.2.2.2.map cY⟩,E ⟨.of 3,1,y1.1.off.map aW⟩]⟩
def ry(y1:Y×bl)(o0:(v L)×Int×Int×(v bP))(s1:Int×(v L)×Int×Int×(v Int)):O ((Int×(v L)×Int×Int×(v Int))⊕((v L)×Int×Int×(v Int))):=
 R (Zg (0<s1.1))
 (S (bw [0]) λ_=>
 S (aA (⟨s1.2.1,s1.2.2.1,s1.2.2.2.1⟩:bl) 20) λy6=>
 S (cf (bn (D (s1.2.2.2.2:v Int)+D ([(K (1+y6.1))]:v Int)) 8)) λ_=>
 E (.inl ((K (s1.1-1)),y6.2.b,y6.2.i,y6.2.h,((s1.2.2.2.2:v Int)++[(K (1+y6.1))]))))
 (E (.inr (s1.2.1,s1.2.2.1,s1.2.2.2.1,s1.2.2.2.2)))
instance (y1:Y×bl)(o0:(v L)×Int×Int×(v bP)):bm (ry y1 o0):=⟨λs1=>(.be 0 0 0::.un::.be 1 0 0::.be 2 0 0::.un::.ms 5::W s1.1::(U 82 [])),λs1=>[E ⟨.of 133,3,[[.sl (s1.2.1.map Zl),W s1.2.2.1,W s1.2.2.2.1]]⟩,E ⟨.of 40,16,[uy]⟩,E ⟨.of 27,3,[[.ms 3,.ms 4,W y1.1.change]]⟩,E ⟨.of 101,6,o0.2.2.2.map cY⟩,E ⟨.of 3,1,y1.1.off.map aW⟩,E ⟨.of 3,1,s1.2.2.2.2.map aW⟩]⟩
def rA(y1:Y×bl)(o0:(v L)×Int×Int×(v bP))(o1:(v L)×Int×Int×(v Int))(s2:Int×(v L)×Int×Int×(v bH))(s3:Int×(v L)×Int×Int×(v bH)):O ((Int×(v L)×Int×Int×(v bH))⊕((v L)×Int×Int×(v bH))):=
 R (Zg (s3.1<=3))
 (S (bw [0]) λ_=>
 S (aA (⟨s3.2.1,s3.2.2.1,s3.2.2.2.1⟩:bl) 5) λy7=>
 S (cf (bn (D (s3.2.2.2.2:v bH)+D ([(⟨s2.1,s3.1,5000,(K (500+(K (100*y7.1))))⟩:bH)]:v bH)) 32)) λ_=>
 S (bw [0]) λ_=>
 S (aA y7.2 9) λy8=>
 S (cf (bn (D (((s3.2.2.2.2:v bH)++[(⟨s2.1,s3.1,5000,(K (500+(K (100*y7.1))))⟩:bH)]):v bH)+D ([(⟨s2.1,s3.1,40000,(K (1000+(K (100*y8.1))))⟩:bH)]:v bH)) 32)) λ_=>
 E (.inl ((K (s3.1+1)),y8.2.b,y8.2.i,y8.2.h,((((s3.2.2.2.2:v bH)++[(⟨s2.1,s3.1,5000,(K (500+(K (100*y7.1))))⟩:bH)]):v bH)++[(⟨s2.1,s3.1,40000,(K (1000+(K (100*y8.1))))⟩:bH)]))))
 (E (.inr (s3.2.1,s3.2.2.1,s3.2.2.2.1,s3.2.2.2.2)))
instance (y1:Y×bl)(o0:(v L)×Int×Int×(v bP))(o1:(v L)×Int×Int×(v Int))(s2:Int×(v L)×Int×Int×(v bH)):bm (rA y1 o0 o1 s2):=⟨λs3=>(.be 0 0 0::.un::.be 1 0 0::.be 2 0 0::.un::.ms 5::.un::.ms 6::.ms 7::W s2.1::W s3.1::(U 78 [])),λs3=>[E ⟨.of 133,3,[[.sl (s3.2.1.map Zl),W s3.2.2.1,W s3.2.2.2.1]]⟩,E ⟨.of 40,16,[uy]⟩,E ⟨.of 27,3,[[.ms 3,.ms 4,W y1.1.change]]⟩,E ⟨.of 101,6,o0.2.2.2.map cY⟩,E ⟨.of 3,1,y1.1.off.map aW⟩,E ⟨.of 3,1,o1.2.2.2.map aW⟩,E ⟨.of 124,2,[[vs (⟨#[65,65,65]⟩),vs (⟨#[67,90,90]⟩)],[vs (⟨#[68,65,65]⟩),vs (⟨#[90,90,90]⟩)]]⟩,E ⟨.of 127,4,s3.2.2.2.2.map dK⟩]⟩
def rz(y1:Y×bl)(o0:(v L)×Int×Int×(v bP))(o1:(v L)×Int×Int×(v Int))(s2:Int×(v L)×Int×Int×(v bH)):O ((Int×(v L)×Int×Int×(v bH))⊕((v L)×Int×Int×(v bH))):=
 R (Zg (s2.1<2))
 ((aB (rA y1 o0 o1 s2) NN (1,s2.2.1,s2.2.2.1,s2.2.2.2.1,s2.2.2.2.2)).bind (λo3=>
 E (.inl ((K (s2.1+1)),o3.1,o3.2.1,o3.2.2.1,o3.2.2.2))))
 (E (.inr (s2.2.1,s2.2.2.1,s2.2.2.2.1,s2.2.2.2.2)))
instance (y1:Y×bl)(o0:(v L)×Int×Int×(v bP))(o1:(v L)×Int×Int×(v Int)):bm (rz y1 o0 o1):=⟨λs2=>(.be 0 0 0::.un::.be 1 0 0::.be 2 0 0::.un::.ms 5::.un::.ms 6::.ms 7::W s2.1::(U 79 [])),λs2=>[E ⟨.of 133,3,[[.sl (s2.2.1.map Zl),W s2.2.2.1,W s2.2.2.2.1]]⟩,E ⟨.of 40,16,[uy]⟩,E ⟨.of 27,3,[[.ms 3,.ms 4,W y1.1.change]]⟩,E ⟨.of 101,6,o0.2.2.2.map cY⟩,E ⟨.of 3,1,y1.1.off.map aW⟩,E ⟨.of 3,1,o1.2.2.2.map aW⟩,E ⟨.of 124,2,[[vs (⟨#[65,65,65]⟩),vs (⟨#[67,90,90]⟩)],[vs (⟨#[68,65,65]⟩),vs (⟨#[90,90,90]⟩)]]⟩,E ⟨.of 127,4,s2.2.2.2.2.map dK⟩]⟩
def oM(c:bl):O (aD×bl):=
 S (bw [0]) λ_=>
 S (oN c 7) λy1=>
 (aB (rv y1) NN (0,y1.2.b,y1.2.i,y1.2.h,y1.1.aC)).bind (λo0=>
 S (bw [0]) λ_=>
 S (aA (⟨o0.1,o0.2.1,o0.2.2.1⟩:bl) 5) λy5=>
 (aB (ry y1 o0) NN (y5.1,y5.2.b,y5.2.i,y5.2.h,([]:v Int))).bind (λo1=>
 (aB (rz y1 o0 o1) NN (0,o1.1,o1.2.1,o1.2.2.1,([]:v bH))).bind (λo2=>
 S (Ev (.be 0 0 0::.un::.be 1 0 0::.be 2 0 0::.un::.sl (o1.2.2.2.map aW)::.un::.sl (([(⟨⟨#[65,65,65]⟩,⟨#[67,90,90]⟩⟩:cB),(⟨⟨#[68,65,65]⟩,⟨#[90,90,90]⟩⟩:cB)]).map dV)::.sl (o2.2.2.2.map dK)::(U 80 [])) [E ⟨.of 133,3,[[.sl (o2.1.map Zl),W o2.2.1,W o2.2.2.1]]⟩,E ⟨.of 40,16,[uy]⟩,E ⟨.of 27,3,[[.sl (o0.2.2.2.map cY),.sl (y1.1.off.map aW),W y1.1.change]]⟩]) λ_=>
 S (rF 8 [5]) λ_=>
 S (bw [0]) λ_=>
 S (jW (⟨o2.1,o2.2.1,o2.2.2.1⟩:bl)) λy9=>
 S (l8 (⟨o0.2.2.2,y1.1.off,y1.1.change⟩:Y) o1.2.2.2 ([(⟨⟨#[65,65,65]⟩,⟨#[67,90,90]⟩⟩:cB),(⟨⟨#[68,65,65]⟩,⟨#[90,90,90]⟩⟩:cB)]) o2.2.2.2 y9.1) λdO=>
 E (dO.1,y9.2))))
instance (c:bl):CT prog (oM c):=⟨20,[.be 0 0 0],[E ⟨.of 133,3,[[.sl (c.b.map Zl),W c.i,W c.h]]⟩],λr=>.ag [.sl (r.1.world.aa.aC.map cY),.sl (r.1.world.aa.off.map aW),W r.1.world.aa.change,.sl (r.1.world.ae.map bx),.sl (r.1.world.av.map aG),.sl (r.1.world.ak.map bg),W r.1.world.now,.sl (r.1.world.aL.map bA),.sl (r.1.world.skip.map aW),W r.1.world.br,.sl (r.1.bb.map dV),.sl (r.1.bd.map dK),.sl (r.1.aU.map aW),.ms 1,.sl (r.1.lines.map bV),.ms 2],λr=>[E ⟨.of 133,3,[[.sl (r.2.b.map Zl),W r.2.i,W r.2.h]]⟩,E ⟨.of 58,7,r.1.aK.map cd⟩,E ⟨.of 60,13,r.1.aF.map fQ⟩],cw (oM.eq_1 ..) func20 ntmps20 results20⟩
def mM(a:v cB)(b:v cB)(s0:Int):O (Int⊕(Unit⊕Bool)):=
 R (Zg (s0<(D a:Int)))
 (S (az a s0) λy1=>
 S (az b s0) λy2=>
 R (!decide (y1=y2))
 (E (.inr (.inr V)))
 (E (.inl (K (s0+1)))))
 (E (.inr (.inl ())))
instance (a:v cB)(b:v cB):bm (mM a b):=⟨λs0=>(.sl (a.map dV)::.sl (b.map dV)::(U 10 (W (D a:Int)::W s0::(U 12 [])))),λs0=>[]⟩
def jm(a:v cB)(b:v cB):O Bool:=
 R (!decide ((D a:Int)=(D b:Int)))
 (E V)
 ((aB (mM a b) NN 0).bind (bj (λo0=>
 E J) (λr=>E r)))
instance (a:v cB)(b:v cB):CT prog (jm a b):=⟨64,[.sl (a.map dV),.sl (b.map dV)],[],λr=>vb r,λr=>[],λH=>by replace H:=H0 H;unfold jm at H;exact je func64 rfl ntmps64 results64 λQ hQ Kf=>LA⟩
