/- A part of the proof of this claim's last theorem. No condition. -/
import Derived.Test.YtbjbellffaenaaaGreatDoorCT20
import Derived.Test.YtbjbellffaenaaaGreatDoorCT22
import Derived.Test.YtbjbellffaenaaaGreatDoorCT19
import Derived.Test.YtbjbellffaenaaaGreatDoorCT21
import Derived.Test.YtbjbellffaenaaaGreatDoorCT18
set_option linter.all false
set_option maxRecDepth 10000
open Option renaming some->F,none->Zd
open Bool renaming true->Ze,false->Zf
open Decidable renaming decide->Zg
open List renaming length->C
open Option renaming bind->Y
open _root_ renaming ByteArray->L,List->D,Option->O,Unit->T,cond->J,congrArg->Zo
open Go.Proofs.YtbjbellffaenaaaGreatDoor renaming YA->E,Yi->X,aJ->V,aj->K,ay->M,az->W,cK->R,fa->Z
open Go.Proofs.Tryz
set_option maxHeartbeats 40000000
namespace Go.Proofs.YtbjbellffaenaaaGreatDoor
open List renaming mem_cons_self->Wo,mem_cons_of_mem->Wl,mem_of_getElem?->VU,getElem_of_mem->V3,getElem?_eq_getElem->VS,mem_cons->VY,getElem?_eq_some_iff->VT,getElem?_map->Wp,foldl_nil->Wm,map_cons->WM,append_assoc->XB,nil_append->WO,getElem?_set_self->WR,foldl_cons->Wq,getElem?_eq_none->Xl,length_map->Wi,length_nil->V2,getElem_mem->Wk,length_cons->V0,pairwise_iff_getElem->Wr,map_append->Xv
open Nat renaming le_refl->VW,zero_le->Ws
open Option renaming map_some->WC,bind_some->G,map_eq_some_iff->Wc
open Bool renaming not_true->VX,not_false->WI
open _root_.Int renaming toNat_natCast->WS
open Sum renaming inl->Xp
open Go.RowKit
variable {ak:D au}{d e l:D aq}{gK:D Int}{i k:Nat}{o:M}{u:Int}{y:bP}{α:Type}{x:α}
def tc(a:Int)(e:O Int):Int:=match e with
 |some v=>if a<0\/v<a then v else a
 |none=>a
def fV(w:aw):Int:=w.ae.foldl (λa o=>tc a (Z w.aa o)) (-1)
theorem CX{n:ab}:∀(os:D M) (a:Int),(∀o∈os,∀e,Z n o=F e->0<=e)->a<0\/0<=a->
 (os.foldl (λa o=>tc a (Z n o)) a=a/\a<0/\∀o∈os,Z n o=Zd)\/
 (0<=os.foldl (λa o=>tc a (Z n o)) a/\(os.foldl (λa o=>tc a (Z n o)) a=a\/∃o∈os,Z n o=F (os.foldl (λa o=>tc a (Z n o)) a))/\(0<=a->os.foldl (λa o=>tc a (Z n o)) a<=a)/\∀o∈os,∀e,Z n o=F e->os.foldl (λa o=>tc a (Z n o)) a<=e)
 | [],a,_,ha=>by
  grind
 |o::os,a,h,ha=>by
  have h0:=h o Wo;have hs:=λx hx=>h x (Wl o hx)
  cases ho:Z n o with
  |none=>
   have e:tc a Zd=a:=rfl
   rcases CX os a hs ha with⟨k1,k2,k3⟩ |⟨k1,k2,k3,k4⟩
   all_goals grind
  |some v=>
   have e:0<=tc a (F v)/\tc a (F v)<=v/\(0<=a->tc a (F v)<=a)/\(tc a (F v)=a\/tc a (F v)=v):=by
    unfold tc;grind
   obtain⟨e1,e2,e3,e4⟩:=e
   rcases CX os (tc a (F v)) hs (.inr e1)with⟨k1,k2,k3⟩ |⟨k1,k2,k3,k4⟩
   all_goals grind
theorem Ug{n:ab}(h:yg n o){e:Int}(he:Z n o=F e):0<=e/\e<=100000:=by
 unfold Z at he
 cases ht:o.aE[o.aH.toNat]? with
 |none=>grind
 |some t=>
  obtain⟨a,b,c⟩:=h.aN t (VU ht)
  grind
theorem uV{w:aw}(h:oc w):(fV w=-1/\∀o∈w.ae,Z w.aa o=Zd)\/
 (w.now<fV w/\fV w<=100000/\(∃o∈w.ae,Z w.aa o=F (fV w))/\∀o∈w.ae,∀e,Z w.aa o=F e->fV w<=e):=by
 have hp:∀o∈w.ae,∀e,Z w.aa o=F e->0<=e/\e<=100000:=λo ho e he=>by
  obtain⟨i,hi,rfl⟩:=V3 ho;exact Ug (h.aE (VS hi)) he
 rcases CX w.ae (-1) (λo ho e he=>(hp o ho e he).1) (.inl E)with⟨k1,_,k3⟩ |⟨k1,k2,_,k4⟩
 ·exact .inl ⟨k1,k3⟩
 ·rcases k2 with k2|⟨o,ho,k2⟩
  ·omega
  ·refine .inr ⟨?_,(hp o ho _ k2).2,⟨o,ho,k2⟩,k4⟩
   obtain⟨i,hi,rfl⟩:=V3 ho;have hs:=tD (h.state (VS hi)) (h.aE (VS hi)).aH;exact hs.next _ k2
theorem NX{w:aw}(h:oc w)(hn:fV w<0):fV w=-1/\∀o∈w.ae,Z w.aa o=none:=by
 have:=h.parts.1
 rcases uV h with k|⟨k,_⟩
 all_goals omega
theorem tT{w:aw}(h:oc w)(hn:0<=fV w):oc (gw w (fV w))/\w.now<fV w/\fV w<=100000:=by
 rcases uV h with⟨k,_⟩ |⟨k1,k2,k3,k4⟩
 ·omega
 ·exact⟨IJ h E k2 k4,k1,k2⟩
def qw(w:aw):Nat:=(w.ae.map ke).sum
theorem ZdE{α:Type}{f g:α->Nat}:∀{l:D α},(∀x∈l,f x<=g x)->(∃x∈l,f x<g x)->(l.map f).sum<(l.map g).sum
 | [],_,⟨x,h,_⟩=>by cases h
 |a::l,h,⟨x,hx,bD⟩=>by
  have h1:=h a Wo;have h2:(l.map f).sum<=(l.map g).sum:=ZdD λx hx=>h x (Wl _ hx)
  simp
  rcases VY.1 hx with rfl|hx
  ·omega
  ·have:=ZdE (λx hx=>h x (Wl _ hx)) ⟨x,hx,bD⟩
   omega
 where
 ZdD {α:Type} {f g:α->Nat}:∀{l:D α},(∀x∈l,f x<=g x)->(l.map f).sum<=(l.map g).sum
 | [],_=>VW _
 |a::l,h=>by
  have h2:=ZdD λx hx=>h x (Wl _ hx)
  grind
theorem tU{w:aw}(h:oc w)(hn:0<=fV w):qw (gw w (fV w))<qw w:=by
 rcases uV h with⟨k,_⟩ |⟨k1,k2,⟨o,ho,k3⟩,k4⟩
 ·omega
 ·have Ni:∀x∈w.ae,ke (o7 w.aa (fV w) x)<=ke x/\(Z w.aa x=F (fV w)->ke (o7 w.aa (fV w) x)<ke x):=λx hx=>by
   obtain⟨i,hi,rfl⟩:=V3 hx;have od:=VS hi;exact(Td (h.aE od) (h.state od) E (k4 _ hx)).2.2
  unfold qw gw;simp;exact ZdE (f:=ke∘o7 w.aa (fV w)) (λx hx=>(Ni x hx).1) ⟨o,ho,(Ni o ho).2 k3⟩
def uj:Nat->aw->Int->aw
 |0,w,_=>w
 |k+1,w,u=>if fV w<0\/u<fV w then w else uj k (gw w (fV w)) u
theorem JF{w:aw}(h:oc w)(h0:qw w=0):fV w=-1:=by
 rcases uV h with⟨k,_⟩ |⟨k1,k2,⟨o,ho,k3⟩,k4⟩
 ·exact k
 ·have hz:ke o=0:=by
   have:=List.sum_eq_zero_iff_forall_eq_nat.1 h0 (ke o) (List.mem_map_of_mem ho);omega
  obtain⟨i,hi,rfl⟩:=V3 ho;have od:=VS hi;rw[Zab (h.aE od) (h.state od) hz]at k3
  grind
structure A8(w w':aw):Prop where
 aa:w'.aa=w.aa
 av:w'.av=w.av
 ak:w'.ak=w.ak
 skip:w'.skip=w.skip
 len:w'.ae.length=w.ae.length
 ord:∀(i:Nat) (o o':M),w.ae[i]?=F o->w'.ae[i]?=F o'->sI o o'
theorem A8.refl(w:aw):A8 w w:=⟨rfl,rfl,rfl,rfl,rfl,λi o o' h h'=>by rw[h]at h';obtain rfl:=Option.some.inj h';exact .refl o⟩
theorem A8.trans{a b c:aw}(h:A8 a b)(k:A8 b c):A8 a c:=by
 refine⟨k.aa.trans h.aa,k.av.trans h.av,k.ak.trans h.ak,k.skip.trans h.skip,k.len.trans h.len,λi o o' h1 h2=>?_⟩
 have bD:=(VT.1 h1).1;have hb:b.ae[i]?=F (b.ae[i]'(by rw[h.len];omega)):=VS _
 exact(h.ord i o _ h1 hb).trans (k.ord i _ o' hb h2)
theorem M7(w:aw)(aQ:Int):A8 w (gw w aQ):=by
 refine⟨rfl,rfl,rfl,rfl,by simp[gw],λi o o' h h'=>?_⟩
 simp only[gw,Wp,h,WC,Option.some.injEq]at h'
 subst h';exact xb _ _ o
theorem Zdg:∀(k:Nat) (w:aw) (u:Int),oc w->qw w<=k->u<=100000->oc (uj k w u)/\(fV (uj k w u)<0\/u<fV (uj k w u))/\A8 w (uj k w u)/\(w.now<=u->(uj k w u).now<=u)
 |0,w,u,h,h0,hu=>⟨h,.inl (by have:=JF h E;show fV w<0;omega),.refl w,λh=>h⟩
 |k+1,w,u,h,h0,hu=>by
  unfold uj
  split
  ·rename_i hc
   exact⟨h,hc,.refl w,λh=>h⟩
  ·obtain⟨a,b,c⟩:=tT h E
   have ht:=tU h E;obtain⟨r1,r2,r3,r4⟩:=Zdg k (gw w (fV w)) u a E hu;exact⟨r1,r2,(M7 w _).trans r3,λ_=>r4 (by show fV w<=u;omega)⟩
theorem He:∀(k j:Nat) (w:aw) (u:Int),oc w->qw w<=k->u<=100000->uj (k+j) w u=uj k w u
 |0,j,w,u,h,h0,hu=>by
  have:=JF h E
  cases j with
  |zero=>rfl
  |succ j=>unfold uj
           grind
 |k+1,j,w,u,h,h0,hu=>by
  rw[show k+1+j=(k+j)+1 by omega]
  unfold uj
  split
  ·rfl
  ·obtain⟨a,b,c⟩:=tT h E
   have ht:=tU h E;exact He k j _ u a E hu
theorem Zf4{k j:Nat}{w:aw}(h:oc w)(hk:qw w<=k)(hj:qw w<=j)(hu:u<=100000):uj k w u=uj j w u:=by
 obtain⟨a,rfl⟩:∃a,k=qw w+a:=⟨k-qw w,E⟩;obtain⟨b,rfl⟩:∃b,j=qw w+b:=⟨j-qw w,E⟩;rw[He _ a w u h (VW _) hu,He _ b w u h (VW _) hu]
theorem VH{w:aw}(h:oc w)(hu:w.now<=u)(hm:u<=100000)(hn:fV w<0\/u<fV w):oc { w with now:=u}:=by
 have he:∀o∈w.ae,∀e,Z w.aa o=F e->u<e:=λo ho e he=>by
  rcases uV h with⟨_,k⟩ |⟨k1,_,_,k4⟩
  ·grind
  ·have:=k4 o ho e he
   have:=h.parts.1;omega
 have tV:∀o∈w.ae,o7 w.aa u o=o:=λo ho=>by
  have Px:=he o ho;have e1:R w.aa u o=o:=by
   unfold R
   cases ht:o.aE[o.aH.toNat]? with
   |none=>rfl
   |some t=>
    simp only;rw[if_neg];rintro⟨c1,c2⟩;have:=Px u Za;omega
  unfold o7;rw[e1];unfold oZ
  cases ht:o.aE[o.aH.toNat]? with
  |none=>rfl
  |some t=>
   simp only;rw[if_neg];rintro⟨c1,c2⟩;have:=Px u Za;omega
 have ZbL:w.ae.map (o7 w.aa u)=w.ae:=by
  conv=>rhs;rw[<-List.map_id w.ae]
  exact List.map_congr_left λo ho=>tV o ho
 have hok:=IJ h hu hm (λo ho e h'=>by grind)
 have hv:=h.ok;have hk:=hok.ok;refine⟨⟨h.fit.dp,h.fit.ae,h.fit.av,h.fit.ak,h.fit.aL,h.fit.skip,h.fit.aE⟩,?_⟩;unfold eY at hv hk⊢
 simp at hv hk⊢
 obtain⟨⟨⟨⟨⟨⟨⟨⟨⟨⟨h1,h2⟩,h3⟩,h4⟩,h5⟩,h6⟩,h7⟩,h8⟩,h9⟩,EW⟩,II⟩:=hv;obtain⟨⟨⟨⟨⟨⟨⟨⟨⟨⟨k1,k2⟩,k3⟩,k4⟩,k5⟩,k6⟩,k7⟩,k8⟩,k9⟩,k10⟩,k11⟩:=hk;refine⟨⟨⟨⟨⟨⟨⟨⟨⟨⟨h1,⟨E,hm⟩⟩,h3⟩,h4⟩,h5⟩,h6⟩,h7⟩,h8⟩,?_⟩,?_⟩,II⟩
 ·refine cX.2 λj s hj=>?_
  have:=cX.1 h9 j s hj;unfold Ah at this⊢
  grind
 ·refine cX.2 λj o hj=>?_
  have H7:(gw w u).ae[j]?=F o:=by simp only[gw,ZbL];omega
  have:=cX.1 k10 j o H7;have e:∀i,kv (gw w u) i o=kv { w with now:=u} i o:=λi=>rfl
  grind
def vG(w:aw)(u:Int):aw:={ uj (qw w) w u with now:=u}
theorem CF{w:aw}(h:oc w)(hu:w.now<=u)(hm:u<=100000):oc (vG w u)/\A8 w (vG w u)/\(fV (vG w u)<0\/u<fV (vG w u)):=by
 obtain⟨a,b,c,d⟩:=Zdg _ w u h (VW _) hm;exact⟨VH a (d hu) hm b,⟨c.aa,c.av,c.ak,c.skip,c.len,c.ord⟩,b⟩
theorem IK:@rL=@lk:=rfl
def ir(w:aw)(s:aI):aw:={ w with aL:=(mu w.skip (w.aL,w.br) s).1,br:=(mu w.skip (w.aL,w.br) s).2}
structure rV(w:aw):Prop where
 skip:w.skip.length<=1048576
 len:w.aL.length<=200
 br:0<=w.br/\w.br<=1000000000
theorem fv{a b c:Nat}(h:a+b<=1048576)(hc:c<=1024):cf (bn (a+b) c)=F ():=by
 refine oB ?_;refine X ⟨E,?_⟩;have:(a+b)*c<=1048576*1024:=Nat.mul_le_mul h hc;omega
theorem yi{w:aw}(h:rV w)(s:aI):rV (ir w s):=by
 obtain⟨h1,h2,h3⟩:=h;unfold ir mu;refine⟨h1,?_,?_⟩
 all_goals grind
theorem Lh{w:aw}(h:rV w)(s:aI):gg w s=F (ir w s):=by
 obtain⟨h1,h2,h3⟩:=h;have hw:V (w.br+1)=w.br+1:=aV E;have ha:=fv (a:=C w.aL) (b:=1) (c:=56) E E;unfold gg ir mu;rw[hw,IK,zv h1]
 grind
theorem Li{w:aw}(h:rV w)(s:aI):fy w s=F (ir w s):=by
 obtain⟨h1,h2,h3⟩:=h;have hw:V (w.br+1)=w.br+1:=aV E;have ha:=fv (a:=C w.aL) (b:=1) (c:=56) E E;unfold fy ir mu;simp only[zv h1]
 by_cases hm:w.br<1000000000
 ·grind
 ·rw[Yt hm]
  simp only[if_neg hm]
  cases hb:w.skip.any λy=>Zg (y=w.br)with
  |true=>simp
  |false=>
   by_cases hl:C w.aL<200
   ·grind
   ·rw[Yt (show ¬(C w.aL:Int)<200 by omega)];simp[hl]
abbrev OwT:=Int×Int×Int×(D bP)×(D Int)×(D M)×(D aq)×(D au)×(D Int)×(D aI)
def zQ(w:aw):OwT:=(w.aa.change,w.now,w.br,w.aa.aC,w.aa.off,w.ae,w.av,w.ak,w.skip,w.aL)
def Fg(i:Int)(w:aw):Int×OwT:=(i,zQ w)
def iI(w:aw)(l:D aI):aw:=l.foldl ir w
theorem yj:∀(l:D aI) (w:aw),iI w l={ w with aL:=(l.foldl (mu w.skip) (w.aL,w.br)).1,br:=(l.foldl (mu w.skip) (w.aL,w.br)).2}
 | [],w=>rfl
 |s::l,w=>by
  show iI (ir w s) l=_;rw[yj l (ir w s)];rfl
def n9(f:M->M)(g:Nat->M->D aI)(i:Nat)(o:M)(w:aw):aw:=iI { w with ae:=w.ae.set i (f o)} (g i o)
def wZ(f:M->M)(g:Nat->M->D aI):Nat->D M->aw->aw
 |_,[],w=>w
 |i,o::os,w=>wZ f g (i+1) os (n9 f g i o w)
theorem Cn(f:M->M)(g:Nat->M->D aI)(i:Nat)(o:M)(w:aw):n9 f g i o w={ w with ae:=w.ae.set i (f o),aL:=((g i o).foldl (mu w.skip) (w.aL,w.br)).1,br:=((g i o).foldl (mu w.skip) (w.aL,w.br)).2}:=by
 unfold n9;rw[yj]
theorem GO(f:M->M)(g:Nat->M->D aI):∀(os pre:D M) (w:aw),w.ae=pre++os->
 wZ f g (C pre) os w={ w with ae:=pre++os.map f,aL:=((ot g (C pre) os).foldl (mu w.skip) (w.aL,w.br)).1,br:=((ot g (C pre) os).foldl (mu w.skip) (w.aL,w.br)).2}
 | [],pre,w,h=>by simp only[wZ,ot,List.map_nil,Wm];rw[<-h]
 |o::os,pre,w,h=>by
  have C7:w.ae.set (C pre) (f o)=(pre++[f o])++os:=by grind
  have:=GO f g os (pre++[f o]) (n9 f g (C pre) o w) (by rw[Cn];omega)
  simp at this
  show wZ f g (C pre+1) os (n9 f g (C pre) o w)=_;rw[this,Cn];simp only[ot,List.foldl_append,WM,XB,List.cons_append,WO]
theorem wT{f:M->M}{g:Nat->M->D aI}{body:Int×OwT->O ((Int×OwT)⊕OwT)}{n:Nat}{Inv:aw->Prop}{Good:Nat->M->Prop}
 (h1:∀(i:Nat) (o:M) (w:aw),C w.ae=n->w.ae[i]?=F o->Inv w->Good i o->body (Fg i w)=F (.inl (Fg ((i+1:Nat):Int) (n9 f g i o w)))/\Inv (n9 f g i o w))
 (h2:∀w:aw,C w.ae=n->body (Fg n w)=F (.inr (zQ w))):
 ∀(os:D M) (i:Nat) (N:Nat) (w:aw),w.ae.drop i=os->C w.ae=n->i<=n->C os<N->Inv w->(∀(j:Nat) (o:M),os[j]?=F o->Good (i+j) o)->aB body N (Fg i w)=F (zQ (wZ f g i os w))
 | [],i,0,w,_,_,_,hN,_,_=>E
 | [],i,N+1,w,hd,hl,hi,hN,hI,hG=>by
  have:i=n:=by grind
  subst this;simp only[aB,h2 w hl];rfl
 |o::os,i,0,w,_,_,_,hN,_,_=>E
 |o::os,i,N+1,w,hd,hl,hi,hN,hI,hG=>by
  have ho:w.ae[i]?=F o:=by
   have:=Zo (λl:D M=>l[0]?) hd
   grind
  have bD:i<C w.ae:=(VT.1 ho).1;obtain⟨e1,e2⟩:=h1 i o w hl ho hI (by simpa using hG 0 o rfl)
  have Ib:(n9 f g i o w).ae=w.ae.set i (f o):=by rw[Cn]
  simp only[aB,e1];refine wT h1 h2 os (i+1) N (n9 f g i o w) ?_ YD E YD e2 λj o' hj=>?_
  ·rw[Ib,List.drop_set]
   have:(w.ae.drop (i+1))=os:=by
    have:=Zo (List.drop 1) hd
    simpa using this
   grind
  ·have:=hG (j+1) o' YD
   grind
structure pb(n:ab)(k:Nat)(w:aw):Prop where
 dp:w.aa=n
 aL:rV w
 ae:w.ae.length<=1048576
theorem Bb:∀(l:D aI) (w:aw),rV w->rV (iI w l)
 | [],w,h=>h
 |s::l,w,h=>Bb l _ (yi h s)
theorem pb.step{n:ab}{w:aw}(h:pb n k w)(f:M->M)(g:Nat->M->D aI)(i:Nat)(o:M):pb n k (n9 f g i o w):=by
 have hs:rV { w with ae:=w.ae.set i (f o)}:=⟨h.aL.skip,h.aL.len,h.aL.br⟩
 have h1:=Bb (g i o) _ hs;rw[Cn];rw[yj]at h1
 exact⟨h.dp,h1,by simp;exact h.ae⟩
structure tg(n:ab)(o:M):Prop where
 aH:0<=o.aH/\o.aH<=o.aE.length
 len:o.aE.length<=1048576
 aN:∀t∈o.aE,fA n t=Ze
 Af:o.state=2->o.aH<o.aE.length
theorem rQ{xs:D α}(h:xs[i]?=F x):xs.set i x=xs:=by
 apply List.ext_getElem?
 grind
theorem uT{n:ab}{aQ:Int}(h:¬o.state=1\/o.aE[o.aH.toNat]?=Zd\/∃t,o.aE[o.aH.toNat]?=F t/\¬bY n t=aQ):oZ n aQ o=o/\pq n aQ i o=[]:=by
 unfold oZ pq
 grind
section
variable {n:ab} (hf:cD n) (hn:aX n=F Ze)
include hf hn
theorem ZfA(w0:aw)(h0:w0.aa=n)(H9:C w0.ae<=1048576){aQ:Int}(i:Nat)(o:M)(w:aw)(hl:C w.ae=C w0.ae)(ho:w.ae[i]?=F o)(hI:pb n 0 w)(hG:tg n o):
 iP w0 aQ (Fg i w)=F (.inl (Fg ((i+1:Nat):Int) (n9 (R n aQ) (gX n aQ) i o w))):=by
 have bD:=(VT.1 ho).1;have hgg:=hG.aH;have hg:W w.ae (i:Int)=F o:=by rw[aS];omega
 have hr:zU w.ae (i:Int)=F o:=hg;have hi:V ((i:Int)+1)=((i+1:Nat):Int):=bz bD E;have hd:Zg ((i:Int)<(C w0.ae:Int))=true:=X E;have uf:(⟨w.aa.aC,w.aa.off,w0.aa.change⟩:ab)=n:=by rw[hI.dp,h0]
 have Nf:(⟨w.aa.aC,w.aa.off,w.aa.change⟩:ab)=n:=hI.dp;unfold iP Fg zQ;simp only[hd,Yw,hg,G,hi,uf,qm]
 by_cases hs:o.state=2
 ·have vd:=hG.Af hs
  have EY:o.aH.toNat<C o.aE:=E;have ht:o.aE[o.aH.toNat]?=F o.aE[o.aH.toNat]:=VS EY;generalize o.aE[o.aH.toNat]=t at ht
  have Uo:W o.aE o.aH=F t:=by unfold W;grind
  have AZ:=hG.aN t (VU ht);obtain⟨y,hy,_⟩:=cZ hf AZ;obtain⟨t1,t2,t3,t4,t5⟩:=bX hf hn AZ;have zL:bB n t=y.aZ:=by unfold bB;grind
  have hyl:W w.aa.aC t.bq=F y:=by grind
  have Ac:V (o.aH+1)=o.aH+1:=aV (by have:=hG.len;omega)
  simp only[X hs,VX,Yx,Uo,G,t2]
  by_cases he:cH n t=aQ
  ·have inv1:∀os:D M,rV { w with ae:=os}:=λos=>⟨hI.aL.skip,hI.aL.len,hI.aL.br⟩
   have ea:R n aQ o=Es n aQ o t:=by unfold R;grind
   have ed:gX n aQ i o=⟨((i+1:Nat):Int),aQ,2,⟨#[]⟩,t⟩::(if bB n t=o.aZ then [⟨((i+1:Nat):Int),aQ,4,bB n t,⟨0,0⟩⟩]else []):=by unfold gX;grind
   unfold n9;rw[ea,ed];unfold Es;simp only[X he,VX,Yx,hr,Uo,hyl,G,Ew,bw,Nf,WS,Ac];rw[show(⟨n,w.ae.set i ⟨o.ar,o.aZ,o.ax,o.ah,o.aQ,o.fc,o.aE,o.aH+1,1,y.aZ,o.bK⟩,w.av,w.ak,w.now,w.aL,w.skip,w.br⟩:aw)={ w with ae:=w.ae.set i ⟨o.ar,o.aZ,o.ax,o.ah,o.aQ,o.fc,o.aE,o.aH+1,1,y.aZ,o.bK⟩}by rw[<-hI.dp]]
   rw[Lh (inv1 _)];have hr2:zU (w.ae.set i (⟨o.ar,o.aZ,o.ax,o.ah,o.aQ,o.fc,o.aE,o.aH+1,1,y.aZ,o.bK⟩:M)) (i:Int)=F ⟨o.ar,o.aZ,o.ax,o.ah,o.aQ,o.fc,o.aE,o.aH+1,1,y.aZ,o.bK⟩:=by
    unfold zU;rw[aS,WR bD]
   simp only[G,ir,hr2,zL]
   by_cases hc:y.aZ=o.aZ
   ·have hr3:zU (w.ae.set i (⟨o.ar,o.aZ,o.ax,o.ah,o.aQ,o.fc,o.aE,o.aH+1,3,y.aZ,aQ⟩:M)) (i:Int)=F ⟨o.ar,o.aZ,o.ax,o.ah,o.aQ,o.fc,o.aE,o.aH+1,3,y.aZ,aQ⟩:=by
     unfold zU;rw[aS,WR bD]
    simp only[X hc,Yw,List.set_set,hr3];have inv2:=yi (inv1 (w.ae.set i ⟨o.ar,o.aZ,o.ax,o.ah,o.aQ,o.fc,o.aE,o.aH+1,3,y.aZ,aQ⟩)) (⟨((i+1:Nat):Int),aQ,2,⟨#[]⟩,t⟩:aI);have e2:=Lh inv2 ⟨((i+1:Nat):Int),aQ,4,y.aZ,⟨0,0⟩⟩;unfold ir at e2
    simp only[e2,G,if_pos hc,iI,Wq,Wm,ir]
   ·simp only[Yt hc,Yx,if_neg hc,iI,Wq,Wm,ir]
  ·have ea:R n aQ o=o:=by unfold R;grind
   have ed:gX n aQ i o=[]:=by unfold gX;grind
   simp only[Yt he,WI,Yw,n9,ea,ed,iI,Wm,rQ ho]
 ·have ea:R n aQ o=o:=by
   unfold R
   grind
  have ed:gX n aQ i o=[]:=by
   unfold gX
   grind
  simp only[Yt hs,WI,Yw,n9,ea,ed,iI,Wm,rQ ho]
theorem ZfB{aQ:Int}(i:Nat)(o:M)(w:aw)(ho:w.ae[i]?=F o)(hI:pb n 0 w)(hG:tg n o):
 j5 aQ (Fg i w)=F (.inl (Fg ((i+1:Nat):Int) (n9 (R n aQ) (gX n aQ) i o w))):=by
 have bD:=(VT.1 ho).1;have hgg:=hG.aH;have hg:W w.ae (i:Int)=F o:=by rw[aS];omega
 have hi:V ((i:Int)+1)=((i+1:Nat):Int):=bz bD (by have:=hI.ae;omega)
 have hd:Zg ((i:Int)<(C w.ae:Int))=true:=X E;have Nf:(⟨w.aa.aC,w.aa.off,w.aa.change⟩:ab)=n:=hI.dp;unfold j5 Fg zQ;simp only[hd,Yw,hg,G,hi,Nf]
 by_cases hs:o.state=2
 ·have vd:=hG.Af hs
  have EY:o.aH.toNat<C o.aE:=E;have ht:o.aE[o.aH.toNat]?=F o.aE[o.aH.toNat]:=VS EY;generalize o.aE[o.aH.toNat]=t at ht
  have Uo:W o.aE o.aH=F t:=by unfold W;grind
  have AZ:=hG.aN t (VU ht);obtain⟨y,hy,_⟩:=cZ hf AZ;obtain⟨t1,t2,t3,t4,t5⟩:=bX hf hn AZ;have zL:bB n t=y.aZ:=by unfold bB;grind
  have Ac:V (o.aH+1)=o.aH+1:=aV (by have:=hG.len;omega)
  simp only[X hs,VX,Yx,Uo,G,t2]
  by_cases he:cH n t=aQ
  ·have ea:R n aQ o=Es n aQ o t:=by unfold R;grind
   have ed:gX n aQ i o=⟨((i+1:Nat):Int),aQ,2,⟨#[]⟩,t⟩::(if bB n t=o.aZ then [⟨((i+1:Nat):Int),aQ,4,bB n t,⟨0,0⟩⟩]else []):=by unfold gX;grind
   unfold n9;rw[ea,ed];unfold Es;simp only[X he,VX,Ew,bw,WS,Ac];have e1:=Li hI.aL ⟨((i+1:Nat):Int),aQ,2,⟨#[]⟩,t⟩;have hw:w=⟨n,w.ae,w.av,w.ak,w.now,w.aL,w.skip,w.br⟩:=by rw[<-hI.dp]
   rw[<-hI.dp]at hy
   rw[show(⟨n,w.ae,w.av,w.ak,w.now,w.aL,w.skip,w.br⟩:aw)=w from hw.symm,e1];simp only[G,ir,hg,hy,zL]
   by_cases hc:y.aZ=o.aZ
   ·have inv2:rV { ir w ⟨((i+1:Nat):Int),aQ,2,⟨#[]⟩,t⟩with ae:=w.ae.set i ⟨o.ar,o.aZ,o.ax,o.ah,o.aQ,o.fc,o.aE,o.aH+1,3,y.aZ,aQ⟩}:=by
     obtain⟨a,b,c⟩:=yi hI.aL ⟨((i+1:Nat):Int),aQ,2,⟨#[]⟩,t⟩;exact⟨a,b,c⟩
    have e2:=Li inv2 ⟨((i+1:Nat):Int),aQ,4,o.aZ,⟨0,0⟩⟩;unfold ir at e2
    simp only[if_pos hc,iI,Wq,ir]
    grind
   ·simp only[Yt hc,Yx,if_neg hc,iI,Wq,Wm,ir]
  ·have ea:R n aQ o=o:=by unfold R;grind
   have ed:gX n aQ i o=[]:=by unfold gX;grind
   simp only[Yt he,WI,Yw,n9,ea,ed,iI,Wm,rQ ho]
 ·have ea:R n aQ o=o:=by
   unfold R
   grind
  have ed:gX n aQ i o=[]:=by
   unfold gX
   grind
  simp only[Yt hs,WI,Yw,n9,ea,ed,iI,Wm,rQ ho]
theorem ZfC(w0:aw)(h0:w0.aa=n)(o0:OwT){aQ:Int}(i:Nat)(o:M)(w:aw)(hl:C w.ae=C o0.2.2.2.2.2.1)(ho:w.ae[i]?=F o)(hI:pb n 0 w)(hG:tg n o):
 iQ w0 aQ o0 (Fg i w)=F (.inl (Fg ((i+1:Nat):Int) (n9 (oZ n aQ) (pq n aQ) i o w))):=by
 have bD:=(VT.1 ho).1;have hgg:=hG.aH;have hg:W w.ae (i:Int)=F o:=by rw[aS];omega
 have hr:zU w.ae (i:Int)=F o:=hg;have hi:V ((i:Int)+1)=((i+1:Nat):Int):=bz bD (by have:=hI.ae;omega)
 have hd:Zg ((i:Int)<(C o0.2.2.2.2.2.1:Int))=true:=X E;have uf:(⟨w.aa.aC,w.aa.off,w0.aa.change⟩:ab)=n:=by rw[hI.dp,h0]
 unfold iQ Fg zQ;simp only[hd,Yw,hg,G,hi,uf,lI]
 by_cases hs:o.state=1
 ·by_cases vd:o.aH<C o.aE
  ·have EY:o.aH.toNat<C o.aE:=E
   have ht:o.aE[o.aH.toNat]?=F o.aE[o.aH.toNat]:=VS EY;generalize o.aE[o.aH.toNat]=t at ht
   have Uo:W o.aE o.aH=F t:=by unfold W;grind
   have AZ:=hG.aN t (VU ht);obtain⟨t1,t2,t3,t4,t5⟩:=bX hf hn AZ;simp only[X hs,X vd,Yw,Uo,G,t1]
   by_cases he:bY n t=aQ
   ·have ea:oZ n aQ o=⟨o.ar,o.aZ,o.ax,o.ah,o.aQ,o.fc,o.aE,o.aH,2,⟨#[]⟩,o.bK⟩:=by unfold oZ;grind
    have ed:pq n aQ i o=[⟨((i+1:Nat):Int),aQ,3,⟨#[]⟩,t⟩]:=by unfold pq;grind
    have hr2:zU (w.ae.set i (⟨o.ar,o.aZ,o.ax,o.ah,o.aQ,o.fc,o.aE,o.aH,2,⟨#[]⟩,o.bK⟩:M)) (i:Int)=F ⟨o.ar,o.aZ,o.ax,o.ah,o.aQ,o.fc,o.aE,o.aH,2,⟨#[]⟩,o.bK⟩:=by
     unfold zU;rw[aS,WR bD]
    have inv1:rV { w with ae:=w.ae.set i ⟨o.ar,o.aZ,o.ax,o.ah,o.aQ,o.fc,o.aE,o.aH,2,⟨#[]⟩,o.bK⟩}:=⟨hI.aL.skip,hI.aL.len,hI.aL.br⟩
    have e1:=Lh inv1 ⟨((i+1:Nat):Int),aQ,3,⟨#[]⟩,t⟩;have hnw:w.aa=n:=hI.dp;simp only[hnw]at e1
    unfold n9;rw[ea,ed];simp only[X he,Yw,hr,G,Ew,bw,rF,WS,hr2,Uo,e1,iI,Wq,Wm,hnw]
   ·obtain⟨ea,ed⟩:=uT (n:=n) (aQ:=aQ) (i:=i) (.inr (.inr ⟨t,ht,he⟩))
    simp only[Yt he,Yx,n9,ea,ed,iI,Wm,rQ ho]
  ·obtain⟨ea,ed⟩:=uT (n:=n) (aQ:=aQ) (i:=i) (o:=o) (.inr (.inl (Xl E)))
   simp only[X hs,Yt vd,Yw,Yx,n9,ea,ed,iI,Wm,rQ ho]
 ·obtain⟨ea,ed⟩:=uT (n:=n) (aQ:=aQ) (i:=i) (o:=o) (.inl hs)
  simp only[Yt hs,Yx,n9,ea,ed,iI,Wm,rQ ho]
theorem ZfD{aQ:Int}(i:Nat)(o:M)(w:aw)(ho:w.ae[i]?=F o)(hI:pb n 0 w)(hG:tg n o):
 j6 aQ (Fg i w)=F (.inl (Fg ((i+1:Nat):Int) (n9 (oZ n aQ) (pq n aQ) i o w))):=by
 have bD:=(VT.1 ho).1;have hgg:=hG.aH;have hg:W w.ae (i:Int)=F o:=by rw[aS];omega
 have hi:V ((i:Int)+1)=((i+1:Nat):Int):=bz bD (by have:=hI.ae;omega)
 have hd:Zg ((i:Int)<(C w.ae:Int))=true:=X E;have Nf:(⟨w.aa.aC,w.aa.off,w.aa.change⟩:ab)=n:=hI.dp;unfold j6 Fg zQ;simp only[hd,Yw,hg,G,hi,Nf]
 by_cases hs:o.state=1
 ·by_cases vd:o.aH<C o.aE
  ·have EY:o.aH.toNat<C o.aE:=E
   have ht:o.aE[o.aH.toNat]?=F o.aE[o.aH.toNat]:=VS EY;generalize o.aE[o.aH.toNat]=t at ht
   have Uo:W o.aE o.aH=F t:=by unfold W;grind
   have AZ:=hG.aN t (VU ht);obtain⟨t1,t2,t3,t4,t5⟩:=bX hf hn AZ;simp only[X hs,X vd,Yw,Uo,G,t1]
   by_cases he:bY n t=aQ
   ·have ea:oZ n aQ o=⟨o.ar,o.aZ,o.ax,o.ah,o.aQ,o.fc,o.aE,o.aH,2,⟨#[]⟩,o.bK⟩:=by unfold oZ;grind
    have ed:pq n aQ i o=[⟨((i+1:Nat):Int),aQ,3,⟨#[]⟩,t⟩]:=by unfold pq;grind
    have inv1:rV { w with ae:=w.ae.set i ⟨o.ar,o.aZ,o.ax,o.ah,o.aQ,o.fc,o.aE,o.aH,2,⟨#[]⟩,o.bK⟩}:=⟨hI.aL.skip,hI.aL.len,hI.aL.br⟩
    have e1:=Li inv1 ⟨((i+1:Nat):Int),aQ,3,⟨#[]⟩,t⟩;have hnw:w.aa=n:=hI.dp;simp only[hnw]at e1
    unfold n9;rw[ea,ed];simp only[X he,Yw,G,Ew,bw,WS,e1,iI,Wq,Wm,hnw]
   ·obtain⟨ea,ed⟩:=uT (n:=n) (aQ:=aQ) (i:=i) (.inr (.inr ⟨t,ht,he⟩))
    simp only[Yt he,Yx,n9,ea,ed,iI,Wm,rQ ho]
  ·obtain⟨ea,ed⟩:=uT (n:=n) (aQ:=aQ) (i:=i) (o:=o) (.inr (.inl (Xl E)))
   simp only[X hs,Yt vd,Yw,Yx,n9,ea,ed,iI,Wm,rQ ho]
 ·obtain⟨ea,ed⟩:=uT (n:=n) (aQ:=aQ) (i:=i) (o:=o) (.inl hs)
  simp only[Yt hs,Yx,n9,ea,ed,iI,Wm,rQ ho]
end
structure Is(w:aw):Prop where
 dp:cD w.aa
 St:aX w.aa=F Ze
 inv:pb w.aa 0 w
 ord:∀o∈w.ae,tg w.aa o
theorem Oj{n:ab}{aQ:Int}(h:tg n o):tg n (R n aQ o):=by
 have hs:=yk n aQ o;refine⟨?_,by rw[hs.aE];exact h.len,by rw[hs.aE];exact h.aN,?_⟩
 ·have:=h.aH
  unfold R
  split
  ·rename_i t ht
   split
   ·unfold Es;grind
   omega
  omega
 ·unfold R
  split
  ·split
   ·unfold Es;grind
   grind
  ·exact h.Af
theorem D5{w:aw}(h:Is w)(aQ:Int):nD w aQ=F (gw w aQ)/\pV w aQ=F (gw w aQ):=by
 have hlen:=h.inv.ae;have p1:wZ (R w.aa aQ) (gX w.aa aQ) 0 w.ae w={ w with ae:=w.ae.map (R w.aa aQ),aL:=((ot (gX w.aa aQ) 0 w.ae).foldl (mu w.skip) (w.aL,w.br)).1,br:=((ot (gX w.aa aQ) 0 w.ae).foldl (mu w.skip) (w.aL,w.br)).2}:=by
  have:=GO (R w.aa aQ) (gX w.aa aQ) w.ae [] w rfl
  grind
 have i1:pb w.aa 0 (wZ (R w.aa aQ) (gX w.aa aQ) 0 w.ae w):=by
  have:∀(os:D M) (i:Nat) (v:aw),pb w.aa 0 v->pb w.aa 0 (wZ (R w.aa aQ) (gX w.aa aQ) i os v):=by
   intro os
   induction os with
   |nil=>intro i v hv;exact hv
   |cons o os ih=>intro i v hv;exact ih (i+1) _ (hv.step _ _ i o)
  exact this _ _ _ h.inv
 have p2:=GO (oZ w.aa aQ) (pq w.aa aQ) (w.ae.map (R w.aa aQ)) [] (wZ (R w.aa aQ) (gX w.aa aQ) 0 w.ae w) YD;simp at p2
 have ZbE:∀(j:Nat) (o:M),w.ae[j]?=F o->tg w.aa o:=λj o ho=>h.ord o (VU ho)
 have ZbF:∀(j:Nat) (o:M),(w.ae.map (R w.aa aQ))[j]?=F o->tg w.aa o:=λj o ho=>by
  rw[Wp]at ho
  obtain⟨o0,h0,rfl⟩:=Wc.1 ho;exact Oj (ZbE j o0 h0)
 have fin:∀v:aw,v=wZ (oZ w.aa aQ) (pq w.aa aQ) 0 (w.ae.map (R w.aa aQ)) (wZ (R w.aa aQ) (gX w.aa aQ) 0 w.ae w)->{ v with now:=aQ}=gw w aQ:=by
  rw[p2,p1];unfold gw yS o7;simp
 constructor
 ·unfold nD
  have l1:=wT (f:=R w.aa aQ) (g:=gX w.aa aQ) (body:=iP w aQ) (n:=C w.ae) (Inv:=pb w.aa 0) (Good:=λ_ o=>tg w.aa o)
   (λi o v hv ho hI hG=>⟨ZfA h.dp h.St w rfl hlen i o v hv ho hI hG,hI.step _ _ i o⟩)
   (λv hv=>by unfold iP Fg zQ;simp) w.ae 0 NN w rfl rfl (Ws _) YF h.inv ZbE
  have e1:((0:Int),w.aa.change,w.now,w.br,w.aa.aC,w.aa.off,w.ae,w.av,w.ak,w.skip,w.aL)=Fg ((0:Nat):Int) w:=rfl;rw[e1,l1,G];generalize hv1:wZ (R w.aa aQ) (gX w.aa aQ) 0 w.ae w=v1 at *
  have l2:=wT (f:=oZ w.aa aQ) (g:=pq w.aa aQ) (body:=iQ w aQ (zQ v1)) (n:=C v1.ae) (Inv:=pb w.aa 0) (Good:=λ_ o=>tg w.aa o)
   (λi o v hv ho hI hG=>⟨ZfC h.dp h.St w rfl (zQ v1) i o v hv ho hI hG,hI.step _ _ i o⟩)
   (λv hv=>by unfold iQ Fg zQ;simp) (w.ae.map (R w.aa aQ)) 0 NN v1 YD rfl (Ws _) (by rw[Wi];unfold NN;omega) i1 ZbF
  have e2:((0:Int),(zQ v1).1,(zQ v1).2.1,(zQ v1).2.2.1,(zQ v1).2.2.2.1,(zQ v1).2.2.2.2.1,(zQ v1).2.2.2.2.2.1,(zQ v1).2.2.2.2.2.2.1,(zQ v1).2.2.2.2.2.2.2.1,(zQ v1).2.2.2.2.2.2.2.2.1,(zQ v1).2.2.2.2.2.2.2.2.2)=Fg ((0:Nat):Int) v1:=rfl;rw[e2,l2];exact Zo F (fin _ rfl)
 ·unfold pV
  have l1:=wT (f:=R w.aa aQ) (g:=gX w.aa aQ) (body:=j5 aQ) (n:=C w.ae) (Inv:=pb w.aa 0) (Good:=λ_ o=>tg w.aa o)
   (λi o v hv ho hI hG=>⟨ZfB h.dp h.St i o v ho hI hG,hI.step _ _ i o⟩)
   (λv hv=>by unfold j5 Fg zQ;grind) w.ae 0 NN w rfl rfl (Ws _) YF h.inv ZbE
  have e1:((0:Int),w.aa.change,w.now,w.br,w.aa.aC,w.aa.off,w.ae,w.av,w.ak,w.skip,w.aL)=Fg ((0:Nat):Int) w:=rfl;rw[e1,l1,G];generalize hv1:wZ (R w.aa aQ) (gX w.aa aQ) 0 w.ae w=v1 at *
  have l2:=wT (f:=oZ w.aa aQ) (g:=pq w.aa aQ) (body:=j6 aQ) (n:=C v1.ae) (Inv:=pb w.aa 0) (Good:=λ_ o=>tg w.aa o)
   (λi o v hv ho hI hG=>⟨ZfD h.dp h.St i o v ho hI hG,hI.step _ _ i o⟩)
   (λv hv=>by unfold j6 Fg zQ;grind) (w.ae.map (R w.aa aQ)) 0 NN v1 YD rfl (Ws _) (by rw[Wi];unfold NN;omega) i1 ZbF
  have e2:((0:Int),(zQ v1).1,(zQ v1).2.1,(zQ v1).2.2.1,(zQ v1).2.2.2.1,(zQ v1).2.2.2.2.1,(zQ v1).2.2.2.2.2.1,(zQ v1).2.2.2.2.2.2.1,(zQ v1).2.2.2.2.2.2.2.1,(zQ v1).2.2.2.2.2.2.2.2.1,(zQ v1).2.2.2.2.2.2.2.2.2)=Fg ((0:Nat):Int) v1:=rfl;rw[e2,l2];exact Zo F (fin _ rfl)
theorem il{σ ο:Type}{body:σ->O (σ⊕ο)}(S:Nat->σ){n:Nat}{o:ο}(h1:∀i,i<n->body (S i)=F (.inl (S (i+1))))(h2:body (S n)=F (.inr o)):∀N,n<N->aB body N (S 0)=F o:=by
 have key:∀d j,j+d=n->∀N,d<N->aB body N (S j)=F o:=by
  intro d
  induction d with
  |zero=>
   intro j hj N hN;have:j=n:=E;unfold aB;grind
  |succ d ih=>
   unfold aB
   grind
 grind
theorem DD{A α:Type}(f:A->α->A):∀(xs:D α) (i:Nat) (a:A),w9 (λ_ a x=>F (.inl (f a x):A⊕A)) F i xs a=F (xs.foldl f a)
 | [],i,a=>rfl
 |x::xs,i,a=>by
  exact DD f xs (i+1) (f a x)
theorem KB{w:aw}(h:oc w):iL w=F (fV w):=by
 have uf:=h.dp;have Ib:=h.fit.ae;have e1:aB (gf w) NN ((-1),0)=F (fV w):=by
  rw[tz (xs:=w.ae) (A:=Int) (λa i=>(a,i)) (λ_ a o=>F (.inl (tc a (Z w.aa o)))) F (λa i o ho=>?_) (λa=>?_) YF (-1)]
  ·exact DD (λa o=>tc a (Z w.aa o)) w.ae 0 (-1)
  ·have bD:=(VT.1 ho).1
   have hg:W w.ae (i:Int)=F o:=by rw[aS];omega
   have hi:V ((i:Int)+1)=((i+1:Nat):Int):=bz bD E;have hok:=iV h.fit h.ok ho;unfold gf;simp only[X (show(i:Int)<C w.ae by omega),hg,G,hi,lI,qm]
   by_cases vd:o.aH<C o.aE
   ·obtain⟨t,htg,AZ⟩:=DK h.fit h.ok ho hok.aH.1 vd
    obtain⟨t1,t2,t3,t4,t5⟩:=bX h.fit.dp uf AZ;have ht:o.aE[o.aH.toNat]?=F t:=by unfold W at htg;grind
    have ev:Z w.aa o=F (if o.state=2 then cH w.aa t else bY w.aa t):=by unfold Z;grind
    simp only[tc]
    rcases hok.cases with⟨c1,_⟩ |⟨c1,_⟩ |⟨c1,c2,_⟩
    all_goals grind
   ·have ev:Z w.aa o=none:=by unfold Z;grind
    rw[ev,Yt vd]
    rcases hok.cases with⟨c1,_⟩ |⟨c1,_⟩ |⟨c1,c2,_⟩
    ·rw[c1];rfl
    ·omega
    ·rw[c1];rfl
  ·unfold gf
   simp
 unfold iL
 grind
theorem Zfk{w:aw}(h:oc w):oR w=F (fV w):=by
 have h1:=Zfi h.fit h.ok;rw[KB h]at h1
 unfold oR;rw[nZ h.fit,h.ok]
 grind
theorem Br{n c:Nat}(h:n<=1048576)(hc:c<=1024):cf (bn (0+n) c)=F ():=fv E hc
theorem ZlY{n c:Nat}(h:n<=1048576)(hc:c<=1024):cf (bn n c)=F ():=by have:=Br h hc;grind
theorem T0{n:ab}(h:cD n):kq n=F n:=by
 unfold kq;simp only[V2,Br h.aC (show 64<=1024 by omega),Br h.off (show 8<=1024 by omega),G,WO]
theorem vO{l:D au}(h:C l<=1048576):eQ l=F l:=by
 unfold eQ;simp only[V2,Br h (show 16<=1024 by omega),G,WO]
theorem P0(h:C l<=1048576):gZ l=F l:=by
 unfold gZ;simp only[V2,Br h (show 32<=1024 by omega),G,WO]
theorem xM{xs:D α}(h:xs[i]?=F x):xs.take i++[x]=xs.take (i+1):=by
 rw[List.take_add_one,h];rfl
theorem Bu{w:aw}(h:sE w):eG w=F w:=by
 have Ib:=h.ae;unfold eG;rw[T0 h.dp,P0 h.av,vO h.ak];have e:aB (gR w w.aa w.av w.ak) NN (0,[])=F w.ae:=by
  have:=il (body:=gR w w.aa w.av w.ak) (λi:Nat=>((i:Int),w.ae.take i)) (n:=C w.ae) (o:=w.ae) (λi hi=>?_) ?_ NN YF
  ·grind
  ·have ho:w.ae[i]?=F w.ae[i]:=VS hi
   have hg:W w.ae (i:Int)=F w.ae[i]:=by rw[aS];omega
   have hw:V ((i:Int)+1)=((i+1:Nat):Int):=bz hi E;have hl:C (w.ae.take i)+1<=1048576:=by grind
   unfold gR;simp only[X (show(i:Int)<C w.ae by omega),Yw,hg,G,vO (h.aE _ (Wk hi)),V0,V2,fv hl (show 128<=1024 by omega),hw]
   rw[<-xM ho]
  ·unfold gR
   simp
 simp only[V2,Br h.aL (show 56<=1024 by omega),Br h.skip (show 8<=1024 by omega),G,e,WO]
theorem xC{l:D Int}(h:C l<=1048576):eK l=F l:=by
 unfold eK;simp only[V2,Br h (show 8<=1024 by omega),G,WO]
theorem tr(h:C l<=1048576):lz l=F l:=by
 unfold lz;simp only[V2,Br h (show 32<=1024 by omega),G,WO]
theorem uE{w:aw}(h:sE w):fq w=F w:=by
 have Ib:=h.ae;unfold fq;have e:aB (jD w w.aa.off) NN (0,([]:D M))=F w.ae:=by
  have:=il (body:=jD w w.aa.off) (λi:Nat=>((i:Int),w.ae.take i)) (n:=C w.ae) (o:=w.ae) (λi hi=>?_) ?_ NN YF
  ·grind
  ·have ho:w.ae[i]?=F w.ae[i]:=VS hi
   have hg:W w.ae (i:Int)=F w.ae[i]:=by rw[aS];omega
   have hw:V ((i:Int)+1)=((i+1:Nat):Int):=bz hi E;have hl:C (w.ae.take i)+1<=1048576:=by grind
   unfold jD;simp only[X (show(i:Int)<C w.ae by omega),Yw,hg,G,ZlY (h.aE _ (Wk hi)) (show 16<=1024 by omega),Ev,V0,V2,Nat.zero_add,fv hl (show 128<=1024 by omega),hw,WO]
   rw[<-xM ho]
  ·unfold jD
   simp
 simp only[V2,Br h.dp.aC (show 64<=1024 by omega),xC h.dp.off,xC h.skip,Br h.ak (show 16<=1024 by omega),Br h.aL (show 56<=1024 by omega),G,e,tr h.av,WO]
abbrev OwA:=Int×Int×Int×(D bP)×(D Int)×(D M)×(D aq)×(D au)×(D aI)×(D Int)
def owA(w:aw):OwA:=(w.aa.change,w.now,w.br,w.aa.aC,w.aa.off,w.ae,w.av,w.ak,w.aL,w.skip)
theorem oc.pass{w:aw}(h:oc w):Is w:=by
 have hp:=h.parts;refine⟨h.fit.dp,h.dp,⟨rfl,⟨h.fit.skip,hp.2.2.2.1,E⟩,h.fit.ae⟩,λo ho=>?_⟩
 obtain⟨i,hi,rfl⟩:=V3 ho;have hok:=iV h.fit h.ok (VS hi);refine⟨hok.aH,h.fit.aE _ ho,hok.aN,λhs=>?_⟩
 rcases hok.cases with⟨c,_⟩ |⟨_,c⟩ |⟨c,_⟩
 all_goals omega
theorem Cj{w:aw}(h:fV w<0\/u<fV w):uj k w u=w:=by
 cases k with
 |zero=>rfl
 |succ k=>unfold uj;grind
theorem Zde{w:aw}(h:oc w)(hk:qw w<=k)(hu:u<=100000)(hc:¬(fV w<0\/u<fV w)):uj k w u=uj (k-1) (gw w (fV w)) u:=by
 have:=tU h E
 cases k with
 |zero=>omega
 |succ k=>
  rw[Nat.add_sub_cancel]
  conv=>lhs;unfold uj;rw[if_neg hc]
theorem Fu{u:Int}(hu:u<=100000):∀(N k:Nat) (w:aw),oc w->qw w<=k->k<N->aB (lf u) N (fV w,owA w)=F (owA (uj k w u))
 |0,k,w,_,_,hN=>E
 |N+1,k,w,h,hk,hN=>by
  simp only[aB];unfold lf;simp only[owA]
  by_cases h0:0<=fV w
  ·by_cases h1:fV w<=u
   ·obtain⟨a,b,c⟩:=tT h h0
    have ht:=tU h h0;have hb:=(D5 h.pass (fV w)).1;rw[Zde h hk hu E];simp only[X h0,X h1,G,hb,KB a];exact Fu hu N (k-1) _ a E E
   ·rw[Cj (.inr E)]
    grind
  ·rw[Cj (.inl E)]
   grind
theorem It{w:aw}(hf:sE w)(u:Int):kQ w u=F (if eY w=Ze/\w.now<=u/\u<=100000 then vG w u else w):=by
 unfold kQ;rw[Bu hf,qz hf,gV,cO]
 cases hv:eY w with
 |false=>simp
 |true=>
  have h:oc w:=⟨hf,hv⟩
  by_cases h1:w.now<=u
  ·by_cases h2:u<=100000
   ·have e:(fV w,w.aa.change,w.now,w.br,w.aa.aC,w.aa.off,w.ae,w.av,w.ak,w.aL,w.skip)=(fV w,owA w):=rfl
    have hp:=h.parts;have hN:qw w<NN:=by
     have:∀l:D M,(∀o∈l,C o.aE<=1048576)->(l.map ke).sum<=2097152*C l:=by
      intro l
      induction l with
      |nil=>simp
      |cons o l ih=>
       intro hl;have h2:=hl o Wo;have h3:ke o<=2*C o.aE:=by unfold ke;omega
       grind
     have:=this w.ae hf.aE;unfold qw NN;omega
    simp only[KB h,G,h1,h2,e,Fu h2 NN (qw w) w h (VW _) hN];rfl
   grind
  grind
theorem Tl{w:aw}(h:oc w):qw w<=240:=by
 have hp:=h.parts;have hv:=h.ok;unfold eY at hv
 simp at hv
 have ht:=hv.2;have key:∀(l:D M) (a:Int),(∀o∈l,C o.aE<=1048576)->C l<=30->0<=a->a<=1048576*(30-C l:Nat)->l.foldl (λa o=>V (a+(C o.aE:Int))) a=a+((l.map λo=>C o.aE).sum:Nat):=by
  intro l
  induction l with
  |nil=>simp
  |cons o l ih=>
   intro a hl hn h0 h1;have h2:=hl o Wo;have hw:V (a+(C o.aE:Int))=a+(C o.aE:Int):=aV E
   grind
 have hs:=key w.ae 0 h.fit.aE hp.2.1 E E;unfold xP at ht
 have h2:qw w<=2*((w.ae.map λo=>C o.aE).sum):=by
  unfold qw;have:∀l:D M,(l.map ke).sum<=2*(l.map λo=>C o.aE).sum:=by
   intro l
   induction l with
   |nil=>simp
   |cons o l ih=>
    have:ke o<=2*C o.aE:=by unfold ke;omega
    grind
  grind
 omega
theorem Fv{u:Int}(hu:u<=100000):∀(N k j:Nat) (w:aw),oc w->qw w<=k->j+k=240->k<N->aB (mB u) N ((j:Int),owA w)=F (owA (uj k w u))
 |0,k,j,w,_,_,_,hN=>E
 |N+1,k,j,w,h,hk,hj,hN=>by
  simp only[aB];unfold mB;simp only[owA]
  by_cases hj2:j<240
  ·simp only[X (show(j:Int)<240 by omega),Zfk h]
   by_cases h0:fV w<0
   ·rw[Cj (.inl h0)]
    grind
   ·by_cases h1:u<fV w
    ·rw[Cj (.inr h1)]
     grind
    ·obtain⟨a,b,c⟩:=tT h E
     have ht:=tU h E;have hb:=(D5 h.pass (fV w)).2;have Ac:V ((j:Int)+1)=((j+1:Nat):Int):=by rw[aV E];omega
     rw[Zde h hk hu E];simp only[Yt h0,Yt h1,Yx,bw,G,hb,Ac];exact Fv hu N (k-1) (j+1) _ a E E E
  ·have BG:k=0:=E
   subst BG;simp only[Yt (show ¬(j:Int)<240 by omega)]
   rfl
theorem CG{w:aw}(hf:sE w)(u:Int):gG w u=F (if eY w=Ze/\w.now<=u/\u<=100000 then vG w u else w):=by
 unfold gG;rw[uE hf,nZ hf,cO]
 cases hv:eY w with
 |false=>simp
 |true=>
  have h:oc w:=⟨hf,hv⟩
  by_cases h1:w.now<=u
  ·by_cases h2:u<=100000
   ·have e:((0:Int),w.aa.change,w.now,w.br,w.aa.aC,w.aa.off,w.ae,w.av,w.ak,w.aL,w.skip)=(((0:Nat):Int),owA w):=rfl
    simp only[VX,Yx,X h1,X h2,Bool.and_self,h1,h2,and_self,if_true,e,Fv h2 NN 240 0 w h (Tl h) rfl YF,G];rw[Zf4 h (Tl h) (VW _) h2];rfl
   grind
  grind
def mg(o:aD)(s0:Int):O (Int⊕(T⊕Bool)):=
 J (Zg (s0<(C o.aK:Int)))
 (Y (qt o s0) λy6=>
 J (!y6)
 (F (.inr (.inr Zf)))
 (F (.inl (V (s0+1)))))
 (F (.inr (.inl ())))
instance (o:aD):bm (mg o):=⟨λs0=>(.un::.be 0 0 0::.un::vi s0::(U 103 [])),λs0=>[F ⟨.of 40,16,[eD o]⟩]⟩
def mh(o:aD)(s1:Int):O (Int⊕(T⊕Bool)):=
 J (Zg (s1<(C o.lines:Int)))
 (Y (W o.lines s1) λy7=>
 J (Zg ((C o.aK:Int)<y7.order))
 (F (.inr (.inr Zf)))
 (Y (W o.lines s1) λy8=>
 J (Zg (o.world.now<y8.aQ))
 (F (.inr (.inr Zf)))
 (F (.inl (V (s1+1))))))
 (F (.inr (.inl ())))
instance (o:aD):bm (mh o):=⟨λs1=>(.un::.be 0 0 0::.un::.un::vi s1::(U 102 [])),λs1=>[F ⟨.of 40,16,[eD o]⟩]⟩
def mi(o:aD)(s2:Int):O (Int⊕(T⊕Bool)):=
 J (Zg (s2<(C o.aF:Int)))
 (Y (W o.aF s2) λy9=>
 Y (fM y9) λdO=>
 J (!dO)
 (F (.inr (.inr Zf)))
 (F (.inl (V (s2+1)))))
 (F (.inr (.inl ())))
instance (o:aD):bm (mi o):=⟨λs2=>(.un::.be 0 0 0::(U 3 (vi s2::(U 101 [])))),λs2=>[F ⟨.of 40,16,[eD o]⟩]⟩
def mX(o:aD):O Bool:=
 Y (gH o.world) λy1=>
 J (!y1)
 (F Zf)
 (Y (kM o.bb) λy2=>
 J (!y2)
 (F Zf)
 (Y (mW o.bd (C o.bb:Int)) λy3=>
 J (!y3)
 (F Zf)
 (Y (fH o.aU) λy4=>
 J (!y4)
 (F Zf)
 (Y (fk o.lines) λy5=>
 J (!y5)
 (F Zf)
 (J (!decide ((C o.aK:Int)=(C o.world.ae:Int)))
 (F Zf)
 (J (Zg (150<(C o.aF:Int)))
 (F Zf)
 ((aB (mg o) NN 0).bind (bj (λo0=>
 (aB (mh o) NN 0).bind (bj (λo1=>
 (aB (mi o) NN 0).bind (bj (λo2=>
 F Ze) (λr=>F r))) (λr=>F r))) (λr=>F r)))))))))
instance (o:aD):CT prog (mX o):=⟨78,[.ag (eD o)],[],λr=>vb r,λr=>[],cw (mX.eq_1 ..) func78 ntmps78 results78⟩
theorem jf(l:D L)(p:L):-1<=bc l p/\bc l p<C l:=by
 unfold bc
 cases h:l.findIdx? λy=>Zg (y=p)with
 |none=>grind
 |some k=>
  have:=(List.findIdx?_eq_some_iff_getElem.1 h).1
  simp_all
theorem iX{l:D L}{p:L}(h:p∈l):0<=bc l p:=by
 unfold bc
 cases h':l.findIdx? λy=>Zg (y=p)with
 |none=>
  grind
 |some k=>simp
theorem mz{n:ab}{l:bP}(h:l∈n.aC):l.ar∈K n/\l.aZ∈K n:=by
 obtain⟨i,hi,rfl⟩:=V3 h;obtain⟨a,b⟩:=I4 hi;unfold K;exact⟨uO.2 (.inl (VU a)),uO.2 (.inl (VU b))⟩
theorem fB{xs:D α}{i:Int}(h:0<=i/\i<C xs):∃x,W xs i=F x/\x∈xs:=by
 have bD:i.toNat<C xs:=E;exact⟨xs[i.toNat],by unfold W;simp_all,Wk bD⟩
section
variable {n:ab} (hf:cD n)
include hf
theorem Dz:C (K n)<=2097152:=by have:=dR n;have:=hf.aC;omega
theorem kP(p:L):cy (K n) p=F (bc (K n) p):=qW (by have:=Dz hf;omega) p
theorem Rr(bq day:Int):∃b,cN n bq day=F b:=(sW hf bq day).2
theorem vm(hl:C l<=1048576)(hc:C ak<=1048576){bq:Int}(hy:W n.aC bq=F y)(aQ ah:Int):aO (dc n l ak bq aQ ah) λr=>True:=by
 unfold dc;have H9:aO (aB (df n l ak bq aQ ah) NN 0) λr=>True:=by
  refine aO.loop (λk s=>∃i:Nat,s=(i:Int)/\i+k=61) (λk s hs=>?_) NN 61 0 ⟨0,rfl,rfl⟩ YF
  obtain⟨i,rfl,hk⟩:=hs;unfold df;refine aO.cond (λhd=>?_) λhd=>aO.ret trivial
  have hi:=Yu hd;have hw:V ((i:Int)+1)=((i+1:Nat):Int):=by rw[aV E];omega
  have go:∀{σ:Type},sH (λk (s:Int)=>∃i:Nat,s=(i:Int)/\i+k=61) (λr:T⊕Int=>True) k (Xp (V ((i:Int)+1))):=⟨k-1,E,i+1,hw,E⟩
  obtain⟨b,hb⟩:=Rr hf bq (i:Int);obtain⟨v,hv⟩:=o6 (n:=n) (t:=⟨bq,(i:Int)⟩) hy;obtain⟨q,hq⟩:=vV hl (⟨bq,(i:Int)⟩:au);rw[hb,G];refine aO.cond (λ_=>?_) λ_=>aO.ret (go (σ:=T))
  rw[hv,G];refine aO.cond (λ_=>?_) λ_=>aO.ret (go (σ:=T))
  rw[jH,jx hc,G];refine aO.cond (λ_=>?_) λ_=>aO.ret (go (σ:=T))
  rw[hy,G,hq,G];exact aO.cond (λ_=>aO.ret trivial) λ_=>aO.ret (go (σ:=T))
 refine aO.bind H9 λr _=>?_
 cases r with
 |inl u=>exact aO.ret trivial
 |inr v=>exact aO.ret trivial
theorem Gt{bq:Int}(hy:W n.aC bq=F y)(aQ:Int):aO (ly n bq aQ) λr=>True:=by
 unfold ly;have H9:aO (aB (lH n bq aQ) NN 0) λr=>True:=by
  refine aO.loop (λk s=>∃i:Nat,s=(i:Int)/\i+k=61) (λk s hs=>?_) NN 61 0 ⟨0,rfl,rfl⟩ YF
  obtain⟨i,rfl,hk⟩:=hs;unfold lH;refine aO.cond (λhd=>?_) λhd=>aO.ret trivial
  have hi:=Yu hd;have hw:V ((i:Int)+1)=((i+1:Nat):Int):=by rw[aV E];omega
  have go:∀{σ:Type},sH (λk (s:Int)=>∃i:Nat,s=(i:Int)/\i+k=61) (λr:T⊕Int=>True) k (Xp (V ((i:Int)+1))):=⟨k-1,E,i+1,hw,E⟩
  obtain⟨b,hb⟩:=Rr hf bq (i:Int);obtain⟨v,hv⟩:=o6 (n:=n) (t:=⟨bq,(i:Int)⟩) hy;rw[hb,G];refine aO.cond (λ_=>?_) λ_=>aO.ret (go (σ:=T))
  rw[hv,G];exact aO.cond (λ_=>aO.ret trivial) λ_=>aO.ret (go (σ:=T))
 refine aO.bind H9 λr _=>?_
 cases r with
 |inl u=>exact aO.ret trivial
 |inr v=>exact aO.ret trivial
omit hf in
theorem sA(a:Int)(b:Bool):aO (dI n a b) λr=>True:=by
 unfold dI;exact aO.cond (λ_=>aO.ret trivial) λ_=>aO.ret trivial
omit hf in
theorem E6(a b:Int):aO (gv a b) λr=>True:=by
 unfold gv;exact aO.cond (λ_=>aO.ret trivial) λ_=>aO.ret trivial
theorem Vz(hl:C l<=1048576)(hc:C ak<=1048576)(ah:Int)(hb:C gK=C (K n))(f:Int):aO (eB n l ak ah (K n) gK f) λr=>C r=C (K n):=by
 have hp:=Dz hf;have Ia:=hf.aC;unfold eB;refine aO.bind (P:=λr=>r=gK) ?_ λr hr=>?_
 ·by_cases h1:C gK<=1048576
  ·exact aO.of (xC h1) rfl
  ·unfold eK
   exact aO.cf (iW YD E) (aO.ret YE)
 ·subst hr
  refine aO.bind (P:=λo=>C o=C (K n)) ?_ λo ho=>aO.ret ho
  refine aO.loop (λk s=>∃i:Nat,s.1=(i:Int)/\i+k=C n.aC/\(C s.2)=C (K n)) (λk s hs=>?_) NN (C n.aC) _ ⟨0,rfl,E,hb⟩ YF
  obtain⟨i,hi,hk,hlen⟩:=hs;unfold eX;rw[hi];refine aO.cond (λhd=>?_) λhd=>aO.ret hlen
  have bD:=Yu hd;have hw:V ((i:Int)+1)=((i+1:Nat):Int):=by rw[aV E];omega
  obtain⟨y,hy,hm⟩:=fB (xs:=n.aC) (i:=(i:Int)) ⟨E,bD⟩;obtain⟨m1,m2⟩:=mz hm;have a0:=iX m1;have a1:=(jf (K n) y.ar).2;have b0:=iX m2;have b1:=(jf (K n) y.aZ).2;obtain⟨v6,g6,_⟩:=fB (xs:=r) (i:=bc (K n) y.ar) ⟨a0,E⟩;obtain⟨v11,g11,_⟩:=fB (xs:=s.2) (i:=bc (K n) y.aZ) ⟨b0,E⟩;simp only[hy,G,kP hf,g6,hw];have go:∀(s':D Int),C s'=C (K n)->sH (λk (s:Int×D Int)=>∃i:Nat,s.1=(i:Int)/\i+k=C n.aC/\(C s.2)=C (K n)) (λo:D Int=>C o=C (K n)) k (Xp (((i+1:Nat):Int),s')):=λs' h'=>⟨k-1,E,i+1,rfl,E,h'⟩
  refine aO.cond (λ_=>aO.ret (go _ hlen)) λ_=>aO.bind (sA _ _) λy8 _=>aO.bind (vm hf hl hc hy y8 ah) λy9 _=>aO.cond (λ_=>aO.ret (go _ hlen)) λ_=>?_
  obtain⟨e,he⟩:=kx (n:=n) (t:=⟨(i:Int),y9⟩) hy;simp only[he,G,g11];exact aO.cond (λ_=>aO.ret (go _ YG)) λ_=>aO.cond (λ_=>aO.ret (go _ YG)) λ_=>aO.ret (go _ hlen)
theorem Rm(hb:C gK=C (K n))(f:Int):aO (mr n (K n) gK f) λr=>C r=C (K n):=by
 have hp:=Dz hf;have Ia:=hf.aC;unfold mr;refine aO.bind (P:=λr=>r=gK) ?_ λr hr=>?_
 ·by_cases h1:C gK<=1048576
  ·exact aO.of (xC h1) rfl
  ·unfold eK
   exact aO.cf (iW YD E) (aO.ret YE)
 ·subst hr
  refine aO.bind (P:=λo=>C o=C (K n)) ?_ λo ho=>aO.ret ho
  refine aO.loop (λk s=>∃i:Nat,s.1=(i:Int)/\i+k=C n.aC/\(C s.2)=C (K n)) (λk s hs=>?_) NN (C n.aC) _ ⟨0,rfl,E,hb⟩ YF
  obtain⟨i,hi,hk,hlen⟩:=hs;unfold nN;rw[hi];refine aO.cond (λhd=>?_) λhd=>aO.ret hlen
  have bD:=Yu hd;have hw:V ((i:Int)+1)=((i+1:Nat):Int):=by rw[aV E];omega
  obtain⟨y,hy,hm⟩:=fB (xs:=n.aC) (i:=(i:Int)) ⟨E,bD⟩;obtain⟨m1,m2⟩:=mz hm;have a0:=iX m1;have a1:=(jf (K n) y.ar).2;have b0:=iX m2;have b1:=(jf (K n) y.aZ).2;obtain⟨v6,g6,_⟩:=fB (xs:=r) (i:=bc (K n) y.ar) ⟨a0,E⟩;obtain⟨v11,g11,_⟩:=fB (xs:=s.2) (i:=bc (K n) y.aZ) ⟨b0,E⟩;simp only[hy,G,kP hf,g6,hw];have go:∀(s':D Int),C s'=C (K n)->sH (λk (s:Int×D Int)=>∃i:Nat,s.1=(i:Int)/\i+k=C n.aC/\(C s.2)=C (K n)) (λo:D Int=>C o=C (K n)) k (Xp (((i+1:Nat):Int),s')):=λs' h'=>⟨k-1,E,i+1,rfl,E,h'⟩
  refine aO.cond (λ_=>aO.ret (go _ hlen)) λ_=>aO.bind (sA _ _) λy8 _=>aO.bind (Gt hf hy y8) λy9 _=>aO.cond (λ_=>aO.ret (go _ hlen)) λ_=>?_
  obtain⟨e,he⟩:=kx (n:=n) (t:=⟨(i:Int),y9⟩) hy;simp only[he,G,g11];exact aO.cond (λ_=>aO.ret (go _ YG)) λ_=>aO.cond (λ_=>aO.ret (go _ YG)) λ_=>aO.ret (go _ hlen)
theorem wK(f aQ:Int):aO (ju (K n) f aQ) λr=>C r=C (K n):=by
 have hp:=Dz hf;unfold ju;refine aO.bind (P:=λo=>C o=C (K n)) ?_ λo ho=>aO.ret ho
 refine aO.loop (λk s=>∃i:Nat,s.1=(i:Int)/\i+k=C (K n)/\(C s.2)=i) (λk s hs=>?_) NN (C (K n)) _ ⟨0,rfl,E,rfl⟩ YF
 obtain⟨i,hi,hk,hlen⟩:=hs;unfold jv;rw[hi];refine aO.cond (λhd=>?_) λhd=>aO.ret (by have:=Yv hd;simp only[sH];omega)
 have bD:=Yu hd;have hw:V ((i:Int)+1)=((i+1:Nat):Int):=by rw[aV E];omega
 rw[hw];have go:∀(x:Int),sH (λk (s:Int×D Int)=>∃i:Nat,s.1=(i:Int)/\i+k=C (K n)/\(C s.2)=i) (λo:D Int=>C o=C (K n)) k (Xp (((i+1:Nat):Int),s.2++[x])):=λx=>⟨k-1,E,i+1,rfl,E,by simp_all⟩
 refine aO.cond (λ_=>aO.bind (E6 _ _) λy _=>aO.cf (iW YD E) (aO.ret (go y))) λ_=>aO.cf (iW YD E) (aO.ret (go _))
theorem Zbq(hl:C l<=1048576)(hc:C ak<=1048576)(ar:L)(aQ ah aC:Int):
 aO (cW n l ak ar aQ ah aC) λr=>(C r=C (K n)/\(cb n l=Ze/\0<=bc (K n) ar/\aQ<=100000/\1<=ah/\0<=aC))\/(r=[]/\¬(cb n l=Ze/\0<=bc (K n) ar/\aQ<=100000/\1<=ah/\0<=aC)):=by
 have hp:=Dz hf;unfold cW;rw[(cV hf).2];simp only[G,kP hf,ie hf hl];refine aO.cond (λh1=>aO.ret (.inr ⟨rfl,λh=>by simp_all⟩)) λh1=>aO.cond (λh2=>aO.ret (.inr ⟨rfl,λh=>by grind⟩)) λh2=>aO.cond (λh3=>aO.ret (.inr ⟨rfl,λh=>by grind⟩)) λh3=>aO.cond (λh4=>aO.ret (.inr ⟨rfl,λh=>by grind⟩)) λh4=>aO.cond (λh5=>aO.ret (.inr ⟨rfl,λh=>by grind⟩)) λh5=>aO.bind (wK hf _ _) λy hy=>?_
 have yw:cb n l=true:=by simp_all
 have:=Yv h2;have:=Yv h3;have:=Yv h4;have:=Yv h5;refine aO.bind (P:=λo=>C o=C (K n)) ?_ λo ho=>aO.ret (.inl ⟨ho,yw,E,E,E,E⟩)
 refine aO.loop (λk s=>∃i:Nat,s.1=(i:Int)/\i+k=C (K n)/\(C s.2)=C (K n)) (λk s hs=>?_) NN (C (K n)) _ ⟨0,rfl,E,hy⟩ YF
 obtain⟨i,hi,hk,hlen⟩:=hs;unfold iF;rw[hi];refine aO.cond (λ_=>aO.cond (λhd=>?_) λ_=>aO.ret hlen) λ_=>aO.ret hlen
 have bD:=Yu hd;have hw:V ((i:Int)+1)=((i+1:Nat):Int):=by rw[aV E];omega
 exact aO.bind (Vz hf hl hc ah hlen _) λy5 h5=>aO.ret ⟨k-1,E,i+1,hw,E,h5⟩
theorem JZ(ar:L)(aQ aC:Int):aO (ia n ar aQ aC) λr=>C r=C (K n)\/r=[]:=by
 have hp:=Dz hf;obtain⟨_,b,hb⟩:=iu hf;unfold ia;rw[(cV hf).2];simp only[G,kP hf,hb];refine aO.cond (λ_=>aO.ret (.inr rfl)) λ_=>aO.cond (λ_=>aO.ret (.inr rfl)) λ_=>aO.cond (λ_=>aO.ret (.inr rfl)) λ_=>aO.cond (λ_=>aO.ret (.inr rfl)) λ_=>aO.bind (wK hf _ _) λy hy=>?_
 refine aO.bind (P:=λo=>C o=C (K n)) ?_ λo ho=>aO.ret (.inl ho)
 refine aO.loop (λk s=>∃i:Nat,s.1=(i:Int)/\i+k=C (K n)/\(C s.2)=C (K n)) (λk s hs=>?_) NN (C (K n)) _ ⟨0,rfl,E,hy⟩ YF
 obtain⟨i,hi,hk,hlen⟩:=hs;unfold fJ;rw[hi];refine aO.cond (λ_=>aO.cond (λhd=>?_) λ_=>aO.ret hlen) λ_=>aO.ret hlen
 have bD:=Yu hd;have hw:V ((i:Int)+1)=((i+1:Nat):Int):=by rw[aV E];omega
 exact aO.bind (Rm hf hlen _) λy5 h5=>aO.ret ⟨k-1,E,i+1,hw,E,h5⟩
theorem Ox(ax:Int)(ar aZ:L)(aQ:Int):aO (iS n ax ar aZ aQ) λr=>True:=by
 unfold iS jq;rw[(cV hf).2];simp only[G,kP hf];refine aO.bind (P:=λ_=>True) (aO.bind (JZ hf _ _ _) λr hr=>aO.cond (λ_=>aO.ret trivial) λh1=>aO.cond (λ_=>aO.ret trivial) λh2=>?_) λy _=>?_
 ·have LH:=Yv h1
  have h2':=Yv h2;have bD:=(jf (K n) aZ).2
  rcases hr with hr|hr
  ·obtain⟨x,hx,_⟩:=fB (xs:=r) (i:=bc (K n) aZ) ⟨E,E⟩
   rw[hx];exact aO.ret trivial
  simp_all
 ·rw[cO]
  simp only[G];exact aO.cond (λ_=>aO.ret trivial) λ_=>aO.cond (λ_=>aO.ret trivial) λ_=>aO.cond (λ_=>aO.ret trivial) λ_=>aO.ret trivial
theorem Zdz(hl:C l<=1048576)(hc:C ak<=1048576)(ah:Int){before:D Int}(hb:C before=C (K n))(f:Int){x:Int}(hx:0<=x/\x<C (K n))(e:Int)(hn0:0<C n.aC):
 aO (kh n l ak ah (K n) before f x e) λt=>∃y,W n.aC t.bq=F y/\y∈n.aC:=by
 have hp:=Dz hf;have Ia:=hf.aC;unfold kh;have H9:aO (aB (ft n l ak ah (K n) before f x e) NN 0) λr=>∀t,r=.inr t->∃y,W n.aC t.bq=F y/\y∈n.aC:=by
  refine aO.loop (λk s=>∃i:Nat,s=(i:Int)/\i+k=C n.aC) (λk s hs=>?_) NN (C n.aC) 0 ⟨0,rfl,E⟩ YF
  obtain⟨i,rfl,hk⟩:=hs;unfold ft;refine aO.cond (λhd=>?_) λhd=>aO.ret (λt h=>by cases h)
  have bD:=Yu hd;have hw:V ((i:Int)+1)=((i+1:Nat):Int):=by rw[aV E];omega
  obtain⟨y,hy,hm⟩:=fB (xs:=n.aC) (i:=(i:Int)) ⟨E,bD⟩;obtain⟨m1,m2⟩:=mz hm;have a0:=iX m1;have a1:=(jf (K n) y.ar).2;obtain⟨v6,g6,_⟩:=fB (xs:=before) (i:=bc (K n) y.ar) ⟨a0,E⟩;obtain⟨p,gp,_⟩:=fB (xs:=K n) (i:=x) hx;have go:sH (λk (s:Int)=>∃i:Nat,s=(i:Int)/\i+k=C n.aC) (λr:T⊕au=>∀t,r=.inr t->∃y,W n.aC t.bq=F y/\y∈n.aC) k (Xp (V ((i:Int)+1))):=⟨k-1,E,i+1,hw,E⟩
  simp only[hy,G,kP hf,gp,g6];refine aO.cond (λ_=>aO.ret go) λ_=>aO.cond (λ_=>aO.ret go) λ_=>aO.bind (sA _ _) λy7 _=>aO.bind (vm hf hl hc hy y7 ah) λy8 _=>aO.cond (λ_=>?_) λ_=>aO.ret go
  obtain⟨v,hv⟩:=kx (n:=n) (t:=⟨(i:Int),y8⟩) hy;rw[hv,G];exact aO.cond (λ_=>aO.ret (λt h=>by grind)) λ_=>aO.ret go
 refine aO.bind H9 λr hr=>?_
 cases r with
 |inl u=>
  obtain⟨y,hy,hm⟩:=fB (xs:=n.aC) (i:=0) ⟨E,E⟩;exact aO.ret ⟨y,hy,hm⟩
 |inr t=>exact aO.ret (hr t rfl)
theorem FI(hb:cb n l=Ze){b:aq}(h:b∈l):fA n b.aN=true:=by
 obtain⟨i,hi,rfl⟩:=V3 h;have:=(wD hb hi).1;unfold PS at this
 rw[VS hi]at this
 simp only[Bool.and_eq_true]at this
 exact this.1.1.1
theorem MN(hl:C l<=1048576)(aR aQ:Int):aO (jL n l aR aQ) λr=>C r<=C l:=by
 unfold jL;rw[ie hf hl,G];refine aO.bind (P:=λo:D aq=>C o<=C l) ?_ λo ho=>aO.ret ho
 refine aO.loop (λk s=>∃i:Nat,s.1=(i:Int)/\i+k=C l/\(C s.2)<=i) (λk s hs=>?_) NN (C l) _ ⟨0,rfl,E,by simp⟩ YF
 obtain⟨i,hi,hk,hlen⟩:=hs;unfold iG;rw[hi];refine aO.cond (λhd=>?_) λhd=>aO.ret Y8
 have bD:=Yu hd;have hw:V ((i:Int)+1)=((i+1:Nat):Int):=by rw[aV E];omega
 obtain⟨y,hy,hm⟩:=fB (xs:=l) (i:=(i:Int)) ⟨E,bD⟩;simp only[hy,G,hw];have go:∀s':D aq,C s'<=i+1->sH (λk (s:Int×D aq)=>∃i:Nat,s.1=(i:Int)/\i+k=C l/\(C s.2)<=i) (λo:D aq=>C o<=C l) k (Xp (((i+1:Nat):Int),s')):=λs' h'=>⟨k-1,E,i+1,rfl,E,h'⟩
 have add:aO ((Go.Proofs.YtbjbellffaenaaaGreatDoor.cf (bn (C s.2+[y].length) 32)).bind λ_=>F (Xp (((i+1:Nat):Int),s.2++[y]):(Int×D aq)⊕D aq)) (sH (λk (s:Int×D aq)=>∃i:Nat,s.1=(i:Int)/\i+k=C l/\(C s.2)<=i) (λo:D aq=>C o<=C l) k):=
  aO.cf (iW YD E) (aO.ret (go _ YG))
 refine aO.cond (λ_=>add) λhb=>aO.cond (λ_=>add) λ_=>?_
 have yw:cb n l=true:=by simp_all
 obtain⟨z,hz,_⟩:=cZ hf (FI hf yw hm);obtain⟨v,hv⟩:=o6 (n:=n) (t:=y.aN) hz;rw[hv,G];exact aO.cond (λ_=>add) λ_=>aO.ret (go _ E)
omit hf in
theorem ZdU(hl:C l<=1048575)(b:aq):aO (pE l b) λr=>C r=C l+1:=by
 unfold pE;refine aO.bind (P:=λo:Int=>0<=o/\o<=C l) ?_ λo ho=>?_
 ·refine aO.loop (λk s=>∃i:Nat,s=(i:Int)/\i+k=C l) (λk s hs=>?_) NN (C l) 0 ⟨0,rfl,E⟩ YF
  obtain⟨i,rfl,hk⟩:=hs;unfold sh;refine aO.cond (λhd=>?_) λhd=>aO.ret Y8
  have bD:=Yu hd;have hw:V ((i:Int)+1)=((i+1:Nat):Int):=by rw[aV E];omega
  obtain⟨y,hy,hm⟩:=fB (xs:=l) (i:=(i:Int)) ⟨E,bD⟩;rw[hy,G,FC,G];exact aO.cond (λ_=>aO.ret ⟨k-1,E,i+1,hw,E⟩) λ_=>aO.ret Y8
 ·have l1:C (da l 0 o)=o.toNat:=by unfold da;simp_all
  have l2:C (da l o (C l:Int))=C l-o.toNat:=by unfold da;simp
  refine aO.cf YU ?_;rw[tr E,G];refine aO.cf (iW YD E) (aO.cf YU (aO.cf (iW YD E) (aO.ret ?_)))
  grind
theorem FH(hl:C l<=1048000)(aR ah:Int)(aE:D au):aO (cG n l aR ah aE) λr=>C r.1<=C l+20/\(r.2=Ze->C r.1<=120):=by
 unfold cG;rw[tr E,G,ie hf E,G];refine aO.cond (λ_=>aO.ret ⟨by simp,λh=>by cases h⟩) λ_=>aO.cond (λ_=>aO.ret ⟨by simp,λh=>by cases h⟩) λhd=>?_
 have hle:=Yv hd;refine aO.bind (P:=λo:D aq=>C o<=C l+20) ?_ λo ho=>?_
 ·refine aO.loop (λk s=>∃i:Nat,s.1=(i:Int)/\i+k=C aE/\(C s.2)=C l+i) (λk s hs=>?_) NN (C aE) _ ⟨0,rfl,E,rfl⟩ YF
  obtain⟨i,hi,hk,hlen⟩:=hs;unfold nH;rw[hi];refine aO.cond (λhd=>?_) λhd=>aO.ret Y8
  have bD:=Yu hd;have hw:V ((i:Int)+1)=((i+1:Nat):Int):=by rw[aV E];omega
  obtain⟨y,hy,hm⟩:=fB (xs:=aE) (i:=(i:Int)) ⟨E,bD⟩;rw[hy,G,hw];exact aO.bind (ZdU E _) λr hr=>aO.ret ⟨k-1,E,i+1,rfl,E,by grind⟩
 ·rw[ie hf E,G]
  refine aO.cond (λ_=>aO.ret ⟨by simp,λh=>by cases h⟩) λhb=>aO.ret ⟨ho,λ_=>(dJ (n:=n) (l:=o) YG).2⟩
end
abbrev leB(a b:aq):Prop:=rE b a=Zf
theorem CJ{a b:aq}(h:rE a b=Ze):rE b a=false:=Go.Sort.SWO.asymmA Fe h
theorem RV(hl:C l<=1048575)(b:aq)(hs:l.Pairwise leB):aO (pE l b) λr=>C r=C l+1/\r.Perm (l++[b])/\r.Pairwise leB:=by
 unfold pE;refine aO.bind (P:=λo:Int=>∃k:Nat,o=(k:Int)/\k<=C l/\(∀i (h:i<C l),i<k->rE l[i] b=Ze)/\(∀h:k<C l,rE l[k] b=Zf)) ?_ λo ho=>?_
 ·refine aO.loop (λk s=>∃i:Nat,s=(i:Int)/\i+k=C l/\∀j (h:j<C l),j<i->rE l[j] b=Ze) (λk s hs=>?_) NN (C l) 0 ⟨0,rfl,E,λj _ h=>E⟩ YF
  obtain⟨i,rfl,hk,hb⟩:=hs;unfold sh;refine aO.cond (λhd=>?_) λhd=>aO.ret ⟨i,rfl,E,λj h h'=>hb j h h',λh=>by simp_all⟩
  have bD:=Yu hd;have hw:V ((i:Int)+1)=((i+1:Nat):Int):=by rw[aV E];omega
  have CA:i<C l:=E;have hy:W l (i:Int)=F l[i]:=by rw[aS];simp
  rw[hy,G,FC,G];refine aO.cond (λh1=>aO.ret ⟨k-1,E,i+1,hw,E,λj h h'=>?_⟩) λh1=>aO.ret ⟨i,rfl,E,λj h h'=>hb j h h',λ_=>h1⟩
  grind
 ·obtain⟨k,rfl,hk,Zn2,Qg⟩:=ho
  have e1:da l 0 (k:Int)=l.take k:=by rfl
  have e2:da l (k:Int) (C l:Int)=l.drop k:=by
   unfold da;simp only[WS];rw[List.take_of_length_le YE]
  rw[e1,e2];refine aO.cf YU ?_;rw[tr YD,G];refine aO.cf (iW YD E) (aO.cf YU (aO.cf (iW YD E) (aO.ret ⟨?_,?_,?_⟩)))
  ·grind
  ·have h1:(l.take k++[b]++l.drop k).Perm (l.take k++(l.drop k++[b])):=by
    grind
   rw[<-XB,List.take_append_drop]at h1
   omega
  ·have C6:=List.Pairwise.sublist (List.take_sublist k l) hs
   have D8:=List.Pairwise.sublist (List.drop_sublist k l) hs;have EY:∀y∈l.drop k,rE y b=false:=λy hy=>by
    obtain⟨j,hj,rfl⟩:=V3 hy;rw[List.length_drop]at hj
    rw[List.getElem_drop];have h0:=Qg E
    by_cases hj0:j=0
    ·simp_all
    ·have:=Wr.1 hs k (k+j) E E E
     exact Fe.ntrans _ _ _ this h0
   have bD:∀x∈l.take k,rE x b=true:=λx hx=>by
    obtain⟨j,hj,rfl⟩:=V3 hx
    grind
   rw[XB,List.pairwise_append];refine⟨C6,?_,λx hx y hy=>?_⟩
   ·grind
   ·rw[List.singleton_append,VY]at hy
    rcases hy with rfl|hy
    ·exact CJ (bD x hx)
    ·exact Fe.ntrans _ _ _ (EY y hy) (CJ (bD x hx))
def iU(aR ah:Int)(aE:D au):D aq:=aE.map λt=>⟨aR,t,ah⟩
theorem Mp{n:ab}(h:cb n l=Ze):l.Pairwise leB:=Wr.2 λi j hi hj AY=>CJ (u5 h j i hj AY)
theorem Hn{n:ab}(hp:d.Perm e)(hd:d.Pairwise leB)(he:e.Pairwise leB)(hb:cb n d=Ze):d=e:=by
 refine List.Perm.eq_of_pairwise (le:=leB) (λa b ha Ex h1 h2=>?_) hd he hp
 have yb:=hp.mem_iff.2 Ex;obtain⟨i,hi,rfl⟩:=V3 ha;obtain⟨j,hj,rfl⟩:=V3 yb
 rcases Nat.lt_trichotomy i j with h|h|h
 ·have:=u5 hb j i hj h
  simp_all
 ·simp_all
 ·have:=u5 hb i j hi h
  simp_all
theorem VP{n:ab}(hp:d.Perm e)(hd:d.Pairwise leB)(he:e.Pairwise leB):cb n d=cb n e:=by
 cases h1:cb n d with
 |true=>rw[<-Hn hp hd he h1,h1]
 |false=>
  cases h2:cb n e with
  |false=>rfl
  |true=>rw[Hn hp.symm he hd h2,h1]at h2;omega
theorem wC{n:ab}(hf:cD n)(hl:C l<=1048000)(aR ah:Int){aE:D au}(hp:d.Perm (l++iU aR ah aE))(hs:d.Pairwise leB):
 cG n l aR ah aE=F (if cb n l=Ze/\(C aE)<=20/\cb n d=Ze then(d,Ze)else(l,Zf)):=by
 unfold cG;rw[tr E,G,ie hf E,G]
 by_cases hb:cb n l=Ze
 case neg=>
  simp_all
 rw[hb]
 by_cases hw:C aE<=20
 case neg=>
  grind
 rw[Yt (show ¬20<(C aE:Int)by omega)]
 obtain⟨o,ho,Ng,D7,LU⟩:aO (aB (nH n l aR ah aE) NN (0,l)) λo=>C o=C l+C aE/\o.Perm (l++iU aR ah aE)/\o.Pairwise leB:=by
  refine aO.loop (λk s=>∃i:Nat,s.1=(i:Int)/\i+k=C aE/\(C s.2)=C l+i/\s.2.Perm (l++iU aR ah (aE.take i))/\s.2.Pairwise leB) (λk s hs=>?_) NN (C aE) _ ⟨0,rfl,E,rfl,by simp[iU],Mp hb⟩ YF
  obtain⟨i,hi,hk,hlen,hpp,hss⟩:=hs;unfold nH;rw[hi];refine aO.cond (λhd=>?_) λhd=>aO.ret (by
   have:=Yv hd;have hi2:i=C aE:=E;rw[hi2,List.take_length]at hpp
   exact⟨E,hpp,hss⟩)
  have bD:=Yu hd;have BL:V ((i:Int)+1)=((i+1:Nat):Int):=by rw[aV E];omega
  have CA:i<C aE:=E;have hy:W aE (i:Int)=F aE[i]:=by rw[aS];simp
  rw[hy,G,BL];refine aO.bind (RV E _ hss) λr hr=>aO.ret ⟨k-1,E,i+1,rfl,E,by grind,?_,hr.2.2⟩
  refine hr.2.1.trans ?_;have:iU aR ah (aE.take (i+1))=iU aR ah (aE.take i)++[⟨aR,aE[i],ah⟩]:=by
   unfold iU;rw[List.take_succ_eq_append_getElem CA,Xv];rfl
  grind
 simp only[VX,Yx,ho,G];rw[ie hf E,G,VP (n:=n) (D7.trans hp.symm) LU hs]
 by_cases hd:cb n d=Ze
 ·rw[hd,if_pos ⟨by simp,hw,by rfl⟩,Hn (hp.trans D7.symm) hs LU hd];rfl
 simp_all
def sy(l:D aq)(t:au):Int:=(l.map λb=>if b.aN=t then b.ah else 0).sum
theorem Ef(hw:∀b∈l,1<=b.ah/\b.ah<=1000000)(t:au):0<=sy l t/\sy l t<=1000000*C l:=by
 induction l with
 |nil=>simp[sy]
 |cons x xs ih=>
  have hx:=hw x Wo;have:=ih λb hb=>hw b (Wl _ hb)
  unfold sy at this⊢
  rw[WM,List.sum_cons,V0]
  split<;>omega
theorem Kw(hl:C l<=1000)(hw:∀b∈l,1<=b.ah/\b.ah<=1000000)(t:au):eJ l t=F (sy l t):=by
 unfold eJ;have e:aB (eR l t) NN (0,0)=F (sy l t):=by
  have:=il (body:=eR l t) (λi:Nat=>(sy (l.take i) t,(i:Int))) (n:=C l) (o:=sy l t) (λi hi=>?_) ?_ NN YF
  ·simpa[sy]using this
  ·have ho:l[i]?=F l[i]:=VS hi
   have hg:W l (i:Int)=F l[i]:=by rw[aS];exact ho
   have BL:V ((i:Int)+1)=((i+1:Nat):Int):=bz hi E;have hb:=Ef (l:=l.take i) (λb hb=>hw b (List.mem_of_mem_take hb)) t
   have hx:=hw _ (Wk hi);have hlen:C (l.take i)<=1000:=by rw[List.length_take];omega
   unfold eR;have hs:sy (l.take (i+1)) t=sy (l.take i) t+(if l[i].aN=t then l[i].ah else 0):=by
    unfold sy;rw[<-xM ho,Xv,List.sum_append];simp
   simp only[X (show(i:Int)<C l by omega),Yw,hg,G,BL]
   rw[hs]
   by_cases ht:l[i].aN=t
   ·rw[X ht,if_pos ht,Yw,aV E]
   ·rw[Yt ht,if_neg ht,Yx,Int.add_zero]
  ·unfold eR
   simp
 rw[e];rfl
structure Zjj(w:aw)(t:au)(r:D Int):Prop where
 len:r.length<=w.ae.length
 pw:r.Pairwise (· < ·)
 aQ:∀y∈r,∃(i:Nat) (o:M),y=(i:Int)+1/\w.ae[i]?=F o/\o.state=2/\W o.aE o.aH=F t
def dT(n:ab)(a:aI)(b:aI):O Bool:=
 Y (gI n a) λy1=>
 J (!y1)
 (F Zf)
 (Y (gI n b) λy2=>
 J (!y2)
 (F Zf)
 (J (!decide (a.aR=b.aR))
 (F Zf)
 (Y (jz a b) λy3=>
 J (Zg (0<=y3))
 (F Zf)
 (J (Zg (a.kind=4))
 (F Zf)
 (J (Zg (b.kind=2))
 (J (Zg (a.kind=3))
 (J (Zg (a.aN=b.aN))
 (F Ze)
 (Y (bF n a) λy4=>
 Y (bC n b) λy5=>
 Y (fp n y4 y5) λy6=>
 F y6))
 (Y (bF n a) λy7=>
 Y (bC n b) λy8=>
 Y (fp n y7 y8) λy9=>
 F y9))
 (Y (bF n a) λdO=>
 Y (bC n b) λlJ=>
 Y (fp n dO lJ) λlA=>
 F lA))))))
instance (n:ab)(a:aI)(b:aI):CT prog (dT n a b):=⟨167,[.ag (aT n),.ag (bA a),.ag (bA b)],[],λr=>vb r,λr=>[],cw (dT.eq_1 ..) func167 ntmps167 results167⟩
