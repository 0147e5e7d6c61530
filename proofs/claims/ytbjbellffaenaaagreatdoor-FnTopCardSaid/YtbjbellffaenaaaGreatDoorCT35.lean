/- A part of the proof of this claim's last theorem. No condition. -/
import Derived.Test.YtbjbellffaenaaaGreatDoorCT33
import Derived.Test.YtbjbellffaenaaaGreatDoorCT34
set_option linter.all false
set_option maxRecDepth 100000
open Option renaming some->G,none->Zd
open Bool renaming true->O,false->Zf
open Decidable renaming decide->Zg
set_option maxHeartbeats 40000000
open List renaming length->E
open _root_ renaming List->D,Nat->C,Option->Zo
open Go.Proofs.YtbjbellffaenaaaGreatDoor renaming OF->T,YA->J,Yi->X,allI->V,cC->S,cn->R,fg->W
namespace Go.Proofs.YtbjbellffaenaaaGreatDoor
open Bool renaming not_true->VX,not_false->WI,and_eq_true->V7,not_eq_true'->Ww
open Option renaming bind_some->Z,map_eq_some_iff->Wc,getD_some->W9
open _root_.Int renaming le_of_lt->X2,le_refl->WT
open List renaming getElem?_eq_some_iff->VT,getElem?_eq_getElem->VS,mem_append->We,getElem?_append_right->WE,length_take->Wy,mem_of_getElem?->VU,take_length->XF,range->Wj,getElem?_of_mem->WL,take_succ_cons->Xt,append_assoc->XB,cons_append->Xa,mem_of_mem_take->WK,getElem_mem->Wk,drop_eq_getElem_cons->Yp,drop_zero->Yg,mem_cons->VY,pairwise_cons->Wx,map_cons->WM,map_append->Xv,take_append_drop->XK,getLast?_eq_none_iff->Yq,mem_of_getLast?->WX,mem_filter->WW,pairwise_iff_getElem->Wr,mem_map->WH,length_map->Wi,getElem?_append_left->Wz
open Nat renaming le_refl->VW,zero_add->Wa,zero_le->Ws
open Option.some renaming inj->VV
open Go.RowKit
variable {a:bk}{k:C}{l:D bk}{n:ab}{p:aP}{α ο σ:Type}{body:σ->Zo (σ⊕ο)}
theorem Ba(h1:a.aM.label.aZ.size<=uY)(h2:a.aM.ar.size<=uY)(h3:E a.aM.bJ<NN)(h:bS a=G O):
 (a.kind=1\/(a.kind=2\/a.kind=6)/\1<=a.order\/(a.kind=3/\a.bG<=100000\/a.kind=4\/a.kind=5)):=by
 unfold bS at h
 simp only[nf,gV,cO]at h
 grind
theorem iw{o:aD}(h:W o=O):eY o.world=O/\uq o.bb=O/\ui o.bd (E o.bb:Int)=O/\qv o.aU=O/\ep (o.lines.map R)=O/\(E o.aK)=E o.world.ae/\(E o.aF)<=150/\V (oA o) 0 o.aK=O/\V (wR o) 0 o.lines=O/\V JW 0 o.aF=true:=by
 unfold W at h
 grind
theorem wW{o:aD}(a:eY o.world=O)(b:uq o.bb=O)(c:ui o.bd (E o.bb:Int)=O)(d:qv o.aU=O)(e:ep (o.lines.map R)=O)(f:E o.aK=E o.world.ae)(g:E o.aF<=150)(i:V (oA o) 0 o.aK=O)(j:V (wR o) 0 o.lines=O)(k:V JW 0 o.aF=O):W o=true:=by
 unfold W
 grind
def JM(y:aD)(j:D bk):aD:=⟨y.world,y.bb,y.bd,y.aU,y.aK,y.lines,j⟩
structure JS(o:aD)(a:bk)(x:aD):Prop where
 ok:W o=O
 act:bS a=G O
 few:o.aF.length<150
 how:∃y,x=JM y (o.aF++[a])/\(a.kind=1/\RQ o a.aM y\/(a.kind=2\/a.kind=6)/\L4 o a y\/(a.kind=3\/a.kind=4\/a.kind=5)/\Fl o a y)
theorem By{o:aD}(h:T o)(ha:PF a.aM):∃x c,fh o a=G (x,c)/\kr o a=G (x,c)/\(¬c=0/\x=o\/c=0/\JS o a x):=by
 obtain⟨b,b1,b2⟩:=Ft ha.fit.1 ha.fit.2.1 ha.fit.2.2;unfold fh kr;simp only[J6 h,ER h,yz h.fit,Em h.fit,b1,b2]
 cases hv:W o with
 |false=>exact⟨_,_,rfl,rfl,.inl ⟨by simp,rfl⟩⟩
 |true=>
 cases b with
 |false=>exact⟨_,_,rfl,rfl,.inl ⟨by simp,rfl⟩⟩
 |true=>
 by_cases hj:150<=E o.aF
 ·rw[X (show(150:Int)<=E o.aF by omega)]
  exact⟨_,_,rfl,rfl,.inl ⟨by simp,rfl⟩⟩
 rw[Yt (show ¬(150:Int)<=E o.aF by omega)]
 simp only[VX,Yx,J5 ha,ES ha,Z];have hp:=iw hv;have fin:∀{r:Int×aD} {Q:aD->Prop},(¬r.1=0/\r.2=o\/r.1=0/\Q r.2)->(∀y,Q y->y.aF=o.aF)->(∀y,Q y->(a.kind=1/\RQ o a.aM y\/(a.kind=2\/a.kind=6)/\L4 o a y\/(a.kind=3\/a.kind=4\/a.kind=5)/\Fl o a y))->
  ∃x c,(cond (!decide (r.1=0)) (G (o,r.1)) ((cf (bn (E (r.2.aF:D bk)+E ([a]:D bk)) 136)).bind λ_=>G (JM r.2 (r.2.aF++[a]),0)))=G (x,c)/\
   (cond (!decide (r.1=0)) (G (o,r.1)) ((cf (bn (E (r.2.aF:D bk)+E ([a]:D bk)) 136)).bind λ_=>G (JM r.2 (r.2.aF++[a]),r.1)))=G (x,c)/\(¬c=0/\x=o\/c=0/\JS o a x):=λ{r Q} hr hQ hD=>by
  rcases hr with⟨hc,_⟩ |⟨hc,hq⟩
  ·rw[Yt hc]
   exact⟨_,_,rfl,rfl,.inl ⟨hc,rfl⟩⟩
  ·rw[hQ _ hq,xq J J,hc]
   exact⟨_,_,rfl,rfl,.inr ⟨rfl,hv,b1,J,r.2,rfl,hD _ hq⟩⟩
 rcases Ba ha.fit.1 ha.fit.2.1 ha.fit.2.2 b1 with hk|⟨hk,ho⟩ |hk
 ·obtain⟨r,e1,e2,hr⟩:=VQ h hp.1 ha
  unfold mU;simp only[X hk,e1,e2];exact fin hr (λy hy=>hy.aF) λy hy=>.inl ⟨hk,hy⟩
 ·obtain⟨r,e1,e2,hr⟩:=QF h hp.1 hp.2.2.2.2.2.1 ho
  have hq:=fin hr (λy hy=>by obtain⟨l,z,rfl,_⟩:=hy;rfl) λy hy=>.inr (.inl ⟨hk,hy⟩)
  unfold mU
  rcases hk with hk|hk
  ·simp only[Yt (show ¬a.kind=1 by omega),X hk,e1,e2]
   exact hq
  ·simp only[Yt (show ¬a.kind=1 by omega),Yt (show ¬a.kind=2 by omega),X hk,e1,e2]
   exact hq
 ·obtain⟨r,e1,hr,e2⟩:=UP h hp.1 hk
  have hk':a.kind=3\/a.kind=4\/a.kind=5:=J;have hq:=fin hr (λy hy=>by obtain⟨w,rfl,_⟩:=hy;rfl) λy hy=>.inr (.inr ⟨hk',hy⟩)
  unfold mU;rw[e2];rw[Yt (show ¬a.kind=1 by omega),Yt (show ¬a.kind=2 by omega),Yt (show ¬a.kind=6 by omega)]
  simp only[e1];exact hq
theorem zh{c:C->α->Bool}{xs:D α}{x:α}(h:V c 0 xs=O)(hx:c (E xs) x=O):V c 0 (xs++[x])=true:=by
 rw[cX]at h⊢
 grind
def Zdj(z z':ay):Prop:=z'.ar=z.ar/\z'.aZ=z.aZ/\z'.ax=z.ax/\z'.ah=z.ah
theorem xp{o y:aD}{i:C}(hz:y.bb=o.bb)(hr:y.bd=o.bd)(hs:S (y.lines.map R) (((i+1:C):Int)) 1=S (o.lines.map R) (((i+1:C):Int)) 1)
 (ho:∀z,o.world.ae[i]?=G z->∃z',y.world.ae[i]?=G z'/\Zdj z z') (h:oA o i p=O):oA y i p=true:=by
 unfold oA at h⊢
 cases hi:o.world.ae[i]? with
 |none=>rw[hi]at h;cases h
 |some z=>
  obtain⟨z',e,e1,e2,e3,e4⟩:=ho z hi;rw[hi]at h
  rw[e];rw[tq]at h⊢
  grind
structure Zjf(w w':aw):Prop where
 ok:oc w'
 now:w.now<=w'.now
 len:w'.ae.length=w.ae.length
 dp:w'.aa=w.aa
 ord:∀(i:C) (z:ay),w.ae[i]?=G z->∃z',w'.ae[i]?=G z'/\Zdj z z'
theorem Jl{z z':ay}(h:rU n z z'):Zdj z z':=by
 rcases h with rfl|⟨more,_,rfl⟩<;>exact⟨rfl,rfl,rfl,rfl⟩
theorem QG{o x:aD}(hw:oc o.world)(hu:a.kind=3->a.bG<=100000)(h:Fl o a x):Zjf o.world x.world:=by
 obtain⟨w,rfl,h⟩:=h
 rcases h with⟨hk,hn,rfl⟩ |⟨_,_,hS⟩ |⟨_,n,_,_,hR⟩
 ·obtain⟨a1,a2,_⟩:=CF hw (X2 hn) (hu hk)
  refine⟨a1,X2 hn,a2.len,a2.aa,λi z hz=>?_⟩
  have hi:=(VT.1 hz).1;have xB:=VS (show i<(vG o.world a.bG).ae.length by rw[a2.len];omega)
  have hs:=a2.ord i z _ hz xB;exact⟨_,xB,hs.ar,hs.aZ,hs.ax,hs.ah⟩
 ·exact⟨hS.ok,by rw[hS.same.now];simp,hS.same.len,hS.same.aa,λi z hz=>by
   obtain⟨z',b1,_,b2⟩:=hS.ord i z hz;exact⟨z',b1,Jl b2⟩⟩
 ·exact⟨hR.ok,by rw[hR.same.now];omega,hR.same.len,hR.same.aa,λi z hz=>by
   obtain⟨z',b1,b2,_⟩:=hR.ord i z hz;exact⟨z',b1,Jl b2⟩⟩
theorem Df{o y:aD}(hp:E o.aK<=E y.aK)(hn:o.world.now<=y.world.now)(h:V (wR o) 0 o.lines=O):V (wR y) 0 o.lines=true:=by
 rw[cX]at h⊢
 intro j x hx;have:=h j x hx;unfold wR at this⊢
 grind
theorem Zjm(ha:PF a.aM)(h:bS a=G O)(i:C):JW i a=true:=by
 obtain⟨b,b1,b2⟩:=Ft ha.fit.1 ha.fit.2.1 ha.fit.2.2;unfold JW
 grind
theorem K7{l:D bf}{x:bf}{l':D bf}(h:xX l x=(l',0)):l'=l++[x]/\ep ((l++[x]).map R)=O/\(E l)<200:=by
 unfold xX at h
 grind
theorem Ziz{l l':D bf}{o a t:Int}(h:Ol l o a t=(l',0)):xX l ⟨o,2,a,t⟩=(l',0)/\¬kX (l.map R) o<a/\ep (l.map R)=true:=by
 unfold Ol at h
 grind
theorem TW{l l':D bf}{o a t:Int}(h:vN l o a t=(l',0)):xX l ⟨o,1,a,t⟩=(l',0)/\S (l.map R) o 1=0/\(1<=a/\a<=100000)/\ep (l.map R)=true:=by
 unfold vN at h
 split at h;· grind
 split at h;· grind
 split at h;· grind
 have h1:ep (l.map R)=true:=by grind
 have h3:¬0<S (l.map R) o 1:=by grind
 have h2:rH o 1 a t=true:=by grind
 exact⟨h,by have:=(RH h1 o 1).1;omega,zj (x:=⟨o,1,a,t⟩) h2,h1⟩
theorem Vr{l l':D bf}{o du en t:Int}{ps:D Int}(h:vZ l o du en ps t=(l',0)):xX l ⟨o,3,uG (S (l.map R) o 1) du en ps,t⟩=(l',0)/\ep (l.map R)=true:=by
 unfold vZ at h
 grind
theorem GB(l:D bf)(x:bf):(l++[x]).map R=l.map R++[R x]:=by simp
theorem U2{o x:aD}(h:L4 o a x):∃z:bf,x=⟨o.world,o.bb,o.bd,o.aU,o.aK,o.lines++[z],o.aF⟩/\z.order=a.order/\¬z.kind=1/\z.aQ=o.world.now/\ep ((o.lines++[z]).map R)=O/\(E o.lines)<200/\1<=a.order/\a.order<=E o.world.ae:=by
 obtain⟨l,y,rfl,h1,hy,h⟩:=h;have bD:a.order<=E o.world.ae:=by have:=(VT.1 (ky hy).2).1;omega
 rcases h with⟨_,h⟩ |⟨_,_,h⟩
 ·obtain⟨rfl,b,c⟩:=K7 (Ziz h).1
  grind
 ·obtain⟨rfl,b,c⟩:=K7 (Vr h).1
  grind
theorem HG{o:aD}(ha:PF a.aM)(hc:bS a=G O){y:aD}(hy:T y)(hv:W y=O)(hj:y.aF=o.aF)(hf:E o.aF<150):T (JM y (o.aF++[a]))/\W (JM y (o.aF++[a]))=true:=by
 obtain⟨p1,p2,p3,p4,p5,p6,p7,p8,p9,p10⟩:=iw hv;refine⟨⟨hy.world,hy.bb,hy.bd,hy.zT,hy.lines,hy.aK,?_,hy.pf,λb hb=>?_⟩,wW p1 p2 p3 p4 p5 p6 ?_ p8 p9 ?_⟩
 ·show(o.aF++[a]).length<=_
  grind
 ·rcases We.1 hb with hb|hb
  ·exact hy.af b YD
  grind
 ·show(o.aF++[a]).length<=_
  grind
 ·rw[hj]at p10
  exact zh p10 (Zjm ha hc _)
theorem Zcm{o y:aD}(h:T o)(hv:W o=O)(hu:a.kind=3->a.bG<=100000)(hm:Fl o a y):T y/\W y=true:=by
 obtain⟨p1,p2,p3,p4,p5,p6,p7,p8,p9,p10⟩:=iw hv;have hk:=QG ⟨h.world,p1⟩ hu hm;obtain⟨w,rfl,_⟩:=hm;refine⟨⟨hk.ok.fit,h.bb,h.bd,h.zT,h.lines,h.aK,h.aF,h.pf,h.af⟩,wW hk.ok.ok p2 p3 p4 p5 (p6.trans hk.len.symm) p7 ?_ (Df (o:=o) (y:=⟨w,o.bb,o.bd,o.aU,o.aK,o.lines,o.aF⟩) (VW _) hk.now p9) p10⟩;rw[cX]at p8⊢
 exact λj p hp=>xp (o:=o) rfl rfl rfl (hk.ord _) (p8 j p hp)
theorem Zfz{o y:aD}(h:T o)(hv:W o=O)(hm:L4 o a y):T y/\W y=true:=by
 obtain⟨p1,p2,p3,p4,p5,p6,p7,p8,p9,p10⟩:=iw hv;obtain⟨z,rfl,z1,z2,z3,z4,z5,z6,z7⟩:=U2 hm;refine⟨⟨h.world,h.bb,h.bd,h.zT,?_,h.aK,h.aF,h.pf,h.af⟩,wW p1 p2 p3 p4 z4 p6 p7 ?_ (zh (Df (o:=o) (y:=⟨o.world,o.bb,o.bd,o.aU,o.aK,o.lines++[z],o.aF⟩) (VW _) (WT _) p9) ?_) p10⟩
 ·grind
 ·rw[cX]at p8⊢
  refine λj p hp=>xp (o:=o) rfl rfl ?_ (λz hz=>⟨z,hz,rfl,rfl,rfl,rfl⟩) (p8 j p hp)
  rw[GB];exact kH λhh=>z2 hh.2
 ·unfold wR
  grind
theorem Zgs{o y:aD}(h:T o)(hv:W o=O)(hp:PF p)(hm:RQ o p y):T y/\W y=true:=by
 obtain⟨p1,p2,p3,p4,p5,p6,p7,p8,p9,p10⟩:=iw hv;obtain⟨v,aE,ys,fc,q1,q2,q3,q4,_⟩:=hm.nQ;have hw:oc o.world:=⟨h.world,p1⟩;have hpr:=hw.parts;have Nh:y.world=yh o.world (mO o.world p.ar p.label.aZ p.label.ax p.ah fc aE) ys:=congrArg (·.1) q3.res
 have Zh7:y.world.ae=o.world.ae++[mO o.world p.ar p.label.aZ p.label.ax p.ah fc aE]:=by rw[Nh];rfl
 have yx:y.world.now=o.world.now:=by rw[Nh];rfl
 have hok:oc y.world:=by rw[Nh];exact q3.ok
 obtain⟨c1,c2,c3,c4⟩:=TW q4;obtain⟨d1,d2,d3⟩:=K7 c1;have hl:E y.aK=E o.aK+1:=by rw[hm.aK,List.length_append];rfl
 refine⟨⟨hok.fit,by rw[hm.bb];exact h.bb,by rw[hm.bd];exact h.bd,by rw[hm.zT];exact h.zT,?_,J,by rw[hm.aF];omega,λq hq=>?_,by rw[hm.aF];exact h.af⟩,wW hok.ok (by rw[hm.bb];omega) (by rw[hm.bb,hm.bd];omega) (by rw[hm.zT];omega) YD ?_ (by rw[hm.aF];omega) ?_ ?_ (by rw[hm.aF];omega)⟩
 ·grind
 ·rw[hm.aK]at hq
  rcases We.1 hq with hq|hq
  ·exact h.pf q hq
  grind
 ·grind
 ·rw[hm.aK]
  refine zh ?_ ?_
  ·rw[cX]at p8⊢
   intro j q hq;have hj:=(VT.1 hq).1;refine xp hm.bb hm.bd ?_ (λz hz=>⟨z,?_,rfl,rfl,rfl,rfl⟩) (p8 j q hq)
   ·rw[d1,GB]
    refine kH λhh=>?_
    have:=hh.1;simp only[R]at this
    omega
   grind
  ·unfold oA
   rw[hm.bb,hm.bd,q1,Zh7,p6,WE (VW _),Nat.sub_self];show FU y _ p _ (G _)=O;have hs:S (o.lines.map R++[R (⟨(E o.world.ae:Int)+1,1,v,o.world.now⟩:bf)]) (((E o.world.ae+1:C):Int)) 1=v:=by
    rw[show(((E o.world.ae+1:C):Int))=(E o.world.ae:Int)+1 by omega,yY (o:=(E o.world.ae:Int)+1) (k:=1) (x:=R (⟨(E o.world.ae:Int)+1,1,v,o.world.now⟩:bf)) rfl rfl,c2]
    show wrap64 (0+v)=v;rw[<-qP,aV J];omega
   rw[tq,d1,GB,hs];simp[mO]
 ·rw[d1]
  refine zh (Df J J p9) ?_;unfold wR
  grind
theorem ET{o x:aD}(h:T o)(ha:PF a.aM)(hd:JS o a x):T x/\W x=true:=by
 obtain⟨y,rfl,hy⟩:=hd.how;have hu:a.kind=3->a.bG<=100000:=λhk=>by
  have:=Ba ha.fit.1 ha.fit.2.1 ha.fit.2.2 hd.act;omega
 rcases hy with⟨_,hy⟩ |⟨_,hy⟩ |⟨_,hy⟩
 ·obtain⟨b1,b2⟩:=Zgs h hd.ok ha hy
  exact HG ha hd.act b1 b2 hy.aF hd.few
 ·obtain⟨b1,b2⟩:=Zfz h hd.ok hy
  exact HG ha hd.act b1 b2 (by obtain⟨l,z,rfl,_⟩:=hy;rfl) hd.few
 ·obtain⟨b1,b2⟩:=Zcm h hd.ok hu hy
  exact HG ha hd.act b1 b2 (by obtain⟨w,rfl,_⟩:=hy;rfl) hd.few
theorem Gr{n:C}{s s':σ}(h:body s=G (.inl s')):aB body (n+1) s=aB body n s':=by
 rw[aB,h];rfl
theorem uR{n:C}{s:σ}{o:ο}(h:body s=G (.inr o)):aB body (n+1) s=G o:=by
 rw[aB,h];rfl
theorem xc:da l 0 (if 150<(E l:Int)then 150 else(E l:Int))=l.take 150:=by
 have h:(if 150<(E l:Int)then 150 else(E l:Int)).toNat=min 150 (E l):=J
 unfold da
 grind
theorem ZdT{o x:aD}(hx:T x)(hv:x=o\/W x=O)(ha:PF a.aM):∃y c,fh x a=G (y,c)/\kr x a=G (y,c)/\(c=0->T y/\W y=O):=by
 obtain⟨g,c,h1,h2,h3⟩:=By hx ha;refine⟨g,c,h1,h2,λhc=>?_⟩
 rcases h3 with⟨h,_⟩ |⟨_,hd⟩
 ·omega
 ·exact ET hx ha hd
def fin(l:D bk)(o0:(D bP)×(D Int)×Int×(D ay)×(D aq)×(D au)×Int×(D aI)×(D Int)×Int×(D cB)×(D bH)×(D Int)×(D bf)×(D aP)×(D bk)):Zo (aD×Int):=cond (Zg (150<(E l:Int))) (G (⟨⟨⟨o0.1,o0.2.1,o0.2.2.1⟩,o0.2.2.2.1,o0.2.2.2.2.1,o0.2.2.2.2.2.1,o0.2.2.2.2.2.2.1,o0.2.2.2.2.2.2.2.1,o0.2.2.2.2.2.2.2.2.1,o0.2.2.2.2.2.2.2.2.2.1⟩,o0.2.2.2.2.2.2.2.2.2.2.1,o0.2.2.2.2.2.2.2.2.2.2.2.1,o0.2.2.2.2.2.2.2.2.2.2.2.2.1,o0.2.2.2.2.2.2.2.2.2.2.2.2.2.2.1,o0.2.2.2.2.2.2.2.2.2.2.2.2.2.1,o0.2.2.2.2.2.2.2.2.2.2.2.2.2.2.2⟩,150)) (G (⟨⟨⟨o0.1,o0.2.1,o0.2.2.1⟩,o0.2.2.2.1,o0.2.2.2.2.1,o0.2.2.2.2.2.1,o0.2.2.2.2.2.2.1,o0.2.2.2.2.2.2.2.1,o0.2.2.2.2.2.2.2.2.1,o0.2.2.2.2.2.2.2.2.2.1⟩,o0.2.2.2.2.2.2.2.2.2.2.1,o0.2.2.2.2.2.2.2.2.2.2.2.1,o0.2.2.2.2.2.2.2.2.2.2.2.2.1,o0.2.2.2.2.2.2.2.2.2.2.2.2.2.2.1,o0.2.2.2.2.2.2.2.2.2.2.2.2.2.1,o0.2.2.2.2.2.2.2.2.2.2.2.2.2.2.2⟩,(E l:Int)))
theorem QD{o:aD}(hl:E l<=1048576)(ha:∀a∈l,PF a.aM):∀(m i:C) (x:aD),i+m=E (l.take 150)->T x->(x=o\/W x=O)->∀N M,m<N->m<M->
 ∃(g:aD) (n:C),aB (eF l) N ((i:Int),(i:Int),x.world.aa.change,x.world.now,x.world.br,x.world.aa.aC,x.world.aa.off,x.world.ae,x.world.av,x.world.ak,x.world.aL,x.world.skip,x.bb,x.bd,x.aU,x.aK,x.lines,x.aF)=G ((n:Int),g.world.aa.change,g.world.now,g.world.br,g.world.aa.aC,g.world.aa.off,g.world.ae,g.world.av,g.world.ak,g.world.aL,g.world.skip,g.bb,g.bd,g.aU,g.aK,g.lines,g.aF)/\(aB (j4 l) M ((i:Int),x.world.aa.aC,x.world.aa.off,x.world.aa.change,x.world.ae,x.world.av,x.world.ak,x.world.now,x.world.aL,x.world.skip,x.world.br,x.bb,x.bd,x.aU,x.lines,x.aK,x.aF)).bind (bj (fin l) (λr=>G r))=G (g,(n:Int))/\T g/\(g=o\/W g=O):=by
 have hL:E (l.take 150)=min 150 (E l):=Wy;intro m
 induction m with
 |zero=>
  intro i x hi hx hv N M hN hM;obtain⟨N,rfl⟩:∃K,N=K+1:=⟨N-1,J⟩;obtain⟨M,rfl⟩:∃K,M=K+1:=⟨M-1,J⟩;refine⟨x,i,uR ?_,?_,hx,hv⟩
  ·unfold eF
   simp only[xc]
   grind
  ·rw[uR (o:=.inl (x.world.aa.aC,x.world.aa.off,x.world.aa.change,x.world.ae,x.world.av,x.world.ak,x.world.now,x.world.aL,x.world.skip,x.world.br,x.bb,x.bd,x.aU,x.lines,x.aK,x.aF))]
   ·show fin l _=_
    unfold fin
    by_cases h:150<(E l:Int)
    ·rw[X h]
     have:i=150:=J;subst this;rfl
    ·rw[Yt h]
     have:i=E l:=J;subst this;rfl
   ·unfold j4
    grind
 |succ m ih=>
  intro i x hi hx hv N M hN hM;obtain⟨N,rfl⟩:∃K,N=K+1:=⟨N-1,J⟩;obtain⟨M,rfl⟩:∃K,M=K+1:=⟨M-1,J⟩;have CA:i<E l:=J;obtain⟨a,hai⟩:∃a,l[i]?=G a:=⟨_,VS CA⟩;have uu:(l.take 150)[i]?=G a:=by grind
  obtain⟨y,c,h1,h2,h3⟩:=ZdT hx hv (ha a (VU hai));have w1:aJ ((i:Int)+1)=((i+1:C):Int):=by rw[aV J];omega
  by_cases hc:c=0
  ·obtain⟨k1,k2⟩:=h3 hc
   obtain⟨g,n,e1,e2,e3,e4⟩:=ih (i+1) y J k1 (.inr k2) N M J J;refine⟨g,n,(Gr ?_).trans e1,?_,e3,e4⟩
   ·unfold eF
    simp only[xc];rw[X (show(i:Int)<(E (l.take 150):Int)by omega),aS,uu]
    simp_all
   ·rw[Gr (s':=(((i+1:C):Int),y.world.aa.aC,y.world.aa.off,y.world.aa.change,y.world.ae,y.world.av,y.world.ak,y.world.now,y.world.aL,y.world.skip,y.world.br,y.bb,y.bd,y.aU,y.lines,y.aK,y.aF))]
    ·omega
    ·unfold j4
     simp only[];rw[X (show(i:Int)<(E l:Int)by omega),X (show(i:Int)<150 by omega),aS,hai]
     simp only[Yw,Ev,Z,h2,X hc,VX,Yx,w1]
  ·refine⟨x,i,uR ?_,?_,hx,hv⟩
   ·unfold eF
    simp only[xc];rw[X (show(i:Int)<(E (l.take 150):Int)by omega),aS,uu]
    simp_all
   ·rw[uR (o:=.inr (x,(i:Int)))]
    ·rfl
    ·unfold j4
     simp only[];rw[X (show(i:Int)<(E l:Int)by omega),X (show(i:Int)<150 by omega),aS,hai]
     simp only[Yw,Ev,Z,h2,Yt hc,WI]
theorem Zjr{l:D Ln}(h:ep l=O)(o:Int):∀i,i<=E l->S (l.take i) o 3<=S (l.take i) o 2:=by
 intro i
 induction i with
 |zero=>intro _;simp[S]
 |succ i ih=>
  intro hi;have ih:=ih J;have hx:l[i]?=G l[i]:=VS J;obtain⟨Nd,Na⟩:=BY h hx;have ha:=zj Nd;have h2:=um h i o 2;have h3:=um h i o 3;obtain⟨s1,s2,_⟩:=Cr h o i J;have ht:l.take (i+1)=l.take i++[l[i]]:=by simp
  rw[ht]
  by_cases ho:l[i].o=o
  ·rcases Ks Nd with k|k|k
   ·rw[kH J,kH J];omega
   ·rw[kH J,yY ho k,IntWalk.wrap64_in _ ⟨J,J⟩];omega
   ·rw[ZhJ k]at Na
    simp only[V7,Ww,Yz,beq_iff_eq]at Na
    rw[ho]at Na
    rw[yY ho k,kH J,IntWalk.wrap64_in _ ⟨J,J⟩];omega
  ·rw[kH J,kH J];omega
theorem xO{l:D Ln}(h:ep l=O)(o:Int):0<=S l o 3/\S l o 3<=S l o 2/\S l o 2<=S l o 1/\S l o 1<=100000:=by
 have a:=Zjr h o (E l) (VW _);obtain⟨b,c,_⟩:=Cr h o (E l) (VW _);rw[XF]at a b c
 exact⟨(RH h o 3).1,a,b,c⟩
theorem KK{l:D Ln}(h:ep l=O)(o:Int):kX l o=S l o 1-S l o 2/\0<=kX l o/\kX l o<=100000:=by
 obtain⟨a,b,c,d⟩:=xO h o;rw[Zcv h,IntWalk.wrap64_in _ ⟨J,J⟩];omega
theorem Ms{l:D Ln}(h:ep l=O){n:C}(ho:∀x∈l,x.o<=(n:Int)):Bn l=((Wj n).map λi:C=>S l ((i:Int)+1) 2-S l ((i:Int)+1) 3).sum/\0<=Bn l:=by
 obtain⟨ha,hl⟩:=wo h;have h1:∀x∈l,1<=x.o/\x.o<=(n:Int):=λx hx=>by
  obtain⟨i,hi⟩:=WL hx;have:=(BY h hi).1;simp only[rH,V7]at this
  exact⟨(qA this.1.1.1).1,ho x hx⟩
 have e:Bn l=((Wj n).map λi:C=>S l ((i:Int)+1) 2-S l ((i:Int)+1) 3).sum:=by
  rw[ZaQ h,TU ha hl,FN n l h1]
  congr 1
  apply List.map_congr_left;intro i _;rw[(Pc ha hl _ 2).1,(Pc ha hl _ 3).1]
 refine⟨e,?_⟩;rw[e];exact(Lu λi _=>by have:=xO h ((i:Int)+1);omega).1
theorem I8{l:D Ln}(h:ep l=O){o:Int}(h0:0<kX l o):∃x∈l,x.o=o:=by
 obtain⟨_,_,c⟩:=Cr h o (E l) (VW _);rw[XF]at c
 have:=(KK h o).1;have:=(RH h o 2).1
 grind
theorem Bz{o x:aD}(hd:JS o a x):x.aF=o.aF++[a]:=by
 obtain⟨y,rfl,_⟩:=hd.how;rfl
noncomputable def MK(x:aD)(a:bk):Zo aD:=(fh x a).bind λr=>if r.2=0 then G r.1 else Zd
noncomputable def mF:aD->D bk->aD×C
 |x,[]=>(x,0)
 |x,a::l=>match MK x a with
  |none=>(x,0)
  |some y=>((mF y l).1,(mF y l).2+1)
theorem tC{x:aD}(h:MK x a=Zd):mF x (a::l)=(x,0):=by rw[mF,h]
theorem oX{x y:aD}(h:MK x a=G y):mF x (a::l)=((mF y l).1,(mF y l).2+1):=by rw[mF,h]
theorem Bw{x y:aD}(hx:T x)(ha:PF a.aM)(h:MK x a=G y):fh x a=G (y,0)/\JS x a y/\T y/\W y=true:=by
 obtain⟨g,c,h1,_,h3⟩:=By hx ha;rw[MK,h1,Z]at h
 simp only at h
 rcases h3 with⟨hc,_⟩ |⟨rfl,hd⟩
 ·simp_all
 ·rw[if_pos rfl]at h
  obtain rfl:=VV h;obtain⟨k1,k2⟩:=ET hx ha hd
  simp_all
theorem Zes{x:aD}(hx:T x)(ha:PF a.aM)(h:MK x a=Zd):∃c,fh x a=G (x,c)/\¬c=0:=by
 obtain⟨g,c,h1,_,h3⟩:=By hx ha;rw[MK,h1,Z]at h
 simp_all
theorem Ld:∀(l:D bk) (x:aD),(mF x l).2<=E l
 | [],x=>VW _
 |a::l,x=>by
  cases h:MK x a with
  |none=>rw[tC h];omega
  |some y=>rw[oX h];have:=Ld l y;simp_all
theorem Le:∀(l:D bk) {x:aD},T x->(∀a∈l,PF a.aM)->T (mF x l).1/\((mF x l).1=x\/W (mF x l).1=O)/\(mF x l).1.aF=x.aF++l.take (mF x l).2
 | [],x,hx,_=>⟨hx,.inl rfl,by simp[mF]⟩
 |a::l,x,hx,ha=>by
  cases h:MK x a with
  |none=>rw[tC h];simp_all
  |some y=>
   obtain⟨_,hd,h1,h2⟩:=Bw hx (ha a YE) h;obtain⟨r1,r2,r3⟩:=Le l h1 λb hb=>ha b YD
   rw[oX h];refine⟨r1,.inr ?_,?_⟩
   ·grind
   ·simp only[r3,Bz hd,Xt,XB,List.singleton_append]
theorem OQ:∀(l k:D bk) {x:aD},(mF x l).2=E l->mF x (l++k)=((mF (mF x l).1 k).1,E l+(mF (mF x l).1 k).2)
 | [],k,x,_=>by simp[mF]
 |a::l,k,x,h=>by
  cases hb:MK x a with
  |none=>rw[tC hb]at h;grind
  |some y=>
   rw[oX hb]at h
   have:=OQ l k (x:=y) YG;rw[Xa,oX hb,oX hb,this]
   grind
theorem Jo:∀(l:D bk) {x:aD},mF x (l.take (mF x l).2)=mF x l
 | [],x=>by rfl
 |a::l,x=>by
  cases hb:MK x a with
  |none=>rw[tC hb];rfl
  |some y=>rw[oX hb,Xt,oX hb,Jo l]
abbrev ZiV(x:aD):=(x.world.aa.change,x.world.now,x.world.br,x.world.aa.aC,x.world.aa.off,x.world.ae,x.world.av,x.world.ak,x.world.aL,x.world.skip,x.bb,x.bd,x.aU,x.aK,x.lines,x.aF)
theorem NU(hl:E l<=1048576)(ha:∀a∈l,PF a.aM):∀(m i:C) (x:aD),i+m=E (l.take 150)->T x->∀N,m<N->
 aB (eF l) N ((i:Int),(i:Int),ZiV x)=G (((i+(mF x ((l.take 150).drop i)).2:C):Int),ZiV (mF x ((l.take 150).drop i)).1):=by
 have hL:E (l.take 150)=min 150 (E l):=Wy;intro m
 induction m with
 |zero=>
  intro i x hi hx N hN;obtain⟨N,rfl⟩:∃K,N=K+1:=⟨N-1,J⟩;rw[List.drop_eq_nil_of_le J,mF];refine uR ?_;unfold eF;simp only[xc]
  simp_all
 |succ m ih=>
  intro i x hi hx N hN;obtain⟨N,rfl⟩:∃K,N=K+1:=⟨N-1,J⟩;have CA:i<E l:=J;have hit:i<E (l.take 150):=J;have uu:(l.take 150)[i]?=G (l.take 150)[i]:=VS hit;have hm:(l.take 150)[i]∈l:=WK (Wk hit);rw[Yp hit];generalize (l.take 150)[i]=a at uu hm⊢
  have w1:aJ ((i:Int)+1)=((i+1:C):Int):=by rw[aV J];omega
  cases hd:MK x a with
  |none=>
   obtain⟨c,h1,hc⟩:=Zes hx (ha a hm) hd;rw[tC hd];refine uR ?_;unfold eF;simp only[xc];rw[X (show(i:Int)<(E (l.take 150):Int)by omega),aS,uu]
   simp_all
  |some y=>
   obtain⟨h1,_,h2,_⟩:=Bw hx (ha a hm) hd;rw[oX hd];refine(Gr ?_).trans ((ih (i+1) y J h2 N J).trans ?_)
   ·unfold eF
    simp only[xc];rw[X (show(i:Int)<(E (l.take 150):Int)by omega),aS,uu]
    simp_all
   grind
theorem G7{x:aD}(hx:T x)(hl:E l<=1048576)(ha:∀a∈l,PF a.aM):iM x l=G ((mF x (l.take 150)).1,((mF x (l.take 150)).2:Int)):=by
 have e1:=NU hl ha (E (l.take 150)) 0 x J hx NN (by rw[Wy];unfold NN;omega)
 rw[Yg,Wa]at e1
 unfold iM;rw[J6 hx];simp only[Z];rw[oB (show iq 0 (if 150<(E l:Int)then 150 else(E l:Int)) (E l)=O by unfold iq;grind)]
 simp_all
theorem OK{x:aD}(hx:T x)(hl:E l<=1048576)(ha:∀a∈l,PF a.aM):ug x l=G ((mF x (l.take 150)).1,((mF x (l.take 150)).2:Int)):=by
 have hm:E (l.take 150)<NN:=by rw[Wy];unfold NN;omega
 obtain⟨g,n,e1,e2,_,_⟩:=QD (o:=x) hl ha (E (l.take 150)) 0 x J hx (.inl rfl) NN NN hm hm;have e3:=NU hl ha (E (l.take 150)) 0 x J hx NN hm;rw[Yg,Wa]at e3
 have e4:=VV (e1.symm.trans e3);simp only[ZiV,Prod.mk.injEq]at e4
 obtain⟨a0,a1,a2,a3,a4,a5,a6,a7,a8,a9,a10,a11,a12,a13,a14,a15,a16⟩:=e4;have hg:g=(mF x (l.take 150)).1:=by
  cases g with|mk w z r p c n j=>
  cases w with|mk nt o b cl nw sc sk md=>
  cases nt with|mk lg of ch=>
  cases hr:(mF x (l.take 150)).1 with|mk w' z' r' p' c' n' j'=>
  cases w' with|mk nt' o' b' cl' nw' sc' sk' md'=>
  cases nt' with|mk lg' of' ch'=>
  simp_all
 unfold ug;rw[ER hx];simp only[Z];rw[<-hg,<-a0];exact e2
theorem Hd{x:aD}(hx:T x)(ha:∀a∈l,PF a.aM)(hj:x.aF=[]):(mF x (l.take 150)).1.aF=l.take (mF x (l.take 150)).2/\mF x ((mF x (l.take 150)).1.aF.take 150)=mF x (l.take 150):=by
 obtain⟨_,_,r3⟩:=Le (l.take 150) hx λb hb=>ha b (WK hb)
 have hle:=Ld (l.take 150) x;rw[Wy]at hle
 have e:(mF x (l.take 150)).1.aF=l.take (mF x (l.take 150)).2:=by
  grind
 refine⟨e,?_⟩;rw[e,List.take_take,Nat.min_eq_right J];have:=Jo (l.take 150) (x:=x)
 simp_all
theorem Jp:∀(l:D bk) {x:aD},T x->(∀a∈l,PF a.aM)->∀a∈l.take (mF x l).2,bS a=G O
 | [],x,_,_=>by simp
 |b::l,x,hx,ha=>by
  cases h:MK x b with
  |none=>rw[tC h];simp
  |some y=>
   obtain⟨_,hd,h1,_⟩:=Bw hx (ha b YE) h;rw[oX h,Xt];intro a hm
   rcases VY.1 hm with rfl|hm
   ·exact hd.act
   ·exact Jp l h1 (λc hc=>ha c YD) a hm
structure tj(w:aw):Prop where
 aR:∀s∈w.aL,s.aR<=(w.ae.length:Int)
 sub:∀(i:C) (o:ay),w.ae[i]?=G o->(td ((i+1:C):Int) w.aL).Sublist (my w.aa i o)
/-! An Zft aL with the ZiP of its aE: before a scan,and behind it. -/
def stg(n:ab)(i:C):C->D au->D (aI×C×C)
 |_,[]=>[]
 |k,t::ts=>(ja n i t,k,k+1)::(mG n i t,k,k+1)::stg n i (k+1) ts
def Zk8(n:ab)(i:C)(x y:aI×C×C):Prop:=¬x.1.kind=4/\(x.2.2<=y.2.1\/∃t,x.1=ja n i t/\y.1=mG n i t)
theorem zE{n:ab}{i:C}{x:aI×C×C}:∀{ts:D au} {k:C},x∈stg n i k ts->∃(j:C) (t:au),ts[j]?=G t/\x.2=(k+j,k+j+1)/\(x.1=ja n i t\/x.1=mG n i t)
 | [],k,h=>by simp[stg]at h
 |t::ts,k,h=>by
  unfold stg at h
  rcases VY.1 h with rfl|h
  ·exact⟨0,t,rfl,rfl,.inl rfl⟩
  rcases VY.1 h with rfl|h
  ·exact⟨0,t,rfl,rfl,.inr rfl⟩
  obtain⟨j,t',h1,h2,h3⟩:=zE h;exact⟨j+1,t',by simp_all,by grind,h3⟩
theorem ZdA(n:ab)(i:C):∀(ts:D au) (k:C),(stg n i k ts).Pairwise (Zk8 n i)
 | [],_=>List.Pairwise.nil
 |t::ts,k=>by
  have xg:∀y∈stg n i (k+1) ts,k+1<=y.2.1:=λy hy=>by
   obtain⟨j,_,_,h2,_⟩:=zE hy
   simp_all
  unfold stg;refine Wx.2 ⟨λy hy=>⟨by simp[ja],?_⟩,Wx.2 ⟨λy hy=>⟨by simp[mG],.inl (xg y hy)⟩,ZdA n i ts (k+1)⟩⟩
  grind
theorem Tf(n:ab)(i:C):∀(ts:D au) (k:C),(stg n i k ts).map Prod.fst=ts.flatMap λt=>[ja n i t,mG n i t]
 | [],_=>rfl
 |t::ts,k=>by
  unfold stg;rw[WM,WM,Tf n i ts,List.flatMap_cons];rfl
def O9(n:ab)(i:C)(o:ay):D (aI×C×C):=if o.state=2 then((o.aE[o.aH.toNat]?).map λt=>(ja n i t,o.aH.toNat,o.aH.toNat+1)).toList else if o.state=3 then [((⟨((i+1:C):Int),o.bK,4,o.aZ,⟨0,0⟩⟩:aI),o.aH.toNat,o.aH.toNat)]else []
def O7(n:ab)(i:C)(o:ay):D (aI×C×C):=((⟨((i+1:C):Int),o.aQ,1,o.ar,⟨0,0⟩⟩:aI),0,0)::stg n i 0 (o.aE.take o.aH.toNat)++O9 n i o
theorem O8(n:ab)(i:C)(o:ay):(O7 n i o).map Prod.fst=my n i o:=by
 unfold O7 my O9;rw[Xv,WM,Tf]
 grind
def EE(n:ab)(o:ay)(k:C):ByteArray:=yt n o.ar (o.aE.take k)
def HH(n:ab)(o:ay)(k:C):Int:=match(o.aE.take k).getLast? with
 |some t=>cH n t
 |none=>o.aQ
theorem P8(hf:cD n){a b:aI}(ha:oU n a=O)(hb:oU n b=O)(ht:a.aR=b.aR)(bD:rh a b)(h4:¬a.kind=4){p q:lp}(hp:bF n a=G p)(hq:bC n b=G q)(har:fp n p q=G O):dT n a b=G true:=by
 obtain⟨v,hv,hvl⟩:=xt a b;have hv0:v<0:=hvl.2 bD;unfold dT;simp only[qc hf,ha,hb,Z,VX,Yx,X ht,hv,Yt (show ¬0<=v by omega),Yt h4,hp,hq,har]
 simp
structure Zas(n:ab)(i:C)(o:ay)(x:aI×C×C):Prop where
 aR:x.1.aR=((i+1:C):Int)
 behind:¬x.1.kind=4->oU n x.1=O->bF n x.1=G ⟨EE n o x.2.2,HH n o x.2.2⟩
 before:oU n x.1=O->∃s,bC n x.1=G ⟨EE n o x.2.1,s⟩/\HH n o x.2.1<=s
 le:x.2.1<=o.aE.length/\x.2.2<=o.aE.length
 kind:x.1.kind=1\/x.1.kind=2\/x.1.kind=3\/x.1.kind=4
 load:x.1.kind=3->∃t,o.aE[x.2.1]?=G t/\x.1=ja n i t/\x.2.2=x.2.1+1
section
variable {w:aw} (h:oc w) {i:C} {o:ay} (ho:w.ae[i]?=G o)
include h ho
theorem DH(hk:k<=E o.aE):gm w.aa (EE w.aa o k) (Kb w.aa (o.aQ+1) (o.aE.take k)) (o.aE.drop k)/\HH w.aa o k<=Kb w.aa (o.aQ+1) (o.aE.take k)/\0<=HH w.aa o k/\HH w.aa o k<=100000/\0<=bc (aj w.aa) (EE w.aa o k):=by
 obtain⟨hP,_⟩:=jN h;have hO:=fW hP ho;have yx:=h.parts.1;obtain⟨c0,c1⟩:=iH h.dp;have uu:0<=o.aQ/\o.aQ<=w.now:=hO.ok.aQ;have hc:=hO.chain;rw[<-XK k o.aE]at hc
 have hv:=o9 h.ok ho;unfold kv at hv
 simp only[V7,Ww,Yy,Yz]at hv
 have Py:=hv.1.1.1.1.1.1.1.1.1.1.1;have uP:=GR h.fit.dp h.dp (p:=o.ar) J (ts:=o.aE.take k) λt ht=>hO.ok.aN t (WK ht)
 refine⟨((wF _).1 hc).2,?_⟩;unfold HH
 cases hl:(o.aE.take k).getLast? with
 |none=>
  have e:o.aE.take k=[]:=Yq.1 hl;rw[e];refine⟨?_,?_,?_,?_⟩
  ·show o.aQ<=o.aQ+1;omega
  ·simp_all
  ·grind
  ·exact uP
 |some t=>
  rw[CS hl];obtain⟨t1,t2,t3,t4,t5⟩:=bX h.fit.dp h.dp (hO.ok.aN t (WK (WX hl)));refine⟨?_,?_,?_,?_⟩
  ·grind
  ·grind
  ·omega
  ·exact uP
theorem xJ{t:au}(ht:o.aE[k]?=G t):ic w.aa t=EE w.aa o k/\HH w.aa o k<=bY w.aa t/\EE w.aa o (k+1)=bB w.aa t/\HH w.aa o (k+1)=cH w.aa t/\fA w.aa t=true:=by
 have hk:=(VT.1 ht).1;obtain⟨s1,s2,s3,s4,s5⟩:=DH h ho (k:=k) J;rw[Yp hk,(VT.1 ht).2]at s1
 have hl:(o.aE.take (k+1)).getLast?=G t:=by grind
 refine⟨s1.2.1,by have:=s1.2.2.1;omega,qT hl,?_,s1.1⟩
 unfold HH;rw[hl]
theorem NT{t:au}(ht:o.aE[k]?=G t):Zas w.aa i o (ja w.aa i t,k,k+1):=by
 have hk:=(VT.1 ht).1;obtain⟨a1,a2,a3,a4,a5⟩:=xJ h ho ht;obtain⟨y,hy,_⟩:=cZ h.fit.dp a5;obtain⟨t1,t2,_⟩:=bX h.fit.dp h.dp a5;have f1:ic w.aa t=y.ar:=by unfold ic;simp_all
 have f2:bB w.aa t=y.aZ:=by unfold bB;simp_all
 refine⟨rfl,λ_ hs=>?_,λhs=>⟨bY w.aa t,?_,a2⟩,⟨by grind,by grind⟩,.inr (.inr (.inl rfl)),λ_=>⟨t,ht,rfl,rfl⟩⟩
 ·show bF w.aa (ja w.aa i t)=G ⟨EE w.aa o (k+1),HH w.aa o (k+1)⟩
  rw[a3,a4,f2];exact Mj h.fit.dp hs rfl hy t2
 ·show bC w.aa (ja w.aa i t)=G ⟨EE w.aa o k,bY w.aa t⟩
  rw[<-a1,f1];exact DO h.fit.dp hs rfl hy t1
theorem Mi{s:aI}(hs:oU w.aa s=O)(h2:s.kind=2){y:bP}(hy:az w.aa.aC s.aN.bq=G y){e:Int}(he:bp w.aa s.aN=G e):bC w.aa s=G ⟨y.ar,e⟩:=by
 unfold bC;simp only[qc h.fit.dp,hs,Z,VX,Yx,Yt (show ¬s.kind=3 by omega),X h2,Yw,hy,lI,he]
theorem Zbg{t:au}(ht:o.aE[k]?=G t):Zas w.aa i o (mG w.aa i t,k,k+1):=by
 have hk:=(VT.1 ht).1;obtain⟨a1,a2,a3,a4,a5⟩:=xJ h ho ht;obtain⟨y,hy,_⟩:=cZ h.fit.dp a5;obtain⟨t1,t2,_⟩:=bX h.fit.dp h.dp a5;have f1:ic w.aa t=y.ar:=by unfold ic;simp_all
 have f2:bB w.aa t=y.aZ:=by unfold bB;simp_all
 refine⟨rfl,λ_ hs=>?_,λhs=>⟨bY w.aa t,?_,a2⟩,⟨by grind,by grind⟩,.inr (.inl rfl),λhk=>by simp[mG]at hk⟩
 ·show bF w.aa (mG w.aa i t)=G ⟨EE w.aa o (k+1),HH w.aa o (k+1)⟩
  rw[a3,a4,f2];exact DP h.fit.dp hs rfl hy
 ·show bC w.aa (mG w.aa i t)=G ⟨EE w.aa o k,bY w.aa t⟩
  rw[<-a1,f1];exact Mi h ho hs rfl hy t1
theorem Ga:pK w.aa o=EE w.aa o o.aH.toNat/\(0<o.aH->∀t,o.aE[(o.aH-1).toNat]?=G t->HH w.aa o o.aH.toNat=cH w.aa t):=by
 obtain⟨hP,_⟩:=jN h;have hg:=(fW hP ho).ok.aH;unfold pK EE HH
 by_cases h0:0<o.aH
 ·have bD:(o.aH-1).toNat<E o.aE:=J
  have hl:(o.aE.take o.aH.toNat).getLast?=G o.aE[(o.aH-1).toNat]:=by
   grind
  rw[if_pos h0,VS bD,qT hl,hl];simp
 ·rw[if_neg h0,show o.aH.toNat=0 by omega]
  exact⟨rfl,λhx=>absurd hx h0⟩
theorem Te:∀x∈O7 w.aa i o,Zas w.aa i o x:=λx hx=>by
 obtain⟨hP,_⟩:=jN h;have hO:=fW hP ho;have hg:=hO.ok.aH;obtain⟨g1,g2⟩:=Ga h ho;unfold O7 at hx
 rw[Xa]at hx
 rcases VY.1 hx with rfl|hx
 ·refine⟨rfl,λ_ hs=>DQ h.fit.dp hs YE YE,λhs=>⟨o.aQ,yl h.fit.dp hs YE YE,WT _⟩,⟨Ws _,Ws _⟩,.inl rfl,λhk=>by grind⟩
 rcases We.1 hx with hx|hx
 ·obtain⟨j,t,h1,h2,h3⟩:=zE hx
  have ht:o.aE[j]?=G t:=by
   grind
  rw[Wa]at h2
  obtain⟨x1,x2⟩:=x;simp only at h2 h3
  subst h2
  rcases h3 with rfl|rfl
  ·exact NT h ho ht
  ·exact Zbg h ho ht
 ·unfold O9 at hx
  by_cases h2:o.state=2
  ·rw[if_pos h2]at hx
   rcases hO.st.cases with⟨c,_⟩ |⟨_,_,_,t,u1,_⟩ |⟨c,_⟩
   ·omega
   ·rw[u1]at hx
    obtain rfl:x=(ja w.aa i t,o.aH.toNat,o.aH.toNat+1):=by simp_all
    exact NT h ho u1
   omega
  ·rw[if_neg h2]at hx
   by_cases h3:o.state=3
   ·rw[if_pos h3]at hx
    obtain rfl:=List.mem_singleton.1 hx
    rcases hO.st.cases with⟨c,_⟩ |⟨c,_⟩ |⟨_,e1,e2,e3,e4,e5⟩
    ·omega
    ·omega
    ·have bD:(o.aH-1).toNat<E o.aE:=J
     have hw:=VS bD;refine⟨rfl,λhk=>absurd rfl hk,λhs=>⟨o.bK,?_,?_⟩,⟨by simp_all,by simp_all⟩,.inr (.inr (.inr rfl)),λhk=>by grind⟩
     ·show bC w.aa _=G ⟨EE w.aa o o.aH.toNat,o.bK⟩
      rw[<-g1,e2];exact yl h.fit.dp hs YE YE
     ·rw[g2 e4 _ hw,e5 _ hw];omega
   simp_all
theorem Zgn:(O7 w.aa i o).Pairwise (Zk8 w.aa i):=by
 obtain⟨hP,_⟩:=jN h;have hg:=(fW hP ho).ok.aH;have htl:∀y∈O9 w.aa i o,y.2.1=o.aH.toNat:=λy hy=>by
  unfold O9 at hy
  grind
 unfold O7;refine List.pairwise_append.2 ⟨Wx.2 ⟨λy hy=>⟨by simp,.inl (Ws _)⟩,ZdA _ _ _ _⟩,?_,λx hx y hy=>?_⟩
 ·unfold O9
  by_cases h2:o.state=2
  ·simp_all
  ·rw[if_neg h2]
   by_cases h3:o.state=3
   all_goals simp_all
 ·rcases VY.1 hx with rfl|hx
  ·exact⟨by simp,.inl (Ws _)⟩
  ·obtain⟨j,t,h1,h2,h3⟩:=zE hx
   have hj:=(VT.1 h1).1;rw[Wy]at hj
   refine⟨by rcases h3 with e|e<;>rw[e]<;>simp[ja,mG],.inl ?_⟩
   grind
theorem DG{j k:C}(hjk:j<=k)(hk:k<=E o.aE){s:Int}(hs:HH w.aa o k<=s):fp w.aa ⟨EE w.aa o j,HH w.aa o j⟩ ⟨EE w.aa o k,s⟩=G O/\gP w.aa (EE w.aa o j) (HH w.aa o j) (EE w.aa o k) s=G true:=by
 obtain⟨s1,s2,s3,s4,s5⟩:=DH h ho (k:=j) J;have Zmw:o.aE.take k=o.aE.take j++(o.aE.drop j).take (k-j):=by
  rw[List.take_drop,show j+(k-j)=k by omega]
  have:(o.aE.take k).take j=o.aE.take j:=by grind
  rw[<-this,XK]
 have Qe:gm w.aa (EE w.aa o j) (Kb w.aa (o.aQ+1) (o.aE.take j)) ((o.aE.drop j).take (k-j)):=by
  have:=s1;rw[<-XK (k-j) (o.aE.drop j)]at this
  exact((wF _).1 this).1
 have C5:yt w.aa (EE w.aa o j) ((o.aE.drop j).take (k-j))=EE w.aa o k:=by
  unfold EE yt
  simp_all
 have ve:∀t,((o.aE.drop j).take (k-j)).getLast?=G t->HH w.aa o k=cH w.aa t:=λt ht=>by
  unfold HH
  simp_all
 have hle:HH w.aa o j<=s:=by
  cases hl:((o.aE.drop j).take (k-j)).getLast? with
  |none=>
   grind
  |some t=>
   have hm:=WX hl;have:=xo h.fit.dp h.dp Qe t hm;obtain⟨_,_,_,t4,_⟩:=bX h.fit.dp h.dp (nU Qe t hm)
   grind
 exact TL h.fit.dp h.dp s5 ⟨s3,s4⟩ Qe s2 C5 hle λt ht=>by simp_all
theorem Zgg:(my w.aa i o).Pairwise λa b=>rh a b/\(oU w.aa a=O->oU w.aa b=O->dT w.aa a b=G O):=by
 have bD:(my w.aa i o).Pairwise rh:=L9 Zdl (RW (λa b k=>k.1) (Zdp h ho))
 have hok:=Te h ho;have hpw:=Zgn h ho;rw[<-O8]at bD⊢
 rw[List.pairwise_map]at bD⊢
 refine(List.Pairwise.and bD hpw).imp_of_mem λ{x y} hx hy hxy=>⟨hxy.1,λha hb=>?_⟩
 obtain⟨h1,h2,h3⟩:=hxy;have ox:=hok x hx;have oy:=hok y hy
 rcases h3 with h3|⟨t,e1,e2⟩
 ·obtain⟨s,b1,b2⟩:=oy.before hb
  exact P8 h.fit.dp ha hb (ox.aR.trans oy.aR.symm) h1 h2 (ox.behind h2 ha) b1 (DG h ho h3 oy.le.1 b2).1
 ·exact D1 h.fit.dp ha hb (ox.aR.trans oy.aR.symm) h1 h2 (by rw[e1];rfl) (by rw[e2];rfl) (by rw[e1,e2];rfl)
end
section
variable {w:aw} (h:oc w) (hs:tj w)
include h hs
theorem Co:∀s∈w.aL,oU w.aa s=true:=λs hm=>by
 unfold oU;rw[(vC h.fit h.ok hm).1];rfl
theorem Pa{i:C}{o:ay}(ho:w.ae[i]?=G o):(td ((i+1:C):Int) w.aL).Pairwise rh/\A7 w.aa (td ((i+1:C):Int) w.aL):=by
 have hp:=List.Pairwise.sublist (hs.sub i o ho) (Zgg h ho);refine⟨hp.imp λk=>k.1,λj a b ha hb=>?_⟩
 have h1:=Co h hs a (WW.1 (VU ha)).1;have h2:=Co h hs b (WW.1 (VU hb)).1;obtain⟨l1,e1⟩:=VT.1 ha;obtain⟨l2,e2⟩:=VT.1 hb;have:=Wr.1 hp j (j+1) l1 l2 J
 simp_all
theorem Lo:Ao w.aa w.aL:=by
 refine⟨h.parts.2.2.2.1,Co h hs,I6 λth=>?_⟩
 by_cases hth:1<=th/\th<=(E w.ae:Int)
 ·have hi:th.toNat-1<E w.ae:=J
  have:=(Pa h hs (VS hi)).1;rw[show((th.toNat-1+1:C):Int)=th by omega]at this
  exact this.imp λ{a b} C2 e=>by subst e;exact ZiJ a C2
 ·rw[yJ λs hm e=>hth ⟨by rw[<-e];exact Rt h.dp (vC h.fit h.ok hm).1,by rw[<-e];exact hs.aR s hm⟩]
  simp
theorem RE{i:C}{o:ay}(ho:w.ae[i]?=G o):(∃z,gJ w.aa w.aL ((i+1:C):Int) w.now=G (z,Zf))\/
 ∃s,gJ w.aa w.aL ((i+1:C):Int) w.now=G (s,O)/\(o.state=1->oE w.aa w.aL ((i+1:C):Int) w.now o.place=G O)/\
  (o.state=2->∃t,az o.aE o.aH=G t/\jg w.aa w.aL ((i+1:C):Int) w.now t=G O):=by
 obtain⟨hP,_⟩:=jN h;have hO:=fW hP ho;have hg:=hO.ok.aH;have hF:=Lo h hs;obtain⟨h1,h2⟩:=Pa h hs ho;have h3:∀s∈td ((i+1:C):Int) w.aL,s.aQ<=w.now:=λs hm=>(vC h.fit h.ok (WW.1 hm).1).2
 have hf:=h.fit.dp
 cases hl:(td ((i+1:C):Int) w.aL).getLast? with
 |none=>
  left;have hc:=CP hf hF h1 h2;have e:td ((i+1:C):Int) w.aL=[]:=Yq.1 hl;rw[e]at hc
  have e2:aB (jZ w.now []) NN (aJ ((E ([]:D aI):Int)-1))=G (.inl ()):=by
   rfl
  unfold gJ
  simp_all
 |some s=>
  right;have hsm:=WX hl;have hsk:=Co h hs s (WW.1 hsm).1;have hss:s∈my w.aa i o:=(hs.sub i o ho).subset hsm;rw[<-O8]at hss
  obtain⟨x,hx,rfl⟩:=WH.1 hss;have ox:=Te h ho x hx;obtain⟨g1,g2⟩:=Ga h ho
  -- where x Znh Znr the ZiP
  have hxg:¬o.state=3->x.2.2<=o.aH.toNat\/o.state=2/\∃t,o.aE[o.aH.toNat]?=G t/\x.1=ja w.aa i t:=λhn3=>by
   unfold O7 at hx
   rw[Xa]at hx
   rcases VY.1 hx with rfl|hx
   ·simp
   rcases We.1 hx with hx|hx
   ·obtain⟨j,t,q1,q2,q3⟩:=zE hx
    grind
   ·unfold O9 at hx
    grind
  -- the scan of a aN that has bK,or of Zd: the order is free behind it
  have free:¬o.state=3->x.2.2<=o.aH.toNat->fU w.aa w.aL ((i+1:C):Int) w.now=G ⟨w.aa,w.now,Zf,⟨#[]⟩,⟨0,0⟩,Zf,O,⟨EE w.aa o x.2.2,HH w.aa o x.2.2⟩,zS,Zf⟩:=λhn3 hle=>by
   have h4:¬x.1.kind=4:=λh4=>by
    unfold O7 at hx
    rw[Xa]at hx
    rcases VY.1 hx with rfl|hx
    ·grind
    rcases We.1 hx with hx|hx
    ·obtain⟨j,t,q1,q2,q3⟩:=zE hx
     rcases q3 with e|e<;>rw[e]at h4<;>simp[ja,mG]at h4
    ·unfold O9 at hx
     grind
   have hbh:=ox.behind h4 hsk
   by_cases hk3:x.1.kind=3
   ·obtain⟨t,l1,l2,l3⟩:=ox.load hk3
    have bD:x.2.1<o.aH.toNat:=J;have C5:cH w.aa t<=w.now:=by
     have vd:(o.aH-1).toNat<E o.aE:=J;have hp:=hO.st.past _ J (VS vd)
     by_cases D4:x.2.1=(o.aH-1).toNat
     ·grind
     ·have hlp:=Bp hf h.dp hO.chain
      have hn1:=(h.aE ho).next;have Qm:o.aE[x.2.1+1]?=G o.aE[x.2.1+1]:=VS J;have:=hn1 _ _ _ l1 Qm;have Gl:=(h.aE ho).aN _ (Wk (show(o.aH-1).toNat<E o.aE from vd))
      by_cases Zn1:x.2.1+1=(o.aH-1).toNat
      ·grind
      ·have:=Wr.1 hlp (x.2.1+1) (o.aH-1).toNat J vd J
       omega
    obtain⟨_,_,_,_,tb⟩:=xJ h ho l1;obtain⟨t1,t2,_⟩:=bX hf h.dp tb;have Ey:x.1.aN=t:=by rw[l2];rfl
    unfold fU;simp only[Kt hf hF h1 h2 h3 hl,Di hf hF h1 h2 h3,Z,VX,Yx,Yt h4,X hk3,Yw,qm,Ey,t2,Yt (show ¬w.now<cH w.aa t by omega),hbh,JP hf h.dp]
   ·exact Qx hf h.dp hF h1 h2 h3 hl hk3 h4 hbh
  refine⟨x.1,Kt hf hF h1 h2 h3 hl,λs1=>?_,λs2=>?_⟩
  ·have Ut:x.2.2<=o.aH.toNat:=by
    omega
   have hk:=free J Ut
   rcases hO.st.cases with⟨_,e1,_⟩ |⟨c,_⟩ |⟨c,_⟩
   ·have uP:o.place=EE w.aa o o.aH.toNat:=e1.trans g1
    obtain⟨_,_,_,_,hi⟩:=DH h ho (k:=o.aH.toNat) J;have yx:HH w.aa o o.aH.toNat<=w.now:=by
     by_cases h0:0<o.aH
     ·have bD:(o.aH-1).toNat<E o.aE:=J
      have hw:=VS bD;rw[g2 h0 _ hw];exact hO.st.past _ h0 hw
     ·unfold HH
      rw[show o.aH.toNat=0 by omega]
      exact hO.ok.aQ.2
    have hr:=(DG h ho Ut J yx).2;have hii:dy w.aa=G true:=by rw[(iu hf).1];exact h.dp
    have hpa:bQ (aj w.aa) (EE w.aa o o.aH.toNat)=G (bc (aj w.aa) (EE w.aa o o.aH.toNat)):=by rw[sr];exact kP hf _
    rw[uP];unfold oE fX;rw[hii,(cV hf).1,(cV hf).2]
    simp_all
   all_goals omega
  ·rcases hO.st.cases with⟨c,_⟩ |⟨_,_,_,t,u1,u2,u3⟩ |⟨c,_⟩
   ·omega
   ·refine⟨t,by unfold az;rw[if_pos hg.1];exact u1,?_⟩
    obtain⟨a1,a2,a3,a4,a5⟩:=xJ h ho u1
    rcases hxg J with Ut|⟨_,t',v1,v2⟩
    ·have hk:=free J Ut
     obtain⟨y,hy,_⟩:=cZ hf a5;obtain⟨t1,t2,_⟩:=bX hf h.dp a5;have f1:ic w.aa t=y.ar:=by unfold ic;rw[hy];rfl
     have hr:=(DG h ho Ut J a2).2;rw[<-a1,f1]at hr
     have hit:db w.aa t=G true:=by rw[vk hf h.dp,sY hf,a5]
     unfold jg dt;simp only[hit,Z,Yw,hk,Yx,hy,VX,lI,qm,t1,t2,Yt (show ¬w.now<bY w.aa t by omega),Yt (show ¬cH w.aa t<=w.now by omega),hr,WI]
    ·rw[u1]at v1
     obtain rfl:=VV v1;have Ey:x.1.aN=t:=by rw[v2];rfl
     have hb:=(Ml hf h.dp hF h1 h2 h3 hl (by rw[v2];rfl) (by rw[Ey];exact a5) (by rw[Ey];exact u2) (by rw[Ey];exact u3)).2
     rw[Ey]at hb
     exact hb
   ·omega
theorem yX:mT w=G true:=by
 have e:aB (l7 w) NN 0=G (.inl ()):=by
  refine vl (xs:=w.ae) (λi o ho=>?_) ?_ h.fit.ae
  ·have bD:=(VT.1 ho).1
   have hol:=h.fit.ae;have hw:aJ ((i:Int)+1)=((i+1:C):Int):=bz bD J;have hg:az w.ae (i:Int)=G o:=by rw[aS];omega
   unfold l7;rw[X (show(i:Int)<E w.ae by omega),Yw,hg,Z,hw]
   rcases RE h hs ho with⟨z,hz⟩ |⟨s,hl,k1,k2⟩
   all_goals grind
  ·unfold l7
   simp
 unfold mT
 simp_all
end
theorem CY(skip:D Int):∀(l:D aI) (p:D aI×Int),∃L,(l.foldl (mu skip) p).1=p.1++L/\L.Sublist l
 | [],p=>⟨[],by simp,.slnil⟩
 |s::l,p=>by
  rw[List.foldl_cons];obtain⟨L,h1,h2⟩:=CY skip l (mu skip p s);have h3:(mu skip p s).1=p.1++[s]\/(mu skip p s).1=p.1:=by
   unfold mu
   grind
  grind
theorem Zfo(th:Int){a b:D aI}(h:a.Sublist b):(td th a).Sublist (td th b):=h.filter _
theorem Kh{w:aw}{a:Int}(h:oc w)(hs:tj w):tj (gw w a):=by
 obtain⟨L,h1,h2⟩:=CY w.skip (yS w a) (w.aL,w.br);have CC:(gw w a).aL=w.aL++L:=h1;refine⟨λs hm=>?_,λi o' zK=>?_⟩
 ·show s.aR<=(E (w.ae.map (o7 w.aa a)):Int)
  rw[Wi];rw[CC]at hm
  rcases We.1 hm with hm|hm
  ·exact hs.aR s hm
  ·have hm:=h2.subset hm
   unfold yS at hm
   rcases We.1 hm with hm|hm
   ·obtain⟨j,o,h1,h3⟩:=sC hm
    have:=(VT.1 h1).1;rw[DX _ _ s h3];omega
   ·obtain⟨j,o,h1,h3⟩:=sC hm
    have:=(VT.1 h1).1;rw[Wi]at this
    rw[Eg _ _ s h3];omega
 ·have D7:(w.ae.map (o7 w.aa a))[i]?=G o':=zK
  rw[List.getElem?_map]at D7
  obtain⟨o,ho,rfl⟩:=Wc.1 D7;have e1:=yK (f:=gX w.aa a) DX w.ae 0 i o ho;have e2:=yK (f:=pq w.aa a) Eg (w.ae.map (cK w.aa a)) 0 i (cK w.aa a o) YG;simp only[Wa]at e1 e2
  have hL:=Zfo ((i+1:C):Int) h2;unfold yS at hL
  rw[vt,e1,e2]at hL
  rw[CC,vt];show(td _ w.aL++td _ L).Sublist (my w.aa i (o7 w.aa a o));unfold o7;rw[VG,OR (h.aE ho).aH.1,XB];exact(hs.sub i o ho).append hL
theorem Jr:∀(k:C) (w:aw) (u:Int),oc w->tj w->u<=100000->tj (uj k w u)
 |0,w,u,_,hs,_=>hs
 |k+1,w,u,h,hs,hu=>by
  unfold uj
  split
  ·omega
  ·rename_i hc
   obtain⟨a,_,_⟩:=tT h J;exact Jr k _ u a (Kh h hs) hu
theorem TH{w:aw}(h:oc w)(hs:tj w){u:Int}(hu:u<=100000):tj (vG w u):=by
 have hr:=Jr (qw w) w u h hs hu;exact⟨hr.aR,hr.sub⟩
theorem TE{w:aw}(hs:tj w){ar aZ:ByteArray}{ax ah fc:Int}{aE:D au}(ys:D aq):tj (yh w (mO w ar aZ ax ah fc aE) ys):=by
 obtain⟨L,h1,h2⟩:=CY w.skip [(⟨(E w.ae:Int)+1,w.now,1,ar,⟨0,0⟩⟩:aI)] (w.aL,w.br);have CC:(yh w (mO w ar aZ ax ah fc aE) ys).aL=w.aL++L:=h1;have Zh7:(yh w (mO w ar aZ ax ah fc aE) ys).ae=w.ae++[mO w ar aZ ax ah fc aE]:=rfl;have ZmC:=hs.aR;have Ur:∀i,my w.aa i (mO w ar aZ ax ah fc aE)=[⟨((i+1:C):Int),w.now,1,ar,⟨0,0⟩⟩]:=λi=>by
  rfl
 refine⟨λs hm=>?_,λi o ho=>?_⟩
 ·grind
 ·rw[CC,vt]
  show(_:D aI).Sublist (my w.aa i o);rw[Zh7]at ho
  by_cases hi:i<E w.ae
  ·rw[Wz hi]at ho
   rw[yJ (l:=L) (λs hm=>by grind),List.append_nil]
   exact hs.sub i o ho
  ·have hie:i=E w.ae:=by
    grind
   subst hie;rw[WE (VW _),Nat.sub_self]at ho
   obtain rfl:mO w ar aZ ax ah fc aE=o:=by simp_all
   rw[Ur,yJ (l:=w.aL) (λs hm=>by grind),List.nil_append]
   refine List.Sublist.trans (List.filter_sublist) (h2.trans ?_);simp
theorem Lj{i:C}{o o':ay}(h:rU n o o')(hg:0<=o.aH/\o.aH<=aY o/\aY o<=E o.aE):my n i o'=my n i o:=by
 rcases h with rfl|⟨more,_,rfl⟩
 ·rfl
 have hk:E (bW o)=(aY o).toNat:=by unfold bW;simp_all
 have e1:(bW o++more).take o.aH.toNat=o.aE.take o.aH.toNat:=by
  rw[List.take_append_of_le_length J];unfold bW
  grind
 have e2:o.state=2->(bW o++more)[o.aH.toNat]?=o.aE[o.aH.toNat]?:=λh2=>by
  have C4:aY o=o.aH+1:=by unfold aY;omega
  rw[Wz J];unfold bW
  grind
 unfold my;show(⟨((i+1:C):Int),o.aQ,1,o.ar,⟨0,0⟩⟩:aI)::(((bW o++more).take o.aH.toNat).flatMap λt=>[ja n i t,mG n i t])++(if o.state=2 then(((bW o++more)[o.aH.toNat]?).map (ja n i)).toList else if o.state=3 then [⟨((i+1:C):Int),o.bK,4,o.aZ,⟨0,0⟩⟩]else [])=_
 simp_all
theorem Ae{w x:aw}(h:oc w)(hs:tj w)(hn:x.aa=w.aa)(CC:x.aL=w.aL)(hl:E x.ae=E w.ae)(hr:∀(i:C) (o:ay),w.ae[i]?=G o->∃o',x.ae[i]?=G o'/\rU w.aa o o'):tj x:=by
 obtain⟨hP,_⟩:=jN h;refine⟨λs hm=>by rw[hl];rw[CC]at hm;exact hs.aR s hm,λi o' zK=>?_⟩
 have hi:i<E w.ae:=by grind
 have ho:=VS hi;obtain⟨o2,e,hR⟩:=hr i _ ho;rw[zK]at e
 obtain rfl:=VV e;have hc:=nY hP ho;rw[hn,CC,Lj hR ⟨(fW hP ho).ok.aH.1,hc.2.2.2,hc.2.1⟩];exact hs.sub i _ ho
structure L5(n:ab)(x:aD):Prop where
 of:T x
 ok:W x=O
 Hu:tj x.world
 wd:WD n x.world
theorem RJ{x:Zo α}{r:α}{P:α->Prop}(h:aO x P)(e:x=G r):P r:=by
 obtain⟨y,e',h⟩:=h
 simp_all
theorem L5.w{x:aD}(h:L5 n x):oc x.world:=⟨h.of.world,(iw h.ok).1⟩
theorem Pj(hn:uA n){o x:aD}(h:L5 n o)(ha:PF a.aM)(hd:JS o a x):L5 n x:=by
 obtain⟨k1,k2⟩:=ET h.of ha hd;obtain⟨y,rfl,hy⟩:=hd.how;have hw:=h.w;have hu:a.kind=3->a.bG<=100000:=λhk=>by
  have:=Ba ha.fit.1 ha.fit.2.1 ha.fit.2.2 hd.act;omega
 rcases hy with⟨_,hy⟩ |⟨_,hy⟩ |⟨_,w,rfl,hy⟩
 ·obtain⟨v,aE,ys,fc,_,_,hT,_,q⟩:=hy.nQ
  have e:y.world=yh o.world (mO o.world a.aM.ar a.aM.label.aZ a.aM.label.ax a.aM.ah fc aE) ys:=congrArg (λr=>r.1) hT.res
  refine⟨k1,k2,?_,RJ (P:=λr:aw×Int×Bool=>WD n r.1) (PN hn.fit (by have:=hn.len;omega) h.wd _ _ _ _) q⟩
  show tj y.world;rw[e];exact TE h.Hu ys
 ·obtain⟨l,z,rfl,_⟩:=hy
  exact⟨k1,k2,h.Hu,h.wd⟩
 ·rcases hy with⟨hk,bD,rfl⟩ |⟨_,q,hS⟩ |⟨_,m,_,q,hR⟩
  ·have hs:=(CF hw (X2 bD) (hu hk)).2.1
   have uf:=h.wd.dp;refine⟨k1,k2,TH hw h.Hu (hu hk),⟨k1.world,hs.aa.trans uf,?_,?_⟩⟩
   ·show(vG o.world a.bG).ak.length<=1000
    rw[hs.ak];exact h.wd.ak
   ·have hf:=ZdV hw (X2 bD) (hu hk) λz hz=>by rw[uf];exact(h.wd.fin z hz).ends
    rw[uf]at hf
    exact hf
  ·refine⟨k1,k2,Ae hw h.Hu hS.same.aa hS.same.aL hS.same.len λi z hz=>?_,RJ (P:=λr:aw×Bool=>WD n r.1) (Zdr hn.fit (by have:=hn.len;omega) h.wd _) q⟩
   obtain⟨z',a1,_,a2⟩:=hS.ord i z hz;exact⟨z',a1,a2⟩
  ·refine⟨k1,k2,Ae hw h.Hu hR.same.aa hR.same.aL hR.same.len λi z hz=>?_,RJ (P:=λr:aw×Int=>WD n r.1) (Vv hn.fit (by have:=hn.len;omega) h.wd) q⟩
   obtain⟨z',a1,a2,_⟩:=hR.ord i z hz;exact⟨z',a1,a2⟩
theorem Tm{n:ab}(hn:uA n):∀(l:D bk) {x:aD},L5 n x->(∀a∈l,PF a.aM)->L5 n (mF x l).1
 | [],x,h,_=>h
 |a::l,x,h,ha=>by
  cases hd:MK x a with
  |none=>rw[tC hd];exact h
  |some y=>
   obtain⟨_,hD,_,_⟩:=Bw h.of (ha a YE) hd;rw[oX hd];exact Tm hn l (Pj hn h (ha a YE) hD) λb hb=>ha b YD
theorem Zgt(hn:uA n){o:aD}(ho:T o)(hv:W o=O){skip:D Int}(hw:o.world=⟨n,[],[],[],0,[],skip,0⟩):L5 n o:=by
 refine⟨ho,hv,?_,?_⟩
 ·rw[hw]
  exact⟨λs hs=>YD,λi o h=>YD⟩
 ·have hf:=ho.world
  rw[hw]at hf⊢
  exact⟨hf,rfl,by simp,λo h=>YM⟩
theorem DI(f:C->Int)(k:C):((Wj (k+1)).map f).sum=((Wj k).map f).sum+f k:=by
 rw[List.range_succ,Xv,List.sum_append];simp
theorem Lt{f:C->Int}:∀k:C,(∀i,i<k->0<=f i/\f i<=100000)->0<=((Wj k).map f).sum/\((Wj k).map f).sum<=100000*(k:Int)
 |0,_=>by simp
 |k+1,h=>by
  have ih:=Lt k λi hi=>h i J
  have:=h k J;rw[DI];omega
section
variable {x:aD} (hx:T x) (hv:W x=O)
include hx hv
theorem Pe{y:D Int}(hy:E y<=1048576)(hm:∀o,o∈y↔0<kX (x.lines.map R) o)(hk:k<E x.world.ae)(a b:Int)(ha:0<=a/\a<=1000000000000)(hb:0<=b/\b<=1000000000000):
 lE x y (a,b,((k+1:C):Int))=G (.inl (a+(S (x.lines.map R) ((k:Int)+1) 2-S (x.lines.map R) ((k:Int)+1) 3),b+kX (x.lines.map R) ((k:Int)+1),((k+1+1:C):Int))):=by
 obtain⟨_,_,_,_,hl,uP,_,Av,_,_⟩:=iw hv;have hp0:=hx.aK;have hp:x.aK[k]?=G (x.aK[k]' J):=VS _;generalize x.aK[k]' J=p at hp
 have hw:x.world.ae[k]?=G x.world.ae[k]:=VS hk;have hc:=cX.1 Av k p hp;rw[Wa]at hc
 obtain⟨p1,p2,p3⟩:=(hx.pf p (VU hp)).fit;obtain⟨e,v,hv⟩:=Ce hx.bb hx.bd p1 p2 p3;unfold oA at hc
 rw[hw,tq,hv]at hc
 simp only[W9,V7,decide_eq_true_eq]at hc
 obtain⟨c1,_,_,_,_,c6⟩:=hc;have ek:((k+1:C):Int)=(k:Int)+1:=J;rw[ek]at c6⊢
 obtain⟨s1,s2,s3,s4⟩:=xO hl ((k:Int)+1);obtain⟨o1,o2,o3⟩:=KK hl ((k:Int)+1);have hg:az x.aK (aJ ((k:Int)+1-1))=G p:=by rw[aV J,show(k:Int)+1-1=(k:Int)by omega,aS];omega
 have Zmn:vn y ((k:Int)+1)=G (Zg (0<kX (x.lines.map R) ((k:Int)+1))):=by
  rw[show vn y ((k:Int)+1)=lk y ((k:Int)+1)from rfl,zv hy]
  grind
 unfold lE;simp only[X (show(k:Int)+1<=E x.world.ae by omega),Yw,Hx hx.lines,KJ hx.lines,Z,hg,e,hv,c1,VX,Yx,c6,decide_true,Zmn,
  Yt (show ¬v.1<S (x.lines.map R) ((k:Int)+1) 3 by omega),Yt (show ¬kX (x.lines.map R) ((k:Int)+1)<0 by omega),beq_self_eq_true]
 rw[aV (n:=a+_) J,aV (n:=b+_) J,aV (n:=(k:Int)+1+1) J,aV J]
 grind
theorem Pf:qf x=G true:=by
 obtain⟨_,_,_,_,hl,uP,_,_,hli,_⟩:=iw hv;have hn:=hx.aK;have Zma:=Zij hl;have Ib:∀z∈x.lines.map R,1<=z.o/\z.o<=(E x.world.ae:Int):=λz hz=>by
  obtain⟨i,hi⟩:=WL hz;have h1:=(BY hl hi).1;simp only[rH,V7]at h1
  refine⟨(qA h1.1.1.1).1,?_⟩;obtain⟨q,hq,rfl⟩:=WH.1 hz;obtain⟨j,hj⟩:=WL hq;have h2:=cX.1 hli j q hj;unfold wR at h2
  simp only[V7,Ww,Yz]at h2
  have:=h2.1;show q.order<=_;omega
 have Gi:∀o,o∈VO (A1 (x.lines.map R) (E x.lines))↔0<kX (x.lines.map R) o:=λo=>by
  have h:=Zck (x.lines.map R) o;rw[Wi]at h
  rw[h];exact⟨λh=>h.1,λh=>⟨h,I8 hl h⟩⟩
 have hy:E (VO (A1 (x.lines.map R) (E x.lines)))<=1048576:=by
  rw[Fc];have:=KG (x.lines.map R) (E x.lines);omega
 obtain⟨c1,c2⟩:=Ms hl λz hz=>(Ib z hz).2
 generalize hY:VO (A1 (x.lines.map R) (E x.lines))=Y at *
 have D8:∀k,∀i,i<k->0<=(λi:C=>S (x.lines.map R) ((i:Int)+1) 2-S (x.lines.map R) ((i:Int)+1) 3) i/\(λi:C=>S (x.lines.map R) ((i:Int)+1) 2-S (x.lines.map R) ((i:Int)+1) 3) i<=100000:=λk i _=>by
  have:=xO hl ((i:Int)+1)
  grind
 have C6:∀k,∀i,i<k->0<=(λi:C=>kX (x.lines.map R) ((i:Int)+1)) i/\(λi:C=>kX (x.lines.map R) ((i:Int)+1)) i<=100000:=λk i _=>(KK hl ((i:Int)+1)).2
 have key:∀m k N,k+m=E x.world.ae->m<N->aB (lE x Y) N (((Wj k).map λi:C=>S (x.lines.map R) ((i:Int)+1) 2-S (x.lines.map R) ((i:Int)+1) 3).sum,((Wj k).map λi:C=>kX (x.lines.map R) ((i:Int)+1)).sum,((k+1:C):Int))=
  G (.inl (((Wj (E x.world.ae)).map λi:C=>S (x.lines.map R) ((i:Int)+1) 2-S (x.lines.map R) ((i:Int)+1) 3).sum,((Wj (E x.world.ae)).map λi:C=>kX (x.lines.map R) ((i:Int)+1)).sum)):=by
  intro m
  induction m with
  |zero=>
   intro k N hk hN;obtain⟨N,rfl⟩:∃K,N=K+1:=⟨N-1,J⟩;obtain rfl:k=E x.world.ae:=J;rw[aB,lE,Yt (show ¬((E x.world.ae+1:C):Int)<=E x.world.ae by omega)]
   rfl
  |succ m ih=>
   intro k N hk hN;obtain⟨N,rfl⟩:∃K,N=K+1:=⟨N-1,J⟩;have b2:=Lt k (D8 k);have b1:=Lt k (C6 k);have hi:=ih (k+1) N J J;rw[DI,DI]at hi
   rw[aB,Pe hx hv hy Gi (show k<E x.world.ae by omega) _ _ ⟨b2.1,J⟩ ⟨b1.1,J⟩]
   grind
 have BG:=key (E x.world.ae) 0 NN J YF;simp only[List.range_zero,List.map_nil,List.sum_nil,Wa]at BG
 unfold qf;rw[Ziw Zma,Z,hY,show(1:Int)=((1:C):Int)from rfl,BG,Z];simp only[bj];rw[Zho hx.lines,Z,<-c1,X rfl,Yw,X c2,Yw]
 congr 1
 rw[beq_iff_eq,decide_eq_decide,(Lu λi _=>(C6 _ i (Nat.lt_succ_self i)).1).2]
 constructor
 ·intro h0
  rcases Y with _|⟨o,Y⟩
  ·rfl
  ·exfalso
   have h1:=(Gi o).1 YE;obtain⟨z,hz,rfl⟩:=I8 hl h1;obtain⟨a1,a2⟩:=Ib z hz;have:=h0 (z.o-1).toNat J
   grind
 grind
end
theorem Zgd{l:D cB}(hl:E l<=1048576):jm l l=G true:=yR (F:=jm) (B:=mM) (λ_ _=>rfl) (λ_ _ _=>rfl) hl
theorem Zga{l:D bH}(hl:E l<=1048576):jj l l=G true:=yR (F:=jj) (B:=mI) (λ_ _=>rfl) (λ_ _ _=>rfl) hl
theorem Zf8{l:D bf}(hl:E l<=1048576):ji l l=G true:=yR (F:=ji) (B:=mH) (λ_ _=>rfl) (λ_ _ _=>rfl) hl
theorem VD{o:aD}(h:T o):lX o o=G true:=by
 have e0:aB (jS o o) NN 0=G (.inl ()):=by
  refine vl (xs:=o.aK) (λi x hx=>?_) ?_ h.aK
  ·have bD:=(VT.1 hx).1
   have hg:az o.aK (i:Int)=G x:=by rw[aS];omega
   unfold jS;rw[X (show(i:Int)<E o.aK by omega),hg]
   simp[Ag (h.pf x (VU hx)).fit.2.2]
  ·unfold jS;simp
 have e1:aB (jT o o) NN 0=G (.inl ()):=by
  refine vl (xs:=o.aF) (λi x hx=>?_) ?_ h.aF
  ·have bD:=(VT.1 hx).1
   have hg:az o.aF (i:Int)=G x:=by rw[aS];omega
   unfold jT;rw[X (show(i:Int)<E o.aF by omega),hg]
   simp[xH (h.af x (VU hx)).fit.2.2]
  ·unfold jT;simp
 unfold lX;rw[e0,e1];simp only[Zgc h.world,Zgd h.bb.1,Zga h.bd,Lg h.zT,Zf8 h.lines,Z,VX,Yx,decide_true,bj]
