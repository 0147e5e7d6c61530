/- A part of the proof of this claim's last theorem. No condition. -/
import Derived.Test.YtbjbellffaenaaaGreatDoorCT24
set_option linter.all false
set_option maxRecDepth 10000
open Option renaming some->E,none->Zd
open Bool renaming true->Ze,false->Zf
open Decidable renaming decide->Zg
open List renaming length->G
open Option renaming bind->Zn
open _root_ renaming ByteArray->O,List->C,Nat->J,Option->Zo,cond->Z
open Go.Proofs.YtbjbellffaenaaaGreatDoor renaming YA->R,aB->X,aj->D,au->W,az->V,bc->K
open Go.Proofs.Tryz
set_option maxHeartbeats 40000000
namespace Go.Proofs.YtbjbellffaenaaaGreatDoor
open List renaming getElem?_eq_getElem->VS,getElem?_eq_some_iff->VT,mem_of_getElem?->VU,length_nil->V2,replicate->V9,range->Wj,mem_append->We,mem_of_getLast?->WX
open Option renaming bind_some->Y,map_some->WC,getD_some->W9
open Bool renaming not_true->VX,not_false->WI
open Nat renaming le_refl->VW
open Option.some renaming inj->VV
open Go.RowKit
variable {before gK:C Int}{e x:Int}{i k:J}{o:ay}{p q q0:O}{α:Type}{v:α}
theorem qn{l:C O}(h:0<=K l p):V l (K l p)=E p:=by
 unfold K at h⊢
 cases h':l.findIdx? λy=>Zg (y=p)with
 |none=>simp_all
 |some k=>
  obtain⟨h1,h2,_⟩:=List.findIdx?_eq_some_iff_getElem.1 h';have h2:=Yu h2;simp only[Option.elim];rw[aS,VS h1,h2]
theorem M0{xs:C α}{i j:Int}{v x:α}(hi:0<=i)(h:V (xs.set (Int.toNat i) v) j=E x):(j=i/\x=v)\/V xs j=E x:=by
 obtain⟨h0,h1⟩:=ky h
 by_cases he:j=i
 ·grind
 ·refine .inr ?_
  rw[List.getElem?_set_ne R]at h1
  unfold V;simp_all
def xY(n:ab)(l:C aq)(ak:C W)(ah f:Int)(r:C Int)(x v:Int):Prop:=
 ∃(i:J) (y:bP) (d u z:Int),n.aC[i]?=E y/\K (D n) y.aZ=x/\V r (K (D n) y.ar)=E u/\¬u<0/\dI n u (Zg (K (D n) y.ar=f))=E z/\dc n l ak (i:Int) z ah=E d/\¬d<0/\bo n ⟨(i:Int),d⟩=E v
section
variable {n:ab} (hf:cD n)
include hf
theorem Ha{l:C aq}(hl:G l<=1048576){ak:C W}(hc:G ak<=1048576)(ah:Int)(hb:G gK=G (D n))(f:Int):aO (eB n l ak ah (D n) gK f) λr=>G r=G (D n)/\∀x v,V r x=E v->V gK x=E v\/xY n l ak ah f gK x v:=by
 have hp:=Dz hf;have Ia:=hf.aC;unfold eB;refine aO.bind (P:=λr=>r=gK) ?_ λr hr=>?_
 ·by_cases h1:G gK<=1048576
  ·exact aO.of (xC h1) rfl
  ·unfold eK
   exact aO.cf (iW YD R) (aO.ret YE)
 ·subst hr
  refine aO.bind (P:=λo=>G o=G (D n)/\∀x v,V o x=E v->V r x=E v\/xY n l ak ah f r x v) ?_ λo ho=>aO.ret ho
  refine aO.loop (fun(k:J) (s:Int×C Int)=>∃i:J,s.1=(i:Int)/\i+k=G n.aC/\(G s.2)=G (D n)/\∀x v,V s.2 x=E v->V r x=E v\/xY n l ak ah f r x v) (λk s hs=>?_) NN (G n.aC) _ ⟨0,rfl,R,hb,λx v h=>.inl h⟩ YF
  obtain⟨i,hi,hk,hlen,LN⟩:=hs;unfold eX;rw[hi];refine aO.cond (λhd=>?_) λhd=>aO.ret ⟨hlen,LN⟩
  have bD:=Yu hd;have hw:aJ ((i:Int)+1)=((i+1:J):Int):=by rw[aV R];omega
  obtain⟨y,hy,hm⟩:=fB (xs:=n.aC) (i:=(i:Int)) ⟨R,bD⟩;obtain⟨m1,m2⟩:=mz hm;have a0:=iX m1;have a1:=(jf (D n) y.ar).2;have b0:=iX m2;have b1:=(jf (D n) y.aZ).2;obtain⟨v6,g6,_⟩:=fB (xs:=r) (i:=K (D n) y.ar) ⟨a0,R⟩;obtain⟨v11,g11,_⟩:=fB (xs:=s.2) (i:=K (D n) y.aZ) ⟨b0,R⟩;simp only[hy,Y,kP hf,g6,hw];have go:∀(s':C Int),G s'=G (D n)->(∀x v,V s' x=E v->V r x=E v\/xY n l ak ah f r x v)->sH (fun(k:J) (s:Int×C Int)=>∃i:J,s.1=(i:Int)/\i+k=G n.aC/\(G s.2)=G (D n)/\∀x v,V s.2 x=E v->V r x=E v\/xY n l ak ah f r x v) (λo:C Int=>G o=G (D n)/\∀x v,V o x=E v->V r x=E v\/xY n l ak ah f r x v) k (Sum.inl (((i+1:J):Int),s')):=λs' h' h''=>⟨k-1,R,i+1,rfl,R,h',h''⟩
  refine aO.cond (λ_=>aO.ret (go _ hlen LN)) λhu=>?_
  obtain⟨z,ez,_⟩:=sA (n:=n) v6 (Zg (K (D n) y.ar=f));obtain⟨d,ed,_⟩:=vm hf hl hc hy z ah;rw[ez,Y,ed,Y];refine aO.cond (λ_=>aO.ret (go _ hlen LN)) λH6=>?_
  obtain⟨e,he⟩:=kx (n:=n) (t:=⟨(i:Int),d⟩) hy;simp only[he,Y,g11];have hyi:n.aC[i]?=E y:=by rw[aS]at hy;omega
  have new:∀x v,V (s.2.set (Int.toNat (K (D n) y.aZ)) e) x=E v->V r x=E v\/xY n l ak ah f r x v:=λx v h=>by
   rcases M0 b0 h with⟨rfl,rfl⟩ |h
   ·exact .inr ⟨i,y,d,v6,z,hyi,rfl,g6,Yv hu,ez,ed,Yv H6,he⟩
   simp_all
  exact aO.cond (λ_=>aO.ret (go _ YG new)) λ_=>aO.cond (λ_=>aO.ret (go _ YG new)) λ_=>aO.ret (go _ hlen LN)
theorem Zex{l:C aq}(hl:G l<=1048576){ak:C W}(hc:G ak<=1048576)(ah:Int)(hb:G before=G (D n))(f:Int)(hx:0<=x/\x<G (D n))(LN:xY n l ak ah f before x e):
 aO (kh n l ak ah (D n) before f x e) λt=>∃y,V n.aC t.bq=E y/\V (D n) x=E y.aZ:=by
 have hp:=Dz hf;have Ia:=hf.aC;obtain⟨i0,y0,d0,u0,z0,c1,c2,c3,c4,c5,c6,c7,c8⟩:=LN;have hi0:=(VT.1 c1).1;unfold kh;have H9:aO (X (ft n l ak ah (D n) before f x e) NN 0) λr=>∃t y,r=.inr t/\V n.aC t.bq=E y/\V (D n) x=E y.aZ:=by
  refine aO.loop (fun(k:J) (s:Int)=>∃i:J,s=(i:Int)/\i+k=G n.aC/\i<=i0) (λk s hs=>?_) NN (G n.aC) 0 ⟨0,rfl,R,R⟩ YF
  obtain⟨i,rfl,hk,hi⟩:=hs;unfold ft;refine aO.cond (λhd=>?_) λhd=>by grind
  have bD:=Yu hd;have hw:aJ ((i:Int)+1)=((i+1:J):Int):=by rw[aV R];omega
  by_cases hii:i=i0
  ·subst hii
   have hy:V n.aC (i:Int)=E y0:=by rw[aS];omega
   obtain⟨m1,m2⟩:=mz (VU c1);have gp:V (D n) x=E y0.aZ:=by rw[<-c2];exact qn (iX m2)
   simp only[hy,Y,kP hf,gp,c3,decide_true,VX,Yx,Yt c4,c5,c6,Yi (show 0<=d0 by omega),Yw,c8]
   exact aO.ret ⟨_,y0,rfl,hy,rfl⟩
  ·obtain⟨y,hy,hm⟩:=fB (xs:=n.aC) (i:=(i:Int)) ⟨R,bD⟩
   obtain⟨m1,m2⟩:=mz hm;have a0:=iX m1;have a1:=(jf (D n) y.ar).2;obtain⟨v6,g6,_⟩:=fB (xs:=before) (i:=K (D n) y.ar) ⟨a0,R⟩;obtain⟨p,gp,_⟩:=fB (xs:=D n) (i:=x) hx;have go:sH (fun(k:J) (s:Int)=>∃i:J,s=(i:Int)/\i+k=G n.aC/\i<=i0) (λr:Unit⊕W=>∃t y,r=.inr t/\V n.aC t.bq=E y/\V (D n) x=E y.aZ) k (Sum.inl (aJ ((i:Int)+1))):=⟨k-1,R,i+1,hw,R,R⟩
   simp only[hy,Y,kP hf,gp,g6];refine aO.cond (λ_=>aO.ret go) λzL=>aO.cond (λ_=>aO.ret go) λ_=>aO.bind (sA _ _) λy7 _=>aO.bind (vm hf hl hc hy y7 ah) λy8 _=>aO.cond (λ_=>?_) λ_=>aO.ret go
   obtain⟨v,hv⟩:=kx (n:=n) (t:=⟨(i:Int),y8⟩) hy;rw[hv,Y];have Zoh:y.aZ=p:=by simp_all
   exact aO.cond (λ_=>aO.ret ⟨_,y,rfl,hy,by grind⟩) λ_=>aO.ret go
 refine aO.bind H9 λr hr=>?_
 obtain⟨t,y,rfl,h1,h2⟩:=hr;exact aO.ret ⟨y,h1,h2⟩
end
def Lb(n:ab)(l:C aq)(ak:C W)(ah f:Int)(r:C Int):C Int:=(eB n l ak ah (D n) r f).getD []
def bT(n:ab)(l:C aq)(ak:C W)(ah f aQ:Int):J->C Int
 |0=>(ju (D n) f aQ).getD []
 |k+1=>Lb n l ak ah f (bT n l ak ah f aQ k)
section
variable {n:ab} (hf:cD n) {l:C aq} (hl:l.length<=1048576) {ak:C W} (hc:ak.length<=1048576) (ah f aQ:Int)
include hf hl hc
theorem ou:∀k,G (bT n l ak ah f aQ k)=G (D n)
 |0=>by
  obtain⟨r,e,h⟩:=wK hf f aQ;unfold bT;simp_all
 |k+1=>by
  obtain⟨r,e,h,_⟩:=Ha hf hl hc ah (ou k) f;unfold bT Lb;simp_all
theorem tp(k:J):eB n l ak ah (D n) (bT n l ak ah f aQ k) f=E (bT n l ak ah f aQ (k+1))/\∀x v,V (bT n l ak ah f aQ (k+1)) x=E v->V (bT n l ak ah f aQ k) x=E v\/xY n l ak ah f (bT n l ak ah f aQ k) x v:=by
 obtain⟨r,e,h,h'⟩:=Ha hf hl hc ah (ou hf hl hc ah f aQ k) f;have:bT n l ak ah f aQ (k+1)=r:=by show(eB n l ak ah (D n) (bT n l ak ah f aQ k) f).getD []=r;simp_all
 simp_all
theorem qU{ar:O}(hC:cb n l=Ze/\0<=K (D n) ar/\aQ<=100000/\1<=ah)(hk:k<=G (D n)):cW n l ak ar aQ ah (k:Int)=E (bT n l ak ah (K (D n) ar) aQ k):=by
 have hp:=Dz hf;obtain⟨r0,e0,_⟩:=wK hf (K (D n) ar) aQ;have h0:bT n l ak ah (K (D n) ar) aQ 0=r0:=by unfold bT;simp_all
 unfold cW;rw[(cV hf).2];simp only[Y,kP hf,ie hf hl,hC.1,VX,Yx,Yt (show ¬K (D n) ar<0 by omega),Yt (show ¬100000<aQ by omega),Yt (show ¬ah<1 by omega),Yt (show ¬(k:Int)<0 by omega),e0]
 have e:X (iF n l ak ah (k:Int) (D n) (K (D n) ar)) NN (0,bT n l ak ah (K (D n) ar) aQ 0)=E (bT n l ak ah (K (D n) ar) aQ k):=by
  refine il (body:=iF n l ak ah (k:Int) (D n) (K (D n) ar)) (λi:J=>((i:Int),bT n l ak ah (K (D n) ar) aQ i)) (n:=k) (o:=bT n l ak ah (K (D n) ar) aQ k) (λi hi=>?_) ?_ NN YF
  ·unfold iF
   rw[Yi (show(i:Int)<(k:Int)by omega),Yi (show(i:Int)<(G (D n):Int)by omega),Yw,Yw,(tp hf hl hc ah _ aQ i).1,Y,aV R]
   rfl
  ·unfold iF
   simp
 simp_all
end
section
variable {n:ab} (hf:cD n)
include hf
theorem Jn{l:C aq}(hl:G l<=1048576){ak:C W}(hc:G ak<=1048576)(ar aZ:O)(aQ ah:Int):
 aO (bI n l ak ar aZ aQ ah) λr=>G r.1<=G (D n)/\∀t,r.1.getLast?=E t->bB n t=aZ:=by
 have hp:=Dz hf;unfold bI;rw[(cV hf).2];simp only[Y,kP hf];obtain⟨y4,e4,h4⟩:=Zbq hf hl hc ar aQ ah (G (D n):Int);rw[e4,Y];refine aO.cond (λ_=>aO.ret ⟨by simp,λt h=>by grind⟩) λh1=>aO.cond (λ_=>aO.ret ⟨by simp,λt h=>by grind⟩) λh2=>?_
 have LH:=Yv h1;have h2':=Yv h2;have bD:=(jf (D n) aZ).2
 rcases h4 with⟨hlen,hC⟩ |⟨h4,_⟩
 ·have hC4:cb n l=Ze/\0<=K (D n) ar/\aQ<=100000/\1<=ah:=⟨hC.1,hC.2.1,hC.2.2.1,hC.2.2.2.1⟩
  have hfb:∀k:J,k<=G (D n)->cW n l ak ar aQ ah (k:Int)=E (bT n l ak ah (K (D n) ar) aQ k):=λk hk=>qU hf hl hc ah aQ hC4 hk
  have zY:=ou hf hl hc ah (K (D n) ar) aQ;rw[hfb _ (VW _)]at e4
  obtain rfl:=VV e4;obtain⟨y5,e5,_⟩:=fB (xs:=bT n l ak ah (K (D n) ar) aQ (G (D n))) (i:=K (D n) aZ) ⟨R,R⟩;simp only[e5,Y];refine aO.cond (λ_=>aO.ret ⟨by simp,λt h=>by grind⟩) λh3=>?_
  have hn0:0<G n.aC:=by have:=dR n;omega
  refine aO.bind (P:=λo:Int=>∃k:J,o=(k:Int)/\k<=G (D n)/\V (bT n l ak ah (K (D n) ar) aQ k) (K (D n) aZ)=E y5/\∀j:J,j<k->¬V (bT n l ak ah (K (D n) ar) aQ j) (K (D n) aZ)=E y5) ?_ λo ho=>?_
  ·refine aO.loop (fun(k:J) (s:Int)=>∃i:J,s=(i:Int)/\i+k=G (D n)/\∀j:J,j<i->¬V (bT n l ak ah (K (D n) ar) aQ j) (K (D n) aZ)=E y5) (λk s hs=>?_) NN (G (D n)) 0 ⟨0,rfl,R,λj hj=>R⟩ YF
   obtain⟨i,rfl,hk,ZeM⟩:=hs;unfold fK;have hw:aJ ((i:Int)+1)=((i+1:J):Int):=by rw[aV R];omega
   rw[hfb i R,Y]
   by_cases hi:i=G (D n)
   ·subst hi
    rw[e5,Y];simp only[decide_true,VX,Yx];exact aO.ret ⟨_,rfl,R,e5,ZeM⟩
   ·obtain⟨v,hv,_⟩:=fB (xs:=bT n l ak ah (K (D n) ar) aQ i) (i:=K (D n) aZ) ⟨R,by simp_all⟩
    rw[hv,Y];refine aO.cond (λgL=>aO.ret ⟨k-1,R,i+1,hw,R,λj hj=>?_⟩) λheq=>aO.ret ⟨i,rfl,R,?_,ZeM⟩
    all_goals grind
  ·obtain⟨k0,rfl,BG,uu,ZeM⟩:=ho
   refine aO.bind (P:=λw:C W=>G w<=G (D n)/\∀t,w.getLast?=E t->bB n t=aZ) ?_ λw hw=>aO.ret hw
   refine aO.loop (fun(k:J) (s:Int×Int×Int×C W)=>(0<=s.1/\s.1<(G (D n):Int))/\s.2.2.1=(k:Int)/\(G s.2.2.2)+k<=G (D n)/\(s.2.2.2=[]->k=k0/\s.1=K (D n) aZ/\s.2.1=y5)/\∀t,s.2.2.2.getLast?=E t->bB n t=aZ) (λk s hs=>?_) NN k0 _ ⟨⟨R,R⟩,rfl,by simp_all,λ_=>⟨rfl,rfl,rfl⟩,λt h=>by grind⟩ YF
   obtain⟨k1,k2,k3,k4,k5⟩:=hs;unfold fL;refine aO.cond (λhd=>?_) λhd=>aO.ret ⟨R,k5⟩
   have Kj:=Yu hd;have hw:aJ (s.2.2.1-1)=((k-1:J):Int):=by rw[aV R];omega
   rw[hw,hfb (k-1) R,Y];refine aO.bind (P:=λt=>∃y,V n.aC t.bq=E y/\y∈n.aC/\(s.2.2.2=[]->bB n t=aZ)) ?_ λt ht=>aO.cf (iW YD R) ?_
   ·by_cases he:s.2.2.2=[]
    ·obtain⟨rfl,k6,k7⟩:=k4 he
     have LN:xY n l ak ah (K (D n) ar) (bT n l ak ah (K (D n) ar) aQ (k-1)) (K (D n) aZ) y5:=by
      have h:=(tp hf hl hc ah (K (D n) ar) aQ (k-1)).2 (K (D n) aZ) y5 YD
      grind
     rw[k6,k7];refine(Zex hf hl hc ah (zY (k-1)) _ ⟨R,R⟩ LN).mono λt ht=>?_
     obtain⟨y,hy,zL⟩:=ht;refine⟨y,hy,tR hy,λ_=>?_⟩
     rw[qn R]at zL
     unfold bB
     simp_all
    ·refine(Zdz hf hl hc ah (zY (k-1)) _ k1 _ hn0).mono λt ht=>?_
     simp_all
   ·obtain⟨y,hy,hm,ve⟩:=ht
    obtain⟨m1,_⟩:=mz hm;have a0:=iX m1;have a1:=(jf (D n) y.ar).2;obtain⟨v,hv,_⟩:=fB (xs:=bT n l ak ah (K (D n) ar) aQ (k-1)) (i:=K (D n) y.ar) ⟨a0,by simp_all⟩
    simp only[hy,Y,kP hf,hv];refine aO.ret ⟨k-1,R,⟨a0,a1⟩,rfl,by grind,λh=>by grind,λq hq=>?_⟩
    grind
 simp_all
end
theorem OB:@lZ=@dI:=rfl
def ZiR{σ ο ο':Type}(h:ο->ο'):σ⊕ο->σ⊕ο'
 |.inl s=>.inl s
 |.inr o=>.inr (h o)
theorem IT{σ ο ο':Type}{b1:σ->Zo (σ⊕ο)}{b2:σ->Zo (σ⊕ο')}(h:ο->ο')(hb:∀s,b2 s=(b1 s).map (ZiR h)):∀(N:J) (s:σ),X b2 N s=(X b1 N s).map h
 |0,s=>rfl
 |N+1,s=>by
  have ih:=IT h hb N;unfold X;rw[hb s]
  cases h1:b1 s with
  |none=>rfl
  |some r=>
   cases r with
   |inl s'=>exact ih s'
   |inr o=>rfl
theorem TQ{α β γ:Type}(x:Zo α)(f:α->Zo β)(g:β->γ):(x.bind f).map g=x.bind λa=>(f a).map g:=by cases x<;>rfl
theorem TZ{β γ:Type}(b:Bool)(x y:Zo β)(g:β->γ):(Z b x y).map g=Z b (x.map g) (y.map g):=by grind
def Zbp(bq:Int):Unit⊕Int->Unit⊕(W×Bool)
 |.inl u=>.inl u
 |.inr d=>.inr ((⟨bq,d⟩:W),Ze)
section
variable {n:ab} (hf:cD n)
include hf
theorem Uj(l:C aq)(ak:C W)(bq aQ ah:Int)(s:Int):iD bq aQ n ak l ah s=(df n l ak bq aQ ah s).map (ZiR (Zbp bq)):=by
 unfold iD df;rw[(sW hf bq s).1,lI,zy,jH];simp only[TZ,TQ,WC,ZiR,Zbp]
theorem Sf{l:C aq}(hl:G l<=1048576){ak:C W}(hc:G ak<=1048576){bq:Int}{y:bP}(hy:V n.aC bq=E y)(aQ ah:Int):
 ∃d,dc n l ak bq aQ ah=E d/\jJ bq aQ n ak l ah=E (if d<0 then((⟨0,0⟩:W),Zf)else((⟨bq,d⟩:W),Ze)):=by
 have H9:aO (X (df n l ak bq aQ ah) NN 0) λr=>∀d,r=.inr d->0<=d:=by
  refine aO.loop (λk s=>∃i:J,s=(i:Int)/\i+k=61) (λk s hs=>?_) NN 61 0 ⟨0,rfl,rfl⟩ YF
  obtain⟨i,rfl,hk⟩:=hs;refine aO.cond (λhd=>?_) λhd=>aO.ret (λd h=>by cases h)
  have hi:=Yu hd;have hw:aJ ((i:Int)+1)=((i+1:J):Int):=by rw[aV R];omega
  have go:sH (λk (s:Int)=>∃i:J,s=(i:Int)/\i+k=61) (λr:Unit⊕Int=>∀d,r=.inr d->0<=d) k (Sum.inl (aJ ((i:Int)+1))):=⟨k-1,R,i+1,hw,R⟩
  obtain⟨b,hb⟩:=Rr hf bq (i:Int);obtain⟨v,hv⟩:=o6 (n:=n) (t:=⟨bq,(i:Int)⟩) hy;obtain⟨q,hq⟩:=vV hl (⟨bq,(i:Int)⟩:W);rw[hb];refine aO.cond (λ_=>?_) λ_=>aO.ret go
  rw[hv];refine aO.cond (λ_=>?_) λ_=>aO.ret go
  rw[jH,jx hc];refine aO.cond (λ_=>?_) λ_=>aO.ret go
  rw[hy,hq];exact aO.cond (λ_=>aO.ret (λd h=>by grind)) λ_=>aO.ret go
 obtain⟨r,e,hr⟩:=H9;have e2:=IT (Zbp bq) (Uj hf l ak bq aQ ah) NN (0:Int);rw[e]at e2
 unfold dc jJ;rw[e,e2]
 cases r with
 |inl u=>exact⟨-1,rfl,rfl⟩
 |inr d=>exact⟨d,rfl,by rw[if_neg YD];rfl⟩
theorem Zcd{l:C aq}(hl:G l<=1048576){ak:C W}(hc:G ak<=1048576)(ah aC f:Int)(hb:G gK=G (D n))(k:Int){UL:C Int}(Zoa:G UL=G (D n))(ch:Bool)(hi:i<G n.aC):
 ∃UM ch',eX n l ak ah (D n) gK f ((i:Int),UL)=E (.inl (((i+1:J):Int),UM))/\dN n n ak l ah aC (D n) f (k,gK) ((i:Int),ch,UL)=E (.inl (((i+1:J):Int),ch',UM))/\(G UM)=G (D n)/\((ch'=ch/\UM=UL)\/ch'=Ze):=by
 have Ia:=hf.aC;have hw:aJ ((i:Int)+1)=((i+1:J):Int):=by rw[aV R];omega
 obtain⟨y,hy,hm⟩:=fB (xs:=n.aC) (i:=(i:Int)) ⟨R,R⟩;obtain⟨m1,m2⟩:=mz hm;have a0:=iX m1;have a1:=(jf (D n) y.ar).2;have b0:=iX m2;have b1:=(jf (D n) y.aZ).2;obtain⟨v6,g6,_⟩:=fB (xs:=gK) (i:=K (D n) y.ar) ⟨a0,R⟩;obtain⟨v11,g11,_⟩:=fB (xs:=UL) (i:=K (D n) y.aZ) ⟨b0,R⟩;obtain⟨z,ez,_⟩:=sA (n:=n) v6 (Zg (K (D n) y.ar=f));obtain⟨d,ed,ef⟩:=Sf hf hl hc hy z ah;obtain⟨e,he⟩:=kx (n:=n) (t:=⟨(i:Int),d⟩) hy;unfold eX dN;have hpa:∀p,bQ (D n) p=E (K (D n) p):=λp=>by exact kP hf p
 simp only[hy,Y,kP hf,hpa,OB,g11,qm]
 grind
theorem Qs{l:C aq}(hl:G l<=1048576){ak:C W}(hc:G ak<=1048576)(ah aC f:Int)(hb:G gK=G (D n))(zY:G gK<=1048576)(k:Int):
 ∃r ch,eB n l ak ah (D n) gK f=E r/\X (dN n n ak l ah aC (D n) f (k,gK)) NN (0,Zf,gK)=E (ch,r)/\(G r)=G (D n)/\(ch=Zf->r=gK):=by
 have Ia:=hf.aC;have key:∀(d i:J),i+d=G n.aC->∀(UL:C Int) (ch:Bool),G UL=G (D n)->(ch=Zf->UL=gK)->∀N,d<N->
  ∃r ch',X (eX n l ak ah (D n) gK f) N ((i:Int),UL)=E r/\X (dN n n ak l ah aC (D n) f (k,gK)) N ((i:Int),ch,UL)=E (ch',r)/\(G r)=G (D n)/\(ch'=Zf->r=gK):=by
  intro d
  induction d with
  |zero=>
   intro i hi UL ch h1 h2 N hN;obtain⟨N,rfl⟩:∃M,N=M+1:=⟨N-1,R⟩;refine⟨UL,ch,?_,?_,h1,h2⟩
   ·unfold X eX
    grind
   ·unfold X dN
    grind
  |succ d ih=>
   intro i hi UL ch h1 h2 N hN;obtain⟨N,rfl⟩:∃M,N=M+1:=⟨N-1,R⟩;obtain⟨UM,ch',e1,e2,h3,h4⟩:=Zcd hf hl hc ah aC f hb k h1 ch (show i<G n.aC by omega)
   obtain⟨r,c,q1,q2,q3,q4⟩:=ih (i+1) R UM ch' h3 (λh=>by
    grind) N R
   refine⟨r,c,?_,?_,q3,q4⟩
   ·unfold X;grind
   ·unfold X;grind
 obtain⟨r,ch,q1,q2,q3,q4⟩:=key (G n.aC) 0 R gK Zf hb (λ_=>rfl) NN YF
 have e0:((0:J):Int)=0:=rfl;rw[e0]at q1 q2
 refine⟨r,ch,?_,q2,q3,q4⟩;unfold eB;rw[xC zY,Y,q1];rfl
omit hf in
theorem FE{l:C aq}{ak:C W}{ah f aQ:Int}{i:J}(h:bT n l ak ah f aQ (i+1)=bT n l ak ah f aQ i):∀k,bT n l ak ah f aQ (i+k)=bT n l ak ah f aQ i
 |0=>rfl
 |k+1=>by
  have ih:=FE h k;have e1:bT n l ak ah f aQ (i+(k+1))=Lb n l ak ah f (bT n l ak ah f aQ (i+k)):=rfl;have e2:bT n l ak ah f aQ (i+1)=Lb n l ak ah f (bT n l ak ah f aQ i):=rfl
  grind
theorem QK{l:C aq}(hl:G l<=1048576){ak:C W}(hc:G ak<=1048576)(ah f aQ:Int)(hp:G (D n)<=1048576)(aC:J)(ZgS:aC<=1048576):
 X (dM n n ak l ah (aC:Int) (D n) f) NN (0,bT n l ak ah f aQ 0)=E (bT n l ak ah f aQ aC):=by
 have key:∀(d i:J),i+d=aC->∀N,d<N->X (dM n n ak l ah (aC:Int) (D n) f) N ((i:Int),bT n l ak ah f aQ i)=E (bT n l ak ah f aQ aC):=by
  intro d
  induction d with
  |zero=>
   intro i hi N hN;obtain⟨N,rfl⟩:∃M,N=M+1:=⟨N-1,R⟩;have:i=aC:=R;subst this;unfold X dM;simp only[Yt (show ¬(i:Int)<(i:Int)by omega),Yx];rfl
  |succ d ih=>
   intro i hi N hN;obtain⟨N,rfl⟩:∃M,N=M+1:=⟨N-1,R⟩;have zY:=ou hf hl hc ah f aQ i;have BL:aJ ((i:Int)+1)=((i+1:J):Int):=by rw[aV R];omega
   obtain⟨r,ch,q1,q2,q3,q4⟩:=Qs hf hl hc ah (aC:Int) f zY R (i:Int);have hr:bT n l ak ah f aQ (i+1)=r:=by
    have:=(tp hf hl hc ah f aQ i).1;rw[q1]at this
    exact(VV this).symm
   have ha:cf (bn (G (([]:C Int):C Int)+G (bT n l ak ah f aQ i)) 8)=E ():=by
    simp only[V2];exact Br R R
   have body:dM n n ak l ah (aC:Int) (D n) f ((i:Int),bT n l ak ah f aQ i)=(Z (!ch) (E (.inr r)) (E (.inl (((i+1:J):Int),r)))):=by
    unfold dM;simp only[Yi (show(i:Int)<(aC:Int)by omega),Yw,ha,Y,List.nil_append,q2,BL]
   unfold X;rw[body]
   cases ch with
   |false=>
    have e:=q4 rfl;rw[<-hr]at e
    have hconst:=FE e (d+1);rw[show i+(d+1)=aC by omega]at hconst
    show E r=_;rw[<-hr,e,hconst]
   |true=>
    rw[<-hr];exact ih (i+1) R N R
 exact key aC 0 R NN YF
theorem EU(hp:G (D n)<=1048576)(f:Int)(hf0:0<=f/\f<(G (D n):Int))(aQ:Int):ju (D n) f aQ=E ((V9 (G (D n)) (-1:Int)).set f.toNat (if 0 > aQ then 0 else aQ)):=by
 have ZbM:gv aQ 0=E (if 0 > aQ then 0 else aQ):=by
  unfold gv
  grind
 generalize hm:(if 0 > aQ then 0 else aQ:Int)=mx at ZbM⊢
 have hLl:G ((V9 (G (D n)) (-1:Int)).set f.toNat mx)=G (D n):=by simp
 have hLi:∀i:J,i<G (D n)->((V9 (G (D n)) (-1:Int)).set f.toNat mx)[i]?=E (if(i:Int)=f then mx else -1):=λi hi=>by
  grind
 generalize (V9 (G (D n)) (-1:Int)).set f.toNat mx=L at hLl hLi⊢
 have e:X (jv (D n) f aQ) NN (0,[])=E L:=by
  have:=il (body:=jv (D n) f aQ) (λi:J=>((i:Int),L.take i)) (n:=G (D n)) (o:=L) (λi hi=>?_) ?_ NN YF
  ·grind
  ·have hw:aJ ((i:Int)+1)=((i+1:J):Int):=by rw[aV R];omega
   have hx:=hLi i hi;have ha:∀x:Int,cf (bn (G (L.take i)+G ([x]:C Int)) 8)=E ():=λx=>fv YD R
   unfold jv;rw[<-xM hx]
   grind
  ·unfold jv
   grind
 unfold ju
 grind
theorem Fz{l:C aq}(hl:G l<=1048576){ak:C W}(hc:G ak<=1048576)(ah:Int){ar:O}(h0:0<=K (D n) ar){aQ:Int}(uu:aQ<=100000)(hp:G (D n)<=1048576)(aC:J)(ZgS:aC<=1048576):
 ff n n ak l ah ar aQ (aC:Int)=E (bT n l ak ah (K (D n) ar) aQ aC):=by
 have bD:=(jf (D n) ar).2;have e0:X (fF n n ak l ah aQ (aC:Int) (D n) (K (D n) ar)) NN (0,[])=E (V9 (G (D n)) (-1:Int)):=by
  refine il (body:=fF n n ak l ah aQ (aC:Int) (D n) (K (D n) ar)) (λi:J=>((i:Int),V9 i (-1:Int))) (n:=G (D n)) (o:=V9 (G (D n)) (-1:Int)) (λi hi=>?_) ?_ NN YF
  ·have hw:aJ ((i:Int)+1)=((i+1:J):Int):=by rw[aV R];omega
   have ha:cf (bn (G (V9 i (-1:Int))+G ([(-1)]:C Int)) 8)=E ():=fv (by simp only[List.length_replicate,List.length_cons,V2];omega) R
   unfold fF;simp only[Yi (show(i:Int)<(G (D n):Int)by omega),Yw,ha,Y,hw,List.replicate_succ']
  ·unfold fF
   simp
 have Zh2:bT n l ak ah (K (D n) ar) aQ 0=(V9 (G (D n)) (-1:Int)).set (K (D n) ar).toNat (if 0 > aQ then 0 else aQ):=by
  unfold bT;rw[EU hf hp _ ⟨h0,bD⟩];rfl
 obtain⟨x,hx,_⟩:=fB (xs:=V9 (G (D n)) (-1:Int)) (i:=K (D n) ar) ⟨h0,by rw[List.length_replicate];exact bD⟩
 unfold ff;rw[sr,(cV hf).1,(cV hf).2];simp only[Y,kP hf,Yt (show ¬K (D n) ar<0 by omega),Yt (show ¬100000<aQ by omega),Yt (show ¬(aC:Int)<0 by omega),Yx,e0,hx,<-Zh2,QK hf hl hc ah _ aQ hp aC ZgS]
end
section
variable {n:ab} (hf:cD n)
include hf
structure Found(n:ab)(l:C aq)(ak:C W)(aQ ah:Int)(t:W):Prop where
 aN:fA n t=Ze
 start:aQ<=bY n t
 open_:dZ ak t=E Zf
 jb:∃y q,V n.aC t.bq=E y/\eJ l t=E q/\ah<=aJ (y.jb-q)
theorem NW{l:C aq}{ak:C W}{bq aQ ah d:Int}(h:dc n l ak bq aQ ah=E d):d=-1\/Found n l ak aQ ah ⟨bq,d⟩:=by
 unfold dc at h
 cases e:X (df n l ak bq aQ ah) NN 0 with
 |none=>grind
 |some r=>
  cases r with
  |inl u=>grind
  |inr d'=>
   refine .inr ?_;have:=zu (body:=df n l ak bq aQ ah) (P:=λr=>∀d,r=.inr d->Found n l ak aQ ah ⟨bq,d⟩) (λs o hs=>?_) NN 0 _ e
   ·grind
   ·unfold df at hs
    by_cases h60:s<=60
    ·rw[Yi h60]at hs
     obtain⟨_,b,hb⟩:=sW hf bq s;have Ex:=hb;rw[hb,Y]at hs
     intro d hd;subst hd
     cases b with
     |false=>grind
     |true=>
      have ht:fA n ⟨bq,s⟩=true:=by unfold fA;grind
      simp only[Yw]at hs
      cases h1:bp n ⟨bq,s⟩with
      |none=>grind
      |some v=>
       rw[h1,Y]at hs
       by_cases h2:aQ<=v
       ·rw[Yi h2]at hs
        cases h3:dZ ak ⟨bq,s⟩with
        |none=>grind
        |some c=>
         rw[h3,Y]at hs
         cases c with
         |true=>grind
         |false=>
          simp at hs
          cases h4:V n.aC bq with
          |none=>grind
          |some y=>
           rw[h4,Y]at hs
           cases h5:eJ l ⟨bq,s⟩with
           |none=>grind
           |some q=>
            rw[h5,Y]at hs
            by_cases h6:ah<=aJ (y.jb-q)
            ·rw[Yi h6]at hs
             have:s=d:=by grind
             rw[<-this];exact⟨ht,by unfold bY;grind,h3,y,q,h4,h5,h6⟩
            grind
       grind
    grind
theorem UR{l:C aq}{ak:C W}{bq aQ ah d:Int}(h:dc n l ak bq aQ ah=E d):d=-1\/fA n ⟨bq,d⟩=true:=by
 rcases NW hf h with h|h
 ·omega
 ·exact .inr h.aN
omit hf in
theorem tH{xs:C α}{i:Int}(h0:0<=i)(h1:i<G xs):V (xs.set i.toNat v) i=E v:=by
 unfold V;grind
omit hf in
theorem M1{xs:C α}{i j:Int}(h0:0<=i)(h:j≠i):V (xs.set i.toNat v) j=V xs j:=by
 unfold V
 grind
def uz(r:C Int)(x v:Int):Prop:=∃w,V r x=E w/\0<=w/\w<=v
def Ir(n:ab)(l:C aq)(ak:C W)(ah f:Int)(r:C Int)(i:J)(x v:Int):Prop:=
 ∃(y:bP) (d u z:Int),n.aC[i]?=E y/\K (D n) y.aZ=x/\V r (K (D n) y.ar)=E u/\¬u<0/\dI n u (Zg (K (D n) y.ar=f))=E z/\dc n l ak (i:Int) z ah=E d/\¬d<0/\bo n ⟨(i:Int),d⟩=E v
theorem Zc9(hn:aX n=E Ze){l:C aq}(hl:G l<=1048576){ak:C W}(hc:G ak<=1048576)(ah:Int)(hb:G gK=G (D n))(f:Int):
 aO (eB n l ak ah (D n) gK f) λr=>(∀x v,V gK x=E v->0<=v->uz r x v)/\∀x v,xY n l ak ah f gK x v->uz r x v:=by
 have hp:=Dz hf;have Ia:=hf.aC;refine aO.bind (P:=λr=>r=gK) ?_ λr hr=>?_
 ·by_cases h1:G gK<=1048576
  ·exact aO.of (xC h1) rfl
  ·exact aO.cf (iW YD R) (aO.ret YE)
 ·subst hr
  refine aO.bind (P:=λo=>(∀x v,V r x=E v->0<=v->uz o x v)/\∀x v,xY n l ak ah f r x v->uz o x v) ?_ λo ho=>aO.ret ho
  refine aO.loop (fun(k:J) (s:Int×C Int)=>∃i:J,s.1=(i:Int)/\i+k=G n.aC/\(G s.2)=G (D n)/\(∀x v,V r x=E v->0<=v->uz s.2 x v)/\∀j,j<i->∀x v,Ir n l ak ah f r j x v->uz s.2 x v) (λk s hs=>?_) NN (G n.aC) _ ⟨0,rfl,R,hb,λx v h h0=>⟨v,h,h0,Int.le_refl _⟩,λj hj=>R⟩ YF
  obtain⟨i,hi,hk,hlen,hA,hB⟩:=hs;unfold eX;rw[hi];refine aO.cond (λhd=>?_) λhd=>aO.ret ⟨hA,λx v h=>?_⟩
  case refine_2=>
   obtain⟨j,y,d,u,z,c1,c2⟩:=h;have h1:=(VT.1 c1).1;have h2:=Yv hd;exact hB j R x v ⟨y,d,u,z,c1,c2⟩
  have bD:=Yu hd;have hw:aJ ((i:Int)+1)=((i+1:J):Int):=by rw[aV R];omega
  obtain⟨y,hy,hm⟩:=fB (xs:=n.aC) (i:=(i:Int)) ⟨R,bD⟩;obtain⟨m1,m2⟩:=mz hm;have a0:=iX m1;have a1:=(jf (D n) y.ar).2;have b0:=iX m2;have b1:=(jf (D n) y.aZ).2;obtain⟨v6,g6,_⟩:=fB (xs:=r) (i:=K (D n) y.ar) ⟨a0,R⟩;obtain⟨v11,g11,_⟩:=fB (xs:=s.2) (i:=K (D n) y.aZ) ⟨b0,R⟩;simp only[hy,Y,kP hf,g6,hw];have hyi:n.aC[i]?=E y:=by rw[aS]at hy;omega
  have go:∀(s':C Int),G s'=G (D n)->(∀x v,uz s.2 x v->uz s' x v)->(∀x v,Ir n l ak ah f r i x v->uz s' x v)->sH (fun(k:J) (s:Int×C Int)=>∃i:J,s.1=(i:Int)/\i+k=G n.aC/\(G s.2)=G (D n)/\(∀x v,V r x=E v->0<=v->uz s.2 x v)/\∀j,j<i->∀x v,Ir n l ak ah f r j x v->uz s.2 x v) (λo:C Int=>(∀x v,V r x=E v->0<=v->uz o x v)/\∀x v,xY n l ak ah f r x v->uz o x v) k (Sum.inl (((i+1:J):Int),s')):=λs' h1 h2 h3=>
   ⟨k-1,R,i+1,rfl,R,h1,λx v h h0=>h2 x v (hA x v h h0),λj hj x v h=>by
    grind⟩
  refine aO.cond (λhu=>aO.ret (go _ hlen (λx v h=>h) λx v h=>?_)) λhu=>?_
  ·obtain⟨y',d,u,z,c1,c2,c3,c4,_⟩:=h
   grind
  obtain⟨z,ez,_⟩:=sA (n:=n) v6 (Zg (K (D n) y.ar=f));obtain⟨d,ed,_⟩:=vm hf hl hc hy z ah;have hcI:∀x v,Ir n l ak ah f r i x v->¬d<0/\x=K (D n) y.aZ/\bo n ⟨(i:Int),d⟩=E v:=by
   rintro x v ⟨y',d',u,z',c1,c2,c3,c4,c5,c6,c7,c8⟩
   grind
  rw[ez,Y,ed];refine aO.cond (λhdd=>aO.ret (go _ hlen (λx v h=>h) λx v h=>absurd (Yu hdd) (hcI x v h).1)) λH6=>?_
  have Ey:fA n ⟨(i:Int),d⟩=true:=by
   rcases UR hf ed with h|h
   all_goals grind
  obtain⟨e,he⟩:=kx (n:=n) (t:=⟨(i:Int),d⟩) hy;have he0:0<=e:=by
   obtain⟨_,h2,h3,h4,_⟩:=bX hf hn Ey
   grind
  simp only[he,g11];have Zg6:=fun(hv:v11<0\/e<v11)=>go (s.2.set (Int.toNat (K (D n) y.aZ)) e) YD (λx v h=>by
   obtain⟨w,Ac,C8,hw3⟩:=h
   by_cases hx:x=K (D n) y.aZ
   ·subst hx
    rw[g11]at Ac
    obtain rfl:=VV Ac;exact⟨_,tH b0 R,he0,R⟩
   ·exact⟨w,by rw[M1 b0 hx];omega,C8,hw3⟩) (λx v h=>by
   obtain⟨_,rfl,h8⟩:=hcI x v h;rw[he]at h8
   obtain rfl:=VV h8;exact⟨_,tH b0 R,he0,Int.le_refl _⟩)
  refine aO.cond (λh=>aO.ret (Zg6 (.inl (Yu h)))) λh1=>aO.cond (λh=>aO.ret (Zg6 (.inr (Yu h)))) λh2=>aO.ret (go _ hlen (λx v h=>h) λx v h=>?_)
  obtain⟨_,rfl,h8⟩:=hcI x v h;rw[he]at h8
  obtain rfl:=VV h8;have h1:=Yv h1;have h2:=Yv h2;exact⟨v11,g11,R,R⟩
theorem zl(hn:aX n=E Ze){l:C aq}(hl:G l<=1048576){ak:C W}(hc:G ak<=1048576)(ah f aQ:Int)(k:J):
 (∀x v,V (bT n l ak ah f aQ k) x=E v->0<=v->uz (bT n l ak ah f aQ (k+1)) x v)/\∀x v,xY n l ak ah f (bT n l ak ah f aQ k) x v->uz (bT n l ak ah f aQ (k+1)) x v:=by
 obtain⟨r,e,h⟩:=Zc9 hf hn hl hc ah (ou hf hl hc ah f aQ k) f;have h1:=(tp hf hl hc ah f aQ k).1
 grind
end
section
variable {n:ab} (hf:cD n)
include hf
omit hf in
theorem ZeN{l:C O}(hp:0<=K l p):Zg (K l p=K l q)=Zg (p=q):=by
 by_cases h:p=q
 ·grind
 ·rw[Yt h]
  refine Yt λhe=>h ?_
  have h1:=qn hp;have h2:=qn (l:=l) (p:=q) R
  grind
def Zak(n:ab)(l:C aq)(ak:C W)(ah f:Int)(r:C Int)(x v:Int)(t:W):Prop:=
 ∃(i:J) (y:bP) (d u z:Int),t=⟨(i:Int),d⟩/\n.aC[i]?=E y/\K (D n) y.aZ=x/\V r (K (D n) y.ar)=E u/\¬u<0/\dI n u (Zg (K (D n) y.ar=f))=E z/\dc n l ak (i:Int) z ah=E d/\¬d<0/\bo n ⟨(i:Int),d⟩=E v
theorem IX{l:C aq}(hl:G l<=1048576){ak:C W}(hc:G ak<=1048576)(ah:Int){ar:O}(hb:G before=G (D n))(hxq:x=K (D n) q0)(hx:0<=x/\x<G (D n))(e:Int)(hi:i<G n.aC):
 (ft n l ak ah (D n) before (K (D n) ar) x e (i:Int)=E (.inl ((i+1:J):Int))/\gu n n ak l ah (D n) before ar x e (i:Int)=E (.inl ((i+1:J):Int))/\¬Ir n l ak ah (K (D n) ar) before i x e)\/
 ∃t,ft n l ak ah (D n) before (K (D n) ar) x e (i:Int)=E (.inr (.inr t))/\gu n n ak l ah (D n) before ar x e (i:Int)=E (.inr (.inr (t,Ze)))/\Zak n l ak ah (K (D n) ar) before x e t:=by
 have Ia:=hf.aC;have hw:aJ ((i:Int)+1)=((i+1:J):Int):=by rw[aV R];omega
 obtain⟨y,hy,hm⟩:=fB (xs:=n.aC) (i:=(i:Int)) ⟨R,R⟩;have hyi:n.aC[i]?=E y:=by rw[aS]at hy;omega
 obtain⟨m1,m2⟩:=mz hm;have a0:=iX m1;have a1:=(jf (D n) y.ar).2;obtain⟨v6,g6,_⟩:=fB (xs:=before) (i:=K (D n) y.ar) ⟨a0,R⟩;obtain⟨p,gp,_⟩:=fB (xs:=D n) (i:=x) hx;obtain⟨z,ez,_⟩:=sA (n:=n) v6 (Zg (K (D n) y.ar=K (D n) ar));obtain⟨d,ed,ef⟩:=Sf hf hl hc hy z ah;obtain⟨v,hv⟩:=kx (n:=n) (t:=⟨(i:Int),d⟩) hy;have hpa:∀p,bQ (D n) p=E (K (D n) p):=λp=>by exact kP hf p
 have ez':lZ n v6 (Zg (y.ar=ar))=E z:=by rw[OB,<-ZeN (l:=D n) a0];omega
 have zZ:∀{P:Prop},(∀y' d' u z',n.aC[i]?=E y'->K (D n) y'.aZ=x->V before (K (D n) y'.ar)=E u->¬u<0->dI n u (Zg (K (D n) y'.ar=K (D n) ar))=E z'->dc n l ak (i:Int) z' ah=E d'->¬d'<0->bo n ⟨(i:Int),d'⟩=E e->y'=y->u=v6->z'=z->d'=d->False)->¬Ir n l ak ah (K (D n) ar) before i x e:=by
  rintro _ H ⟨y',d',u,z',c1,c2,c3,c4,c5,c6,c7,c8⟩
  grind
 have S:ft n l ak ah (D n) before (K (D n) ar) x e (i:Int)=Z (!decide (y.aZ=p)) (E (.inl ((i+1:J):Int))) (Z (Zg (v6<0)) (E (.inl ((i+1:J):Int))) (Z (Zg (0<=d)) (Z (Zg (v=e)) (E (.inr (.inr ⟨(i:Int),d⟩))) (E (.inl ((i+1:J):Int)))) (E (.inl ((i+1:J):Int))))):=by
  unfold ft;simp only[Yi (show(i:Int)<G n.aC by omega),Yw,hy,Y,kP hf,gp,g6,ez,ed,hv,hw]
 have T:gu n n ak l ah (D n) before ar x e (i:Int)=Z (!decide (y.aZ=p)) (E (.inl ((i+1:J):Int))) (Z (Zg (v6<0)) (E (.inl ((i+1:J):Int))) (Z (Zg (0<=d)) (Z (Zg (v=e)) (E (.inr (.inr (⟨(i:Int),d⟩,Ze)))) (E (.inl ((i+1:J):Int)))) (E (.inl ((i+1:J):Int))))):=by
  unfold gu;simp only[qm]
  grind
 by_cases h1:y.aZ=p
 ·by_cases h2:v6<0
  ·refine .inl ⟨by grind,by grind,zZ (P:=True) λy' d' u z' c1 c2 c3 c4 c5 c6 c7 c8 q1 q2 q3 q4=>c4 R⟩
  ·by_cases h3:0<=d
   ·by_cases h4:v=e
    ·refine .inr ⟨⟨(i:Int),d⟩,by grind,by grind,i,y,d,v6,z,rfl,hyi,?_,g6,h2,ez,ed,R,by grind⟩
     have g:=qn (l:=D n) (p:=q0) R
     grind
    ·refine .inl ⟨by grind,by grind,zZ (P:=True) λy' d' u z' c1 c2 c3 c4 c5 c6 c7 c8 q1 q2 q3 q4=>h4 YD⟩
   ·refine .inl ⟨by grind,by grind,zZ (P:=True) λy' d' u z' c1 c2 c3 c4 c5 c6 c7 c8 q1 q2 q3 q4=>c7 R⟩
 ·refine .inl ⟨by grind,by grind,zZ (P:=True) λy' d' u z' c1 c2 c3 c4 c5 c6 c7 c8 q1 q2 q3 q4=>h1 ?_⟩
  rw[q1]at c2
  have g:=qn (iX m2)
  grind
theorem IW{l:C aq}(hl:G l<=1048576){ak:C W}(hc:G ak<=1048576)(ah:Int){ar:O}(hb:G before=G (D n))(hxq:x=K (D n) q0)(hx:0<=x/\x<G (D n))(e:Int)(LN:xY n l ak ah (K (D n) ar) before x e):
 ∃t,kh n l ak ah (D n) before (K (D n) ar) x e=E t/\l9 n n ak l ah (D n) before ar x e=E (t,Ze)/\Zak n l ak ah (K (D n) ar) before x e t:=by
 have Ia:=hf.aC;obtain⟨i0,hci⟩:=LN;have hi0:i0<G n.aC:=by grind
 have key:∀(d i:J),i+d=i0->∀N,d<N->∃t,X (ft n l ak ah (D n) before (K (D n) ar) x e) N (i:Int)=E (.inr t)/\X (gu n n ak l ah (D n) before ar x e) N (i:Int)=E (.inr (t,Ze))/\Zak n l ak ah (K (D n) ar) before x e t:=by
  intro d
  induction d with
  |zero=>
   intro i hi N hN;obtain⟨N,rfl⟩:∃M,N=M+1:=⟨N-1,R⟩
   rcases IX hf hl hc ah hb hxq hx e (ar:=ar) (i:=i) R with⟨_,_,h⟩ |⟨t,h1,h2,h3⟩
   ·exact absurd ((show i=i0 by omega)▸hci) h
   ·exact⟨t,by unfold X;grind,by unfold X;grind,h3⟩
  |succ d ih=>
   intro i hi N hN;obtain⟨N,rfl⟩:∃M,N=M+1:=⟨N-1,R⟩
   rcases IX hf hl hc ah hb hxq hx e (ar:=ar) (i:=i) R with⟨h1,h2,_⟩ |⟨t,h1,h2,h3⟩
   ·obtain⟨t,q1,q2,q3⟩:=ih (i+1) R N R
    exact⟨t,by unfold X;grind,by unfold X;grind,q3⟩
   ·exact⟨t,by unfold X;grind,by unfold X;grind,h3⟩
 obtain⟨t,h1,h2,h3⟩:=key i0 0 R NN YF;exact⟨t,by unfold kh;grind,by unfold l9;grind,h3⟩
omit hf in
theorem Zc5{o:C W}(h:G o<=1048576):X (kV o) NN ((aJ ((G o:Int)-1)),([]:C W))=E o.reverse:=by
 have key:∀(m:J),m<=G o->∀N,m<N->X (kV o) N ((m:Int)-1,(o.drop m).reverse)=E o.reverse:=by
  intro m
  induction m with
  |zero=>
   intro hm N hN;obtain⟨N,rfl⟩:∃M,N=M+1:=⟨N-1,R⟩;rfl
  |succ m ih=>
   intro hm N hN;obtain⟨N,rfl⟩:∃M,N=M+1:=⟨N-1,R⟩;have hg:V o (((m+1:J):Int)-1)=E o[m]:=by
    rw[show((m+1:J):Int)-1=(m:Int)by omega,aS];simp
   have hw:aJ (((m+1:J):Int)-1-1)=(m:Int)-1:=by rw[aV R];omega
   have ha:cf (bn ((o.drop (m+1)).reverse.length+G ([o[m]]:C W)) 16)=E ():=fv YD R;have hd:o.drop m=o[m]::o.drop (m+1):=List.drop_eq_getElem_cons R;have q:=ih R N R;rw[hd,List.reverse_cons]at q
   unfold X;unfold kV;simp only[Yi (show(0:Int)<=((m+1:J):Int)-1 by omega),hg,Y,ha,hw]
   exact q
 have:=key (G o) (VW _) NN YF;rw[aV R]
 grind
def JX(n:ab)(l:C aq)(ak:C W)(ah f aQ:Int):C (C Int):=(Wj (G (D n)+1)).map (bT n l ak ah f aQ)
omit hf in
theorem Be{l:C aq}{ak:C W}{ah f aQ:Int}(hk:k<=G (D n)):V (JX n l ak ah f aQ) (k:Int)=E (bT n l ak ah f aQ k):=by
 rw[aS];unfold JX
 grind
theorem TP(hn:aX n=E Ze){l:C aq}(hl:G l<=1048576){ak:C W}(hc:G ak<=1048576)(ah:Int){ar:O}(aQ:Int)
 (hC:cb n l=Ze/\0<=K (D n) ar/\aQ<=100000/\1<=ah):
 ∀(k:J) (q0:O) (x e:Int) (back:C W),x=K (D n) q0->0<=x->V (bT n l ak ah (K (D n) ar) aQ k) x=E e->0<=e->(k=0\/¬V (bT n l ak ah (K (D n) ar) aQ (k-1)) x=E e)->G back+k<=G (D n)->∀N,k<N->
  ∃Mh,X (fL n l ak ar aQ ah (D n) (K (D n) ar)) N (x,e,(k:Int),back.reverse)=E Mh.reverse/\X (kU n n ak l ah ar (D n) (JX n l ak ah (K (D n) ar) aQ)) N (x,e,(k:Int),back)=E (.inl Mh)/\(G Mh)<=G (D n):=by
 have hlg:=pZ hn;have hp:G (D n)<=40:=by have:=dR n;omega
 intro k
 induction k with
 |zero=>
  intro q0 x e back hxq hx hg he Qg hlen N hN;obtain⟨N,rfl⟩:∃M,N=M+1:=⟨N-1,R⟩;refine⟨back,?_,?_,R⟩
  all_goals rfl
 |succ k ih=>
  intro q0 x e back hxq hx hg he Qg hlen N hN;obtain⟨N,rfl⟩:∃M,N=M+1:=⟨N-1,R⟩;have zY:=ou hf hl hc ah (K (D n) ar) aQ;have hnx:¬V (bT n l ak ah (K (D n) ar) aQ k) x=E e:=by
   grind
  have LN:xY n l ak ah (K (D n) ar) (bT n l ak ah (K (D n) ar) aQ k) x e:=by
   rcases(tp hf hl hc ah (K (D n) ar) aQ k).2 x e hg with h|h
   all_goals grind
  have Ut:x<G (D n):=by rw[hxq];exact(jf (D n) q0).2
  obtain⟨t,hs,hi,i,y,d,u,z,rfl,c1,c2,c3,c4,c5,c6,c7,c8⟩:=IW hf hl hc ah (zY k) hxq ⟨hx,Ut⟩ e LN;have hfb:=qU hf hl hc ah aQ hC (k:=k) R;have hw:aJ (((k+1:J):Int)-1)=(k:Int):=by rw[aV R];omega
  have hy:V n.aC (i:Int)=E y:=by rw[aS];omega
  have ha1:cf (bn (G ([⟨(i:Int),d⟩]:C W)+G back.reverse) 16)=E ():=fv YD R;have ha2:cf (bn (G back+G ([⟨(i:Int),d⟩]:C W)) 16)=E ():=fv YD R;have D4:=Be (n:=n) (l:=l) (ak:=ak) (ah:=ah) (f:=K (D n) ar) (aQ:=aQ) (k:=k) R;have hpa:bQ (D n) y.ar=E (K (D n) y.ar):=by exact kP hf _
  have a0:=iX (mz (VU c1)).1;obtain⟨Mh,q1,q2,q3⟩:=ih y.ar (K (D n) y.ar) u (back++[⟨(i:Int),d⟩]) rfl a0 c3 R (by
   by_cases BG:k=0
   ·omega
   ·refine .inr λhu=>hnx ?_
    obtain⟨k',rfl⟩:∃k',k=k'+1:=⟨k-1,R⟩;have qV:=(zl hf hn hl hc ah (K (D n) ar) aQ k').2 x e ⟨i,y,d,u,z,c1,c2,hu,c4,c5,c6,c7,c8⟩;obtain⟨w,w1,w2,w3⟩:=qV;obtain⟨w',v1,v2,v3⟩:=(zl hf hn hl hc ah (K (D n) ar) aQ (k'+1)).1 x w w1 w2
    grind) YD N R
  refine⟨Mh,?_,?_,q3⟩
  ·have hb:fL n l ak ar aQ ah (D n) (K (D n) ar) (x,e,((k+1:J):Int),back.reverse)=E (.inl (K (D n) y.ar,u,(k:Int),[⟨(i:Int),d⟩]++back.reverse)):=by
    unfold fL;simp only[Yi (show(0:Int)<((k+1:J):Int)by omega),Yw,hw,hfb,Y,hs,ha1,hy,kP hf,c3]
   unfold X
   grind
  ·have hb:kU n n ak l ah ar (D n) (JX n l ak ah (K (D n) ar) aQ) (x,e,((k+1:J):Int),back)=E (.inl (K (D n) y.ar,u,(k:Int),back++[⟨(i:Int),d⟩])):=by
    unfold kU
    simp_all
   unfold X
   grind
theorem F4{l:C aq}(hl:G l<=1048576){ak:C W}(hc:G ak<=1048576)(ah:Int){ar:O}(aQ:Int)(hp:G (D n)<=40)
 (hC:cb n l=Ze/\0<=K (D n) ar/\aQ<=100000/\1<=ah) (hx:0<=x/\x<G (D n)) (hg:V (bT n l ak ah (K (D n) ar) aQ (G (D n))) x=E e):
 ∃k:J,k<=G (D n)/\V (bT n l ak ah (K (D n) ar) aQ k) x=E e/\(k=0\/¬V (bT n l ak ah (K (D n) ar) aQ (k-1)) x=E e)/\
  X (fK n l ak ar aQ ah (D n) (K (D n) ar) x e) NN 0=E (k:Int)/\X (gh n n ak l ah ar (D n) x (JX n l ak ah (K (D n) ar) aQ) e) NN 0=E (k:Int):=by
 have zY:=ou hf hl hc ah (K (D n) ar) aQ;have key:∀(dd i:J),i+dd=G (D n)->(i=0\/¬V (bT n l ak ah (K (D n) ar) aQ (i-1)) x=E e)->∀N,dd<N->
  ∃k:J,k<=G (D n)/\V (bT n l ak ah (K (D n) ar) aQ k) x=E e/\(k=0\/¬V (bT n l ak ah (K (D n) ar) aQ (k-1)) x=E e)/\
  X (fK n l ak ar aQ ah (D n) (K (D n) ar) x e) N (i:Int)=E (k:Int)/\X (gh n n ak l ah ar (D n) x (JX n l ak ah (K (D n) ar) aQ) e) N (i:Int)=E (k:Int):=by
  intro dd
  induction dd with
  |zero=>
   intro i hi h0 N hN;obtain⟨N,rfl⟩:∃M,N=M+1:=⟨N-1,R⟩;obtain rfl:i=G (D n):=R;refine⟨G (D n),VW _,hg,h0,?_,?_⟩
   ·unfold X fK
    simp only[qU hf hl hc ah aQ hC (VW _),Y,hg,decide_true,VX,Yx]
   ·unfold X gh
    simp only[Be (VW _),Y,hg,decide_true,VX,Yx]
  |succ dd ih=>
   intro i hi h0 N hN;obtain⟨N,rfl⟩:∃M,N=M+1:=⟨N-1,R⟩;have hw:aJ ((i:Int)+1)=((i+1:J):Int):=by rw[aV R];omega
   obtain⟨v,hv,_⟩:=fB (xs:=bT n l ak ah (K (D n) ar) aQ i) (i:=x) ⟨hx.1,by grind⟩
   by_cases hve:v=e
   ·subst hve
    refine⟨i,R,hv,h0,?_,?_⟩
    ·unfold X fK
     simp only[qU hf hl hc ah aQ hC (show i<=G (D n) by omega),Y,hv,decide_true,VX,Yx]
    ·unfold X gh
     simp only[Be (show i<=G (D n) by omega),Y,hv,decide_true,VX,Yx]
   ·obtain⟨k,q1,q2,q3,q4,q5⟩:=ih (i+1) R (.inr YD) N R
    refine⟨k,q1,q2,q3,?_,?_⟩
    ·have hb:fK n l ak ar aQ ah (D n) (K (D n) ar) x e (i:Int)=E (.inl ((i+1:J):Int)):=by
      unfold fK;simp only[qU hf hl hc ah aQ hC (show i<=G (D n) by omega),Y,hv,Yt hve,WI,Yw,hw]
     unfold X
     grind
    ·have hb:gh n n ak l ah ar (D n) x (JX n l ak ah (K (D n) ar) aQ) e (i:Int)=E (.inl ((i+1:J):Int)):=by
      unfold gh;simp only[Be (show i<=G (D n) by omega),Y,hv,Yt hve,WI,Yw,hw]
     unfold X
     grind
 obtain⟨k,q1,q2,q3,q4,q5⟩:=key (G (D n)) 0 R (.inl rfl) NN YF
 grind
theorem Mf{l:C aq}{ak:C W}(ah:Int){ar:O}{aQ:Int}(h:K (D n) ar<0\/100000<aQ)(aC:Int):ff n n ak l ah ar aQ aC=E []:=by
 unfold ff;rw[sr,(cV hf).1,(cV hf).2];simp only[Y,kP hf]
 grind
theorem tG{l:C aq}(hl:G l<=1048576){ak:C W}(hc:G ak<=1048576)(ar aZ:O)(aQ ah:Int):
 ∃r,jI n l ak ar aZ aQ ah=E r/\bI n l ak ar aZ aQ ah=E r:=by
 have hpa:∀p,bQ (D n) p=E (K (D n) p):=λp=>by rw[sr];exact kP hf p
 unfold jI bI tJ rf;rw[vR hf hl,(cV hf).1,(cV hf).2];simp only[Y,kP hf,hpa]
 by_cases hB:cb n l=Ze
 case neg=>
  have hB:cb n l=false:=by grind
  have e:cW n l ak ar aQ ah (G (D n):Int)=E []:=by
   unfold cW;rw[(cV hf).2];simp only[Y,kP hf,ie hf hl,hB,WI,Yw]
  simp_all
 have hn:=(dJ hB).1;have hlg:=pZ hn;have hp:G (D n)<=40:=by have:=dR n;omega
 simp only[hB,VX]
 by_cases Ac:ah<1
 ·have e:cW n l ak ar aQ ah (G (D n):Int)=E []:=by
   unfold cW;rw[(cV hf).2];simp only[Y,kP hf,ie hf hl,Yi Ac];simp
  simp_all
 simp only[Yt Ac]
 by_cases hA:K (D n) ar<0\/100000<aQ
 ·have e:cW n l ak ar aQ ah (G (D n):Int)=E []:=by
   unfold cW;rw[(cV hf).2];simp only[Y,kP hf,ie hf hl]
   grind
  have e0:X (eH n n ak l ah ar aQ (D n) (K (D n) aZ)) NN (0,([]:C (C Int)))=E (.inr ([],Zf)):=by
   obtain⟨N,hN⟩:∃N,NN=N+1:=⟨NN-1,by rfl⟩
   rw[hN];unfold X eH;simp only[Mf hf ah hA];rfl
  simp_all
 have hC:cb n l=Ze/\0<=K (D n) ar/\aQ<=100000/\1<=ah:=⟨hB,R,R,R⟩;have zY:=ou hf hl hc ah (K (D n) ar) aQ;have LO:=(jf (D n) ar).2;have hav:=fun(k:J) (hk:k<=G (D n))=>Fz hf hl hc ah hC.2.1 hC.2.2.1 R k R
 by_cases ht:K (D n) aZ<0
 ·have e0:X (eH n n ak l ah ar aQ (D n) (K (D n) aZ)) NN (0,([]:C (C Int)))=E (.inr ([],Zf)):=by
   obtain⟨N,hN⟩:∃N,NN=N+1:=⟨NN-1,by rfl⟩
   rw[hN];have h0:=hav 0 R;rw[show((0:J):Int)=0 from rfl]at h0
   unfold X eH
   grind
  have hfb:=qU hf hl hc ah aQ hC (k:=G (D n)) (VW _)
  simp_all
 have e0:X (eH n n ak l ah ar aQ (D n) (K (D n) aZ)) NN (0,([]:C (C Int)))=E (.inl (JX n l ak ah (K (D n) ar) aQ)):=by
  refine il (body:=eH n n ak l ah ar aQ (D n) (K (D n) aZ)) (λi:J=>((i:Int),(Wj i).map (bT n l ak ah (K (D n) ar) aQ))) (n:=G (D n)+1) (o:=.inl (JX n l ak ah (K (D n) ar) aQ)) (λi hi=>?_) ?_ NN YF
  ·have hw:aJ ((i:Int)+1)=((i+1:J):Int):=by rw[aV R];omega
   have ha:cf (bn (G ((Wj i).map (bT n l ak ah (K (D n) ar) aQ))+G ([bT n l ak ah (K (D n) ar) aQ i]:C (C Int))) 24)=E ():=fv YD R;unfold eH;simp only[Yi (show(i:Int)<=(G (D n):Int)by omega),Yw,hav i R,Y,Yt (show ¬((G (bT n l ak ah (K (D n) ar) aQ i):Int)=0)by grind),Yx,Yt ht,Ev,ha,hw,List.range_succ,List.map_append,List.map_cons,List.map_nil]
  ·unfold eH
   simp only[Yt (show ¬((G (D n)+1:J):Int)<=(G (D n):Int)by omega)]
   rfl
 have htl:=(jf (D n) aZ).2;obtain⟨fc,ZeJ,_⟩:=fB (xs:=bT n l ak ah (K (D n) ar) aQ (G (D n))) (i:=K (D n) aZ) ⟨R,by grind⟩
 rw[e0];simp only[Y,bj,Be (VW _),ZeJ,qU hf hl hc ah aQ hC (VW _)]
 by_cases hd:fc<0
 ·simp_all
 simp only[Yt hd,Yx];obtain⟨k,q1,q2,q3,q4,q5⟩:=F4 hf hl hc ah aQ hp hC ⟨R,htl⟩ ZeJ;obtain⟨back,b1,b2,b3⟩:=TP hf hn hl hc ah aQ hC k aZ (K (D n) aZ) fc [] rfl R q2 R q3 YD NN YF;refine⟨(back.reverse,Ze),?_,?_⟩
 ·simp only[q5,Y,b2,bj,Zc5 (show (G back)<=1048576 by omega)]
 grind
end
inductive Fo(n:ab)(l:C aq)(ak:C W)(ah:Int)(ar:O)(aQ:Int):J->O->Int->C W->Prop
 |nil {q:O} {e:Int} (h0:0<=K (D n) q) (hg:V (bT n l ak ah (K (D n) ar) aQ 0) (K (D n) q)=E e) (he:0<=e):Fo n l ak ah ar aQ 0 q e []
 |snoc {k:J} {y:bP} {u z d e:Int} {i:J} {aE:C W} (hp:Fo n l ak ah ar aQ k y.ar u aE) (c1:n.aC[i]?=E y)
  (hg:V (bT n l ak ah (K (D n) ar) aQ (k+1)) (K (D n) y.aZ)=E e)
  (c5:dI n u (Zg (K (D n) y.ar=K (D n) ar))=E z) (c6:dc n l ak (i:Int) z ah=E d) (c7:¬d<0) (c8:bo n ⟨(i:Int),d⟩=E e):Fo n l ak ah ar aQ (k+1) y.aZ e (aE++[⟨(i:Int),d⟩])
section
variable {n:ab} (hf:cD n)
include hf
theorem ZfE(hn:aX n=E Ze){l:C aq}(hl:G l<=1048576){ak:C W}(hc:G ak<=1048576)(ah:Int){ar:O}(aQ:Int)
 (hC:cb n l=Ze/\0<=K (D n) ar/\aQ<=100000/\1<=ah):
 ∀(k:J) (q0:O) (e:Int) (tail:C W),0<=K (D n) q0->V (bT n l ak ah (K (D n) ar) aQ k) (K (D n) q0)=E e->0<=e->(k=0\/¬V (bT n l ak ah (K (D n) ar) aQ (k-1)) (K (D n) q0)=E e)->G tail+k<=G (D n)->∀N,k<N->
  ∃aE,X (fL n l ak ar aQ ah (D n) (K (D n) ar)) N (K (D n) q0,e,(k:Int),tail)=E (aE++tail)/\Fo n l ak ah ar aQ k q0 e aE:=by
 have hlg:=pZ hn;have hp:G (D n)<=40:=by have:=dR n;omega
 intro k
 induction k with
 |zero=>
  intro q0 e tail hx hg he Qg hlen N hN;obtain⟨N,rfl⟩:∃M,N=M+1:=⟨N-1,R⟩;exact⟨[],by rfl,.nil hx hg he⟩
 |succ k ih=>
  intro q0 e tail hx hg he Qg hlen N hN;obtain⟨N,rfl⟩:∃M,N=M+1:=⟨N-1,R⟩;have zY:=ou hf hl hc ah (K (D n) ar) aQ;have hnx:¬V (bT n l ak ah (K (D n) ar) aQ k) (K (D n) q0)=E e:=by
   grind
  have LN:xY n l ak ah (K (D n) ar) (bT n l ak ah (K (D n) ar) aQ k) (K (D n) q0) e:=by
   rcases(tp hf hl hc ah (K (D n) ar) aQ k).2 _ e hg with h|h
   all_goals grind
  have Ut:=(jf (D n) q0).2;obtain⟨t,hs,hi,i,y,d,u,z,rfl,c1,c2,c3,c4,c5,c6,c7,c8⟩:=IW hf hl hc ah (zY k) (q0:=q0) rfl ⟨hx,Ut⟩ e LN;have hfb:=qU hf hl hc ah aQ hC (k:=k) R;have hw:aJ (((k+1:J):Int)-1)=(k:Int):=by rw[aV R];omega
  have hy:V n.aC (i:Int)=E y:=by rw[aS];omega
  have ha1:cf (bn (G ([⟨(i:Int),d⟩]:C W)+G tail) 16)=E ():=fv YD R;obtain⟨m1,m2⟩:=mz (VU c1);have a0:=iX m1;obtain⟨aE,q1,q2⟩:=ih y.ar u ([⟨(i:Int),d⟩]++tail) a0 c3 R (by
   by_cases BG:k=0
   ·omega
   ·refine .inr λhu=>hnx ?_
    obtain⟨k',rfl⟩:∃k',k=k'+1:=⟨k-1,R⟩;have qV:=(zl hf hn hl hc ah (K (D n) ar) aQ k').2 _ e ⟨i,y,d,u,z,c1,c2,hu,c4,c5,c6,c7,c8⟩;obtain⟨w,w1,w2,w3⟩:=qV;obtain⟨w',v1,v2,v3⟩:=(zl hf hn hl hc ah (K (D n) ar) aQ (k'+1)).1 _ w w1 w2
    grind) YD N R
  have hq:y.aZ=q0:=by
   have g1:=qn (iX m2);have g2:=qn hx
   grind
  refine⟨aE++[⟨(i:Int),d⟩],?_,?_⟩
  ·have hb:fL n l ak ar aQ ah (D n) (K (D n) ar) (K (D n) q0,e,((k+1:J):Int),tail)=E (.inl (K (D n) y.ar,u,(k:Int),[⟨(i:Int),d⟩]++tail)):=by
    unfold fL;simp only[Yi (show(0:Int)<((k+1:J):Int)by omega),Yw,hw,hfb,Y,hs,ha1,hy,kP hf,c3]
   unfold X
   grind
  ·subst hq
   exact .snoc q2 c1 hg c5 c6 c7 c8
omit hf in
theorem FT{t:W}(ht:fA n t=Ze):∀(aE:C W) (p:O) (a:Int),gm n p a aE->(aE=[]->ic n t=p/\a<=bY n t)->(∀t',aE.getLast?=E t'->ic n t=bB n t'/\cH n t'+n.change<=bY n t)->gm n p a (aE++[t])
 | [],p,a,_,h1,_=>⟨ht,(h1 rfl).1,(h1 rfl).2,trivial⟩
 |x::aE,p,a,hc,h1,h2=>by
  obtain⟨c1,c2,c3,c4⟩:=hc;refine⟨c1,c2,c3,FT ht aE _ _ c4 (λhw=>?_) λt' h=>?_⟩
  all_goals grind
omit hf in
theorem Dj:∀(m:J) (l:C J),l.Nodup->(∀x∈l,x<m)->G l<=m
 |0,l,_,h=>by
  cases l with
  |nil=>simp
  |cons x xs=>have:=h x YE;omega
 |m+1,l,hn,h=>by
  have h1:=Dj m (l.erase m) (hn.erase m) λx hx=>by
   grind
  grind
section
variable (hn:aX n=E Ze) {l:C aq} (hl:l.length<=1048576) {ak:C W} (hc:ak.length<=1048576) (ah:Int) {ar:O} (aQ:Int) (Py:0<=K (D n) ar) (uu:aQ<=100000)
include hn hl hc Py uu
omit Py uu in
theorem wB(f:Int){x u:Int}{j:J}(hg:V (bT n l ak ah f aQ j) x=E u)(h0:0<=u):∀d,uz (bT n l ak ah f aQ (j+d)) x u
 |0=>⟨u,hg,h0,Int.le_refl _⟩
 |d+1=>by
  obtain⟨w,w1,w2,w3⟩:=wB f hg h0 d;obtain⟨w',v1,v2,v3⟩:=(zl hf hn hl hc ah f aQ (j+d)).1 x w w1 w2;exact⟨w',v1,v2,R⟩
structure Zhg(n:ab)(l:C aq)(ak:C W)(ah:Int)(ar:O)(aQ:Int)(k:J)(q:O)(e:Int)(aE:C W):Prop where
 time:0<=e/\e<=100000
 seen:∀p∈ar::aE.map (bB n),∃(j:J) (u:Int),j<=k/\V (bT n l ak ah (K (D n) ar) aQ j) (K (D n) p)=E u/\0<=u/\u<=e
 nodup:(ar::aE.map (bB n)).Nodup
 last:(ar::aE.map (bB n)).getLast?=E q
 chain:gm n ar (if 0 > aQ then 0 else aQ) aE
 ends:aE=[]/\e=(if 0 > aQ then 0 else aQ)\/∃t,aE.getLast?=E t/\cH n t=e
 found:∀t∈aE,dZ ak t=E Zf/\∃y q,V n.aC t.bq=E y/\eJ l t=E q/\ah<=aJ (y.jb-q)
 idx:0<=K (D n) q
theorem ZfF{aE:C W}(h:Fo n l ak ah ar aQ k q e aE):Zhg n l ak ah ar aQ k q e aE:=by
 have hlg:=pZ hn;have hp:G (D n)<=40:=by have:=dR n;omega
 have bD:=(jf (D n) ar).2
 induction h with
 |nil h0 hg he=>
  rename_i q e;have hb:bT n l ak ah (K (D n) ar) aQ 0=(V9 (G (D n)) (-1:Int)).set (K (D n) ar).toNat (if 0 > aQ then 0 else aQ):=by
   unfold bT;rw[EU hf R _ ⟨Py,bD⟩];rfl
  rw[hb]at hg
  have hq:K (D n) q=K (D n) ar/\e=(if 0 > aQ then 0 else aQ):=by
   rcases M0 Py hg with⟨a,b⟩ |h
   ·omega
   ·obtain⟨_,h2⟩:=ky h
    grind
  have hqf:ar=q:=by
   have g1:=qn h0;have g2:=qn Py
   grind
  subst hqf;have he2:=hq.2;refine⟨⟨he,R⟩,λp hp=>?_,by simp,rfl,trivial,.inl ⟨rfl,he2⟩,λt ht=>by grind,Py⟩
  grind
 |snoc hpt c1 hg c5 c6 c7 c8 ih=>
  rename_i k y u z d e i aE;have Zn9:V n.aC (i:Int)=E y:=by rw[aS];omega
  have hfo:Found n l ak z ah ⟨(i:Int),d⟩:=by
   rcases NW hf c6 with h|h
   all_goals omega
  obtain⟨_,t2,t3,t4,t5⟩:=bX hf hn hfo.aN;have hee:cH n ⟨(i:Int),d⟩=e:=by grind
  have zL:bB n ⟨(i:Int),d⟩=y.aZ:=by unfold bB;grind
  have Znw:ic n ⟨(i:Int),d⟩=y.ar:=by unfold ic;grind
  obtain⟨n0,n1⟩:=iH hn;have hz:z=if K (D n) y.ar=K (D n) ar then u else u+n.change:=by
   unfold dI at c5
   by_cases h:K (D n) y.ar=K (D n) ar
   ·grind
   ·rw[Yt h,aV (by have:=ih.time;omega)]at c5;grind
  have tV:=hfo.start;obtain⟨m1,m2⟩:=mz (VU c1);have Ur:∀p∈ar::aE.map (bB n),p≠y.aZ:=λp hp heq=>by
   obtain⟨j,u',hj,hg',h0,hu⟩:=ih.seen p hp;rw[heq]at hg'
   obtain⟨w,w1,w2,w3⟩:=wB hf hn hl hc ah aQ _ hg' h0 (k+1-j)
   grind
  have Un:ar::(aE++[(⟨(i:Int),d⟩:W)]).map (bB n)=(ar::aE.map (bB n))++[y.aZ]:=by
   grind
  refine⟨⟨R,R⟩,λp hp=>?_,?_,?_,?_,.inr ⟨_,List.getLast?_concat,hee⟩,λt ht=>?_,iX m2⟩
  ·rw[Un]at hp
   rcases We.1 hp with hp|hp
   ·obtain⟨j,u',hj,hg',h0,hu⟩:=ih.seen p hp
    grind
   grind
  ·rw[Un,List.nodup_append]
   exact⟨ih.nodup,by simp,λa ha b hb=>by grind⟩
  ·grind
  ·refine FT hfo.aN aE _ _ ih.chain (λhw=>?_) λt' HQ=>?_
   ·subst hw
    have hq:ar=y.ar:=by have:=ih.last;grind
    rcases ih.ends with⟨_,he⟩ |⟨t,ht,_⟩
    all_goals grind
   ·have Gi:t'∈aE:=WX HQ
    have ve:bB n t'=y.ar:=by
     have h1:=ih.last
     grind
    have gL:¬K (D n) y.ar=K (D n) ar:=λhe=>by
     have g1:=qn (iX m1);have g2:=qn Py;rw[he,g2]at g1
     have hff:ar=y.ar:=VV g1;have hnd:=ih.nodup
     grind
    rw[if_neg gL]at hz
    rcases ih.ends with⟨hw,_⟩ |⟨t'',Zog,Zn4⟩
    all_goals grind
  ·rcases We.1 ht with ht|ht
   ·exact ih.found t ht
   ·obtain rfl:=List.mem_singleton.1 ht
    exact⟨hfo.open_,hfo.jb⟩
end
end
theorem vl{body:Int->Zo (Int⊕(Unit⊕Bool))}{xs:C α}(h1:∀(i:J) x,xs[i]?=E x->body (i:Int)=E (.inl (aJ ((i:Int)+1))))(h2:body (G xs:Int)=E (.inr (.inl ())))(hl:G xs<=1048576):X body NN 0=E (.inl ()):=by
 exact il (body:=body) (λi:J=>(i:Int)) (n:=G xs) (o:=.inl ()) (λi hi=>by rw[h1 i _ (VS hi),bz hi R]) h2 NN YF
theorem yR[DecidableEq α]{F:C α->C α->Zo Bool}{B:C α->C α->Int->Zo (Int⊕(Unit⊕Bool))}
 (hF:∀a b,F a b=Z (!decide ((G a:Int)=(G b:Int))) (E Zf) ((X (B a b) NN 0).bind (bj (λ_=>E Ze) (λr=>E r))))
 (hB:∀a b s0,B a b s0=Z (Zg (s0<(G a:Int))) ((V a s0).bind λy1=>(V b s0).bind λy2=>Z (!decide (y1=y2)) (E (.inr (.inr Zf))) (E (.inl (aJ (s0+1))))) (E (.inr (.inl ())))) {l:C α} (hl:G l<=1048576):F l l=E true:=by
 have e:X (B l l) NN 0=E (.inl ()):=by
  refine vl (xs:=l) (λi x hx=>?_) ?_ hl
  ·have bD:=(VT.1 hx).1
   have hg:V l (i:Int)=E x:=by rw[aS];exact hx
   rw[hB,Yi (show(i:Int)<G l by omega),hg]
   simp
  ·rw[hB];simp
 rw[hF,e];simp[bj]
def ql(n:ab)(o:ay):Bool:=match o.aE.getLast? with
 |some t=>Zg (bB n t=o.aZ)
 |none=>Zf
theorem xD{l:C W}(h:0<G l)(hk:k+1=G l):∃t,l[k]?=E t/\l.getLast?=E t:=by
 refine⟨l[k]' R,VS _,?_⟩;rw[List.getLast?_eq_getElem?,show (G l)-1=k by omega]
 exact VS _
def tY(n:ab)(o:ay):Int:=if ql n o=Ze then((o.aE.getLast?).map (cH n)).getD 0 else -1
theorem TI{w:aw}(h:oc w)(hn:fV w<0)(ho:w.ae[i]?=E o):(ql w.aa o=Ze->o.state=3/\o.place=o.aZ/\o.bK=tY w.aa o)/\(ql w.aa o=Zf->o.state=1):=by
 have tV:=h.state ho;have hwy:=h.aE ho;have hg:=hwy.aH;have Px:=(NX h hn).2 o (VU ho);have IM:o.aE[o.aH.toNat]?=none:=by
  unfold fa at Px
  cases hx:o.aE[o.aH.toNat]? with
  |none=>rfl
  |some t=>rw[hx]at Px;cases Px
 have vd:o.aH=G o.aE:=by
  have:=List.getElem?_eq_none_iff.1 IM;omega
 rcases tV.cases with⟨k1,k2,k3,k4,k5⟩ |⟨k1,k2,k3,t,k4,k5,k6⟩ |⟨k1,k2,k3,k4,k5,k6⟩
 ·refine⟨λhe=>?_,λ_=>k1⟩
  exfalso
  rcases Nat.eq_zero_or_pos (G o.aE) with h0|h0
  ·unfold ql at he;rw[List.length_eq_zero_iff.1 h0]at he;cases he
  ·obtain⟨t,t1,t2⟩:=xD h0 (k:=(o.aH-1).toNat) R
   unfold ql at he
   rw[t2]at he
   refine k3 ?_;unfold pK;rw[if_pos R,t1];exact Yu he
 ·rw[IM]at k4;cases k4
 ·obtain⟨t,t1,t2⟩:=xD (l:=o.aE) R (k:=(o.aH-1).toNat) R
  have he:ql w.aa o=true:=by
   unfold ql;rw[t2];refine Yi ?_;unfold pK at k3
   rw[if_pos k5,t1]at k3
   exact k3
  refine⟨λ_=>⟨k1,k2,?_⟩,λhf=>by rw[he]at hf;cases hf⟩
  unfold tY;rw[if_pos he,t2,k6 t t1];rfl
theorem U6{w:aw}(h:oc w)(ho:w.ae[i]?=E o):(ql w.aa o=Ze->0<=tY w.aa o/\tY w.aa o<=100000)/\(ql w.aa o=Zf->tY w.aa o=-1):=by
 refine⟨λhe=>?_,λhe=>by unfold tY;rw[he];rfl⟩
 unfold tY;rw[if_pos he]
 cases hl:o.aE.getLast? with
 |none=>simp
 |some t=>
  have:=(h.aE ho).aN t (WX hl);simp only[WC,W9];omega
def l8(n:ab)(skip:C Int)(bb:C cB)(bd:C bH)(aU:C Int):Zo (aD×Bool):=
 Zn (kF n skip) λy1=>
 Zn (Ev (.un::.un::.sl (bb.map dV)::.sl (bd.map dK)::.sl (aU.map aW)::(U 5 (.be 0 0 0::.un::.be 1 0 0::vb y1.2::(U 22 [])))) [E ⟨.of 40,16,[uy]⟩,E ⟨.of 33,10,[cL y1.1]⟩]) λ_=>
 Zn (gS (⟨y1.1,bb,bd,aU,[],[],[]⟩:aD)) λy2=>
 Z (!y1.2)
 (E ((⟨(⟨(⟨[],[],0⟩:ab),[],[],[],0,[],[],0⟩:aw),[],[],[],[],[],[]⟩:aD),Zf))
 (Zn (mX y2) λy3=>
 Z (!y3)
 (E ((⟨(⟨(⟨[],[],0⟩:ab),[],[],[],0,[],[],0⟩:aw),[],[],[],[],[],[]⟩:aD),Zf))
 (E (y2,Ze)))
instance (n:ab)(skip:C Int)(bb:C cB)(bd:C bH)(aU:C Int):CT prog (l8 n skip bb bd aU):=⟨71,[.ag (aT n),.sl (skip.map aW),.sl (bb.map dV),.sl (bd.map dK),.sl (aU.map aW)],[],λr=>.tu [.ag [.sl (r.1.world.aa.aC.map cY),.sl (r.1.world.aa.off.map aW),vi r.1.world.aa.change,.sl (r.1.world.ae.map bx),.sl (r.1.world.av.map aG),.sl (r.1.world.ak.map bg),vi r.1.world.now,.sl (r.1.world.aL.map bA),.sl (r.1.world.skip.map aW),vi r.1.world.br,.sl (r.1.bb.map dV),.sl (r.1.bd.map dK),.sl (r.1.aU.map aW),.ms 0,.sl (r.1.lines.map bV),.ms 1],vb r.2],λr=>[E ⟨.of 58,7,r.1.aK.map cd⟩,E ⟨.of 60,13,r.1.aF.map fQ⟩],cw (l8.eq_1 ..) func71 ntmps71 results71⟩
theorem SZ{l:C W}(hl:G l<=1048576):gQ l l=E true:=yR (F:=gQ) (B:=mK) (λ_ _=>rfl) (λ_ _ _=>rfl) hl
theorem Zf6{l:C aq}(hl:G l<=1048576):gW l l=E true:=yR (F:=gW) (B:=kK) (λ_ _=>rfl) (λ_ _ _=>rfl) hl
theorem Zf7{l:C bP}(hl:G l<=1048576):jU l l=E true:=yR (F:=jU) (B:=nX) (λ_ _=>rfl) (λ_ _ _=>rfl) hl
theorem Zgb{l:C aI}(hl:G l<=1048576):jk l l=E true:=yR (F:=jk) (B:=mJ) (λ_ _=>rfl) (λ_ _ _=>rfl) hl
theorem Lg{l:C Int}(hl:G l<=1048576):fY l l=E true:=yR (F:=fY) (B:=jA) (λ_ _=>rfl) (λ_ _ _=>rfl) hl
theorem Zf9(h:G o.aE<=1048576):nC o o=E true:=by
 unfold nC;simp only[decide_true,Yw,SZ h,Y]
theorem Zgc{w:aw}(h:sE w):np w w=E true:=by
 unfold np;have e:X (kn w w) NN 0=E (.inl ()):=by
  refine vl (xs:=w.ae) (λi x hx=>?_) ?_ h.ae
  ·have bD:=(VT.1 hx).1
   have hg:V w.ae (i:Int)=E x:=by rw[aS];exact hx
   unfold kn;rw[Yi (show(i:Int)<G w.ae by omega),hg]
   simp only[Y,Zf9 (h.aE x (VU hx)),Yw,VX,Yx]
  ·unfold kn;simp
 rw[e];simp only[decide_true,VX,Yx,Y,bj,Zf7 h.dp.aC,Lg h.dp.off,Zf6 h.av,SZ h.ak,Zgb h.aL,Lg h.skip,Yw]
