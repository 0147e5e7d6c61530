/- A part of the proof of this claim's last theorem. No condition. -/
import Derived.Test.YtbjbellffaenaaaGreatDoorCT13
import Derived.Test.YtbjbellffaenaaaGreatDoorCT11
import Derived.Test.YtbjbellffaenaaaGreatDoorCT16
set_option linter.all false
set_option maxRecDepth 10000
open Option renaming some->u,none->Zd
open Bool renaming true->G,false->O
open Decidable renaming decide->D
open List renaming length->E
open Option renaming bind->V
open _root_ renaming List->C,Option->J,Unit->S,cond->K
open Go.Proofs.YtbjbellffaenaaaGreatDoor renaming NN->T,YA->L,aB->X,aJ->R,aS->Y,az->M,bf->Z
open Go.Proofs.Tryz
set_option maxHeartbeats 40000000
namespace Go.Proofs.YtbjbellffaenaaaGreatDoor
open Bool renaming and_eq_true->V7,not_true->VX,not_eq_true'->Ww
open List renaming getElem_mem->Wk,getElem?_eq_some_iff->VT,getElem_of_mem->V3,getElem?_eq_getElem->VS,mem_of_getElem?->VU,mem_append->We,mem_singleton->Wh,length_map->Wi,getElem?_map->Wp
open Option renaming bind_some->W,map_eq_some_iff->Wc
open Nat renaming pos_of_ne_zero->Xx,le_refl->VW,zero_add->Wa
open Go.RowKit
variable {a b:J Bool}{bb k:Int}{bd:C bH}{i:Nat}{l:C cB}{n:ab}{p:aP}{s:ByteArray}{t:au}{α:Type}
def allI{α:Type}(c:Nat->α->Bool):Nat->C α->Bool
 |_,[]=>G
 |i,x::xs=>c i x&&allI c (i+1) xs
theorem cX{α:Type}{c:Nat->α->Bool}:∀{xs:C α} {i:Nat},allI c i xs=G↔∀(j:Nat) (x:α),xs[j]?=u x->c (i+j) x=G
 | [],i=>by simp[allI]
 |x::xs,i=>by
  simp only[allI,V7,cX];constructor
  ·grind
  ·intro h
   exact⟨h 0 x rfl,λj y hj=>by have:=h (j+1) y YD;grind⟩
theorem Ma{α:Type}(c d:Nat->α->Bool):∀(xs:C α) (i:Nat),allI (λi x=>c i x&&d i x) i xs=(allI c i xs&&allI d i xs)
 | [],i=>rfl
 |x::xs,i=>by
  simp only[allI,Ma c d xs (i+1)]
  grind
theorem PQ{c d:Nat->α->Bool}{xs:C α}(h:∀(j:Nat) (x:α),xs[j]?=u x->c (i+j) x=d (i+j) x):allI c i xs=allI d i xs:=by
 rw[Bool.eq_iff_iff,cX,cX]
 grind
theorem gM{A α σ γ:Type}{xs:C α}{body:σ->J (σ⊕(γ⊕Bool))}(mk:A->Int->σ)(c:Nat->α->Bool)(f:A->α->A)(g:A->γ)
 (h1:∀a (i:Nat) x,xs[i]?=u x->body (mk a i)=u (if c i x=G then .inl (mk (f a x) ((i+1:Nat):Int))else .inr (.inr O)))
 (h2:∀a,body (mk a (E xs:Int))=u (.inr (.inl (g a)))) (hN:E xs<T) (a:A):X body T (mk a 0)=u (if allI c 0 xs=G then .inl (g (xs.foldl f a))else .inr O):=by
 rw[tz mk (λi a x=>u (if c i x=G then .inl (f a x)else .inr (.inr O))) (λa=>u (.inl (g a))) (λa i x hx=>by grind) (λa=>by grind) hN a]
 have key:∀(xs:C α) (i:Nat) (a:A),w9 (λi a x=>u (if c i x=G then(.inl (f a x):A⊕(γ⊕Bool))else .inr (.inr O))) (λa=>u (.inl (g a))) i xs a=u (if allI c i xs=G then .inl (g (xs.foldl f a))else .inr O):=by
  intro xs
  induction xs with
  |nil=>intro i a;rfl
  |cons x xs ih=>
   simp only[w9,allI]
   grind
 grind
/-! The parts of an Zft test. -/
def fA(n:ab)(t:au):Bool:=(cN n t.bq t.day).getD O
def bB(n:ab)(t:au):ByteArray:=((M n.aC t.bq).map (·.aZ)).getD ⟨#[]⟩
def dx(l:C au)(t:au):Bool:=l.any λy=>D (y=t)
theorem sY(h:cD n)(t:au):cN n t.bq t.day=u (fA n t):=by
 obtain⟨_,b,hb⟩:=sW h t.bq t.day;unfold fA;grind
theorem cZ(h:cD n)(ht:fA n t=G):∃y,M n.aC t.bq=u y/\y∈n.aC:=by
 have:=sY h t;rw[ht]at this
 obtain⟨y,hy⟩:=yQ h this;exact⟨y,hy,tR hy⟩
def xd(w:aw)(id:Int)(o:ay)(i:Nat)(t:au):Bool:=fA w.aa t&&kY w.av id t o.ah&&!(D (bB w.aa t=o.aZ)&&D (i+1<E o.aE))
def Et(n:ab)(o:ay):ByteArray:=o.aE.foldl (λ_ t=>bB n t) o.ar
def aY(o:ay):Int:=if o.state=2 then o.aH+1 else o.aH
def kv(w:aw)(i:Nat)(o:ay):Bool:=
 !decide (bc (aj w.aa) o.ar<0)&&!decide (bc (aj w.aa) o.aZ<0)&&!decide (o.ar=o.aZ)&&(D (1<=o.ax)&&D (o.ax<=3))&&(D (1<=o.ah)&&D (o.ah<=30000))&&(D (0<=o.aQ)&&D (o.aQ<=w.now))&&(D (0<=o.fc)&&D (o.fc<=200000))&&(D (0<=o.aH)&&D (o.aH<=(E o.aE:Int))) &&
  allI (xd w ((i+1:Nat):Int) o) 0 o.aE&&(fN w.aa o.aE o.ar (Et w.aa o) (R (o.aQ+1))).getD O&&(cA w.aa o w.now).getD O&&!((o.aE.drop (aY o).toNat).any (dx w.ak))
structure sE(w:aw):Prop where
 dp:cD w.aa
 ae:w.ae.length<=1048576
 av:w.av.length<=1048576
 ak:w.ak.length<=1048576
 aL:w.aL.length<=1048576
 skip:w.skip.length<=1048576
 aE:∀o∈w.ae,o.aE.length<=1048576
theorem Hs{o:ay}(hg:0<=o.aH/\o.aH<=E o.aE)(hl:E o.aE<=1048576)(hw:∀t∈o.aE,∃y,M n.aC t.bq=u y)(now:Int):∃b,cA n o now=u b:=by
 have uu:∀(i:Int),0<=i->i<E o.aE->∃t y,M o.aE i=u t/\M n.aC t.bq=u y:=by
  intro i h0 h1;have bD:i.toNat<E o.aE:=L;obtain⟨y,hy⟩:=hw o.aE[i.toNat] (Wk bD);exact⟨o.aE[i.toNat],y,by unfold M;grind,hy⟩
 have Ac:R (o.aH-1)=o.aH-1:=aV L;have C5:o.aH<E o.aE->∃t s e,M o.aE o.aH=u t/\bp n t=u s/\bo n t=u e:=by
  intro h1;obtain⟨t,y,ht,hy⟩:=uu o.aH hg.1 h1;obtain⟨s,hs⟩:=o6 hy;obtain⟨e,he⟩:=kx hy
  grind
 unfold cA;rw[Ac]
 by_cases h0:0<o.aH
 ·rw[Yi h0,Yw]
  obtain⟨t,y,ht,hy⟩:=uu (o.aH-1) L L;obtain⟨e,he⟩:=kx hy;simp only[ht,hy,he,W]
  cases D (now<e)with
  |true=>simp
  |false=>
   simp only[Yx]
   by_cases h1:o.aH<E o.aE
   ·obtain⟨t2,s2,e2,ht2,D8,he2⟩:=C5 h1
    simp only[ht2,D8,he2,W]
    cases D (o.state=1)<;>cases D (o.state=2)<;>cases D (o.state=3)<;>cases D (o.place=y.aZ)<;>cases D (y.aZ=o.aZ)<;>cases D (o.bK=0)<;>cases D (o.aH=(E o.aE:Int))<;>cases D (o.place=⟨#[]⟩)<;>cases D (o.aH<(E o.aE:Int))<;>cases D (s2<=now)<;>cases D (o.place=o.aZ)<;>exact⟨_,rfl⟩
   ·rw[Yi (show o.aH=(E o.aE:Int)by omega),Yt h1]
    cases D (o.state=1)<;>cases D (o.state=2)<;>cases D (o.state=3)<;>cases D (o.place=y.aZ)<;>cases D (y.aZ=o.aZ)<;>cases D (o.bK=0)<;>cases D (o.place=⟨#[]⟩)<;>cases D (o.place=o.aZ)<;>exact⟨_,rfl⟩
 ·rw[Yt h0,Yx]
  by_cases h1:o.aH<E o.aE
  ·obtain⟨t2,s2,e2,ht2,D8,he2⟩:=C5 h1
   simp only[ht2,D8,he2,W]
   cases D (o.state=1)<;>cases D (o.state=2)<;>cases D (o.state=3)<;>cases D (o.place=o.ar)<;>cases D (o.ar=o.aZ)<;>cases D (o.bK=0)<;>cases D (o.aH=(E o.aE:Int))<;>cases D (o.place=⟨#[]⟩)<;>cases D (o.aH<(E o.aE:Int))<;>cases D (s2<=now)<;>cases D (o.place=o.aZ)<;>exact⟨_,rfl⟩
  ·rw[Yi (show o.aH=(E o.aE:Int)by omega),Yt h1]
   cases D (o.state=1)<;>cases D (o.state=2)<;>cases D (o.state=3)<;>cases D (o.place=o.ar)<;>cases D (o.ar=o.aZ)<;>cases D (o.bK=0)<;>cases D (o.place=⟨#[]⟩)<;>cases D (o.place=o.aZ)<;>exact⟨_,rfl⟩
theorem Mv{w:aw}(hc:E w.ak<=1048576){o:ay}(hl:E o.aE<=1048576)(h0:0<=k):X (ka w o) T k=u (if(o.aE.drop k.toNat).any (dx w.ak)=G then .inr O else .inl ()):=by
 have key:∀(ts:C au) (i N:Nat),o.aE.drop i=ts->E ts<N->X (ka w o) N (i:Int)=u (if ts.any (dx w.ak)=G then .inr O else .inl ()):=by
  intro ts
  induction ts with
  |nil=>
   intro i N hd hN
   cases N with
   |zero=>omega
   |succ N=>
    simp only[X,ka]
    grind
  |cons t ts ih=>
   intro i N hd hN
   cases N with
   |zero=>omega
   |succ N=>
    have ht:o.aE[i]?=u t:=by
     have:=congrArg (λl:C au=>l[0]?) hd
     grind
    have bD:=(VT.1 ht).1;have Cy:o.aE.drop (i+1)=ts:=by
     have:=congrArg (List.drop 1) hd
     simpa using this
    have hg:M o.aE (i:Int)=u t:=by rw[Y];omega
    simp only[X,ka];rw[Yi (show(i:Int)<E o.aE by omega),hg]
    simp;rw[jH,jx hc,bz bD L];have LN:(w.ak.any λy=>D (y=t))=dx w.ak t:=rfl
    grind
 have:=key (o.aE.drop k.toNat) k.toNat T rfl (by simp;unfold T;omega)
 grind
theorem DU(cl:au->Bool)(k:Int):∀(ts:C au) (i:Nat),allI (λi t=>!(D (k<=(i:Int))&&cl t)) i ts=!((ts.drop (k-i).toNat).any cl)
 | [],i=>by simp[allI]
 |t::ts,i=>by
  simp only[allI,DU cl k ts (i+1)]
  by_cases h:k<=(i:Int)
  ·rw[Yi h,show(k-(i:Int)).toNat=0 by omega,show(k-((i+1:Nat):Int)).toNat=0 by omega]
   simp
  ·obtain⟨m,hm⟩:∃m,(k-(i:Int)).toNat=m+1:=⟨(k-(i:Int)).toNat-1,L⟩
   grind
theorem sL{o:ay}(h:0<=o.aH/\o.aH<=E o.aE)(hl:E o.aE<=1048576):ga o=u (aY o)/\0<=aY o/\jc o=u (if(E o.aE:Int)<aY o then(E o.aE:Int)else aY o):=by
 unfold ga jc aY;have hw:R (o.aH+1)=o.aH+1:=aV L
 grind
section
variable {w:aw} (hf:sE w) (hb:cb w.aa w.av=G)
include hf hb
theorem ZdK{o:ay}(hl:E o.aE<=1048576)(i:Nat)(hi:i<1048576):X (ml w (i:Int) o) T (o.ar,0)=u (if allI (xd w ((i+1:Nat):Int) o) 0 o.aE=G then .inl (Et w.aa o)else .inr O):=by
 refine gM (A:=ByteArray) (λa i=>(a,i)) _ (λ_ t=>bB w.aa t) id (λa j t ht=>?_) (λa=>?_) YF o.ar
 ·have bD:=(VT.1 ht).1
  have hg:M o.aE (j:Int)=u t:=by rw[Y];omega
  have hj:R ((j:Int)+1)=((j+1:Nat):Int):=bz bD L;have hi1:R ((i:Int)+1)=((i+1:Nat):Int):=by rw[aV L];omega
  unfold ml;simp only[Yi (show(j:Int)<E o.aE by omega),hg,W,sY hf.dp,ZaK hf.av]
  unfold xd
  cases HQ:fA w.aa t with
  |false=>simp
  |true=>
   obtain⟨y,hy,_⟩:=cZ hf.dp HQ;have Zh5:bB w.aa t=y.aZ:=by unfold bB;grind
   grind
 ·unfold ml
  simp
theorem ZdJ{o:ay}(hl:E o.aE<=1048576)(i:Nat)(hi:i<1048576)(ho:M w.ae (i:Int)=u o)(hg0:0<=o.aH/\o.aH<=E o.aE):
 X (nA w ((i+1:Nat):Int) o) T (o.ar,0)=u (if(allI (xd w ((i+1:Nat):Int) o) 0 o.aE&&!((o.aE.drop (aY o).toNat).any (dx w.ak)))=G then .inl (Et w.aa o)else .inr O):=by
 obtain⟨c1,c2,c3⟩:=sL hg0 hl;have vD:(!((o.aE.drop (aY o).toNat).any (dx w.ak)))=allI (λj t=>!(D ((if(E o.aE:Int)<aY o then(E o.aE:Int)else aY o)<=(j:Int))&&dx w.ak t)) 0 o.aE:=by
  rw[DU]
  split
  ·rw[List.drop_eq_nil_of_le L,List.drop_eq_nil_of_le L]
  simp
 rw[vD,<-Ma];have uf:=(dJ hb).1;refine gM (A:=ByteArray) (λa i=>(a,i)) _ (λ_ t=>bB w.aa t) id (λa j t ht=>?_) (λa=>?_) YF o.ar
 ·have bD:=(VT.1 ht).1
  have hg:M o.aE (j:Int)=u t:=by rw[Y];omega
  have hj:R ((j:Int)+1)=((j+1:Nat):Int):=bz bD L;have Ac:R ((E o.aE:Int)-1)=(E o.aE:Int)-1:=aV L;have zK:M w.ae (R (((i+1:Nat):Int)-1))=u o:=by rw[aV L,show((i+1:Nat):Int)-1=(i:Int)by omega];omega
  unfold nA;simp only[Yi (show(j:Int)<E o.aE by omega),hg,W,vk hf.dp uf,sY hf.dp,Ki hf.av (FJ hb) zK,c3,jx hf.ak]
  unfold xd
  cases HQ:fA w.aa t with
  |false=>simp
  |true=>
   obtain⟨y,hy,_⟩:=cZ hf.dp HQ;have Zh5:bB w.aa t=y.aZ:=by unfold bB;grind
   cases kY w.av ((i+1:Nat):Int) t o.ah with
   |false=>simp
   |true=>
    generalize (if(E o.aE:Int)<aY o then(E o.aE:Int)else aY o)=k
    have ta:dx w.ak t=w.ak.any λy=>D (y=t):=rfl
    grind
 ·unfold nA
  simp
theorem JL{o:ay}(hl:E o.aE<=1048576)(hg0:0<=o.aH/\o.aH<=E o.aE)(h:allI (xd w ((i+1:Nat):Int) o) 0 o.aE=G):cA w.aa o w.now=u ((cA w.aa o w.now).getD O):=by
 obtain⟨b,Ex⟩:=Hs (n:=w.aa) hg0 hl (λt ht=>by
  obtain⟨j,hj,rfl⟩:=V3 ht;have:=cX.1 h j _ (VS hj);unfold xd at this
  simp at this
  obtain⟨y,hy,_⟩:=cZ hf.dp this.1.1
  grind) w.now
 grind
theorem Ry{o:ay}(ho:M w.ae (i:Int)=u o):pY w (i:Int)=u (kv w i o):=by
 have hl:=hf.aE o (tR ho);have hi:i<1048576:=by have:=(VT.1 (by rw[<-Y];exact ho)).1;have:=hf.ae;omega
 have hp:=(cV hf.dp).2;have uP:=dR w.aa;have Ia:=hf.dp.aC;unfold pY kv;rw[ho,hp];simp only[W,cO,qW (show(aj w.aa).length<=4194304 by omega)]
 cases D (bc (aj w.aa) o.ar<0)with
 |true=>rfl
 |false=>
 cases D (bc (aj w.aa) o.aZ<0)with
 |true=>rfl
 |false=>
 cases D (o.ar=o.aZ)with
 |true=>rfl
 |false=>
 cases D (1<=o.ax)&&D (o.ax<=3)with
 |false=>rfl
 |true=>
 cases D (1<=o.ah)&&D (o.ah<=30000)with
 |false=>rfl
 |true=>
 cases D (0<=o.aQ)&&D (o.aQ<=w.now)with
 |false=>rfl
 |true=>
 cases D (0<=o.fc)&&D (o.fc<=200000)with
 |false=>rfl
 |true=>
 cases hg:D (0<=o.aH)&&D (o.aH<=(E o.aE:Int))with
 |false=>rfl
 |true=>
 simp at hg
 obtain⟨c1,c2,c3⟩:=sL hg hl;simp only[VX];rw[ZdK hf hb hl i hi]
 cases hal:allI (xd w ((i+1:Nat):Int) o) 0 o.aE with
 |false=>rfl
 |true=>
 have tV:=JL hf hb hl hg hal;obtain⟨r,hr⟩:=AA hf.dp hl o.ar (Et w.aa o) (R (o.aQ+1));simp only[if_true,W,bj,hr]
 cases r with
 |false=>rfl
 |true=>
 rw[tV];simp
 cases(cA w.aa o w.now).getD O with
 |false=>rfl
 |true=>
 simp only[W,c1,Mv hf.ak hl c2]
 grind
theorem Qo{o:ay}(ho:M w.ae (i:Int)=u o):qG w ((i+1:Nat):Int) (aj w.aa)=u (kv w i o):=by
 have hl:=hf.aE o (tR ho);have hi:i<1048576:=by have:=(VT.1 (by rw[<-Y];exact ho)).1;have:=hf.ae;omega
 have uP:=dR w.aa;have Ia:=hf.dp.aC;have zK:M w.ae (R (((i+1:Nat):Int)-1))=u o:=by rw[aV L,show((i+1:Nat):Int)-1=(i:Int)by omega];omega
 unfold qG kv;rw[zK,gV,sr];simp only[W,cO,qW (show(aj w.aa).length<=4194304 by omega)]
 cases D (o.ar=o.aZ)with
 |true=>simp
 |false=>
 cases D (bc (aj w.aa) o.ar<0)with
 |true=>rfl
 |false=>
 cases D (bc (aj w.aa) o.aZ<0)with
 |true=>rfl
 |false=>
 cases D (1<=o.ax)&&D (o.ax<=3)with
 |false=>rfl
 |true=>
 cases D (1<=o.ah)&&D (o.ah<=30000)with
 |false=>rfl
 |true=>
 cases D (0<=o.aQ)&&D (o.aQ<=w.now)with
 |false=>rfl
 |true=>
 cases D (0<=o.fc)&&D (o.fc<=200000)with
 |false=>rfl
 |true=>
 cases hg:D (0<=o.aH)&&D (o.aH<=(E o.aE:Int))with
 |false=>rfl
 |true=>
 simp at hg
 simp only[VX];rw[ZdJ hf hb hl i hi ho hg]
 cases hal:allI (xd w ((i+1:Nat):Int) o) 0 o.aE with
 |false=>rfl
 |true=>
 have tV:=JL hf hb hl hg hal;obtain⟨r,hr⟩:=AA hf.dp hl o.ar (Et w.aa o) (R (o.aQ+1));simp only[Bool.true_and];rw[hr]
 cases(o.aE.drop (aY o).toNat).any (dx w.ak)with
 |true=>simp
 |false=>
 simp only[Zb3 hf.dp,Zdx]
 grind
end
def plB(s:ByteArray):Bool:=(cu s).getD O
theorem SM(h:s.size<=uY):cu s=u (plB s):=by
 obtain⟨_,b,hb⟩:=pn h;unfold plB;grind
theorem ZcC(h:s.size<=uY):eT s=u (plB s):=(pn h).1.trans (SM h)
theorem Zf5(a b:ByteArray):Rs a b=!tf b a:=by
 have h1:Rs a b=(tf a b ||(a.toList==b.toList)):=rfl;rw[h1,baB]
 by_cases e:a=b
 ·have:=Lf a
  grind
 ·cases h:tf a b with
  |true=>
   have:=Zdi a b h
   grind
  |false=>
   have:=SY (a:=a) (b:=b) YD e
   grind
def Zhb(o:J cB)(z:cB):Bool:=match o with
 |some y=>tf y.last z.first
 |none=>O
theorem Tw(y z:cB):Zhb (u y) z=tf y.last z.first:=rfl
def Pt(l:C cB)(i:Nat)(z:cB):Bool:=
 plB z.first&&(plB z.last&&(Rs z.first z.last&&(D (i=0) ||Zhb l[i-1]? z)))
def uq(l:C cB):Bool:=allI (Pt l) 0 l&&D ((E l:Int)<=8)
def uc(l:C cB):Prop:=E l<=1048576/\∀z∈l,z.first.size<=uY/\z.last.size<=uY
theorem Cv{i n:Nat}(h0:0<i)(hi:i<n)(hn:n<=1048576):R ((i:Int)-1)=((i-1:Nat):Int):=by
 rw[aV L];omega
theorem LG(hf:uc l):kM l=u (uq l):=by
 have e:X (mc l) T 0=u (if allI (Pt l) 0 l=G then .inl ()else .inr O):=by
  refine gM (A:=S) (λ_ i=>i) _ (λa _=>a) (λ_=>()) (λa i z hz=>?_) (λa=>?_) (by have:=hf.1;unfold T;omega) ()
  ·have bD:=(VT.1 hz).1
   have hl:=hf.1;obtain⟨p1,p2⟩:=hf.2 z (VU hz);have hg:M l (i:Int)=u z:=by rw[Y];omega
   have hi:R ((i:Int)+1)=((i+1:Nat):Int):=bz bD L;unfold mc;simp only[nf,hg,W,SM p1,SM p2];unfold Pt
   by_cases h0:i=0
   ·grind
   ·have hp:=Cv (Xx h0) bD hl
    obtain⟨y,hy⟩:∃y,l[i-1]?=u y:=⟨_,VS L⟩;have hgy:M l ((i-1:Nat):Int)=u y:=by rw[Y];omega
    rw[hp,hy,Tw]
    grind
  ·unfold mc
   simp
 unfold kM uq
 grind
theorem LF(hf:uc l):kI l=u (uq l):=by
 have e:X (lN l) T 0=u (if allI (Pt l) 0 l=G then .inl ()else .inr O):=by
  refine gM (A:=S) (λ_ i=>i) _ (λa _=>a) (λ_=>()) (λa i z hz=>?_) (λa=>?_) (by have:=hf.1;unfold T;omega) ()
  ·have bD:=(VT.1 hz).1
   have hl:=hf.1;obtain⟨p1,p2⟩:=hf.2 z (VU hz);have hg:M l (i:Int)=u z:=by rw[Y];omega
   have hi:R ((i:Int)+1)=((i+1:Nat):Int):=bz bD L;unfold lN;simp only[nf,hg,W,ZcC p1,ZcC p2];unfold Pt
   by_cases h0:i=0
   ·grind
   ·have hp:=Cv (Xx h0) bD hl
    obtain⟨y,hy⟩:∃y,l[i-1]?=u y:=⟨_,VS L⟩;have hgy:M l ((i-1:Nat):Int)=u y:=by rw[Y];omega
    rw[hp,hgy,hy,Tw];simp only[W,Zf5 z.first y.last]
    grind
  ·unfold lN
   simp
 unfold kI uq
 grind
def xl(a b:bH):Bool:=D (a.pG<b.pG) ||(D (b.pG=a.pG)&&(D (a.ax<b.ax) ||(D (b.ax=a.ax)&&(D (a.qo<b.qo)&&D (a.nQ<=b.nQ)))))
theorem ZdY(a b:bH):qM a b=u (xl a b):=by
 unfold qM xl
 grind
def Zda(o:J bH)(r:bH):Bool:=match o with
 |some y=>xl y r
 |none=>O
theorem Lc(y r:bH):Zda (u y) r=xl y r:=rfl
def Jj(l:C bH)(bb:Int)(i:Nat)(r:bH):Bool:=
 !decide (r.pG<0)&&(!decide (bb<=r.pG)&&((D (1<=r.ax)&&D (r.ax<=3))&&((D (1<=r.qo)&&D (r.qo<=1000000000))&&((D (0<=r.nQ)&&D (r.nQ<=100000))&&(D (i=0) ||Zda l[i-1]? r)))))
def ui(l:C bH)(bb:Int):Bool:=allI (Jj l bb) 0 l&&D ((E l:Int)<=24)
theorem SP{l:C bH}(hl:E l<=1048576):mW l bb=u (ui l bb):=by
 have e:X (ma l bb) T 0=u (if allI (Jj l bb) 0 l=G then .inl ()else .inr O):=by
  refine gM (A:=S) (λ_ i=>i) _ (λa _=>a) (λ_=>()) (λa i z hz=>?_) (λa=>?_) YF ()
  ·have bD:=(VT.1 hz).1
   have hg:M l (i:Int)=u z:=by rw[Y];omega
   have hi:R ((i:Int)+1)=((i+1:Nat):Int):=bz bD L;unfold ma;simp only[nf,hg,W,cO];unfold Jj;generalize (D (0<=z.nQ)&&D (z.nQ<=100000))=c3
   by_cases h0:i=0
   ·grind
   ·have hp:=Cv (Xx h0) bD hl
    obtain⟨y,hy⟩:∃y,l[i-1]?=u y:=⟨_,VS L⟩;have hgy:M l ((i-1:Nat):Int)=u y:=by rw[Y];omega
    rw[hp,hy,Lc];simp only[ZdY]
    grind
  ·unfold ma
   simp
 unfold mW ui
 grind
theorem ZdW(a b:bH)(h:¬(0<=(if uC a.pG b.pG≠0 then uC a.pG b.pG else if uC a.ax b.ax≠0 then uC a.ax b.ax else uC a.qo b.qo))):xl a b=!(D (a.pG=b.pG)&&(D (a.ax=b.ax)&&D (b.nQ<a.nQ))):=by
 unfold uC at h
 unfold xl
 grind
theorem ZdX(a b:bH)(h:0<=(if uC a.pG b.pG≠0 then uC a.pG b.pG else if uC a.ax b.ax≠0 then uC a.ax b.ax else uC a.qo b.qo)):xl a b=false:=by
 unfold uC at h
 unfold xl
 grind
theorem SO{l:C bH}(hl:E l<=1048576):mP l bb=u (ui l bb):=by
 have e:X (lM l bb) T 0=u (if allI (Jj l bb) 0 l=G then .inl ()else .inr O):=by
  refine gM (A:=S) (λ_ i=>i) _ (λa _=>a) (λ_=>()) (λa i z hz=>?_) (λa=>?_) YF ()
  ·have bD:=(VT.1 hz).1
   have hg:M l (i:Int)=u z:=by rw[Y];omega
   have hi:R ((i:Int)+1)=((i+1:Nat):Int):=bz bD L;unfold lM;simp only[nf,Yi (show(i:Int)<E l by omega),hg,W,xe]
   unfold Jj;generalize (D (0<=z.nQ)&&D (z.nQ<=100000))=c3
   by_cases h0:i=0
   ·grind
   ·have hp:=Cv (Xx h0) bD hl
    obtain⟨y,hy⟩:∃y,l[i-1]?=u y:=⟨_,VS L⟩;have hgy:M l ((i-1:Nat):Int)=u y:=by rw[Y];omega
    rw[Yt (show ¬((i:Int)=0)by omega),Yt h0,hp,hgy,hy,Lc]
    simp only[W,PY,Zbm]
    by_cases hc:0<=(if uC y.pG z.pG≠0 then uC y.pG z.pG else if uC y.ax z.ax≠0 then uC y.ax z.ax else uC y.qo z.qo)
    ·rw[Yi hc,ZdX y z hc]
     simp
    ·rw[ZdW y z hc]
     grind
  ·unfold lM
   simp
 unfold mP ui
 grind
theorem RN:@ra=@j9:=by
 funext l q i
 unfold ra j9;simp only[nf]
 cases M l i<;>rfl
theorem LD(hl:E l<=1048576)(q:ByteArray):∃o,X (j9 l q) T 0=u o:=by
 refine BV (n:=E l) YF (λi hi=>?_) ?_
 ·have hg:M l (i:Int)=u l[i]:=by rw[Y];simp
  have hw:R ((i:Int)+1)=((i+1:Nat):Int):=bz hi L;unfold j9;simp only[nf,Yi (show(i:Int)<E l by omega),hg,W,hw]
  cases Rs l[i].first q<;>cases Rs q l[i].last
  all_goals simp
 ·unfold j9
  simp
theorem Zai(hf:uc l){q:ByteArray}(hq:q.size<=uY):rK l q=qh l q/\∃v,qh l q=u v:=by
 unfold rK qh;rw[LF hf,LG hf,RN,ZcC hq,SM hq];refine⟨rfl,?_⟩;obtain⟨o,ho⟩:=LD hf.1 q;rw[ho]
 cases uq l<;>cases plB q<;>(try exact⟨_,rfl⟩)
 cases o<;>exact⟨_,rfl⟩
theorem Zad{l:C Int}(h:E l<T):pP l=mY l/\∃v,mY l=u v:=by
 unfold pP mY;rw[HD,Ff h];refine⟨rfl,?_⟩
 cases ht:xN l with
 |false=>simp
 |true=>
  match l,DJ ht with
  | [x,y,z],_=>exact⟨_,rfl⟩
theorem TV(h1:p.label.aZ.size<=uY)(h2:p.ar.size<=uY)(h3:E p.bJ<T):jy p=ib p/\∃v,ib p=u v:=by
 obtain⟨e1,b,hb⟩:=wX h1 h2 h3;obtain⟨e2,v,hv⟩:=Zad h3;unfold jy ib
 grind
theorem Vf{z:Int}(hc:jy p=ib p):qp bd p z=jt bd p z:=by
 funext i
 unfold qp jt;simp only[nf,hc]
 cases hg:M bd i with
 |none=>simp
 |some y=>rfl
theorem Ce{bb:C cB}(hz:uc bb)(hr:E bd<=1048576)(h1:p.label.aZ.size<=uY)(h2:p.ar.size<=uY)(h3:E p.bJ<T):
 lV bb bd p=js bb bd p/\∃v,js bb bd p=u v:=by
 obtain⟨e1,b,hb⟩:=wX h1 h2 h3;obtain⟨e2,z,hv⟩:=Zai hz h1;obtain⟨e3,cw,hcw⟩:=TV h1 h2 h3;have hL:∃o,X (jt bd p z) T 0=u o:=by
  refine BV (n:=E bd) YF (λi hi=>?_) ?_
  ·have hg:M bd (i:Int)=u bd[i]:=by rw[Y];simp
   have hw:R ((i:Int)+1)=((i+1:Nat):Int):=bz hi L;unfold jt;simp only[nf,Yi (show(i:Int)<E bd by omega),hg,W,hw,hcw]
   cases D (bd[i].pG=z)<;>cases D (bd[i].ax=p.label.ax)<;>cases D (cw<=bd[i].qo)<;>(first|exact Tc rfl|simp)
  ·unfold jt
   simp
 obtain⟨o,ho⟩:=hL;unfold lV js;rw[LF hz,LG hz,SO hr,SP hr,e1,e2,hb,hv];simp only[W,Vf e3,ho];refine⟨trivial,?_⟩
 cases uq bb
 ·simp
 cases ui bd (E bb:Int)
 ·simp
 cases b
 ·simp
 cases o<;>exact⟨_,rfl⟩
def uB(w:aw)(i:Nat)(t:au):Bool:=fA w.aa t&&!dx (w.ak.take i) t
def Ah(w:aw)(i:Nat)(s:aI):Bool:=(cz w.aa s).getD O&&!decide (w.now<s.aQ)
def xP(w:aw):Int:=w.ae.foldl (λa o=>R (a+(E o.aE:Int))) 0
def eY(w:aw):Bool:=
 cb w.aa w.av&&(D (0<=w.now)&&D (w.now<=100000))&&!decide (30<(E w.ae:Int))&&!decide (20<(E w.ak:Int))&&!decide (200<(E w.aL:Int))&&!decide (50<(E w.skip:Int))&&(D ((E w.aL:Int)<=w.br)&&D (w.br<=1000000000)) &&
  allI (uB w) 0 w.ak&&allI (Ah w) 0 w.aL&&allI (kv w) 0 w.ae&&D (xP w=(E w.av:Int))
theorem zF(xs:C α)(i:Nat):da xs 0 (i:Int)=xs.take i:=by rfl
section
variable {w:aw} (hf:sE w) (hb:cb w.aa w.av=G)
include hf
theorem Zdo(s:aI):cz w.aa s=u ((cz w.aa s).getD O):=by
 obtain⟨b,h⟩:=vS hf.dp s
 grind
theorem Mw:X (nJ w) T 0=u (if allI (uB w) 0 w.ak=G then .inl ()else .inr O):=by
 refine gM (A:=S) (λ_ i=>i) _ (λa _=>a) id (λa i t ht=>?_) (λa=>?_) (by have:=hf.ak;unfold T;omega) ()
 ·have bD:=(VT.1 ht).1
  have vD:=hf.ak;have hg:M w.ak (i:Int)=u t:=by rw[Y];omega
  have hi:R ((i:Int)+1)=((i+1:Nat):Int):=bz bD L;have hs:cf (iq 0 (i:Int) (E w.ak))=u ():=oB Y1;unfold nJ;simp only[hg,W,sY hf.dp,zF,jH,jx (show(w.ak.take i).length<=1048576 by grind)]
  unfold uB;have LN:((w.ak.take i).any λy=>D (y=t))=dx (w.ak.take i) t:=rfl
  grind
 ·unfold nJ
  simp
theorem Mu(hb:cb w.aa w.av=G):X (ni w) T 0=u (if allI (uB w) 0 w.ak=G then .inl ()else .inr O):=by
 have uf:=(dJ hb).1;refine gM (A:=S) (λ_ i=>i) _ (λa _=>a) id (λa i t ht=>?_) (λa=>?_) (by have:=hf.ak;unfold T;omega) ()
 ·have bD:=(VT.1 ht).1
  have vD:=hf.ak;have hg:M w.ak (i:Int)=u t:=by rw[Y];omega
  have hi:R ((i:Int)+1)=((i+1:Nat):Int):=bz bD L;have hs:cf (iq 0 (i:Int) (E w.ak))=u ():=oB Y1;unfold ni;simp only[vk hf.dp uf,sY hf.dp,zF,jx (show(w.ak.take i).length<=1048576 by grind)]
  unfold uB;have LN:((w.ak.take i).any λy=>D (y=t))=dx (w.ak.take i) t:=rfl
  grind
 ·unfold ni
  simp
theorem Rv:X (nK w) T 0=u (if allI (Ah w) 0 w.aL=G then .inl ()else .inr O):=by
 refine gM (A:=S) (λ_ i=>i) _ (λa _=>a) id (λa i s hs=>?_) (λa=>?_) (by have:=hf.aL;unfold T;omega) ()
 ·have bD:=(VT.1 hs).1
  have vD:=hf.aL;have hg:M w.aL (i:Int)=u s:=by rw[Y];omega
  have hi:R ((i:Int)+1)=((i+1:Nat):Int):=bz bD L;unfold nK;rw[Yi (show(i:Int)<E w.aL by omega),hg]
  simp;rw[Zdo hf s];unfold Ah
  grind
 ·unfold nK
  simp
theorem Ru:X (nj w) T 0=u (if allI (Ah w) 0 w.aL=G then .inl ()else .inr O):=by
 refine gM (A:=S) (λ_ i=>i) _ (λa _=>a) id (λa i s hs=>?_) (λa=>?_) (by have:=hf.aL;unfold T;omega) ()
 ·have bD:=(VT.1 hs).1
  have vD:=hf.aL;have hg:M w.aL (i:Int)=u s:=by rw[Y];omega
  have hi:R ((i:Int)+1)=((i+1:Nat):Int):=bz bD L;unfold nj;rw[Yi (show(i:Int)<E w.aL by omega),hg]
  simp;rw[Dc hf.dp,Zdo hf s];unfold Ah
  grind
 ·unfold nj
  simp
include hb
theorem N8:X (nL w) T (0,0)=u (if allI (kv w) 0 w.ae=G then .inl (xP w)else .inr O):=by
 refine gM (A:=Int) (λa i=>(a,i)) _ (λa (o:ay)=>R (a+(E o.aE:Int))) id (λa i o ho=>?_) (λa=>?_) (by have:=hf.ae;unfold T;omega) 0
 ·have bD:=(VT.1 ho).1
  have vD:=hf.ae;have hg:M w.ae (i:Int)=u o:=by rw[Y];omega
  have hi:R ((i:Int)+1)=((i+1:Nat):Int):=bz bD L;unfold nL;simp only[Ry hf hb hg]
  grind
 ·unfold nL
  simp
theorem N7:X (nk w (aj w.aa)) T (0,0)=u (if allI (kv w) 0 w.ae=G then .inl (xP w)else .inr O):=by
 refine gM (A:=Int) (λa i=>(a,i)) _ (λa (o:ay)=>R (a+(E o.aE:Int))) id (λa i o ho=>?_) (λa=>?_) (by have:=hf.ae;unfold T;omega) 0
 ·have bD:=(VT.1 ho).1
  have vD:=hf.ae;have hg:M w.ae (i:Int)=u o:=by rw[Y];omega
  have hi:R ((i:Int)+1)=((i+1:Nat):Int):=bz bD L;unfold nk;simp only[hi,Qo hf hb hg]
  grind
 ·unfold nk
  simp
end
theorem nZ{w:aw}(hf:sE w):gH w=u (eY w):=by
 unfold gH eY;rw[ie hf.dp hf.av];simp only[W,cO]
 cases hb:cb w.aa w.av with
 |false=>rfl
 |true=>
 cases D (0<=w.now)&&D (w.now<=100000)with
 |false=>rfl
 |true=>
 cases D (30<(E w.ae:Int))with
 |true=>rfl
 |false=>
 cases D (20<(E w.ak:Int))with
 |true=>rfl
 |false=>
 cases D (200<(E w.aL:Int))with
 |true=>rfl
 |false=>
 cases D (50<(E w.skip:Int))with
 |true=>rfl
 |false=>
 cases D ((E w.aL:Int)<=w.br)&&D (w.br<=1000000000)with
 |false=>rfl
 |true=>
 rw[Mw hf,Rv hf,N8 hf hb]
 grind
theorem qz{w:aw}(hf:sE w):fR w=u (eY w):=by
 unfold fR eY;rw[vR hf.dp hf.av,gV];simp only[cO]
 cases hb:cb w.aa w.av with
 |false=>rfl
 |true=>
 cases D (0<=w.now)&&D (w.now<=100000)with
 |false=>rfl
 |true=>
 cases D (30<(E w.ae:Int))with
 |true=>rfl
 |false=>
 cases D (20<(E w.ak:Int))with
 |true=>rfl
 |false=>
 cases D (200<(E w.aL:Int))with
 |true=>rfl
 |false=>
 cases D (50<(E w.skip:Int))with
 |true=>rfl
 |false=>
 cases D ((E w.aL:Int)<=w.br)&&D (w.br<=1000000000)with
 |false=>rfl
 |true=>
 rw[Mu hf hb,Ru hf,Ea hf.dp];simp;rw[N7 hf hb]
 grind
theorem o9{w:aw}(h:eY w=G){o:ay}(ho:w.ae[i]?=u o):kv w i o=true:=by
 unfold eY at h
 simp at h
 have:=cX.1 h.1.2 i o ho
 grind
theorem ze{w:aw}(h:eY w=G):cb w.aa w.av=true:=by
 unfold eY at h
 grind
structure ZgD(l:bP):Prop where
 start:0<=l.start/\l.start<=1439
 o8:1<=l.o8/\l.o8<=4320
 jb:0<=l.jb/\l.jb<=1000000
theorem Zb0{l:bP}(h:Gw l)(hv:gz l=u G):ZgD l:=by
 obtain⟨_,b1,s1⟩:=pn (s:=l.ar) h.1;obtain⟨_,b2,s2⟩:=pn (s:=l.aZ) h.2;unfold gz at hv
 rw[s1,s2]at hv
 simp only[W,cO]at hv
 cases b1 with
 |false=>grind
 |true=>
 cases b2 with
 |false=>grind
 |true=>
 cases h1:D (l.ar=l.aZ)with
 |true=>grind
 |false=>
 rw[h1]at hv
 cases h2:D (0<=l.start)&&D (l.start<=1439)with
 |false=>grind
 |true=>
 rw[h2]at hv
 cases h3:D (1<=l.o8)&&D (l.o8<=4320)with
 |false=>grind
 |true=>
 rw[h3]at hv
 cases h4:D (1<=l.yr)&&D (l.yr<=127)with
 |false=>grind
 |true=>
 rw[h4]at hv
 cases h5:D (0<=l.jb)&&D (l.jb<=1000000)with
 |false=>grind
 |true=>
 simp only[V7,Yy]at h2 h3 h5
 exact⟨h2,h3,h5⟩
theorem zA(h:cD n)(hn:aX n=u G):∀l∈n.aC,ZgD l:=by
 have e:X (cq n) T 0=u (if allI (λ_ l=>(gz l).getD O) 0 n.aC=G then .inl ()else .inr O):=by
  refine gM (A:=S) (λ_ i=>i) _ (λa _=>a) id (λa i l hl=>?_) (λa=>?_) (by have:=h.aC;unfold T;omega) ()
  ·have bD:=(VT.1 hl).1
   have vD:=h.aC;have hg:M n.aC (i:Int)=u l:=by rw[Y];omega
   have hi:R ((i:Int)+1)=((i+1:Nat):Int):=bz bD L;obtain⟨_,b,hb⟩:=BP (h.bq l (VU hl));unfold cq
   grind
  ·unfold cq
   simp
 unfold aX at hn
 by_cases ha:allI (λ_ l=>(gz l).getD O) 0 n.aC=G
 ·intro l hl
  obtain⟨i,hi,rfl⟩:=V3 hl;have:=cX.1 ha i _ (VS hi);obtain⟨_,b,hb⟩:=BP (h.bq _ (Wk hi));rw[hb]at this
  subst this;exact Zb0 (h.bq _ (Wk hi)) hb
 grind
theorem za(ht:fA n t=G):0<=t.day/\t.day<=60:=by
 unfold fA cN at ht
 rw[cO,cO]at ht
 grind
def bY(n:ab)(t:au):Int:=(bp n t).getD 0
def cH(n:ab)(t:au):Int:=(bo n t).getD 0
theorem bX(h:cD n)(hn:aX n=u G)(ht:fA n t=G):
 bp n t=u (bY n t)/\bo n t=u (cH n t)/\0<=bY n t/\bY n t<cH n t/\cH n t<=100000:=by
 obtain⟨y,hy,hm⟩:=cZ h ht;obtain⟨d0,d1⟩:=za ht;have hl:=zA h hn y hm;obtain⟨a0,a1⟩:=hl.start;obtain⟨b0,b1⟩:=hl.o8;have e1:bp n t=u (t.day*1440+y.start):=by
  unfold bp;rw[hy];simp;rw[aV (n:=t.day*1440) L,aV L]
 have e2:bo n t=u (t.day*1440+y.start+y.o8):=by
  unfold bo;rw[e1,hy];simp;rw[aV L]
 have s1:bY n t=t.day*1440+y.start:=by unfold bY;grind
 have s2:cH n t=t.day*1440+y.start+y.o8:=by unfold cH;grind
 grind
theorem O6{o:ay}{now:Int}(h:cA n o now=u G):(o.state=1/\¬(o.place=o.aZ))\/(o.state=2/\o.aH<E o.aE)\/(o.state=3/\o.aH=E o.aE/\0<o.aH):=by
 by_cases h1:o.state=1
 ·unfold cA at h
  cases h0:D (0<o.aH)with
  |false=>
   grind
  |true=>
   rw[h0]at h
   simp at h
   cases hg:M o.aE (R (o.aH-1))with
   |none=>grind
   |some y1=>
    rw[hg]at h
    simp at h
    cases hl:M n.aC y1.bq with
    |none=>grind
    |some y2=>
     rw[hl]at h
     simp at h
     cases he:bo n y1 with
     |none=>grind
     |some v=>
      grind
 ·by_cases h2:o.state=2
  ·rcases Classical.em (o.aH<E o.aE)with bD|bD
   ·omega
   unfold cA at h
   rw[Yt bD]at h
   cases h0:D (0<o.aH)with
   |false=>
    grind
   |true=>
    rw[h0]at h
    simp at h
    cases hg:M o.aE (R (o.aH-1))with
    |none=>grind
    |some y1=>
     rw[hg]at h
     simp at h
     cases hl:M n.aC y1.bq with
     |none=>grind
     |some y2=>
      rw[hl]at h
      simp at h
      cases he:bo n y1 with
      |none=>grind
      |some v=>
       grind
  ·by_cases h3:o.state=3
   ·rcases Classical.em (o.aH=E o.aE/\0<o.aH)with bD|bD
    ·omega
    unfold cA at h
    rw[Yi h3]at h
    cases h0:D (0<o.aH)with
    |false=>
     grind
    |true=>
     have gL:¬o.aH=(E o.aE:Int):=λe=>bD ⟨e,Yu h0⟩
     rw[Yt gL]at h
     simp at h
     cases hg:M o.aE (R (o.aH-1))with
     |none=>grind
     |some y1=>
      rw[hg]at h
      simp at h
      cases hl:M n.aC y1.bq with
      |none=>grind
      |some y2=>
       rw[hl]at h
       simp at h
       cases he:bo n y1 with
       |none=>grind
       |some v=>
        grind
   ·unfold cA at h
    cases h0:D (0<o.aH)with
    |false=>grind
    |true=>
     rw[h0]at h
     simp at h
     cases hg:M o.aE (R (o.aH-1))with
     |none=>grind
     |some y1=>
      rw[hg]at h
      simp at h
      cases hl:M n.aC y1.bq with
      |none=>grind
      |some y2=>
       rw[hl]at h
       simp at h
       cases he:bo n y1 with
       |none=>grind
       |some v=>
        grind
structure JT(w:aw)(i:Nat)(o:ay):Prop where
 aH:0<=o.aH/\o.aH<=o.aE.length
 aN:∀t∈o.aE,fA w.aa t=G
 aE:allI (xd w ((i+1:Nat):Int) o) 0 o.aE=G
 Zb2:fN w.aa o.aE o.ar (Et w.aa o) (R (o.aQ+1))=u G
 st:cA w.aa o w.now=u G
 cases:(o.state=1/\¬(o.place=o.aZ))\/(o.state=2/\o.aH<o.aE.length)\/(o.state=3/\o.aH=o.aE.length/\0<o.aH)
 open_:((o.aE.drop (aY o).toNat).any (dx w.ak))=O
 ZhK:¬o.ar=o.aZ
 aQ:0<=o.aQ/\o.aQ<=w.now
 fc:0<=o.fc/\o.fc<=200000
theorem N6{w:aw}(hf:sE w){o:ay}(hl:E o.aE<=1048576)(h:kv w i o=G):JT w i o:=by
 unfold kv at h
 simp only[V7,Ww,Yy,Yz]at h
 obtain⟨⟨⟨⟨⟨⟨⟨⟨⟨⟨⟨h1,h2⟩,h3⟩,h4⟩,h5⟩,h6⟩,h7⟩,h8⟩,h9⟩,EW⟩,II⟩,h12⟩:=h;have ht:∀t∈o.aE,fA w.aa t=true:=by
  intro t ht;obtain⟨j,hj,rfl⟩:=V3 ht;have:=cX.1 h9 j _ (VS hj);unfold xd at this
  grind
 obtain⟨r,hr⟩:=AA hf.dp hl o.ar (Et w.aa o) (R (o.aQ+1));obtain⟨b,hb⟩:=Hs (n:=w.aa) h8 hl (λt htt=>by obtain⟨y,hy,_⟩:=cZ hf.dp (ht t htt);grind) w.now
 rw[hr]at EW
 rw[hb]at II
 subst EW II;exact⟨h8,ht,h9,hr,hb,O6 hb,h12,h3,h6,h7⟩
section
variable {w:aw} (hf:sE w) (hv:eY w=G)
include hf hv
theorem iV{o:ay}(ho:w.ae[i]?=u o):JT w i o:=N6 hf (hf.aE o (VU ho)) (o9 hv ho)
theorem JN:aX w.aa=u true:=(dJ (ze hv)).1
theorem DK{o:ay}(ho:w.ae[i]?=u o)(h0:0<=k)(h1:k<E o.aE):∃t,M o.aE k=u t/\fA w.aa t=true:=by
 have bD:k.toNat<E o.aE:=L;exact⟨o.aE[k.toNat],by unfold M;grind,(iV hf hv ho).aN _ (Wk bD)⟩
theorem Zfi:iL w=(X (jE w) T (0,(-1))).bind (λo0=>u o0):=by
 have uf:=JN hf hv;have Ib:=hf.ae
 let F:Nat->Int->ay->J (Int⊕Int):=λ_ a o=>
  if o.aH=E o.aE then u (.inl a)else(M o.aE o.aH).bind λt=>
   let v:=if o.state=2 then cH w.aa t else bY w.aa t
   u (.inl (if a<0\/v<a then v else a))
 have e1:X (gf w) T ((-1),0)=w9 F u 0 w.ae (-1):=by
  refine tz (A:=Int) (λa i=>(a,i)) F u (λa i o ho=>?_) (λa=>?_) YF (-1)
  ·have bD:=(VT.1 ho).1
   have hg:M w.ae (i:Int)=u o:=by rw[Y];omega
   have hi:R ((i:Int)+1)=((i+1:Nat):Int):=bz bD L;have hok:=iV hf hv ho;unfold gf;simp only[hg,W,lI,qm]
   by_cases vd:o.aH<E o.aE
   ·obtain⟨t,htg,AZ⟩:=DK hf hv ho hok.aH.1 vd
    obtain⟨t1,t2,t3,t4,t5⟩:=bX hf.dp uf AZ;rw[htg];simp
    rcases hok.cases with⟨c1,_⟩ |⟨c1,_⟩ |⟨c1,c2,_⟩
    all_goals grind
   ·have Cz:=hok.aH.2
    rw[Yt vd]
    rcases hok.cases with⟨c1,_⟩ |⟨c1,_⟩ |⟨c1,c2,_⟩
    all_goals grind
  ·unfold gf
   simp
 have e2:X (jE w) T (0,(-1))=w9 F u 0 w.ae (-1):=by
  refine tz (A:=Int) (λa i=>(i,a)) F u (λa i o ho=>?_) (λa=>?_) YF (-1)
  ·have bD:=(VT.1 ho).1
   have hg:M w.ae (i:Int)=u o:=by rw[Y];omega
   have hi:R ((i:Int)+1)=((i+1:Nat):Int):=bz bD L;have hok:=iV hf hv ho;unfold jE;simp
   by_cases vd:o.aH<E o.aE
   ·obtain⟨t,htg,AZ⟩:=DK hf hv ho hok.aH.1 vd
    obtain⟨t1,t2,t3,t4,t5⟩:=bX hf.dp uf AZ
    grind
   ·have Cz:=hok.aH.2
    grind
  ·unfold jE
   simp
 unfold iL
 grind
end
theorem Eo{w:aw}(hf:sE w)(hv:eY w=G){o:ay}(ho:w.ae[i]?=u o):∃b,eU w o=u b/\mn w (i:Int)=u b/\(b=O->0<E o.aE):=by
 have hok:=iV hf hv ho;have hl:=hf.aE o (VU ho);obtain⟨c1,c2,c3⟩:=sL hok.aH hl;have hg:M w.ae (i:Int)=u o:=by rw[Y];omega
 unfold eU mn;rw[hg];simp only[W]
 rcases hok.cases with⟨k1,k2⟩ |⟨k1,k2⟩ |⟨k1,k2,k3⟩
 ·have C4:aY o=o.aH:=by unfold aY;omega
  have Cz:=hok.aH;have hh:eA w.aa o=u o.place:=by unfold eA;grind
  rw[Sj,c3,C4]
  by_cases vd:o.aH=E o.aE
  ·simp_all
  ·exact⟨O,by grind,by grind,λ_=>L⟩
 ·have C4:aY o=o.aH+1:=by unfold aY;omega
  have Cz:=hok.aH;obtain⟨t,htg,AZ⟩:=DK hf hv ho hok.aH.1 k2;obtain⟨y,hy,_⟩:=cZ hf.dp AZ;have hh:eA w.aa o=u y.aZ:=by unfold eA;grind
  rw[Sj,hh,c1,c3,C4,if_neg (show ¬(E o.aE:Int)<o.aH+1 by omega),k1]
  simp only[W]
  cases D (o.aH+1=(E o.aE:Int))with
  |true=>grind
  |false=>grind
 simp_all
theorem zu{σ ο:Type}{body:σ->J (σ⊕ο)}{P:ο->Prop}(h:∀s o,body s=u (.inr o)->P o):∀(N:Nat) (s:σ) (o:ο),X body N s=u o->P o
 |0,s,o,he=>by simp[X]at he
 |N+1,s,o,he=>by
  simp only[X]at he
  cases hb:body s with
  |none=>grind
  |some x=>
   rw[hb]at he
   cases x with
   |inl s'=>exact zu h N s' o he
   |inr r=>grind
theorem SA(hn:aX n=u G):(0<=n.change/\n.change<=240)/\(E n.aC)<=20/\(E n.off)<=10:=by
 unfold aX at hn
 have p0:∀(N:Nat) (s:Int) (o:S⊕Bool),X (cq n) N s=u o->o=.inl ()\/o=.inr false:=by
  refine zu λs o h=>?_
  unfold cq at h
  cases hd:D (s<(E n.aC:Int))with
  |false=>grind
  |true=>
   cases hg:M n.aC s with
   |none=>grind
   |some y=>
    cases hl:gz y with
    |none=>simp_all
    |some b=>grind
 have p1:∀(N:Nat) (s:Int) (o:S⊕Bool),X (cr n) N s=u o->o=.inl ()\/o=.inr false:=by
  refine zu λs o h=>?_
  unfold cr at h
  cases hd:D (s<(E n.off:Int))with
  |false=>grind
  |true=>
   cases hg:M n.off s with
   |none=>grind
   |some y=>
    rw[hg,W,cO]at h
    cases hb:D (0<=y)&&D (y<=60)with
    |false=>grind
    |true=>
     cases hs:D (0<s)with
     |false=>simp_all
     |true=>
      rw[hs]at h
      simp at h
      cases hg2:M n.off (R (s-1))with
      |none=>simp_all
      |some z=>
       grind
 cases h0:X (cq n) T 0 with
 |none=>grind
 |some r0=>
 rcases p0 _ _ _ h0 with rfl|rfl
 ·cases h1:X (cr n) T 0 with
  |none=>simp_all
  |some r1=>
  rw[h1]at hn
  rcases p1 _ _ _ h1 with rfl|rfl
  ·simp only[cO]at hn
   grind
  simp_all
 grind
theorem iH(hn:aX n=u G):0<=n.change/\n.change<=240:=(SA hn).1
theorem pZ(hn:aX n=u G):E n.aC<=20:=(SA hn).2.1
def ic(n:ab)(t:au):ByteArray:=((M n.aC t.bq).map (·.ar)).getD ⟨#[]⟩
def gm(n:ab):ByteArray->Int->C au->Prop
 |_,_,[]=>True
 |p,a,t::ts=>fA n t=G/\ic n t=p/\a<=bY n t/\gm n (bB n t) (cH n t+n.change) ts
theorem yB(h:cD n)(hn:aX n=u G)(t:au):eI n t=u (fA n t):=by
 rw[<-(tx h t).1,vk h hn,sY h]
theorem yC(hf:cD n)(hn:aX n=u G){aE:C au}(hl:E aE<=1048576){a b:ByteArray}{t:Int}(h:fN n aE a b t=u G):gm n a t aE:=by
 obtain⟨ch0,ch1⟩:=iH hn;have uP:=dR n;have Ia:=hf.aC
 let F:Nat->ByteArray×Int->au->J ((ByteArray×Int)⊕(ByteArray⊕Bool)):=λ_ p t=>
  u (if fA n t=G/\ic n t=p.1/\p.2<=bY n t then .inl (bB n t,cH n t+n.change)else .inr (.inr O))
 have e1:X (dY n aE b) T (a,t,0)=w9 F (λp=>u (.inl p.1)) 0 aE (a,t):=by
  refine tz (A:=ByteArray×Int) (λp i=>(p.1,p.2,i)) F (λp=>u (.inl p.1)) (λp i x hx=>?_) (λp=>?_) YF (a,t)
  ·have bD:=(VT.1 hx).1
   have hg:M aE (i:Int)=u x:=by rw[Y];omega
   have hi:R ((i:Int)+1)=((i+1:Nat):Int):=bz bD L;unfold dY;simp only[Yi (show(i:Int)<E aE by omega),hg,W,yB hf hn,F]
   cases ht:fA n x with
   |false=>rfl
   |true=>
    obtain⟨y,hy,_⟩:=cZ hf ht;obtain⟨t1,t2,t3,t4,t5⟩:=bX hf hn ht;have f1:ic n x=y.ar:=by unfold ic;simp_all
    have f2:bB n x=y.aZ:=by unfold bB;simp_all
    have hw:R (cH n x+n.change)=cH n x+n.change:=aV L
    grind
  ·unfold dY
   simp
 have key:∀(ts:C au) (i:Nat) (p:ByteArray×Int) (r:ByteArray),w9 F (λp=>u (.inl p.1)) i ts p=u (.inl r)->gm n p.1 p.2 ts:=by
  intro ts
  induction ts with
  |nil=>intro i p r h;trivial
  |cons x ts ih=>
   intro i p r h;simp only[w9,F]at h
   by_cases hc:fA n x=G/\ic n x=p.1/\p.2<=bY n x
   ·rw[if_pos hc]at h
    exact⟨hc.1,hc.2.1,hc.2.2,ih (i+1) (bB n x,cH n x+n.change) r h⟩
   simp_all
 unfold fN at h
 rw[(cV hf).2,hn]at h
 simp only[W,qW (show(aj n).length<=4194304 by omega)]at h
 cases h1:D (bc (aj n) a<0)with
 |true=>simp_all
 |false=>
 cases h2:D (bc (aj n) b<0)with
 |true=>simp_all
 |false=>
 rw[h2]at h
 cases hr:w9 F (λp=>u (.inl p.1)) 0 aE (a,t)with
 |none=>simp_all
 |some r=>
  cases r with
  |inl r=>grind
  |inr v=>
   exfalso;have:∀(ts:C au) (i:Nat) (p:ByteArray×Int) (v:Bool),w9 F (λp=>u (.inl p.1)) i ts p=u (.inr v)->v=false:=by
    intro ts
    induction ts with
    |nil=>intro i p v h;cases h
    |cons x ts ih=>
     intro i p v h;simp only[w9]at h
     grind
   simp_all
theorem FQ{n:ab}:∀{ts:C au} {p:ByteArray} {a:Int} {i:Nat} {t:au},gm n p a ts->ts[i]?=u t->fA n t=G/\∀t',ts[i+1]?=u t'->cH n t+n.change<=bY n t'/\ic n t'=bB n t
 | [],_,_,_,_,_,h=>by grind
 |x::ts,p,a,0,t,hc,h=>by
  obtain rfl:x=t:=by grind
  refine⟨hc.1,λt' h'=>?_⟩
  cases ts with
  |nil=>grind
  |cons y ts=>obtain rfl:y=t':=by grind
              exact⟨hc.2.2.2.2.2.1,hc.2.2.2.2.1⟩
 |x::ts,p,a,i+1,t,hc,h=>by
  have h':ts[i]?=u t:=by grind
  have:=FQ hc.2.2.2 h'
  grind
def pK(n:ab)(o:ay):ByteArray:=if 0<o.aH then((o.aE[(o.aH-1).toNat]?).map (bB n)).getD ⟨#[]⟩else o.ar
structure vL(n:ab)(o:ay)(now:Int):Prop where
 past:∀t,0<o.aH->o.aE[(o.aH-1).toNat]?=u t->cH n t<=now
 cases:(o.state=1/\o.place=pK n o/\¬pK n o=o.aZ/\o.bK=0/\∀t,o.aE[o.aH.toNat]?=u t->now<bY n t)\/
  (o.state=2/\o.place=⟨#[]⟩/\o.bK=0/\∃t,o.aE[o.aH.toNat]?=u t/\bY n t<=now/\now<cH n t)\/
  (o.state=3/\o.place=o.aZ/\pK n o=o.aZ/\o.aH=o.aE.length/\0<o.aH/\∀t,o.aE[(o.aH-1).toNat]?=u t->o.bK=cH n t)
theorem zn{c:Prop}[Decidable c]:K (D c) a b=u G↔(c/\a=u G)\/(¬c/\b=u G):=by
 grind
theorem Aq{c:Prop}[Decidable c]:K (!decide c) a b=u G↔(¬c/\a=u G)\/(c/\b=u G):=by
 grind
theorem xa(hf:cD n)(hn:aX n=u G){o:ay}(hg:0<=o.aH/\o.aH<=E o.aE)(hl:E o.aE<=1048576)(ht:∀t∈o.aE,fA n t=G)(now:Int):cA n o now=u G↔vL n o now:=by
 have Ac:R (o.aH-1)=o.aH-1:=aV L;have nx:(∃t,o.aH<E o.aE/\M o.aE o.aH=u t/\o.aE[o.aH.toNat]?=u t/\bp n t=u (bY n t)/\bo n t=u (cH n t))\/(o.aH=E o.aE/\o.aE[o.aH.toNat]?=Zd):=by
  by_cases h:o.aH<E o.aE
  ·have bD:o.aH.toNat<E o.aE:=L
   obtain⟨t1,t2,_⟩:=bX hf hn (ht _ (Wk bD));exact .inl ⟨o.aE[o.aH.toNat],h,by unfold M;simp_all,VS bD,t1,t2⟩
  grind
 unfold cA;rw[Ac]
 by_cases h0:0<o.aH
 ·have bD:(o.aH-1).toNat<E o.aE:=L
  obtain⟨p,hp,Qi⟩:∃p,M o.aE (o.aH-1)=u p/\o.aE[(o.aH-1).toNat]?=u p:=⟨o.aE[(o.aH-1).toNat],by unfold M;rw[if_pos L];simp,VS bD⟩
  have hpt:=ht p (VU Qi);obtain⟨y,hy,_⟩:=cZ hf hpt;obtain⟨t1,t2,t3,t4,t5⟩:=bX hf hn hpt;have hh:pK n o=y.aZ:=by unfold pK;rw[if_pos h0,Qi];simp[bB,hy]
  rcases nx with⟨t,n1,n2,n3,n4,n5⟩ |⟨n1,n3⟩
  ·have ng:¬o.aH=E o.aE:=L
   simp only[hp,hy,t2,n2,n4,W,zn,Aq];constructor
   ·intro h
    refine⟨λq _ hq=>?_,?_⟩
    ·simp_all
    ·simp
     by_cases s1:o.state=1<;>by_cases s2:o.state=2<;>by_cases s3:o.state=3<;>simp_all
   ·rintro⟨k1,k2⟩
    have k1':=k1 p h0 Qi;simp at k2
    have:¬now<cH n p:=L
    rcases k2 with k|k|k<;>simp_all
  ·simp only[hp,hy,t2,W,zn,Aq]
   constructor
   ·intro h
    refine⟨λq _ hq=>?_,?_⟩
    ·simp_all
    ·rw[hh];simp
     by_cases s1:o.state=1<;>by_cases s2:o.state=2<;>by_cases s3:o.state=3<;>simp_all
   ·rintro⟨k1,k2⟩
    have k1':=k1 p h0 Qi;rw[hh]at k2;simp at k2
    have:¬now<cH n p:=L
    rcases k2 with k|k|k<;>simp_all
 ·have hh:pK n o=o.ar:=by unfold pK;grind
  rcases nx with⟨t,n1,n2,n3,n4,n5⟩ |⟨n1,n3⟩
  ·have ng:¬o.aH=E o.aE:=L
   simp only[zn,Option.some.injEq];constructor
   ·intro h
    refine⟨λq hq=>absurd hq h0,?_⟩
    grind
   ·rintro⟨k1,k2⟩
    simp at k2
    rcases k2 with k|k|k<;>simp_all
  ·simp only[zn,Aq]
   constructor
   ·intro h
    refine⟨λq hq=>absurd hq h0,?_⟩
    simp_all
   ·rintro⟨k1,k2⟩
    simp_all
def fa(n:ab)(o:ay):J Int:=(o.aE[o.aH.toNat]?).map λt=>if o.state=2 then cH n t else bY n t
def Es(n:ab)(aQ:Int)(o:ay)(t:au):ay:=
 if bB n t=o.aZ then { o with aH:=o.aH+1,state:=3,place:=bB n t,bK:=aQ}else { o with aH:=o.aH+1,state:=1,place:=bB n t}
def cK(n:ab)(aQ:Int)(o:ay):ay:=match o.aE[o.aH.toNat]? with
 |some t=>if o.state=2/\cH n t=aQ then Es n aQ o t else o
 |none=>o
def oZ(n:ab)(aQ:Int)(o:ay):ay:=match o.aE[o.aH.toNat]? with
 |some t=>if o.state=1/\bY n t=aQ then { o with state:=2,place:=⟨#[]⟩}else o
 |none=>o
structure yg(n:ab)(o:ay):Prop where
 aH:0<=o.aH/\o.aH<=o.aE.length
 aN:∀t∈o.aE,0<=bY n t/\bY n t<cH n t/\cH n t<=100000
 next:∀(i:Nat) t t',o.aE[i]?=u t->o.aE[i+1]?=u t'->cH n t<=bY n t'
 last:∀(i:Nat) t,o.aE[i]?=u t->bB n t=o.aZ->i+1=o.aE.length
structure sI(o o':ay):Prop where
 ar:o'.ar=o.ar
 aZ:o'.aZ=o.aZ
 ax:o'.ax=o.ax
 ah:o'.ah=o.ah
 aQ:o'.aQ=o.aQ
 fc:o'.fc=o.fc
 aE:o'.aE=o.aE
theorem sI.refl(o:ay):sI o o:=⟨rfl,rfl,rfl,rfl,rfl,rfl,rfl⟩
theorem sI.trans{a b c:ay}(h:sI a b)(k:sI b c):sI a c:=⟨k.1.trans h.1,k.2.trans h.2,k.3.trans h.3,k.4.trans h.4,k.5.trans h.5,k.6.trans h.6,k.7.trans h.7⟩
theorem yk(n:ab)(aQ:Int)(o:ay):sI o (cK n aQ o):=by
 unfold cK Es
 split
 ·split
  ·split<;>exact⟨rfl,rfl,rfl,rfl,rfl,rfl,rfl⟩
  ·exact .refl o
 ·exact .refl o
theorem UJ(n:ab)(aQ:Int)(o:ay):sI o (oZ n aQ o):=by
 unfold oZ
 split
 ·split
  ·exact⟨rfl,rfl,rfl,rfl,rfl,rfl,rfl⟩
  ·exact .refl o
 ·exact .refl o
def o7(n:ab)(aQ:Int)(o:ay):ay:=oZ n aQ (cK n aQ o)
theorem xb(n:ab)(aQ:Int)(o:ay):sI o (o7 n aQ o):=(yk n aQ o).trans (UJ n aQ _)
theorem yg.same{o o':ay}(h:yg n o)(k:sI o o')(hg:0<=o'.aH/\o'.aH<=E o.aE):yg n o':=
 ⟨by rw[k.aE];omega,by rw[k.aE];exact h.aN,by rw[k.aE];exact h.next,by rw[k.aE,k.aZ];exact h.last⟩
def ke(o:ay):Nat:=2*(E o.aE-o.aH.toNat)-(if o.state=2 then 1 else 0)
structure JV(n:ab)(o:ay)(aQ:Int):Prop where
 ok:vL n o aQ
 aH:0<=o.aH/\o.aH<=o.aE.length
 next:∀e,fa n o=u e->aQ<e
theorem tD{o:ay}{aQ:Int}(h:vL n o aQ)(hg:0<=o.aH/\o.aH<=E o.aE):JV n o aQ:=by
 refine⟨h,hg,λe he=>?_⟩
 unfold fa at he
 rcases h.cases with⟨c,_,_,_,k⟩ |⟨c,_,_,t,k1,_,k3⟩ |⟨c,_,_,k,_,_⟩
 all_goals grind
theorem Sx{o:ay}{aQ:Int}(hw:yg n o)(hp:∀t,0<o.aH->o.aE[(o.aH-1).toNat]?=u t->cH n t<=aQ)
 (hs:o.state=1) (h1:o.place=pK n o) (h2:¬pK n o=o.aZ) (h3:o.bK=0) (h4:∀t,o.aE[o.aH.toNat]?=u t->aQ<=bY n t):
 JV n (oZ n aQ o) aQ/\ke (oZ n aQ o)<=ke o/\((∃t,o.aE[o.aH.toNat]?=u t/\bY n t=aQ)->ke (oZ n aQ o)<ke o):=by
 unfold oZ
 cases ht:o.aE[o.aH.toNat]? with
 |none=>
  refine⟨tD ⟨hp,.inl ⟨hs,h1,h2,h3,λt h=>?_⟩⟩ hw.aH,VW _,λ⟨t,h,_⟩=>?_⟩
  all_goals grind
 |some t=>
  have bD:=(VT.1 ht).1;obtain⟨a1,a2,a3⟩:=hw.aN t (VU ht)
  by_cases tV:bY n t=aQ
  ·simp only[hs,tV]
   refine⟨tD ⟨λq hq=>?_,.inr (.inl ⟨rfl,rfl,h3,t,ht,L,L⟩)⟩ hw.aH,?_,λ_=>?_⟩
   ·grind
   ·unfold ke;simp_all
   ·unfold ke;simp only[hs];simp;omega
  ·have hng:¬(o.state=1/\bY n t=aQ):=λh=>tV h.2
   simp only[if_neg hng];refine⟨tD ⟨hp,.inl ⟨hs,h1,h2,h3,λq hq=>?_⟩⟩ hw.aH,VW _,λ⟨q,hq,hq2⟩=>?_⟩
   all_goals grind
theorem AB{o:ay}{aQ:Int}(hs:¬o.state=1):oZ n aQ o=o:=by
 unfold oZ
 grind
theorem Td{o:ay}{now aQ:Int}(hw:yg n o)(h:vL n o now)(hn:now<=aQ)(he:∀e,fa n o=u e->aQ<=e):
 JV n (o7 n aQ o) aQ/\yg n (o7 n aQ o)/\ke (o7 n aQ o)<=ke o/\(fa n o=u aQ->ke (o7 n aQ o)<ke o):=by
 have hg:=hw.aH;have main:JV n (o7 n aQ o) aQ/\ke (o7 n aQ o)<=ke o/\(fa n o=u aQ->ke (o7 n aQ o)<ke o):=by
  unfold o7
  rcases h.cases with⟨c1,c2,c3,c4,c5⟩ |⟨c1,c2,c3,t,c4,c5,c6⟩ |⟨c1,c2,c3,c4,c5,c6⟩
  ·have e1:cK n aQ o=o:=by
    unfold cK
    grind
   rw[e1];have h4:∀t,o.aE[o.aH.toNat]?=u t->aQ<=bY n t:=λt ht=>he _ Za
   obtain⟨a,b,c⟩:=Sx hw (λt h1 h2=>by have:=h.past t h1 h2;omega) c1 c2 c3 c4 h4
   refine⟨a,b,λPx=>c ?_⟩
   unfold fa at Px
   grind
  ·have he':=he (cH n t) Za
   by_cases hx:cH n t=aQ
   ·have e1:cK n aQ o=Es n aQ o t:=by unfold cK;grind
    rw[e1];have hgn:(o.aH+1-1).toNat=o.aH.toNat:=L;have hgs:(o.aH+1).toNat=o.aH.toNat+1:=L;unfold Es
    by_cases hd:bB n t=o.aZ
    ·have hlen:=hw.last _ t c4 hd
     rw[if_pos hd,AB YE];have hh:pK n { o with aH:=o.aH+1,state:=3,place:=bB n t,bK:=aQ}=bB n t:=by
      unfold pK;grind
     refine⟨tD ⟨λq _ hq=>?_,.inr (.inr ⟨rfl,hd,hh.trans hd,by grind,by grind,λq hq=>?_⟩)⟩ YD,?_,λ_=>?_⟩
     ·grind
     ·grind
     ·unfold ke;grind
     ·unfold ke;grind
    ·rw[if_neg hd]
     have hh:pK n { o with aH:=o.aH+1,state:=1,place:=bB n t}=bB n t:=by
      unfold pK;grind
     have hw':yg n { o with aH:=o.aH+1,state:=1,place:=bB n t}:=hw.same ⟨rfl,rfl,rfl,rfl,rfl,rfl,rfl⟩ YD
     obtain⟨a,b,c⟩:=Sx (aQ:=aQ) hw' (λq _ hq=>by grind) rfl hh.symm YD c3 (λq hq=>by
      simp only[hgs]at hq
      have:=hw.next _ t q c4 hq;omega)
     have hb:ke { o with aH:=o.aH+1,state:=1,place:=bB n t} < ke o:=by unfold ke;grind
     grind
   ·have e1:cK n aQ o=o:=by unfold cK;grind
    rw[e1,AB L];refine⟨tD ⟨λq h1 h2=>by have:=h.past q h1 h2;omega,.inr (.inl ⟨c1,c2,c3,t,c4,L,L⟩)⟩ hg,VW _,λPx=>?_⟩
    unfold fa at Px
    grind
  ·have e1:cK n aQ o=o:=by unfold cK;grind
   rw[e1,AB L];refine⟨tD ⟨λq h1 h2=>by have:=h.past q h1 h2;omega,.inr (.inr ⟨c1,c2,c3,c4,c5,c6⟩)⟩ hg,VW _,λPx=>?_⟩
   unfold fa at Px
   grind
 have hs:=xb n aQ o;exact⟨main.1,hw.same hs (by have:=main.1.aH;rw[hs.aE]at this;omega),main.2⟩
theorem Zab{o:ay}(hw:yg n o){now:Int}(h:vL n o now)(h0:ke o=0):fa n o=none:=by
 unfold fa
 rcases h.cases with⟨c,_⟩ |⟨c,_,_,t,k1,_⟩ |⟨c,_,_,k,_⟩
 ·unfold ke at h0;grind
 ·unfold ke at h0;grind
 grind
theorem vC{w:aw}(hf:sE w)(hv:eY w=G){s:aI}(hs:s∈w.aL):cz w.aa s=u G/\s.aQ<=w.now:=by
 unfold eY at hv
 simp at hv
 obtain⟨j,hj,rfl⟩:=V3 hs;have:=cX.1 hv.1.1.2 j _ (VS hj);unfold Ah at this
 obtain⟨b,hb⟩:=vS hf.dp w.aL[j]
 grind
def mu(skip:C Int)(p:C aI×Int)(s:aI):C aI×Int:=
 let m:=if p.2<1000000000 then p.2+1 else p.2
 (if(skip.any λy=>D (y=m))=O/\(E p.1)<200 then p.1++[s]else p.1,m)
def gX(n:ab)(aQ:Int)(i:Nat)(o:ay):C aI:=match o.aE[o.aH.toNat]? with
 |some t=>if o.state=2/\cH n t=aQ then⟨((i+1:Nat):Int),aQ,2,⟨#[]⟩,t⟩::(if bB n t=o.aZ then [⟨((i+1:Nat):Int),aQ,4,bB n t,⟨0,0⟩⟩]else [])else []
 |none=>[]
def pq(n:ab)(aQ:Int)(i:Nat)(o:ay):C aI:=match o.aE[o.aH.toNat]? with
 |some t=>if o.state=1/\bY n t=aQ then [⟨((i+1:Nat):Int),aQ,3,⟨#[]⟩,t⟩]else []
 |none=>[]
def ot(f:Nat->ay->C aI):Nat->C ay->C aI
 |_,[]=>[]
 |i,o::os=>f i o++ot f (i+1) os
theorem sC{f:Nat->ay->C aI}{s:aI}:∀{os:C ay} {i:Nat},s∈ot f i os->∃j o,os[j]?=u o/\s∈f (i+j) o
 | [],_,h=>by simp[ot]at h
 |o::os,i,h=>by
  simp only[ot,We]at h
  rcases h with h|h
  ·exact⟨0,o,rfl,h⟩
  ·obtain⟨j,o',h1,h2⟩:=sC h
   exact⟨j+1,o',by grind,by grind⟩
def yS(w:aw)(aQ:Int):C aI:=ot (gX w.aa aQ) 0 w.ae++ot (pq w.aa aQ) 0 (w.ae.map (cK w.aa aQ))
def gw(w:aw)(aQ:Int):aw:=
 { w with ae:=w.ae.map (o7 w.aa aQ),now:=aQ,aL:=((yS w aQ).foldl (mu w.skip) (w.aL,w.br)).1,br:=((yS w aQ).foldl (mu w.skip) (w.aL,w.br)).2}
structure oc(w:aw):Prop where
 fit:sE w
 ok:eY w=G
theorem oc.dp{w:aw}(h:oc w):aX w.aa=u true:=JN h.fit h.ok
theorem oc.aE{w:aw}(h:oc w){i:Nat}{o:ay}(ho:w.ae[i]?=u o):yg w.aa o:=by
 have hok:=iV h.fit h.ok ho;have hl:=h.fit.aE o (VU ho);have Av:=yC h.fit.dp h.dp hl hok.Zb2;refine⟨hok.aH,λt ht=>?_,λi t t' h1 h2=>?_,λi t h1 h2=>?_⟩
 ·obtain⟨_,_,a,b,c⟩:=bX h.fit.dp h.dp (hok.aN t ht)
  omega
 ·have:=((FQ Av h1).2 t' h2).1
  have:=(iH h.dp).1;omega
 ·have hw:=cX.1 hok.aE i t h1
  unfold xd at hw
  grind
theorem oc.state{w:aw}(h:oc w){o:ay}(ho:w.ae[i]?=u o):vL w.aa o w.now:=by
 have hok:=iV h.fit h.ok ho;exact(xa h.fit.dp h.dp hok.aH (h.fit.aE o (VU ho)) hok.aN _).1 hok.st
theorem oc.parts{w:aw}(h:oc w):(0<=w.now/\w.now<=100000)/\(E w.ae)<=30/\(E w.ak)<=20/\(E w.aL)<=200/\(E w.skip)<=50/\(E w.aL<=w.br/\w.br<=1000000000)/\(E w.av)<=120:=by
 have hb:=dJ (ze h.ok);have hv:=h.ok;unfold eY at hv
 grind
structure EL(n:ab)(aQ:Int)(p:C aI×Int):Prop where
 ZeF:∀s∈p.1,cz n s=u G/\s.aQ<=aQ
 len:p.1.length<=200
 br:p.1.length<=p.2/\p.2<=1000000000
theorem I2{aQ:Int}{skip:C Int}{p:C aI×Int}{s:aI}(h:EL n aQ p)(hs:cz n s=u G/\s.aQ<=aQ):EL n aQ (mu skip p s):=by
 obtain⟨h1,h2,h3⟩:=h;unfold mu
 by_cases hm:p.2<1000000000
 ·simp only[if_pos hm]
  split
  ·exact⟨λx hx=>by grind,by grind,by grind⟩
  ·exact⟨h1,h2,by grind⟩
 ·simp only[if_neg hm]
  split
  ·exact⟨λx hx=>by grind,by grind,by grind⟩
  ·exact⟨h1,h2,L⟩
theorem F6{n:ab}{aQ:Int}{skip:C Int}:∀(l:C aI) (p:C aI×Int),EL n aQ p->(∀s∈l,cz n s=u G/\s.aQ<=aQ)->EL n aQ (l.foldl (mu skip) p)
 | [],p,h,_=>h
 |s::l,p,h,hl=>F6 l _ (I2 h (hl s List.mem_cons_self)) λx hx=>hl x (List.mem_cons_of_mem _ hx)
theorem J0{aQ:Int}{o:ay}:aY o<=aY (cK n aQ o):=by
 unfold cK
 split
 ·split
  ·rename_i t ht hc
   unfold Es
   split<;>(unfold aY;simp[hc.1])
  omega
 omega
theorem QC{aQ:Int}{o:ay}:aY o<=aY (oZ n aQ o):=by
 unfold oZ
 split
 ·split
  ·unfold aY
   grind
  omega
 omega
theorem Ht{aQ:Int}{o:ay}:aY o<=aY (o7 n aQ o):=Int.le_trans J0 QC
theorem Zbe{l:C α}{p:α->Bool}{a b:Nat}(h:a<=b)(hk:(l.drop a).any p=O):(l.drop b).any p=false:=by
 obtain⟨c,rfl⟩:∃c,b=a+c:=⟨b-a,L⟩;rw[<-List.drop_drop]
 grind
section
variable {w:aw} (h:oc w) {aQ:Int} (hn:w.now<=aQ) (hm:aQ<=100000) (he:∀o∈w.ae,∀e,fa w.aa o=u e->aQ<=e)
include h hn hm he
theorem AT{th:Int}{p:ByteArray}(h1:1<=th/\th<=9999)
 (hk:(k=2/\p=⟨#[]⟩/\fA w.aa t=G/\cH w.aa t<=aQ)\/(k=3/\p=⟨#[]⟩/\fA w.aa t=G/\aQ<=bY w.aa t)\/(k=4/\¬bc (aj w.aa) p<0/\t=⟨0,0⟩)):
 cz w.aa ⟨th,aQ,k,p,t⟩=u true:=by
 have yx:=h.parts.1;have uP:=dR w.aa;have Ia:=h.fit.dp.aC;unfold cz;rw[h.dp];simp only[W,cO,Yi (show 0<=aQ by omega),(cV h.fit.dp).2,qW (show(aj w.aa).length<=4194304 by omega),yB h.fit.dp h.dp]
 rcases hk with⟨rfl,rfl,h2,h3⟩ |⟨rfl,rfl,h2,h3⟩ |⟨rfl,h2,rfl⟩
 ·obtain⟨a1,a2,_⟩:=bX h.fit.dp h.dp h2
  grind
 ·obtain⟨a1,a2,_⟩:=bX h.fit.dp h.dp h2
  grind
 grind
theorem VE:∀s∈yS w aQ,cz w.aa s=u G/\s.aQ<=aQ:=by
 have hlen:=h.parts.2.1;intro s hs
 rcases We.1 hs with hs|hs
 ·obtain⟨j,o,ho,hj⟩:=sC hs
  have bD:=(VT.1 ho).1;have hok:=iV h.fit h.ok ho;rw[Wa]at hj
  unfold gX at hj
  split at hj
  ·rename_i t ht
   have AZ:=hok.aN t (VU ht)
   split at hj
   ·rcases List.mem_cons.1 hj with rfl|hj
    ·exact⟨AT h hn hm he L (.inl ⟨rfl,rfl,AZ,L⟩),Int.le_refl _⟩
    ·split at hj
     ·rename_i hd
      obtain rfl:=Wh.1 hj;have zL:¬bc (aj w.aa) o.aZ<0:=by
       have:=o9 h.ok ho;unfold kv at this
       simp_all
      exact⟨AT h hn hm he L (.inr (.inr ⟨rfl,by simp_all,rfl⟩)),Int.le_refl _⟩
     simp_all
   grind
  grind
 ·obtain⟨j,o,ho,hj⟩:=sC hs
  have bD:=(VT.1 ho).1;rw[Wi]at bD
  rw[Wp]at ho
  obtain⟨o0,Us,rfl⟩:=Wc.1 ho;have hok:=iV h.fit h.ok Us;rw[Wa]at hj
  unfold pq at hj
  split at hj
  ·rename_i t ht
   rw[(yk w.aa aQ o0).aE]at ht
   have AZ:=hok.aN t (VU ht)
   split at hj
   ·obtain rfl:=Wh.1 hj
    exact⟨AT h hn hm he L (.inr (.inl ⟨rfl,rfl,AZ,L⟩)),Int.le_refl _⟩
   grind
  grind
theorem Kg{o:ay}(ho:w.ae[i]?=u o)(s:C aI)(m:Int):kv { w with ae:=w.ae.map (o7 w.aa aQ),now:=aQ,aL:=s,br:=m} i (o7 w.aa aQ o)=true:=by
 have hv:=o9 h.ok ho;have hok:=iV h.fit h.ok ho;have hl:=h.fit.aE o (VU ho);have hs:=xb w.aa aQ o;obtain⟨k1,k2,_⟩:=Td (h.aE ho) (h.state ho) hn (he o (VU ho));have tV:=(xa h.fit.dp h.dp k2.aH (by rw[hs.aE];omega) (by rw[hs.aE];exact hok.aN) aQ).2 k1.ok
 have EX:=Ht (n:=w.aa) (aQ:=aQ) (o:=o);have hgn:=k2.aH;unfold kv at hv⊢
 simp only[V7,Ww,Yy]at hv⊢
 obtain⟨⟨⟨⟨⟨⟨⟨⟨⟨⟨⟨h1,h2⟩,h3⟩,h4⟩,h5⟩,h6⟩,h7⟩,h8⟩,h9⟩,EW⟩,II⟩,h12⟩:=hv;have C5:Et w.aa (o7 w.aa aQ o)=Et w.aa o:=by unfold Et;rw[hs.aE,hs.ar]
 refine⟨⟨⟨⟨⟨⟨⟨⟨⟨⟨⟨?_,?_⟩,?_⟩,?_⟩,?_⟩,?_⟩,?_⟩,?_⟩,?_⟩,?_⟩,?_⟩,?_⟩
 ·rw[hs.ar];omega
 ·rw[hs.aZ];omega
 ·rw[hs.ar,hs.aZ];omega
 ·rw[hs.ax];omega
 ·rw[hs.ah];omega
 ·rw[hs.aQ];omega
 ·rw[hs.fc];omega
 ·omega
 ·rw[hs.aE]
  refine(PQ λj x hx=>?_).trans h9
  unfold xd;simp only[hs.ah,hs.aZ,hs.aE]
 ·simp only[C5,hs.aE,hs.ar,hs.aQ];omega
 ·grind
 ·rw[hs.aE]
  exact Zbe L h12
theorem IJ:oc (gw w aQ):=by
 have hp:=h.parts;have hv:=h.ok;have CC:=F6 (skip:=w.skip) (yS w aQ) (w.aL,w.br) (n:=w.aa) (aQ:=aQ) ⟨λs hs=>?_,hp.2.2.2.1,hp.2.2.2.2.2.1⟩ (VE h hn hm he)
 ·refine⟨⟨h.fit.dp,by simp only[gw,Wi];omega,h.fit.av,h.fit.ak,by have:=CC.len;simp only[gw];omega,h.fit.skip,λo ho=>?_⟩,?_⟩
  ·simp only[gw,List.mem_map]at ho
   obtain⟨o0,Us,rfl⟩:=ho;rw[(xb w.aa aQ o0).aE];exact h.fit.aE o0 Us
  ·unfold eY at hv⊢
   simp at hv⊢
   obtain⟨⟨⟨⟨⟨⟨⟨⟨⟨⟨h1,h2⟩,h3⟩,h4⟩,h5⟩,h6⟩,h7⟩,h8⟩,h9⟩,EW⟩,II⟩:=hv;have hl:=CC.len;have hmd:=CC.br;refine⟨⟨⟨⟨⟨⟨⟨⟨⟨⟨h1,?_⟩,?_⟩,h4⟩,?_⟩,h6⟩,?_⟩,h8⟩,?_⟩,?_⟩,?_⟩
   ·simp only[gw];omega
   ·simp only[gw,Wi];omega
   ·simp only[gw];omega
   ·simp only[gw];omega
   ·refine cX.2 λj s hj=>?_
    obtain⟨a,b⟩:=CC.ZeF s (VU hj);show((cz w.aa s).getD O&&!decide (aQ<s.aQ))=G
    grind
   ·refine cX.2 λj o hj=>?_
    simp only[gw,Wp]at hj
    obtain⟨o0,Us,rfl⟩:=Wc.1 hj;rw[Wa];exact Kg h hn hm he Us _ _
   ·unfold xP at II⊢
    simp only[gw,List.foldl_map];rw[<-II]
    congr 1
    funext a o
    rw[(xb w.aa aQ o).aE]
 ·have:=vC h.fit h.ok hs
  grind
end
def iE(l:C Z)(s0:Int):J (Int⊕(S⊕Bool)):=
 K (D (s0<(E l:Int)))
 ((jn 6 5 (
 V (M l s0) λy1=>
 (jn 7 9 (
 V (qg y1) λy2=>
 K (!y2)
 (u (.inr O))
 (K (D (0<s0))
 (V (M l (R (s0-1))) λy3=>
 K (D (y1.aQ<y3.aQ))
 (u (.inr O))
 (u (.inl ())))
 (u (.inl ()))):J (S⊕Bool)) (λz4=>(.sl (l.map bV)::.un::.un::vi s0::.be 0 0 0::(U 76 []))) (λz4=>[u ⟨.of 82,4,[[vi y1.order,vi y1.kind,vi y1.bE,vi y1.aQ]]⟩])).bind (bj (λz4=>
 V (cf (iq 0 s0 (E l))) λ_=>
 V (fO (da l 0 s0) y1.order 1) λy5=>
 K (D (y1.kind=1))
 (K (D (0<y5))
 (u (.inr O))
 (u (.inl ())))
 (K (D (y1.kind=2))
 (V (fO (da l 0 s0) y1.order 2) λy6=>
 K (D (y5<(R (y6+y1.bE))))
 (u (.inr O))
 (u (.inl ())))
 (V (mZ (da l 0 s0) y1.order 3) λy7=>
 K (D (0<y7))
 (u (.inr O))
 (K (D (y5<y1.bE))
 (u (.inr O))
 (V (fO (da l 0 s0) y1.order 2) λy8=>
 K (!decide (y8=y5))
 (u (.inr O))
 (u (.inl ()))))))) (λr=>u (.inr r))):J (S⊕Bool)) (λz9=>(.sl (l.map bV)::.un::.un::vi s0::(U 77 []))) (λz9=>[])).bind (bj (λz9=>
 u (.inl (R (s0+1)))) (λr=>u (.inr (.inr r)))))
 (u (.inr (.inl ())))
instance (l:C Z):bm (iE l):=⟨λs0=>(.sl (l.map bV)::.un::.un::vi s0::(U 77 [])),λs0=>[]⟩
def fk(l:C Z):J Bool:=
 K (D (200<(E l:Int)))
 (u O)
 ((X (iE l) T 0).bind (bj (λo0=>
 u G) (λr=>u r)))
theorem Dp(l:C Z){r:Bool}(H:fk l=u r):eh prog 141 [.sl (l.map bV)] [] (vb r) []:=by
 replace H:=H0 H;unfold fk at H
 refine je func141 rfl ntmps141 results141 λQ hQ Kf=>?_
 exact LA
instance (l:C Z):CT prog (fk l):=⟨141,[.sl (l.map bV)],[],λr=>vb r,λr=>[],Dp l⟩
def mo(l:C Z)(x:Z):J ((C Z)×Int):=
 V (cx l) λy1=>
 V (cf (bn (E (y1:C Z)+E ([x]:C Z)) 32)) λ_=>
 K (D (200<=(E l:Int)))
 (V (cx l) λy2=>
 u (y2,5))
 (V (fk ((y1:C Z)++[x])) λy3=>
 K (!y3)
 (V (cx l) λy4=>
 u (y4,1))
 (u (((y1:C Z)++[x]),0)))
instance (l:C Z)(x:Z):CT prog (mo l x):=⟨259,[.sl (l.map bV),.ag (bV x)],[],λr=>.tu [.ms 0,vi r.2],λr=>[u ⟨.of 82,4,r.1.map bV⟩],cw (mo.eq_1 ..) func259 ntmps259 results259⟩
def mf(l:C Z)(order:Int)(bE:Int)(cQ:Int):J ((C Z)×Int):=
 V (fk l) λy1=>
 K (!y1)
 (V (cx l) λy2=>
 u (y2,1))
 (V (qg (⟨order,1,bE,cQ⟩:Z)) λy3=>
 K (!y3)
 (V (cx l) λy4=>
 u (y4,1))
 (V (fO l order 1) λy5=>
 K (D (0<y5))
 (V (cx l) λy6=>
 u (y6,2))
 (V (mo l (⟨order,1,bE,cQ⟩:Z)) λy7=>
 u (y7.1,y7.2))))
instance (l:C Z)(order:Int)(bE:Int)(cQ:Int):CT prog (mf l order bE cQ):=⟨209,[.sl (l.map bV),vi order,vi bE,vi cQ],[],λr=>.tu [.ms 0,vi r.2],λr=>[u ⟨.of 82,4,r.1.map bV⟩],cw (mf.eq_1 ..) func209 ntmps209 results209⟩
def eW(l:C Z)(order:Int):J Int:=
 V (fk l) λy1=>
 K (!y1)
 (u 0)
 (V (fO l order 1) λy2=>
 V (fO l order 2) λy3=>
 u (R (y2-y3)))
instance (l:C Z)(order:Int):CT prog (eW l order):=⟨84,[.sl (l.map bV),vi order],[],λr=>vi r,λr=>[],cw (eW.eq_1 ..) func84 ntmps84 results84⟩
def pX(l:C Z)(order:Int)(bE:Int)(cQ:Int):J ((C Z)×Int):=
 V (fk l) λy1=>
 K (!y1)
 (V (cx l) λy2=>
 u (y2,1))
 (V (qg (⟨order,2,bE,cQ⟩:Z)) λy3=>
 K (!y3)
 (V (cx l) λy4=>
 u (y4,1))
 (V (fO l order 1) λy5=>
 K (D (y5=0))
 (V (cx l) λy6=>
 u (y6,3))
 (V (eW l order) λy7=>
 K (D (y7<bE))
 (V (cx l) λy8=>
 u (y8,4))
 (V (mo l (⟨order,2,bE,cQ⟩:Z)) λy9=>
 u (y9.1,y9.2)))))
instance (l:C Z)(order:Int)(bE:Int)(cQ:Int):CT prog (pX l order bE cQ):=⟨210,[.sl (l.map bV),vi order,vi bE,vi cQ],[],λr=>.tu [.ms 0,vi r.2],λr=>[u ⟨.of 82,4,r.1.map bV⟩],cw (pX.eq_1 ..) func210 ntmps210 results210⟩
