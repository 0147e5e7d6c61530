/- A part of the proof of the statement in the last file of this claim: texts on the language of the program and on its functions. No condition. -/
import Derived.Test.YtdilaemengjipaaGreatDoorCJ16
import Derived.Test.YtdilaemengjipaaGreatDoorCJ29
import Derived.Test.YtdilaemengjipaaGreatDoorCJ23
import Derived.Test.YtdilaemengjipaaGreatDoorCJ18
import Derived.Test.YtdilaemengjipaaGreatDoorCJ19
import Derived.Test.YtdilaemengjipaaGreatDoorCJ28
import Derived.Test.YtdilaemengjipaaGreatDoorCJ1
set_option linter.unusedVariables false
set_option linter.unusedSimpArgs false
set_option linter.unusedSectionVars false
open Option renaming some->YW,none->YX
open Bool renaming true->YY,false->YZ
open Decidable renaming decide->Y0
namespace Go.Proofs.YtdilaemengjipaaGreatDoor
open List renaming findIdx?_eq_some_iff_getElem->XK,getElem_of_mem->Wf,mem_of_getElem?->VW,getElem_mem->Wp,getElem?_eq_getElem->VV,length_nil->V1,replicate->V8,length_cons->V0,range->Ws,map_append->X3,map_cons->XI
open Sum renaming inl->XO
open Option renaming bind_some->VT,map_some->WG
open Bool renaming not_true->V3,not_false->WD
open Option.some renaming inj->VX
open Nat renaming le_refl->VY
set_option maxRecDepth 10000
open Go.RowKit
variable {ar p q0:ByteArray}{before ia:List Int}{i j x:Int}{k:Nat}{y:bP}{α:Type}{v:α}
theorem nk(l:List ByteArray)(p:ByteArray):-1<=bf l p/\bf l p<l.length:=by
 unfold bf
 cases h:l.findIdx? λy=>Y0 (y=p)with
 |none=>grind
 |some k=>
  have:=(XK.1 h).1
  simp_all
theorem nn{l:List ByteArray}(h:p∈l):0<=bf l p:=by
 unfold bf
 cases h':l.findIdx? λy=>Y0 (y=p)with
 |none=>
  grind
 |some k=>simp
theorem qD{n:ah}{l:bP}(h:l∈n.aA):l.ar∈ak n/\l.aY∈ak n:=by
 obtain⟨i,hi,rfl⟩:=Wf h;obtain⟨a,b⟩:=E5 hi;unfold ak;exact⟨sn.2 (.inl (VW a)),sn.2 (.inl (VW b))⟩
theorem mj{xs:List α}(h:0<=i/\i<xs.length):∃x,aB xs i=YW x/\x∈xs:=by
 have bX:i.toNat<xs.length:=Yn;exact⟨xs[i.toNat],by unfold aB;simp_all,Wp bX⟩
section
variable {n:ah} (hf:cU n)
include hf
theorem P3:(ak n).length<=2097152:=by have:=fv n;have:=hf.aA;omega
theorem ph(p:ByteArray):cb (ak n) p=YW (bf (ak n) p):=o4 (by have:=P3 hf;omega) p
theorem MG(bH day:Int):∃b,cJ n bH day=YW b:=(rC hf bH day).2
theorem C2{l:List aq}(hl:l.length<=1048576){ae:List av}(hc:ae.length<=1048576){bH:Int}(hy:aB n.aA bH=YW y)(aQ ab:Int):aV (cO n l ae bH aQ ab) λr=>True:=by
 unfold cO;have IZ:aV (aE (cQ n l ae bH aQ ab) NN 0) λr=>True:=by
  refine aV.loop (λk s=>∃i:Nat,s=(i:Int)/\i+k=61) (λk s hs=>?_) NN 61 0 ⟨0,rfl,rfl⟩ Ys
  obtain⟨i,rfl,hk⟩:=hs;unfold cQ;refine aV.cond (λhd=>?_) λhd=>aV.ret trivial
  have hi:=Yh hd;have hw:aM ((i:Int)+1)=((i+1:Nat):Int):=by rw[aR Yn];omega
  have go:∀{σ:Type},uT (λk (s:Int)=>∃i:Nat,s=(i:Int)/\i+k=61) (λr:Unit⊕Int=>True) k (XO (aM ((i:Int)+1))):=⟨k-1,Yn,i+1,hw,Yn⟩
  obtain⟨b,hb⟩:=MG hf bH (i:Int);obtain⟨v,hv⟩:=qm (n:=n) (t:=⟨bH,(i:Int)⟩) hy;obtain⟨q,hq⟩:=tf hl (⟨bH,(i:Int)⟩:av);rw[hb,VT];refine aV.cond (λ_=>?_) λ_=>aV.ret (go (σ:=Unit))
  rw[hv,VT];refine aV.cond (λ_=>?_) λ_=>aV.ret (go (σ:=Unit))
  rw[kh,jE hc,VT];refine aV.cond (λ_=>?_) λ_=>aV.ret (go (σ:=Unit))
  rw[hy,VT,hq,VT];exact aV.cond (λ_=>aV.ret trivial) λ_=>aV.ret (go (σ:=Unit))
 refine aV.bind IZ λr _=>?_
 cases r with
 |inl u=>exact aV.ret trivial
 |inr v=>exact aV.ret trivial
theorem LP{bH:Int}(hy:aB n.aA bH=YW y)(aQ:Int):aV (km n bH aQ) λr=>True:=by
 unfold km;have IZ:aV (aE (ks n bH aQ) NN 0) λr=>True:=by
  refine aV.loop (λk s=>∃i:Nat,s=(i:Int)/\i+k=61) (λk s hs=>?_) NN 61 0 ⟨0,rfl,rfl⟩ Ys
  obtain⟨i,rfl,hk⟩:=hs;unfold ks;refine aV.cond (λhd=>?_) λhd=>aV.ret trivial
  have hi:=Yh hd;have hw:aM ((i:Int)+1)=((i+1:Nat):Int):=by rw[aR Yn];omega
  have go:∀{σ:Type},uT (λk (s:Int)=>∃i:Nat,s=(i:Int)/\i+k=61) (λr:Unit⊕Int=>True) k (XO (aM ((i:Int)+1))):=⟨k-1,Yn,i+1,hw,Yn⟩
  obtain⟨b,hb⟩:=MG hf bH (i:Int);obtain⟨v,hv⟩:=qm (n:=n) (t:=⟨bH,(i:Int)⟩) hy;rw[hb,VT];refine aV.cond (λ_=>?_) λ_=>aV.ret (go (σ:=Unit))
  rw[hv,VT];exact aV.cond (λ_=>aV.ret trivial) λ_=>aV.ret (go (σ:=Unit))
 refine aV.bind IZ λr _=>?_
 cases r with
 |inl u=>exact aV.ret trivial
 |inr v=>exact aV.ret trivial
omit hf in
theorem wF(a:Int)(b:Bool):aV (dm n a b) λr=>True:=by
 unfold dm;exact aV.cond (λ_=>aV.ret trivial) λ_=>aV.ret trivial
omit hf in
theorem Gr(a b:Int):aV (fA a b) λr=>True:=by
 unfold fA;exact aV.cond (λ_=>aV.ret trivial) λ_=>aV.ret trivial
theorem zB(f aQ:Int):aV (ix (ak n) f aQ) λr=>r.length=(ak n).length:=by
 have hp:=P3 hf;unfold ix;refine aV.bind (P:=λo=>o.length=(ak n).length) ?_ λo ho=>aV.ret ho
 refine aV.loop (λk s=>∃i:Nat,s.1=(i:Int)/\i+k=(ak n).length/\s.2.length=i) (λk s hs=>?_) NN (ak n).length _ ⟨0,rfl,Yn,rfl⟩ Ys
 obtain⟨i,hi,hk,hlen⟩:=hs;unfold iy;rw[hi];refine aV.cond (λhd=>?_) λhd=>aV.ret (by have:=Yi hd;simp only[uT];omega)
 have bX:=Yh hd;have hw:aM ((i:Int)+1)=((i+1:Nat):Int):=by rw[aR Yn];omega
 rw[hw];have go:∀(x:Int),uT (λk (s:Int×List Int)=>∃i:Nat,s.1=(i:Int)/\i+k=(ak n).length/\s.2.length=i) (λo:List Int=>o.length=(ak n).length) k (XO (((i+1:Nat):Int),s.2++[x])):=λx=>⟨k-1,Yn,i+1,rfl,Yn,by simp_all⟩
 refine aV.cond (λ_=>aV.bind (Gr _ _) λy _=>aV.cr (oX Yr Yn) (aV.ret (go y))) λ_=>aV.cr (oX Yr Yn) (aV.ret (go _))
theorem Lc{l:List aq}(hb:cu n l=YY){b:aq}(h:b∈l):gy n b.bk=true:=by
 obtain⟨i,hi,rfl⟩:=Wf h;have:=(xY hb hi).1;unfold M7 at this
 rw[VV hi]at this
 simp only[Bool.and_eq_true]at this
 exact this.1.1.1
omit hf in
theorem UZ{l:List aq}(hl:l.length<=1048575)(b:aq):aV (nB l b) λr=>r.length=l.length+1:=by
 unfold nB;refine aV.bind (P:=λo:Int=>0<=o/\o<=l.length) ?_ λo ho=>?_
 ·refine aV.loop (λk s=>∃i:Nat,s=(i:Int)/\i+k=l.length) (λk s hs=>?_) NN l.length 0 ⟨0,rfl,Yn⟩ Ys
  obtain⟨i,rfl,hk⟩:=hs;unfold pW;refine aV.cond (λhd=>?_) λhd=>aV.ret (by simp only[uT];omega)
  have bX:=Yh hd;have hw:aM ((i:Int)+1)=((i+1:Nat):Int):=by rw[aR Yn];omega
  obtain⟨y,hy,hm⟩:=mj (xs:=l) (i:=(i:Int)) ⟨Yn,bX⟩;rw[hy,VT,Cd,VT];exact aV.cond (λ_=>aV.ret ⟨k-1,Yn,i+1,hw,Yn⟩) λ_=>aV.ret (by simp only[uT];omega)
 ·have l1:(cM l 0 o).length=o.toNat:=by unfold cM;simp_all
  have l2:(cM l o (l.length:Int)).length=l.length-o.toNat:=by unfold cM;simp
  refine aV.cr YJ ?_;rw[qY Yn,VT];refine aV.cr (oX Yr Yn) (aV.cr YJ (aV.cr (oX Yr Yn) (aV.ret ?_)))
  grind
theorem Rt{l:List aq}(hl:l.length<=1048000)(bz ab:Int)(aK:List av):aV (cx n l bz ab aK) λr=>r.1.length<=l.length+20/\(r.2=YY->r.1.length<=120):=by
 unfold cx;rw[qY Yn,VT,iJ hf Yn,VT];refine aV.cond (λ_=>aV.ret ⟨by simp,λh=>by cases h⟩) λ_=>aV.cond (λ_=>aV.ret ⟨by simp,λh=>by cases h⟩) λhd=>?_
 have hle:=Yi hd;refine aV.bind (P:=λo:List aq=>o.length<=l.length+20) ?_ λo ho=>?_
 ·refine aV.loop (λk s=>∃i:Nat,s.1=(i:Int)/\i+k=aK.length/\s.2.length=l.length+i) (λk s hs=>?_) NN aK.length _ ⟨0,rfl,Yn,rfl⟩ Ys
  obtain⟨i,hi,hk,hlen⟩:=hs;unfold l6;rw[hi];refine aV.cond (λhd=>?_) λhd=>aV.ret (by simp only[uT];omega)
  have bX:=Yh hd;have hw:aM ((i:Int)+1)=((i+1:Nat):Int):=by rw[aR Yn];omega
  obtain⟨y,hy,hm⟩:=mj (xs:=aK) (i:=(i:Int)) ⟨Yn,bX⟩;rw[hy,VT,hw];exact aV.bind (UZ Yn _) λr hr=>aV.ret ⟨k-1,Yn,i+1,rfl,Yn,by grind⟩
 ·rw[iJ hf Yn,VT]
  refine aV.cond (λ_=>aV.ret ⟨by simp,λh=>by cases h⟩) λhb=>aV.ret ⟨ho,λ_=>(dQ (n:=n) (l:=o) Yv).2⟩
end
theorem pP{l:List ByteArray}(h:0<=bf l p):aB l (bf l p)=YW p:=by
 unfold bf at h⊢
 cases h':l.findIdx? λy=>Y0 (y=p)with
 |none=>simp_all
 |some k=>
  obtain⟨h1,h2,_⟩:=XK.1 h';have h2:=Yh h2;simp only[Option.elim];rw[aP,VV h1,h2]
theorem II{xs:List α}{v x:α}(hi:0<=i)(h:aB (xs.set (Int.toNat i) v) j=YW x):(j=i/\x=v)\/aB xs j=YW x:=by
 obtain⟨h0,h1⟩:=nY h
 by_cases he:j=i
 ·grind
 ·refine .inr ?_
  rw[List.getElem?_set_ne Yn]at h1
  unfold aB;simp_all
def wK(n:ah)(l:List aq)(ae:List av)(ab f:Int)(r:List Int)(x v:Int):Prop:=
 ∃(i:Nat) (y:bP) (d u z:Int),n.aA[i]?=YW y/\bf (ak n) y.aY=x/\aB r (bf (ak n) y.ar)=YW u/\¬u<0/\dm n u (Y0 (bf (ak n) y.ar=f))=YW z/\cO n l ae (i:Int) z ab=YW d/\¬d<0/\bm n ⟨(i:Int),d⟩=YW v
section
variable {n:ah} (hf:cU n)
include hf
theorem DC{l:List aq}(hl:l.length<=1048576){ae:List av}(hc:ae.length<=1048576)(ab:Int)(hb:ia.length=(ak n).length)(f:Int):aV (eD n l ae ab (ak n) ia f) λr=>r.length=(ak n).length/\∀x v,aB r x=YW v->aB ia x=YW v\/wK n l ae ab f ia x v:=by
 have hp:=P3 hf;have I0:=hf.aA;unfold eD;refine aV.bind (P:=λr=>r=ia) ?_ λr hr=>?_
 ·by_cases h1:ia.length<=1048576
  ·exact aV.of (xl h1) rfl
  ·unfold eF
   exact aV.cr (oX Yr Yn) (aV.ret Yq)
 ·subst hr
  refine aV.bind (P:=λo=>o.length=(ak n).length/\∀x v,aB o x=YW v->aB r x=YW v\/wK n l ae ab f r x v) ?_ λo ho=>aV.ret ho
  refine aV.loop (fun(k:Nat) (s:Int×List Int)=>∃i:Nat,s.1=(i:Int)/\i+k=n.aA.length/\s.2.length=(ak n).length/\∀x v,aB s.2 x=YW v->aB r x=YW v\/wK n l ae ab f r x v) (λk s hs=>?_) NN n.aA.length _ ⟨0,rfl,Yn,hb,λx v h=>.inl h⟩ Ys
  obtain⟨i,hi,hk,hlen,Pf⟩:=hs;unfold eG;rw[hi];refine aV.cond (λhd=>?_) λhd=>aV.ret ⟨hlen,Pf⟩
  have bX:=Yh hd;have hw:aM ((i:Int)+1)=((i+1:Nat):Int):=by rw[aR Yn];omega
  obtain⟨y,hy,hm⟩:=mj (xs:=n.aA) (i:=(i:Int)) ⟨Yn,bX⟩;obtain⟨m1,m2⟩:=qD hm;have a0:=nn m1;have a1:=(nk (ak n) y.ar).2;have b0:=nn m2;have b1:=(nk (ak n) y.aY).2;obtain⟨v6,g6,_⟩:=mj (xs:=r) (i:=bf (ak n) y.ar) ⟨a0,Yn⟩;obtain⟨v11,g11,_⟩:=mj (xs:=s.2) (i:=bf (ak n) y.aY) ⟨b0,Yn⟩;simp only[hy,VT,ph hf,g6,hw];have go:∀(s':List Int),s'.length=(ak n).length->(∀x v,aB s' x=YW v->aB r x=YW v\/wK n l ae ab f r x v)->uT (fun(k:Nat) (s:Int×List Int)=>∃i:Nat,s.1=(i:Int)/\i+k=n.aA.length/\s.2.length=(ak n).length/\∀x v,aB s.2 x=YW v->aB r x=YW v\/wK n l ae ab f r x v) (λo:List Int=>o.length=(ak n).length/\∀x v,aB o x=YW v->aB r x=YW v\/wK n l ae ab f r x v) k (XO (((i+1:Nat):Int),s')):=λs' h' h''=>⟨k-1,Yn,i+1,rfl,Yn,h',h''⟩
  refine aV.cond (λ_=>aV.ret (go _ hlen Pf)) λhu=>?_
  obtain⟨z,ez,_⟩:=wF (n:=n) v6 (Y0 (bf (ak n) y.ar=f));obtain⟨d,ed,_⟩:=C2 hf hl hc hy z ab;rw[ez,VT,ed,VT];refine aV.cond (λ_=>aV.ret (go _ hlen Pf)) λEb=>?_
  obtain⟨e,he⟩:=oZ (n:=n) (t:=⟨(i:Int),d⟩) hy;simp only[he,VT,g11];have hyi:n.aA[i]?=YW y:=by rw[aP]at hy;omega
  have new:∀x v,aB (s.2.set (Int.toNat (bf (ak n) y.aY)) e) x=YW v->aB r x=YW v\/wK n l ae ab f r x v:=λx v h=>by
   rcases II b0 h with⟨rfl,rfl⟩ |h
   ·exact .inr ⟨i,y,d,v6,z,hyi,rfl,g6,Yi hu,ez,ed,Yi Eb,he⟩
   simp_all
  exact aV.cond (λ_=>aV.ret (go _ Yv new)) λ_=>aV.cond (λ_=>aV.ret (go _ Yv new)) λ_=>aV.ret (go _ hlen Pf)
end
def GW(n:ah)(l:List aq)(ae:List av)(ab f:Int)(r:List Int):List Int:=(eD n l ae ab (ak n) r f).getD []
def cf(n:ah)(l:List aq)(ae:List av)(ab f aQ:Int):Nat->List Int
 |0=>(ix (ak n) f aQ).getD []
 |k+1=>GW n l ae ab f (cf n l ae ab f aQ k)
section
variable {n:ah} (hf:cU n) {l:List aq} (hl:l.length<=1048576) {ae:List av} (hc:ae.length<=1048576) (ab f aQ:Int)
include hf hl hc
theorem nI:∀k,(cf n l ae ab f aQ k).length=(ak n).length
 |0=>by
  obtain⟨r,e,h⟩:=zB hf f aQ;unfold cf;simp_all
 |k+1=>by
  obtain⟨r,e,h,_⟩:=DC hf hl hc ab (nI k) f;unfold cf GW;simp_all
theorem sj(k:Nat):eD n l ae ab (ak n) (cf n l ae ab f aQ k) f=YW (cf n l ae ab f aQ (k+1))/\∀x v,aB (cf n l ae ab f aQ (k+1)) x=YW v->aB (cf n l ae ab f aQ k) x=YW v\/wK n l ae ab f (cf n l ae ab f aQ k) x v:=by
 obtain⟨r,e,h,h'⟩:=DC hf hl hc ab (nI hf hl hc ab f aQ k) f;have:cf n l ae ab f aQ (k+1)=r:=by show(eD n l ae ab (ak n) (cf n l ae ab f aQ k) f).getD []=r;simp_all
 simp_all
theorem qh(hC:cu n l=YY/\0<=bf (ak n) ar/\aQ<=100000/\1<=ab)(hk:k<=(ak n).length):df n l ae ar aQ ab (k:Int)=YW (cf n l ae ab (bf (ak n) ar) aQ k):=by
 have hp:=P3 hf;obtain⟨r0,e0,_⟩:=zB hf (bf (ak n) ar) aQ;have h0:cf n l ae ab (bf (ak n) ar) aQ 0=r0:=by unfold cf;simp_all
 unfold df;rw[(dH hf).2];simp only[VT,ph hf,iJ hf hl,hC.1,V3,Yk,Yg (show ¬bf (ak n) ar<0 by omega),Yg (show ¬100000<aQ by omega),Yg (show ¬ab<1 by omega),Yg (show ¬(k:Int)<0 by omega),e0]
 have e:aE (jc n l ae ab (k:Int) (ak n) (bf (ak n) ar)) NN (0,cf n l ae ab (bf (ak n) ar) aQ 0)=YW (cf n l ae ab (bf (ak n) ar) aQ k):=by
  refine mD (body:=jc n l ae ab (k:Int) (ak n) (bf (ak n) ar)) (λi:Nat=>((i:Int),cf n l ae ab (bf (ak n) ar) aQ i)) (n:=k) (o:=cf n l ae ab (bf (ak n) ar) aQ k) (λi hi=>?_) ?_ NN Ys
  ·unfold jc
   rw[Ya (show(i:Int)<(k:Int)by omega),Ya (show(i:Int)<((ak n).length:Int)by omega),Yj,Yj,(sj hf hl hc ab _ aQ i).1,VT,aR Yn]
   rfl
  ·unfold jc
   simp
 simp_all
end
section
variable {n:ah} (hf:cU n)
include hf
end
theorem J4:@kG=@dm:=rfl
def ZdP{σ ο ο':Type}(h:ο->ο'):σ⊕ο->σ⊕ο'
 |.inl s=>.inl s
 |.inr o=>.inr (h o)
theorem ET{σ ο ο':Type}{b1:σ->Option (σ⊕ο)}{b2:σ->Option (σ⊕ο')}(h:ο->ο')(hb:∀s,b2 s=(b1 s).map (ZdP h)):∀(N:Nat) (s:σ),aE b2 N s=(aE b1 N s).map h
 |0,s=>rfl
 |N+1,s=>by
  have ih:=ET h hb N;unfold aE;rw[hb s]
  cases h1:b1 s with
  |none=>rfl
  |some r=>
   cases r with
   |inl s'=>exact ih s'
   |inr o=>rfl
theorem OG{α β γ:Type}(x:Option α)(f:α->Option β)(g:β->γ):(x.bind f).map g=x.bind λa=>(f a).map g:=by cases x<;>rfl
theorem OO{β γ:Type}(b:Bool)(x y:Option β)(g:β->γ):(cond b x y).map g=cond b (x.map g) (y.map g):=by grind
def R8(bH:Int):Unit⊕Int->Unit⊕(av×Bool)
 |.inl u=>.inl u
 |.inr d=>.inr ((⟨bH,d⟩:av),YY)
section
variable {n:ah} (hf:cU n)
include hf
theorem O7(l:List aq)(ae:List av)(bH aQ ab:Int)(s:Int):gM bH aQ n ae l ab s=(cQ n l ae bH aQ ab s).map (ZdP (R8 bH)):=by
 unfold gM cQ;rw[(rC hf bH s).1,ql,zR,kh];simp only[OO,OG,WG,ZdP,R8]
theorem Nq{l:List aq}(hl:l.length<=1048576){ae:List av}(hc:ae.length<=1048576){bH:Int}(hy:aB n.aA bH=YW y)(aQ ab:Int):
 ∃d,cO n l ae bH aQ ab=YW d/\iH bH aQ n ae l ab=YW (if d<0 then((⟨0,0⟩:av),YZ)else((⟨bH,d⟩:av),YY)):=by
 have IZ:aV (aE (cQ n l ae bH aQ ab) NN 0) λr=>∀d,r=.inr d->0<=d:=by
  refine aV.loop (λk s=>∃i:Nat,s=(i:Int)/\i+k=61) (λk s hs=>?_) NN 61 0 ⟨0,rfl,rfl⟩ Ys
  obtain⟨i,rfl,hk⟩:=hs;refine aV.cond (λhd=>?_) λhd=>aV.ret (λd h=>by cases h)
  have hi:=Yh hd;have hw:aM ((i:Int)+1)=((i+1:Nat):Int):=by rw[aR Yn];omega
  have go:uT (λk (s:Int)=>∃i:Nat,s=(i:Int)/\i+k=61) (λr:Unit⊕Int=>∀d,r=.inr d->0<=d) k (XO (aM ((i:Int)+1))):=⟨k-1,Yn,i+1,hw,Yn⟩
  obtain⟨b,hb⟩:=MG hf bH (i:Int);obtain⟨v,hv⟩:=qm (n:=n) (t:=⟨bH,(i:Int)⟩) hy;obtain⟨q,hq⟩:=tf hl (⟨bH,(i:Int)⟩:av);rw[hb];refine aV.cond (λ_=>?_) λ_=>aV.ret go
  rw[hv];refine aV.cond (λ_=>?_) λ_=>aV.ret go
  rw[kh,jE hc];refine aV.cond (λ_=>?_) λ_=>aV.ret go
  rw[hy,hq];exact aV.cond (λ_=>aV.ret (λd h=>by grind)) λ_=>aV.ret go
 obtain⟨r,e,hr⟩:=IZ;have e2:=ET (R8 bH) (O7 hf l ae bH aQ ab) NN (0:Int);rw[e]at e2
 unfold cO iH;rw[e,e2]
 cases r with
 |inl u=>exact⟨-1,rfl,rfl⟩
 |inr d=>exact⟨d,rfl,by rw[if_neg Yr];rfl⟩
theorem S7{l:List aq}(hl:l.length<=1048576){ae:List av}(hc:ae.length<=1048576)(ab aA f:Int)(hb:ia.length=(ak n).length)(k:Int){PI:List Int}(ZiN:PI.length=(ak n).length)(ch:Bool){i:Nat}(hi:i<n.aA.length):
 ∃PJ Vk,eG n l ae ab (ak n) ia f ((i:Int),PI)=YW (.inl (((i+1:Nat):Int),PJ))/\dp n n ae l ab aA (ak n) f (k,ia) ((i:Int),ch,PI)=YW (.inl (((i+1:Nat):Int),Vk,PJ))/\PJ.length=(ak n).length/\((Vk=ch/\PJ=PI)\/Vk=YY):=by
 have I0:=hf.aA;have hw:aM ((i:Int)+1)=((i+1:Nat):Int):=by rw[aR Yn];omega
 obtain⟨y,hy,hm⟩:=mj (xs:=n.aA) (i:=(i:Int)) ⟨Yn,Yn⟩;obtain⟨m1,m2⟩:=qD hm;have a0:=nn m1;have a1:=(nk (ak n) y.ar).2;have b0:=nn m2;have b1:=(nk (ak n) y.aY).2;obtain⟨v6,g6,_⟩:=mj (xs:=ia) (i:=bf (ak n) y.ar) ⟨a0,Yn⟩;obtain⟨v11,g11,_⟩:=mj (xs:=PI) (i:=bf (ak n) y.aY) ⟨b0,Yn⟩;obtain⟨z,ez,_⟩:=wF (n:=n) v6 (Y0 (bf (ak n) y.ar=f));obtain⟨d,ed,ef⟩:=Nq hf hl hc hy z ab;obtain⟨e,he⟩:=oZ (n:=n) (t:=⟨(i:Int),d⟩) hy;unfold eG dp;have SF:∀p,bU (ak n) p=YW (bf (ak n) p):=λp=>by exact ph hf p
 simp only[hy,VT,ph hf,SF,J4,g11,r8]
 grind
theorem LM{l:List aq}(hl:l.length<=1048576){ae:List av}(hc:ae.length<=1048576)(ab aA f:Int)(hb:ia.length=(ak n).length)(zI:ia.length<=1048576)(k:Int):
 ∃r ch,eD n l ae ab (ak n) ia f=YW r/\aE (dp n n ae l ab aA (ak n) f (k,ia)) NN (0,YZ,ia)=YW (ch,r)/\r.length=(ak n).length/\(ch=YZ->r=ia):=by
 have I0:=hf.aA;have key:∀(d i:Nat),i+d=n.aA.length->∀(PI:List Int) (ch:Bool),PI.length=(ak n).length->(ch=YZ->PI=ia)->∀N,d<N->
  ∃r Vk,aE (eG n l ae ab (ak n) ia f) N ((i:Int),PI)=YW r/\aE (dp n n ae l ab aA (ak n) f (k,ia)) N ((i:Int),ch,PI)=YW (Vk,r)/\r.length=(ak n).length/\(Vk=YZ->r=ia):=by
  intro d
  induction d with
  |zero=>
   intro i hi PI ch h1 h2 N hN;obtain⟨N,rfl⟩:∃M,N=M+1:=⟨N-1,Yn⟩;refine⟨PI,ch,?_,?_,h1,h2⟩
   ·unfold aE eG
    grind
   ·unfold aE dp
    grind
  |succ d ih=>
   intro i hi PI ch h1 h2 N hN;obtain⟨N,rfl⟩:∃M,N=M+1:=⟨N-1,Yn⟩;obtain⟨PJ,Vk,e1,e2,h3,h4⟩:=S7 hf hl hc ab aA f hb k h1 ch (show i<n.aA.length by omega)
   obtain⟨r,c,q1,q2,q3,q4⟩:=ih (i+1) Yn PJ Vk h3 (λh=>by
    grind) N Yn
   refine⟨r,c,?_,?_,q3,q4⟩
   ·unfold aE;grind
   ·unfold aE;grind
 obtain⟨r,ch,q1,q2,q3,q4⟩:=key n.aA.length 0 Yn ia YZ hb (λ_=>rfl) NN Ys
 have e0:((0:Nat):Int)=0:=rfl;rw[e0]at q1 q2
 refine⟨r,ch,?_,q2,q3,q4⟩;unfold eD;rw[xl zI,VT,q1];rfl
omit hf in
theorem Cf{l:List aq}{ae:List av}{ab f aQ:Int}{i:Nat}(h:cf n l ae ab f aQ (i+1)=cf n l ae ab f aQ i):∀k,cf n l ae ab f aQ (i+k)=cf n l ae ab f aQ i
 |0=>rfl
 |k+1=>by
  have ih:=Cf h k;have e1:cf n l ae ab f aQ (i+(k+1))=GW n l ae ab f (cf n l ae ab f aQ (i+k)):=rfl;have e2:cf n l ae ab f aQ (i+1)=GW n l ae ab f (cf n l ae ab f aQ i):=rfl
  grind
theorem LZ{l:List aq}(hl:l.length<=1048576){ae:List av}(hc:ae.length<=1048576)(ab f aQ:Int)(hp:(ak n).length<=1048576)(aA:Nat)(Zb3:aA<=1048576):
 aE (dn n n ae l ab (aA:Int) (ak n) f) NN (0,cf n l ae ab f aQ 0)=YW (cf n l ae ab f aQ aA):=by
 have key:∀(d i:Nat),i+d=aA->∀N,d<N->aE (dn n n ae l ab (aA:Int) (ak n) f) N ((i:Int),cf n l ae ab f aQ i)=YW (cf n l ae ab f aQ aA):=by
  intro d
  induction d with
  |zero=>
   intro i hi N hN;obtain⟨N,rfl⟩:∃M,N=M+1:=⟨N-1,Yn⟩;have:i=aA:=Yn;subst this;unfold aE dn;simp only[Yg (show ¬(i:Int)<(i:Int)by omega),Yk];rfl
  |succ d ih=>
   intro i hi N hN;obtain⟨N,rfl⟩:∃M,N=M+1:=⟨N-1,Yn⟩;have zI:=nI hf hl hc ab f aQ i;have BE:aM ((i:Int)+1)=((i+1:Nat):Int):=by rw[aR Yn];omega
   obtain⟨r,ch,q1,q2,q3,q4⟩:=LM hf hl hc ab (aA:Int) f zI Yn (i:Int);have hr:cf n l ae ab f aQ (i+1)=r:=by
    have:=(sj hf hl hc ab f aQ i).1;rw[q1]at this
    exact(VX this).symm
   have ha:cr (bn ((([]:List Int):List Int).length+(cf n l ae ab f aQ i).length) 8)=YW ():=by
    simp only[V1];exact x8 Yn Yn
   have body:dn n n ae l ab (aA:Int) (ak n) f ((i:Int),cf n l ae ab f aQ i)=(cond (!ch) (YW (.inr r)) (YW (.inl (((i+1:Nat):Int),r)))):=by
    unfold dn;simp only[Ya (show(i:Int)<(aA:Int)by omega),Yj,ha,VT,List.nil_append,q2,BE]
   unfold aE;rw[body]
   cases ch with
   |false=>
    have e:=q4 rfl;rw[<-hr]at e
    have hconst:=Cf e (d+1);rw[show i+(d+1)=aA by omega]at hconst
    show YW r=_;rw[<-hr,e,hconst]
   |true=>
    rw[<-hr];exact ih (i+1) Yn N Yn
 exact key aA 0 Yn NN Ys
theorem F4(hp:(ak n).length<=1048576)(f:Int)(hf0:0<=f/\f<((ak n).length:Int))(aQ:Int):ix (ak n) f aQ=YW ((V8 (ak n).length (-1:Int)).set f.toNat (if 0 > aQ then 0 else aQ)):=by
 have Sw:fA aQ 0=YW (if 0 > aQ then 0 else aQ):=by
  unfold fA
  grind
 generalize hm:(if 0 > aQ then 0 else aQ:Int)=mx at Sw⊢
 have hLl:((V8 (ak n).length (-1:Int)).set f.toNat mx).length=(ak n).length:=by simp
 have hLi:∀i:Nat,i<(ak n).length->((V8 (ak n).length (-1:Int)).set f.toNat mx)[i]?=YW (if(i:Int)=f then mx else -1):=λi hi=>by
  grind
 generalize (V8 (ak n).length (-1:Int)).set f.toNat mx=L at hLl hLi⊢
 have e:aE (iy (ak n) f aQ) NN (0,[])=YW L:=by
  have:=mD (body:=iy (ak n) f aQ) (λi:Nat=>((i:Int),L.take i)) (n:=(ak n).length) (o:=L) (λi hi=>?_) ?_ NN Ys
  ·grind
  ·have hw:aM ((i:Int)+1)=((i+1:Nat):Int):=by rw[aR Yn];omega
   have hx:=hLi i hi;have ha:∀x:Int,cr (bn ((L.take i).length+([x]:List Int).length) 8)=YW ():=λx=>ff Yr Yn
   unfold iy;rw[<-uN hx]
   grind
  ·unfold iy
   grind
 unfold ix
 grind
theorem Ca{l:List aq}(hl:l.length<=1048576){ae:List av}(hc:ae.length<=1048576)(ab:Int)(h0:0<=bf (ak n) ar){aQ:Int}(zd:aQ<=100000)(hp:(ak n).length<=1048576)(aA:Nat)(Zb3:aA<=1048576):
 ep n n ae l ab ar aQ (aA:Int)=YW (cf n l ae ab (bf (ak n) ar) aQ aA):=by
 have bX:=(nk (ak n) ar).2;have e0:aE (eR n n ae l ab aQ (aA:Int) (ak n) (bf (ak n) ar)) NN (0,[])=YW (V8 (ak n).length (-1:Int)):=by
  refine mD (body:=eR n n ae l ab aQ (aA:Int) (ak n) (bf (ak n) ar)) (λi:Nat=>((i:Int),V8 i (-1:Int))) (n:=(ak n).length) (o:=V8 (ak n).length (-1:Int)) (λi hi=>?_) ?_ NN Ys
  ·have hw:aM ((i:Int)+1)=((i+1:Nat):Int):=by rw[aR Yn];omega
   have ha:cr (bn ((V8 i (-1:Int)).length+([(-1)]:List Int).length) 8)=YW ():=ff (by simp only[List.length_replicate,V0,V1];omega) Yn
   unfold eR;simp only[Ya (show(i:Int)<((ak n).length:Int)by omega),Yj,ha,VT,hw,List.replicate_succ']
  ·unfold eR
   simp
 have Zc7:cf n l ae ab (bf (ak n) ar) aQ 0=(V8 (ak n).length (-1:Int)).set (bf (ak n) ar).toNat (if 0 > aQ then 0 else aQ):=by
  unfold cf;rw[F4 hf hp _ ⟨h0,bX⟩];rfl
 obtain⟨x,hx,_⟩:=mj (xs:=V8 (ak n).length (-1:Int)) (i:=bf (ak n) ar) ⟨h0,by rw[List.length_replicate];exact bX⟩
 unfold ep;rw[rj,(dH hf).1,(dH hf).2];simp only[VT,ph hf,Yg (show ¬bf (ak n) ar<0 by omega),Yg (show ¬100000<aQ by omega),Yg (show ¬(aA:Int)<0 by omega),Yk,e0,hx,<-Zc7,LZ hf hl hc ab _ aQ hp aA Zb3]
end
section
variable {n:ah} (hf:cU n)
include hf
structure Found(n:ah)(l:List aq)(ae:List av)(aQ ab:Int)(t:av):Prop where
 bk:gy n t=YY
 start:aQ<=cS n t
 open_:dB ae t=YW YZ
 jk:∃y q,aB n.aA t.bH=YW y/\dO l t=YW q/\ab<=aM (y.jk-q)
theorem Jx{l:List aq}{ae:List av}{bH aQ ab d:Int}(h:cO n l ae bH aQ ab=YW d):d=-1\/Found n l ae aQ ab ⟨bH,d⟩:=by
 unfold cO at h
 cases e:aE (cQ n l ae bH aQ ab) NN 0 with
 |none=>grind
 |some r=>
  cases r with
  |inl u=>grind
  |inr d'=>
   refine .inr ?_;have:=wu (body:=cQ n l ae bH aQ ab) (P:=λr=>∀d,r=.inr d->Found n l ae aQ ab ⟨bH,d⟩) (λs o hs=>?_) NN 0 _ e
   ·grind
   ·unfold cQ at hs
    by_cases h60:s<=60
    ·rw[Ya h60]at hs
     obtain⟨_,b,hb⟩:=rC hf bH s;have Ga:=hb;rw[hb,VT]at hs
     intro d hd;subst hd
     cases b with
     |false=>grind
     |true=>
      have ht:gy n ⟨bH,s⟩=true:=by unfold gy;grind
      simp only[Yj]at hs
      cases h1:bt n ⟨bH,s⟩with
      |none=>grind
      |some v=>
       rw[h1,VT]at hs
       by_cases h2:aQ<=v
       ·rw[Ya h2]at hs
        cases h3:dB ae ⟨bH,s⟩with
        |none=>grind
        |some c=>
         rw[h3,VT]at hs
         cases c with
         |true=>grind
         |false=>
          simp at hs
          cases h4:aB n.aA bH with
          |none=>grind
          |some y=>
           rw[h4,VT]at hs
           cases h5:dO l ⟨bH,s⟩with
           |none=>grind
           |some q=>
            rw[h5,VT]at hs
            by_cases h6:ab<=aM (y.jk-q)
            ·rw[Ya h6]at hs
             have:s=d:=by grind
             rw[<-this];exact⟨ht,by unfold cS;grind,h3,y,q,h4,h5,h6⟩
            grind
       grind
    grind
theorem PQ{l:List aq}{ae:List av}{bH aQ ab d:Int}(h:cO n l ae bH aQ ab=YW d):d=-1\/gy n ⟨bH,d⟩=true:=by
 rcases Jx hf h with h|h
 ·omega
 ·exact .inr h.bk
omit hf in
theorem tq{xs:List α}(h0:0<=i)(h1:i<xs.length):aB (xs.set i.toNat v) i=YW v:=by
 unfold aB;grind
omit hf in
theorem IJ{xs:List α}(h0:0<=i)(h:j≠i):aB (xs.set i.toNat v) j=aB xs j:=by
 unfold aB
 grind
def sA(r:List Int)(x v:Int):Prop:=∃w,aB r x=YW w/\0<=w/\w<=v
def Er(n:ah)(l:List aq)(ae:List av)(ab f:Int)(r:List Int)(i:Nat)(x v:Int):Prop:=
 ∃(y:bP) (d u z:Int),n.aA[i]?=YW y/\bf (ak n) y.aY=x/\aB r (bf (ak n) y.ar)=YW u/\¬u<0/\dm n u (Y0 (bf (ak n) y.ar=f))=YW z/\cO n l ae (i:Int) z ab=YW d/\¬d<0/\bm n ⟨(i:Int),d⟩=YW v
theorem T7(hn:aW n=YW YY){l:List aq}(hl:l.length<=1048576){ae:List av}(hc:ae.length<=1048576)(ab:Int)(hb:ia.length=(ak n).length)(f:Int):
 aV (eD n l ae ab (ak n) ia f) λr=>(∀x v,aB ia x=YW v->0<=v->sA r x v)/\∀x v,wK n l ae ab f ia x v->sA r x v:=by
 have hp:=P3 hf;have I0:=hf.aA;refine aV.bind (P:=λr=>r=ia) ?_ λr hr=>?_
 ·by_cases h1:ia.length<=1048576
  ·exact aV.of (xl h1) rfl
  ·exact aV.cr (oX Yr Yn) (aV.ret Yq)
 ·subst hr
  refine aV.bind (P:=λo=>(∀x v,aB r x=YW v->0<=v->sA o x v)/\∀x v,wK n l ae ab f r x v->sA o x v) ?_ λo ho=>aV.ret ho
  refine aV.loop (fun(k:Nat) (s:Int×List Int)=>∃i:Nat,s.1=(i:Int)/\i+k=n.aA.length/\s.2.length=(ak n).length/\(∀x v,aB r x=YW v->0<=v->sA s.2 x v)/\∀j,j<i->∀x v,Er n l ae ab f r j x v->sA s.2 x v) (λk s hs=>?_) NN n.aA.length _ ⟨0,rfl,Yn,hb,λx v h h0=>⟨v,h,h0,Int.le_refl _⟩,λj hj=>Yn⟩ Ys
  obtain⟨i,hi,hk,hlen,hA,hB⟩:=hs;unfold eG;rw[hi];refine aV.cond (λhd=>?_) λhd=>aV.ret ⟨hA,λx v h=>?_⟩
  case refine_2=>
   obtain⟨j,y,d,u,z,c1,c2⟩:=h;have h1:=(List.getElem?_eq_some_iff.1 c1).1;have h2:=Yi hd;exact hB j Yn x v ⟨y,d,u,z,c1,c2⟩
  have bX:=Yh hd;have hw:aM ((i:Int)+1)=((i+1:Nat):Int):=by rw[aR Yn];omega
  obtain⟨y,hy,hm⟩:=mj (xs:=n.aA) (i:=(i:Int)) ⟨Yn,bX⟩;obtain⟨m1,m2⟩:=qD hm;have a0:=nn m1;have a1:=(nk (ak n) y.ar).2;have b0:=nn m2;have b1:=(nk (ak n) y.aY).2;obtain⟨v6,g6,_⟩:=mj (xs:=r) (i:=bf (ak n) y.ar) ⟨a0,Yn⟩;obtain⟨v11,g11,_⟩:=mj (xs:=s.2) (i:=bf (ak n) y.aY) ⟨b0,Yn⟩;simp only[hy,VT,ph hf,g6,hw];have hyi:n.aA[i]?=YW y:=by rw[aP]at hy;omega
  have go:∀(s':List Int),s'.length=(ak n).length->(∀x v,sA s.2 x v->sA s' x v)->(∀x v,Er n l ae ab f r i x v->sA s' x v)->uT (fun(k:Nat) (s:Int×List Int)=>∃i:Nat,s.1=(i:Int)/\i+k=n.aA.length/\s.2.length=(ak n).length/\(∀x v,aB r x=YW v->0<=v->sA s.2 x v)/\∀j,j<i->∀x v,Er n l ae ab f r j x v->sA s.2 x v) (λo:List Int=>(∀x v,aB r x=YW v->0<=v->sA o x v)/\∀x v,wK n l ae ab f r x v->sA o x v) k (XO (((i+1:Nat):Int),s')):=λs' h1 h2 h3=>
   ⟨k-1,Yn,i+1,rfl,Yn,h1,λx v h h0=>h2 x v (hA x v h h0),λj hj x v h=>by
    grind⟩
  refine aV.cond (λhu=>aV.ret (go _ hlen (λx v h=>h) λx v h=>?_)) λhu=>?_
  ·obtain⟨y',d,u,z,c1,c2,c3,c4,_⟩:=h
   grind
  obtain⟨z,ez,_⟩:=wF (n:=n) v6 (Y0 (bf (ak n) y.ar=f));obtain⟨d,ed,_⟩:=C2 hf hl hc hy z ab;have hcI:∀x v,Er n l ae ab f r i x v->¬d<0/\x=bf (ak n) y.aY/\bm n ⟨(i:Int),d⟩=YW v:=by
   rintro x v ⟨y',d',u,z',c1,c2,c3,c4,c5,c6,c7,c8⟩
   grind
  rw[ez,VT,ed];refine aV.cond (λhdd=>aV.ret (go _ hlen (λx v h=>h) λx v h=>absurd (Yh hdd) (hcI x v h).1)) λEb=>?_
  have Ny:gy n ⟨(i:Int),d⟩=true:=by
   rcases PQ hf ed with h|h
   all_goals grind
  obtain⟨e,he⟩:=oZ (n:=n) (t:=⟨(i:Int),d⟩) hy;have he0:0<=e:=by
   obtain⟨_,h2,h3,h4,_⟩:=cY hf hn Ny
   grind
  simp only[he,g11];have Zci:=fun(hv:v11<0\/e<v11)=>go (s.2.set (Int.toNat (bf (ak n) y.aY)) e) Yr (λx v h=>by
   obtain⟨w,zi,Bd,hw3⟩:=h
   by_cases hx:x=bf (ak n) y.aY
   ·subst hx
    rw[g11]at zi
    obtain rfl:=VX zi;exact⟨_,tq b0 Yn,he0,Yn⟩
   ·exact⟨w,by rw[IJ b0 hx];omega,Bd,hw3⟩) (λx v h=>by
   obtain⟨_,rfl,h8⟩:=hcI x v h;rw[he]at h8
   obtain rfl:=VX h8;exact⟨_,tq b0 Yn,he0,Int.le_refl _⟩)
  refine aV.cond (λh=>aV.ret (Zci (.inl (Yh h)))) λh1=>aV.cond (λh=>aV.ret (Zci (.inr (Yh h)))) λh2=>aV.ret (go _ hlen (λx v h=>h) λx v h=>?_)
  obtain⟨_,rfl,h8⟩:=hcI x v h;rw[he]at h8
  obtain rfl:=VX h8;have h1:=Yi h1;have h2:=Yi h2;exact⟨v11,g11,Yn,Yn⟩
theorem we(hn:aW n=YW YY){l:List aq}(hl:l.length<=1048576){ae:List av}(hc:ae.length<=1048576)(ab f aQ:Int)(k:Nat):
 (∀x v,aB (cf n l ae ab f aQ k) x=YW v->0<=v->sA (cf n l ae ab f aQ (k+1)) x v)/\∀x v,wK n l ae ab f (cf n l ae ab f aQ k) x v->sA (cf n l ae ab f aQ (k+1)) x v:=by
 obtain⟨r,e,h⟩:=T7 hf hn hl hc ab (nI hf hl hc ab f aQ k) f;have h1:=(sj hf hl hc ab f aQ k).1
 grind
end
section
variable {n:ah} (hf:cU n)
include hf
omit hf in
theorem Zae{l:List ByteArray}{p q:ByteArray}(hp:0<=bf l p):Y0 (bf l p=bf l q)=Y0 (p=q):=by
 by_cases h:p=q
 ·grind
 ·rw[Yg h]
  refine Yg λhe=>h ?_
  have h1:=pP hp;have h2:=pP (l:=l) (p:=q) Yn
  grind
def Q5(n:ah)(l:List aq)(ae:List av)(ab f:Int)(r:List Int)(x v:Int)(t:av):Prop:=
 ∃(i:Nat) (y:bP) (d u z:Int),t=⟨(i:Int),d⟩/\n.aA[i]?=YW y/\bf (ak n) y.aY=x/\aB r (bf (ak n) y.ar)=YW u/\¬u<0/\dm n u (Y0 (bf (ak n) y.ar=f))=YW z/\cO n l ae (i:Int) z ab=YW d/\¬d<0/\bm n ⟨(i:Int),d⟩=YW v
theorem EX{l:List aq}(hl:l.length<=1048576){ae:List av}(hc:ae.length<=1048576)(ab:Int)(hb:before.length=(ak n).length)(hxq:x=bf (ak n) q0)(hx:0<=x/\x<(ak n).length)(e:Int){i:Nat}(hi:i<n.aA.length):
 (ji n l ae ab (ak n) before (bf (ak n) ar) x e (i:Int)=YW (.inl ((i+1:Nat):Int))/\fz n n ae l ab (ak n) before ar x e (i:Int)=YW (.inl ((i+1:Nat):Int))/\¬Er n l ae ab (bf (ak n) ar) before i x e)\/
 ∃t,ji n l ae ab (ak n) before (bf (ak n) ar) x e (i:Int)=YW (.inr (.inr t))/\fz n n ae l ab (ak n) before ar x e (i:Int)=YW (.inr (.inr (t,YY)))/\Q5 n l ae ab (bf (ak n) ar) before x e t:=by
 have I0:=hf.aA;have hw:aM ((i:Int)+1)=((i+1:Nat):Int):=by rw[aR Yn];omega
 obtain⟨y,hy,hm⟩:=mj (xs:=n.aA) (i:=(i:Int)) ⟨Yn,Yn⟩;have hyi:n.aA[i]?=YW y:=by rw[aP]at hy;omega
 obtain⟨m1,m2⟩:=qD hm;have a0:=nn m1;have a1:=(nk (ak n) y.ar).2;obtain⟨v6,g6,_⟩:=mj (xs:=before) (i:=bf (ak n) y.ar) ⟨a0,Yn⟩;obtain⟨p,gp,_⟩:=mj (xs:=ak n) (i:=x) hx;obtain⟨z,ez,_⟩:=wF (n:=n) v6 (Y0 (bf (ak n) y.ar=bf (ak n) ar));obtain⟨d,ed,ef⟩:=Nq hf hl hc hy z ab;obtain⟨v,hv⟩:=oZ (n:=n) (t:=⟨(i:Int),d⟩) hy;have SF:∀p,bU (ak n) p=YW (bf (ak n) p):=λp=>by exact ph hf p
 have ez':kG n v6 (Y0 (y.ar=ar))=YW z:=by rw[J4,<-Zae (l:=ak n) a0];omega
 have wU:∀{P:Prop},(∀y' d' u z',n.aA[i]?=YW y'->bf (ak n) y'.aY=x->aB before (bf (ak n) y'.ar)=YW u->¬u<0->dm n u (Y0 (bf (ak n) y'.ar=bf (ak n) ar))=YW z'->cO n l ae (i:Int) z' ab=YW d'->¬d'<0->bm n ⟨(i:Int),d'⟩=YW e->y'=y->u=v6->z'=z->d'=d->False)->¬Er n l ae ab (bf (ak n) ar) before i x e:=by
  rintro _ H ⟨y',d',u,z',c1,c2,c3,c4,c5,c6,c7,c8⟩
  grind
 have S:ji n l ae ab (ak n) before (bf (ak n) ar) x e (i:Int)=cond (!decide (y.aY=p)) (YW (.inl ((i+1:Nat):Int))) (cond (Y0 (v6<0)) (YW (.inl ((i+1:Nat):Int))) (cond (Y0 (0<=d)) (cond (Y0 (v=e)) (YW (.inr (.inr ⟨(i:Int),d⟩))) (YW (.inl ((i+1:Nat):Int)))) (YW (.inl ((i+1:Nat):Int))))):=by
  unfold ji;simp only[Ya (show(i:Int)<n.aA.length by omega),Yj,hy,VT,ph hf,gp,g6,ez,ed,hv,hw]
 have T:fz n n ae l ab (ak n) before ar x e (i:Int)=cond (!decide (y.aY=p)) (YW (.inl ((i+1:Nat):Int))) (cond (Y0 (v6<0)) (YW (.inl ((i+1:Nat):Int))) (cond (Y0 (0<=d)) (cond (Y0 (v=e)) (YW (.inr (.inr (⟨(i:Int),d⟩,YY)))) (YW (.inl ((i+1:Nat):Int)))) (YW (.inl ((i+1:Nat):Int))))):=by
  unfold fz;simp only[r8]
  grind
 by_cases h1:y.aY=p
 ·by_cases h2:v6<0
  ·refine .inl ⟨by grind,by grind,wU (P:=True) λy' d' u z' c1 c2 c3 c4 c5 c6 c7 c8 q1 q2 q3 q4=>c4 Yn⟩
  ·by_cases h3:0<=d
   ·by_cases h4:v=e
    ·refine .inr ⟨⟨(i:Int),d⟩,by grind,by grind,i,y,d,v6,z,rfl,hyi,?_,g6,h2,ez,ed,Yn,by grind⟩
     have g:=pP (l:=ak n) (p:=q0) Yn
     grind
    ·refine .inl ⟨by grind,by grind,wU (P:=True) λy' d' u z' c1 c2 c3 c4 c5 c6 c7 c8 q1 q2 q3 q4=>h4 Yr⟩
   ·refine .inl ⟨by grind,by grind,wU (P:=True) λy' d' u z' c1 c2 c3 c4 c5 c6 c7 c8 q1 q2 q3 q4=>c7 Yn⟩
 ·refine .inl ⟨by grind,by grind,wU (P:=True) λy' d' u z' c1 c2 c3 c4 c5 c6 c7 c8 q1 q2 q3 q4=>h1 ?_⟩
  rw[q1]at c2
  have g:=pP (nn m2)
  grind
theorem EW{l:List aq}(hl:l.length<=1048576){ae:List av}(hc:ae.length<=1048576)(ab:Int)(hb:before.length=(ak n).length)(hxq:x=bf (ak n) q0)(hx:0<=x/\x<(ak n).length)(e:Int)(Pf:wK n l ae ab (bf (ak n) ar) before x e):
 ∃t,pG n l ae ab (ak n) before (bf (ak n) ar) x e=YW t/\kJ n n ae l ab (ak n) before ar x e=YW (t,YY)/\Q5 n l ae ab (bf (ak n) ar) before x e t:=by
 have I0:=hf.aA;obtain⟨i0,hci⟩:=Pf;have hi0:i0<n.aA.length:=by grind
 have key:∀(d i:Nat),i+d=i0->∀N,d<N->∃t,aE (ji n l ae ab (ak n) before (bf (ak n) ar) x e) N (i:Int)=YW (.inr t)/\aE (fz n n ae l ab (ak n) before ar x e) N (i:Int)=YW (.inr (t,YY))/\Q5 n l ae ab (bf (ak n) ar) before x e t:=by
  intro d
  induction d with
  |zero=>
   intro i hi N hN;obtain⟨N,rfl⟩:∃M,N=M+1:=⟨N-1,Yn⟩
   rcases EX hf hl hc ab hb hxq hx e (ar:=ar) (i:=i) Yn with⟨_,_,h⟩ |⟨t,h1,h2,h3⟩
   ·exact absurd ((show i=i0 by omega)▸hci) h
   ·exact⟨t,by unfold aE;grind,by unfold aE;grind,h3⟩
  |succ d ih=>
   intro i hi N hN;obtain⟨N,rfl⟩:∃M,N=M+1:=⟨N-1,Yn⟩
   rcases EX hf hl hc ab hb hxq hx e (ar:=ar) (i:=i) Yn with⟨h1,h2,_⟩ |⟨t,h1,h2,h3⟩
   ·obtain⟨t,q1,q2,q3⟩:=ih (i+1) Yn N Yn
    exact⟨t,by unfold aE;grind,by unfold aE;grind,q3⟩
   ·exact⟨t,by unfold aE;grind,by unfold aE;grind,h3⟩
 obtain⟨t,h1,h2,h3⟩:=key i0 0 Yn NN Ys;exact⟨t,by unfold pG;grind,by unfold kJ;grind,h3⟩
omit hf in
theorem T4{o:List av}(h:o.length<=1048576):aE (jX o) NN ((aM ((o.length:Int)-1)),([]:List av))=YW o.reverse:=by
 have key:∀(m:Nat),m<=o.length->∀N,m<N->aE (jX o) N ((m:Int)-1,(o.drop m).reverse)=YW o.reverse:=by
  intro m
  induction m with
  |zero=>
   intro hm N hN;obtain⟨N,rfl⟩:∃M,N=M+1:=⟨N-1,Yn⟩;rfl
  |succ m ih=>
   intro hm N hN;obtain⟨N,rfl⟩:∃M,N=M+1:=⟨N-1,Yn⟩;have hg:aB o (((m+1:Nat):Int)-1)=YW o[m]:=by
    rw[show((m+1:Nat):Int)-1=(m:Int)by omega,aP];simp
   have hw:aM (((m+1:Nat):Int)-1-1)=(m:Int)-1:=by rw[aR Yn];omega
   have ha:cr (bn ((o.drop (m+1)).reverse.length+([o[m]]:List av).length) 16)=YW ():=ff Yr Yn;have hd:o.drop m=o[m]::o.drop (m+1):=List.drop_eq_getElem_cons Yn;have q:=ih Yn N Yn;rw[hd,List.reverse_cons]at q
   unfold aE;unfold jX;simp only[Ya (show(0:Int)<=((m+1:Nat):Int)-1 by omega),hg,VT,ha,hw]
   exact q
 have:=key o.length (VY _) NN Ys;rw[aR Yn]
 grind
def FQ(n:ah)(l:List aq)(ae:List av)(ab f aQ:Int):List (List Int):=(Ws ((ak n).length+1)).map (cf n l ae ab f aQ)
omit hf in
theorem xT{l:List aq}{ae:List av}{ab f aQ:Int}(hk:k<=(ak n).length):aB (FQ n l ae ab f aQ) (k:Int)=YW (cf n l ae ab f aQ k):=by
 rw[aP];unfold FQ
 grind
theorem OE(hn:aW n=YW YY){l:List aq}(hl:l.length<=1048576){ae:List av}(hc:ae.length<=1048576)(ab:Int)(aQ:Int)
 (hC:cu n l=YY/\0<=bf (ak n) ar/\aQ<=100000/\1<=ab):
 ∀(k:Nat) (q0:ByteArray) (x e:Int) (back:List av),x=bf (ak n) q0->0<=x->aB (cf n l ae ab (bf (ak n) ar) aQ k) x=YW e->0<=e->(k=0\/¬aB (cf n l ae ab (bf (ak n) ar) aQ (k-1)) x=YW e)->back.length+k<=(ak n).length->∀N,k<N->
  ∃HZ,aE (fR n l ae ar aQ ab (ak n) (bf (ak n) ar)) N (x,e,(k:Int),back.reverse)=YW HZ.reverse/\aE (jW n n ae l ab ar (ak n) (FQ n l ae ab (bf (ak n) ar) aQ)) N (x,e,(k:Int),back)=YW (.inl HZ)/\HZ.length<=(ak n).length:=by
 have hlg:=rM hn;have hp:(ak n).length<=40:=by have:=fv n;omega
 intro k
 induction k with
 |zero=>
  intro q0 x e back hxq hx hg he SB hlen N hN;obtain⟨N,rfl⟩:∃M,N=M+1:=⟨N-1,Yn⟩;refine⟨back,?_,?_,Yn⟩
  all_goals rfl
 |succ k ih=>
  intro q0 x e back hxq hx hg he SB hlen N hN;obtain⟨N,rfl⟩:∃M,N=M+1:=⟨N-1,Yn⟩;have zI:=nI hf hl hc ab (bf (ak n) ar) aQ;have hnx:¬aB (cf n l ae ab (bf (ak n) ar) aQ k) x=YW e:=by
   grind
  have Pf:wK n l ae ab (bf (ak n) ar) (cf n l ae ab (bf (ak n) ar) aQ k) x e:=by
   rcases(sj hf hl hc ab (bf (ak n) ar) aQ k).2 x e hg with h|h
   all_goals grind
  have hxl:x<(ak n).length:=by rw[hxq];exact(nk (ak n) q0).2
  obtain⟨t,hs,hi,i,y,d,u,z,rfl,c1,c2,c3,c4,c5,c6,c7,c8⟩:=EW hf hl hc ab (zI k) hxq ⟨hx,hxl⟩ e Pf;have hfb:=qh hf hl hc ab aQ hC (k:=k) Yn;have hw:aM (((k+1:Nat):Int)-1)=(k:Int):=by rw[aR Yn];omega
  have hy:aB n.aA (i:Int)=YW y:=by rw[aP];omega
  have ha1:cr (bn (([⟨(i:Int),d⟩]:List av).length+back.reverse.length) 16)=YW ():=ff Yr Yn;have ha2:cr (bn (back.length+([⟨(i:Int),d⟩]:List av).length) 16)=YW ():=ff Yr Yn;have Nt:=xT (n:=n) (l:=l) (ae:=ae) (ab:=ab) (f:=bf (ak n) ar) (aQ:=aQ) (k:=k) Yn;have SF:bU (ak n) y.ar=YW (bf (ak n) y.ar):=by exact ph hf _
  have a0:=nn (qD (VW c1)).1;obtain⟨HZ,q1,q2,q3⟩:=ih y.ar (bf (ak n) y.ar) u (back++[⟨(i:Int),d⟩]) rfl a0 c3 Yn (by
   by_cases BB:k=0
   ·omega
   ·refine .inr λhu=>hnx ?_
    obtain⟨k',rfl⟩:∃k',k=k'+1:=⟨k-1,Yn⟩;have qZ:=(we hf hn hl hc ab (bf (ak n) ar) aQ k').2 x e ⟨i,y,d,u,z,c1,c2,hu,c4,c5,c6,c7,c8⟩;obtain⟨w,w1,w2,w3⟩:=qZ;obtain⟨w',v1,v2,v3⟩:=(we hf hn hl hc ab (bf (ak n) ar) aQ (k'+1)).1 x w w1 w2
    grind) Yr N Yn
  refine⟨HZ,?_,?_,q3⟩
  ·have hb:fR n l ae ar aQ ab (ak n) (bf (ak n) ar) (x,e,((k+1:Nat):Int),back.reverse)=YW (.inl (bf (ak n) y.ar,u,(k:Int),[⟨(i:Int),d⟩]++back.reverse)):=by
    unfold fR;simp only[Ya (show(0:Int)<((k+1:Nat):Int)by omega),Yj,hw,hfb,VT,hs,ha1,hy,ph hf,c3]
   unfold aE
   grind
  ·have hb:jW n n ae l ab ar (ak n) (FQ n l ae ab (bf (ak n) ar) aQ) (x,e,((k+1:Nat):Int),back)=YW (.inl (bf (ak n) y.ar,u,(k:Int),back++[⟨(i:Int),d⟩])):=by
    unfold jW
    simp_all
   unfold aE
   grind
theorem CA{l:List aq}(hl:l.length<=1048576){ae:List av}(hc:ae.length<=1048576)(ab:Int)(aQ:Int)(hp:(ak n).length<=40)
 (hC:cu n l=YY/\0<=bf (ak n) ar/\aQ<=100000/\1<=ab) {x e:Int} (hx:0<=x/\x<(ak n).length) (hg:aB (cf n l ae ab (bf (ak n) ar) aQ (ak n).length) x=YW e):
 ∃k:Nat,k<=(ak n).length/\aB (cf n l ae ab (bf (ak n) ar) aQ k) x=YW e/\(k=0\/¬aB (cf n l ae ab (bf (ak n) ar) aQ (k-1)) x=YW e)/\
  aE (fQ n l ae ar aQ ab (ak n) (bf (ak n) ar) x e) NN 0=YW (k:Int)/\aE (fu n n ae l ab ar (ak n) x (FQ n l ae ab (bf (ak n) ar) aQ) e) NN 0=YW (k:Int):=by
 have zI:=nI hf hl hc ab (bf (ak n) ar) aQ;have key:∀(dd i:Nat),i+dd=(ak n).length->(i=0\/¬aB (cf n l ae ab (bf (ak n) ar) aQ (i-1)) x=YW e)->∀N,dd<N->
  ∃k:Nat,k<=(ak n).length/\aB (cf n l ae ab (bf (ak n) ar) aQ k) x=YW e/\(k=0\/¬aB (cf n l ae ab (bf (ak n) ar) aQ (k-1)) x=YW e)/\
  aE (fQ n l ae ar aQ ab (ak n) (bf (ak n) ar) x e) N (i:Int)=YW (k:Int)/\aE (fu n n ae l ab ar (ak n) x (FQ n l ae ab (bf (ak n) ar) aQ) e) N (i:Int)=YW (k:Int):=by
  intro dd
  induction dd with
  |zero=>
   intro i hi h0 N hN;obtain⟨N,rfl⟩:∃M,N=M+1:=⟨N-1,Yn⟩;obtain rfl:i=(ak n).length:=Yn;refine⟨(ak n).length,VY _,hg,h0,?_,?_⟩
   ·unfold aE fQ
    simp only[qh hf hl hc ab aQ hC (VY _),VT,hg,decide_true,V3,Yk]
   ·unfold aE fu
    simp only[xT (VY _),VT,hg,decide_true,V3,Yk]
  |succ dd ih=>
   intro i hi h0 N hN;obtain⟨N,rfl⟩:∃M,N=M+1:=⟨N-1,Yn⟩;have hw:aM ((i:Int)+1)=((i+1:Nat):Int):=by rw[aR Yn];omega
   obtain⟨v,hv,_⟩:=mj (xs:=cf n l ae ab (bf (ak n) ar) aQ i) (i:=x) ⟨hx.1,by grind⟩
   by_cases hve:v=e
   ·subst hve
    refine⟨i,Yn,hv,h0,?_,?_⟩
    ·unfold aE fQ
     simp only[qh hf hl hc ab aQ hC (show i<=(ak n).length by omega),VT,hv,decide_true,V3,Yk]
    ·unfold aE fu
     simp only[xT (show i<=(ak n).length by omega),VT,hv,decide_true,V3,Yk]
   ·obtain⟨k,q1,q2,q3,q4,q5⟩:=ih (i+1) Yn (.inr Yr) N Yn
    refine⟨k,q1,q2,q3,?_,?_⟩
    ·have hb:fQ n l ae ar aQ ab (ak n) (bf (ak n) ar) x e (i:Int)=YW (.inl ((i+1:Nat):Int)):=by
      unfold fQ;simp only[qh hf hl hc ab aQ hC (show i<=(ak n).length by omega),VT,hv,Yg hve,WD,Yj,hw]
     unfold aE
     grind
    ·have hb:fu n n ae l ab ar (ak n) x (FQ n l ae ab (bf (ak n) ar) aQ) e (i:Int)=YW (.inl ((i+1:Nat):Int)):=by
      unfold fu;simp only[xT (show i<=(ak n).length by omega),VT,hv,Yg hve,WD,Yj,hw]
     unfold aE
     grind
 obtain⟨k,q1,q2,q3,q4,q5⟩:=key (ak n).length 0 Yn (.inl rfl) NN Ys
 grind
theorem HU{l:List aq}{ae:List av}(ab:Int){aQ:Int}(h:bf (ak n) ar<0\/100000<aQ)(aA:Int):ep n n ae l ab ar aQ aA=YW []:=by
 unfold ep;rw[rj,(dH hf).1,(dH hf).2];simp only[VT,ph hf]
 grind
theorem ru{l:List aq}(hl:l.length<=1048576){ae:List av}(hc:ae.length<=1048576)(ar aY:ByteArray)(aQ ab:Int):
 ∃r,iG n l ae ar aY aQ ab=YW r/\bS n l ae ar aY aQ ab=YW r:=by
 have SF:∀p,bU (ak n) p=YW (bf (ak n) p):=λp=>by rw[rj];exact ph hf p
 unfold iG bS ry pb;rw[vB hf hl,(dH hf).1,(dH hf).2];simp only[VT,ph hf,SF]
 by_cases hB:cu n l=YY
 case neg=>
  have hB:cu n l=false:=by grind
  have e:df n l ae ar aQ ab ((ak n).length:Int)=YW []:=by
   unfold df;rw[(dH hf).2];simp only[VT,ph hf,iJ hf hl,hB,WD,Yj]
  simp_all
 have hn:=(dQ hB).1;have hlg:=rM hn;have hp:(ak n).length<=40:=by have:=fv n;omega
 simp only[hB,V3]
 by_cases zi:ab<1
 ·have e:df n l ae ar aQ ab ((ak n).length:Int)=YW []:=by
   unfold df;rw[(dH hf).2];simp only[VT,ph hf,iJ hf hl,Ya zi];simp
  simp_all
 simp only[Yg zi]
 by_cases hA:bf (ak n) ar<0\/100000<aQ
 ·have e:df n l ae ar aQ ab ((ak n).length:Int)=YW []:=by
   unfold df;rw[(dH hf).2];simp only[VT,ph hf,iJ hf hl]
   grind
  have e0:aE (dM n n ae l ab ar aQ (ak n) (bf (ak n) aY)) NN (0,([]:List (List Int)))=YW (.inr ([],YZ)):=by
   obtain⟨N,hN⟩:∃N,NN=N+1:=⟨NN-1,by rfl⟩
   rw[hN];unfold aE dM;simp only[HU hf ab hA];rfl
  simp_all
 have hC:cu n l=YY/\0<=bf (ak n) ar/\aQ<=100000/\1<=ab:=⟨hB,Yn,Yn,Yn⟩;have zI:=nI hf hl hc ab (bf (ak n) ar) aQ;have Lx:=(nk (ak n) ar).2;have hav:=fun(k:Nat) (hk:k<=(ak n).length)=>Ca hf hl hc ab hC.2.1 hC.2.2.1 Yn k Yn
 by_cases ht:bf (ak n) aY<0
 ·have e0:aE (dM n n ae l ab ar aQ (ak n) (bf (ak n) aY)) NN (0,([]:List (List Int)))=YW (.inr ([],YZ)):=by
   obtain⟨N,hN⟩:∃N,NN=N+1:=⟨NN-1,by rfl⟩
   rw[hN];have h0:=hav 0 Yn;rw[show((0:Nat):Int)=0 from rfl]at h0
   unfold aE dM
   grind
  have hfb:=qh hf hl hc ab aQ hC (k:=(ak n).length) (VY _)
  simp_all
 have e0:aE (dM n n ae l ab ar aQ (ak n) (bf (ak n) aY)) NN (0,([]:List (List Int)))=YW (.inl (FQ n l ae ab (bf (ak n) ar) aQ)):=by
  refine mD (body:=dM n n ae l ab ar aQ (ak n) (bf (ak n) aY)) (λi:Nat=>((i:Int),(Ws i).map (cf n l ae ab (bf (ak n) ar) aQ))) (n:=(ak n).length+1) (o:=.inl (FQ n l ae ab (bf (ak n) ar) aQ)) (λi hi=>?_) ?_ NN Ys
  ·have hw:aM ((i:Int)+1)=((i+1:Nat):Int):=by rw[aR Yn];omega
   have ha:cr (bn (((Ws i).map (cf n l ae ab (bf (ak n) ar) aQ)).length+([cf n l ae ab (bf (ak n) ar) aQ i]:List (List Int)).length) 24)=YW ():=ff Yr Yn;unfold dM;simp only[Ya (show(i:Int)<=((ak n).length:Int)by omega),Yj,hav i Yn,VT,Yg (show ¬(((cf n l ae ab (bf (ak n) ar) aQ i).length:Int)=0)by grind),Yk,Yg ht,A8,ha,hw,List.range_succ,X3,XI,List.map_nil]
  ·unfold dM
   simp only[Yg (show ¬(((ak n).length+1:Nat):Int)<=((ak n).length:Int)by omega)]
   rfl
 have htl:=(nk (ak n) aY).2;obtain⟨eJ,VR,_⟩:=mj (xs:=cf n l ae ab (bf (ak n) ar) aQ (ak n).length) (i:=bf (ak n) aY) ⟨Yn,by grind⟩
 rw[e0];simp only[VT,bh,xT (VY _),VR,qh hf hl hc ab aQ hC (VY _)]
 by_cases hd:eJ<0
 ·simp_all
 simp only[Yg hd,Yk];obtain⟨k,q1,q2,q3,q4,q5⟩:=CA hf hl hc ab aQ hp hC ⟨Yn,htl⟩ VR;obtain⟨back,b1,b2,b3⟩:=OE hf hn hl hc ab aQ hC k aY (bf (ak n) aY) eJ [] rfl Yn q2 Yn q3 Yr NN Ys;refine⟨(back.reverse,YY),?_,?_⟩
 ·simp only[q5,VT,b2,bh,T4 (show back.length<=1048576 by omega)]
 grind
end
def rW(l:List aq)(t:av):Int:=(l.map λb=>if b.bk=t then b.ab else 0).sum
theorem Jt{l:List aq}(hw:∀b∈l,1<=b.ab/\b.ab<=1000000)(t:av):0<=rW l t/\rW l t<=1000000*l.length:=by
 induction l with
 |nil=>simp[rW]
 |cons x xs ih=>
  have hx:=hw x List.mem_cons_self;have:=ih λb hb=>hw b (List.mem_cons_of_mem _ hb)
  unfold rW at this⊢
  rw[XI,List.sum_cons,V0]
  split<;>omega
theorem S9{l:List aq}(hl:l.length<=1000)(hw:∀b∈l,1<=b.ab/\b.ab<=1000000)(t:av):dO l t=YW (rW l t):=by
 unfold dO;have e:aE (dR l t) NN (0,0)=YW (rW l t):=by
  have:=mD (body:=dR l t) (λi:Nat=>(rW (l.take i) t,(i:Int))) (n:=l.length) (o:=rW l t) (λi hi=>?_) ?_ NN Ys
  ·simpa[rW]using this
  ·have ho:l[i]?=YW l[i]:=VV hi
   have hg:aB l (i:Int)=YW l[i]:=by rw[aP];exact ho
   have BE:aM ((i:Int)+1)=((i+1:Nat):Int):=bG hi Yn;have hb:=Jt (l:=l.take i) (λb hb=>hw b (List.mem_of_mem_take hb)) t
   have hx:=hw _ (Wp hi);have hlen:(l.take i).length<=1000:=by rw[List.length_take];omega
   unfold dR;have hs:rW (l.take (i+1)) t=rW (l.take i) t+(if l[i].bk=t then l[i].ab else 0):=by
    unfold rW;rw[<-uN ho,X3,List.sum_append];simp
   simp only[Ya (show(i:Int)<l.length by omega),Yj,hg,VT,BE]
   rw[hs]
   by_cases ht:l[i].bk=t
   ·rw[Ya ht,if_pos ht,Yj,aR Yn]
   ·rw[Yg ht,if_neg ht,Yk,Int.add_zero]
  ·unfold dR
   simp
 rw[e];rfl
end Go.Proofs.YtdilaemengjipaaGreatDoor
