/- A part of the proof of the statement in the last file of this claim: texts on the language of the program and on its functions. No condition. -/
import Derived.Test.YtdilaemengjipaaGreatDoorCA12
import Derived.Test.YtdilaemengjipaaGreatDoorCA26
import Derived.Test.YtdilaemengjipaaGreatDoorCA17
import Derived.Test.YtdilaemengjipaaGreatDoorCA21
import Derived.Test.YtdilaemengjipaaGreatDoorCA11
import Derived.Test.YtdilaemengjipaaGreatDoorCA1
set_option linter.unusedVariables false
set_option linter.unusedSimpArgs false
set_option linter.unusedSectionVars false
open Option renaming some->YH,none->YI
open Bool renaming true->YJ,false->YK
open Decidable renaming decide->YL
namespace Go.Proofs.YtdilaemengjipaaGreatDoor
open List renaming findIdx?_eq_some_iff_getElem->XF,getElem_of_mem->Wc,mem_of_getElem?->VV,getElem_mem->Wm,getElem?_eq_getElem->VU,length_nil->VY,replicate->V7,length_cons->VZ,getElem?_eq_some_iff->VT,range->Wg,map_append->Xw,map_cons->WX
open Sum renaming inl->XI
open Option renaming bind_some->VS,map_some->WB
open Bool renaming not_true->V5,not_false->Wr
open Option.some renaming inj->VW
open Nat renaming le_refl->VX
set_option maxRecDepth 10000
open Go.RowKit
variable {au p q0:ByteArray}{before gG:List Int}{i j x:Int}{k:Nat}{y:bK}{α:Type}{v:α}
theorem na(l:List ByteArray)(p:ByteArray):-1<=bf l p/\bf l p<l.length:=by
 unfold bf
 cases h:l.findIdx? λy=>YL (y=p)with
 |none=>grind
 |some k=>
  have:=(XF.1 h).1
  simp_all
theorem nb{l:List ByteArray}(h:p∈l):0<=bf l p:=by
 unfold bf
 cases h':l.findIdx? λy=>YL (y=p)with
 |none=>
  grind
 |some k=>simp
theorem pL{n:aj}{l:bK}(h:l∈n.aA):l.au∈ak n/\l.a8∈ak n:=by
 obtain⟨i,hi,rfl⟩:=Wc h;obtain⟨a,b⟩:=Ev hi;unfold ak;exact⟨r8.2 (.inl (VV a)),r8.2 (.inl (VV b))⟩
theorem ki{xs:List α}(h:0<=i/\i<xs.length):∃x,aB xs i=YH x/\x∈xs:=by
 have bU:i.toNat<xs.length:=X9;exact⟨xs[i.toNat],by unfold aB;simp_all,Wm bU⟩
section
variable {n:aj} (hf:cO n)
include hf
theorem O4:(ak n).length<=2097152:=by have:=ff n;have:=hf.aA;omega
theorem oZ(p:ByteArray):ca (ak n) p=YH (bf (ak n) p):=oN (by have:=O4 hf;omega) p
theorem LN(bD day:Int):∃b,cA n bD day=YH b:=(rm hf bD day).2
theorem Cn{l:List aq}(hl:l.length<=1048576){ah:List av}(hc:ah.length<=1048576){bD:Int}(hy:aB n.aA bD=YH y)(aP ab:Int):aJ (cF n l ah bD aP ab) λr=>True:=by
 unfold cF;have Ik:aJ (aD (cK n l ah bD aP ab) NN 0) λr=>True:=by
  refine aJ.loop (λk s=>∃i:Nat,s=(i:Int)/\i+k=61) (λk s hs=>?_) NN 61 0 ⟨0,rfl,rfl⟩ Yc
  obtain⟨i,rfl,hk⟩:=hs;unfold cK;refine aJ.cond (λhd=>?_) λhd=>aJ.ret trivial
  have hi:=X3 hd;have hw:aI ((i:Int)+1)=((i+1:Nat):Int):=by rw[aR X9];omega
  have go:∀{σ:Type},rN (λk (s:Int)=>∃i:Nat,s=(i:Int)/\i+k=61) (λr:Unit⊕Int=>True) k (XI (aI ((i:Int)+1))):=⟨k-1,X9,i+1,hw,X9⟩
  obtain⟨b,hb⟩:=LN hf bD (i:Int);obtain⟨v,hv⟩:=qg (n:=n) (t:=⟨bD,(i:Int)⟩) hy;obtain⟨q,hq⟩:=sX hl (⟨bD,(i:Int)⟩:av);rw[hb,VS];refine aJ.cond (λ_=>?_) λ_=>aJ.ret (go (σ:=Unit))
  rw[hv,VS];refine aJ.cond (λ_=>?_) λ_=>aJ.ret (go (σ:=Unit))
  rw[jX,jk hc,VS];refine aJ.cond (λ_=>?_) λ_=>aJ.ret (go (σ:=Unit))
  rw[hy,VS,hq,VS];exact aJ.cond (λ_=>aJ.ret trivial) λ_=>aJ.ret (go (σ:=Unit))
 refine aJ.bind Ik λr _=>?_
 cases r with
 |inl u=>exact aJ.ret trivial
 |inr v=>exact aJ.ret trivial
theorem Cm{bD:Int}(hy:aB n.aA bD=YH y)(aP:Int):aJ (iY n bD aP) λr=>True:=by
 unfold iY;have Ik:aJ (aD (kg n bD aP) NN 0) λr=>True:=by
  refine aJ.loop (λk s=>∃i:Nat,s=(i:Int)/\i+k=61) (λk s hs=>?_) NN 61 0 ⟨0,rfl,rfl⟩ Yc
  obtain⟨i,rfl,hk⟩:=hs;unfold kg;refine aJ.cond (λhd=>?_) λhd=>aJ.ret trivial
  have hi:=X3 hd;have hw:aI ((i:Int)+1)=((i+1:Nat):Int):=by rw[aR X9];omega
  have go:∀{σ:Type},rN (λk (s:Int)=>∃i:Nat,s=(i:Int)/\i+k=61) (λr:Unit⊕Int=>True) k (XI (aI ((i:Int)+1))):=⟨k-1,X9,i+1,hw,X9⟩
  obtain⟨b,hb⟩:=LN hf bD (i:Int);obtain⟨v,hv⟩:=qg (n:=n) (t:=⟨bD,(i:Int)⟩) hy;rw[hb,VS];refine aJ.cond (λ_=>?_) λ_=>aJ.ret (go (σ:=Unit))
  rw[hv,VS];exact aJ.cond (λ_=>aJ.ret trivial) λ_=>aJ.ret (go (σ:=Unit))
 refine aJ.bind Ik λr _=>?_
 cases r with
 |inl u=>exact aJ.ret trivial
 |inr v=>exact aJ.ret trivial
omit hf in
theorem we(a:Int)(b:Bool):aJ (cZ n a b) λr=>True:=by
 unfold cZ;exact aJ.cond (λ_=>aJ.ret trivial) λ_=>aJ.ret trivial
omit hf in
theorem FV(a b:Int):aJ (fB a b) λr=>True:=by
 unfold fB;exact aJ.cond (λ_=>aJ.ret trivial) λ_=>aJ.ret trivial
theorem zd(f aP:Int):aJ (gU (ak n) f aP) λr=>r.length=(ak n).length:=by
 have hp:=O4 hf;unfold gU;refine aJ.bind (P:=λo=>o.length=(ak n).length) ?_ λo ho=>aJ.ret ho
 refine aJ.loop (λk s=>∃i:Nat,s.1=(i:Int)/\i+k=(ak n).length/\s.2.length=i) (λk s hs=>?_) NN (ak n).length _ ⟨0,rfl,X9,rfl⟩ Yc
 obtain⟨i,hi,hk,hlen⟩:=hs;unfold gV;rw[hi];refine aJ.cond (λhd=>?_) λhd=>aJ.ret (by have:=X4 hd;simp only[rN];omega)
 have bU:=X3 hd;have hw:aI ((i:Int)+1)=((i+1:Nat):Int):=by rw[aR X9];omega
 rw[hw];have go:∀(x:Int),rN (λk (s:Int×List Int)=>∃i:Nat,s.1=(i:Int)/\i+k=(ak n).length/\s.2.length=i) (λo:List Int=>o.length=(ak n).length) k (XI (((i+1:Nat):Int),s.2++[x])):=λx=>⟨k-1,X9,i+1,rfl,X9,by simp_all⟩
 refine aJ.cond (λ_=>aJ.bind (FV _ _) λy _=>aJ.bW (jj Yd X9) (aJ.ret (go y))) λ_=>aJ.bW (jj Yd X9) (aJ.ret (go _))
theorem Ke{l:List aq}(hb:cn n l=YJ){b:aq}(h:b∈l):fV n b.bj=true:=by
 obtain⟨i,hi,rfl⟩:=Wc h;have:=(xF hb hi).1;unfold Mg at this
 rw[VU hi]at this
 simp only[Bool.and_eq_true]at this
 exact this.1.1.1
omit hf in
theorem TQ{l:List aq}(hl:l.length<=1048575)(b:aq):aJ (nk l b) λr=>r.length=l.length+1:=by
 unfold nk;refine aJ.bind (P:=λo:Int=>0<=o/\o<=l.length) ?_ λo ho=>?_
 ·refine aJ.loop (λk s=>∃i:Nat,s=(i:Int)/\i+k=l.length) (λk s hs=>?_) NN l.length 0 ⟨0,rfl,X9⟩ Yc
  obtain⟨i,rfl,hk⟩:=hs;unfold pU;refine aJ.cond (λhd=>?_) λhd=>aJ.ret (by simp only[rN];omega)
  have bU:=X3 hd;have hw:aI ((i:Int)+1)=((i+1:Nat):Int):=by rw[aR X9];omega
  obtain⟨y,hy,hm⟩:=ki (xs:=l) (i:=(i:Int)) ⟨X9,bU⟩;rw[hy,VS,Bt,VS];exact aJ.cond (λ_=>aJ.ret ⟨k-1,X9,i+1,hw,X9⟩) λ_=>aJ.ret (by simp only[rN];omega)
 ·have l1:(cH l 0 o).length=o.toNat:=by unfold cH;simp_all
  have l2:(cH l o (l.length:Int)).length=l.length-o.toNat:=by unfold cH;simp
  refine aJ.bW Yv ?_;rw[qR X9,VS];refine aJ.bW (jj Yd X9) (aJ.bW Yv (aJ.bW (jj Yd X9) (aJ.ret ?_)))
  grind
theorem Qt{l:List aq}(hl:l.length<=1048000)(bw ab:Int)(aG:List av):aJ (ct n l bw ab aG) λr=>r.1.length<=l.length+20/\(r.2=YJ->r.1.length<=120):=by
 unfold ct;rw[qR X9,VS,il hf X9,VS];refine aJ.cond (λ_=>aJ.ret ⟨by simp,λh=>by cases h⟩) λ_=>aJ.cond (λ_=>aJ.ret ⟨by simp,λh=>by cases h⟩) λhd=>?_
 have hle:=X4 hd;refine aJ.bind (P:=λo:List aq=>o.length<=l.length+20) ?_ λo ho=>?_
 ·refine aJ.loop (λk s=>∃i:Nat,s.1=(i:Int)/\i+k=aG.length/\s.2.length=l.length+i) (λk s hs=>?_) NN aG.length _ ⟨0,rfl,X9,rfl⟩ Yc
  obtain⟨i,hi,hk,hlen⟩:=hs;unfold lR;rw[hi];refine aJ.cond (λhd=>?_) λhd=>aJ.ret (by simp only[rN];omega)
  have bU:=X3 hd;have hw:aI ((i:Int)+1)=((i+1:Nat):Int):=by rw[aR X9];omega
  obtain⟨y,hy,hm⟩:=ki (xs:=aG) (i:=(i:Int)) ⟨X9,bU⟩;rw[hy,VS,hw];exact aJ.bind (TQ X9 _) λr hr=>aJ.ret ⟨k-1,X9,i+1,rfl,X9,by grind⟩
 ·rw[il hf X9,VS]
  refine aJ.cond (λ_=>aJ.ret ⟨by simp,λh=>by cases h⟩) λhb=>aJ.ret ⟨ho,λ_=>(dH (n:=n) (l:=o) Yg).2⟩
end
theorem pK{l:List ByteArray}(h:0<=bf l p):aB l (bf l p)=YH p:=by
 unfold bf at h⊢
 cases h':l.findIdx? λy=>YL (y=p)with
 |none=>simp_all
 |some k=>
  obtain⟨h1,h2,_⟩:=XF.1 h';have h2:=X3 h2;simp only[Option.elim];rw[aS,VU h1,h2]
theorem H4{xs:List α}{v x:α}(hi:0<=i)(h:aB (xs.set (Int.toNat i) v) j=YH x):(j=i/\x=v)\/aB xs j=YH x:=by
 obtain⟨h0,h1⟩:=mw h
 by_cases he:j=i
 ·grind
 ·refine .inr ?_
  rw[List.getElem?_set_ne X9]at h1
  unfold aB;simp_all
def wk(n:aj)(l:List aq)(ah:List av)(ab f:Int)(r:List Int)(x v:Int):Prop:=
 ∃(i:Nat) (y:bK) (d u z:Int),n.aA[i]?=YH y/\bf (ak n) y.a8=x/\aB r (bf (ak n) y.au)=YH u/\¬u<0/\cZ n u (YL (bf (ak n) y.au=f))=YH z/\cF n l ah (i:Int) z ab=YH d/\¬d<0/\bl n ⟨(i:Int),d⟩=YH v
section
variable {n:aj} (hf:cO n)
include hf
theorem CR{l:List aq}(hl:l.length<=1048576){ah:List av}(hc:ah.length<=1048576)(ab:Int)(hb:gG.length=(ak n).length)(f:Int):aJ (eu n l ah ab (ak n) gG f) λr=>r.length=(ak n).length/\∀x v,aB r x=YH v->aB gG x=YH v\/wk n l ah ab f gG x v:=by
 have hp:=O4 hf;have Il:=hf.aA;unfold eu;refine aJ.bind (P:=λr=>r=gG) ?_ λr hr=>?_
 ·by_cases h1:gG.length<=1048576
  ·exact aJ.of (wZ h1) rfl
  ·unfold eA
   exact aJ.bW (jj Yd X9) (aJ.ret Ye)
 ·subst hr
  refine aJ.bind (P:=λo=>o.length=(ak n).length/\∀x v,aB o x=YH v->aB r x=YH v\/wk n l ah ab f r x v) ?_ λo ho=>aJ.ret ho
  refine aJ.loop (fun(k:Nat) (s:Int×List Int)=>∃i:Nat,s.1=(i:Int)/\i+k=n.aA.length/\s.2.length=(ak n).length/\∀x v,aB s.2 x=YH v->aB r x=YH v\/wk n l ah ab f r x v) (λk s hs=>?_) NN n.aA.length _ ⟨0,rfl,X9,hb,λx v h=>.inl h⟩ Yc
  obtain⟨i,hi,hk,hlen,Od⟩:=hs;unfold eB;rw[hi];refine aJ.cond (λhd=>?_) λhd=>aJ.ret ⟨hlen,Od⟩
  have bU:=X3 hd;have hw:aI ((i:Int)+1)=((i+1:Nat):Int):=by rw[aR X9];omega
  obtain⟨y,hy,hm⟩:=ki (xs:=n.aA) (i:=(i:Int)) ⟨X9,bU⟩;obtain⟨m1,m2⟩:=pL hm;have a0:=nb m1;have a1:=(na (ak n) y.au).2;have b0:=nb m2;have b1:=(na (ak n) y.a8).2;obtain⟨v6,g6,_⟩:=ki (xs:=r) (i:=bf (ak n) y.au) ⟨a0,X9⟩;obtain⟨v11,g11,_⟩:=ki (xs:=s.2) (i:=bf (ak n) y.a8) ⟨b0,X9⟩;simp only[hy,VS,oZ hf,g6,hw];have go:∀(s':List Int),s'.length=(ak n).length->(∀x v,aB s' x=YH v->aB r x=YH v\/wk n l ah ab f r x v)->rN (fun(k:Nat) (s:Int×List Int)=>∃i:Nat,s.1=(i:Int)/\i+k=n.aA.length/\s.2.length=(ak n).length/\∀x v,aB s.2 x=YH v->aB r x=YH v\/wk n l ah ab f r x v) (λo:List Int=>o.length=(ak n).length/\∀x v,aB o x=YH v->aB r x=YH v\/wk n l ah ab f r x v) k (XI (((i+1:Nat):Int),s')):=λs' h' h''=>⟨k-1,X9,i+1,rfl,X9,h',h''⟩
  refine aJ.cond (λ_=>aJ.ret (go _ hlen Od)) λhu=>?_
  obtain⟨z,ez,_⟩:=we (n:=n) v6 (YL (bf (ak n) y.au=f));obtain⟨d,ed,_⟩:=Cn hf hl hc hy z ab;rw[ez,VS,ed,VS];refine aJ.cond (λ_=>aJ.ret (go _ hlen Od)) λDv=>?_
  obtain⟨e,he⟩:=oL (n:=n) (t:=⟨(i:Int),d⟩) hy;simp only[he,VS,g11];have hyi:n.aA[i]?=YH y:=by rw[aS]at hy;omega
  have new:∀x v,aB (s.2.set (Int.toNat (bf (ak n) y.a8)) e) x=YH v->aB r x=YH v\/wk n l ah ab f r x v:=λx v h=>by
   rcases H4 b0 h with⟨rfl,rfl⟩ |h
   ·exact .inr ⟨i,y,d,v6,z,hyi,rfl,g6,X4 hu,ez,ed,X4 Dv,he⟩
   simp_all
  exact aJ.cond (λ_=>aJ.ret (go _ Yg new)) λ_=>aJ.cond (λ_=>aJ.ret (go _ Yg new)) λ_=>aJ.ret (go _ hlen Od)
end
def Gp(n:aj)(l:List aq)(ah:List av)(ab f:Int)(r:List Int):List Int:=(eu n l ah ab (ak n) r f).getD []
def cd(n:aj)(l:List aq)(ah:List av)(ab f aP:Int):Nat->List Int
 |0=>(gU (ak n) f aP).getD []
 |k+1=>Gp n l ah ab f (cd n l ah ab f aP k)
section
variable {n:aj} (hf:cO n) {l:List aq} (hl:l.length<=1048576) {ah:List av} (hc:ah.length<=1048576) (ab f aP:Int)
include hf hl hc
theorem nw:∀k,(cd n l ah ab f aP k).length=(ak n).length
 |0=>by
  obtain⟨r,e,h⟩:=zd hf f aP;unfold cd;simp_all
 |k+1=>by
  obtain⟨r,e,h,_⟩:=CR hf hl hc ab (nw k) f;unfold cd Gp;simp_all
theorem r7(k:Nat):eu n l ah ab (ak n) (cd n l ah ab f aP k) f=YH (cd n l ah ab f aP (k+1))/\∀x v,aB (cd n l ah ab f aP (k+1)) x=YH v->aB (cd n l ah ab f aP k) x=YH v\/wk n l ah ab f (cd n l ah ab f aP k) x v:=by
 obtain⟨r,e,h,h'⟩:=CR hf hl hc ab (nw hf hl hc ab f aP k) f;have:cd n l ah ab f aP (k+1)=r:=by show(eu n l ah ab (ak n) (cd n l ah ab f aP k) f).getD []=r;simp_all
 simp_all
theorem qc(hC:cn n l=YJ/\0<=bf (ak n) au/\aP<=100000/\1<=ab)(hk:k<=(ak n).length):cV n l ah au aP ab (k:Int)=YH (cd n l ah ab (bf (ak n) au) aP k):=by
 have hp:=O4 hf;obtain⟨r0,e0,_⟩:=zd hf (bf (ak n) au) aP;have h0:cd n l ah ab (bf (ak n) au) aP 0=r0:=by unfold cd;simp_all
 unfold cV;rw[(dh hf).2];simp only[VS,oZ hf,il hf hl,hC.1,V5,X6,X2 (show ¬bf (ak n) au<0 by omega),X2 (show ¬100000<aP by omega),X2 (show ¬ab<1 by omega),X2 (show ¬(k:Int)<0 by omega),e0]
 have e:aD (iN n l ah ab (k:Int) (ak n) (bf (ak n) au)) NN (0,cd n l ah ab (bf (ak n) au) aP 0)=YH (cd n l ah ab (bf (ak n) au) aP k):=by
  refine my (body:=iN n l ah ab (k:Int) (ak n) (bf (ak n) au)) (λi:Nat=>((i:Int),cd n l ah ab (bf (ak n) au) aP i)) (n:=k) (o:=cd n l ah ab (bf (ak n) au) aP k) (λi hi=>?_) ?_ NN Yc
  ·unfold iN
   rw[X1 (show(i:Int)<(k:Int)by omega),X1 (show(i:Int)<((ak n).length:Int)by omega),X5,X5,(r7 hf hl hc ab _ aP i).1,VS,aR X9]
   rfl
  ·unfold iN
   simp
 simp_all
end
section
variable {n:aj} (hf:cO n)
include hf
end
theorem Jj:@kv=@cZ:=rfl
def ZcM{σ ο ο':Type}(h:ο->ο'):σ⊕ο->σ⊕ο'
 |.inl s=>.inl s
 |.inr o=>.inr (h o)
theorem Ek{σ ο ο':Type}{b1:σ->Option (σ⊕ο)}{b2:σ->Option (σ⊕ο')}(h:ο->ο')(hb:∀s,b2 s=(b1 s).map (ZcM h)):∀(N:Nat) (s:σ),aD b2 N s=(aD b1 N s).map h
 |0,s=>rfl
 |N+1,s=>by
  have ih:=Ek h hb N;unfold aD;rw[hb s]
  cases h1:b1 s with
  |none=>rfl
  |some r=>
   cases r with
   |inl s'=>exact ih s'
   |inr o=>rfl
theorem NF{α β γ:Type}(x:Option α)(f:α->Option β)(g:β->γ):(x.bind f).map g=x.bind λa=>(f a).map g:=by cases x<;>rfl
theorem NL{β γ:Type}(b:Bool)(x y:Option β)(g:β->γ):(cond b x y).map g=cond b (x.map g) (y.map g):=by grind
def Q4(bD:Int):Unit⊕Int->Unit⊕(av×Bool)
 |.inl u=>.inl u
 |.inr d=>.inr ((⟨bD,d⟩:av),YJ)
section
variable {n:aj} (hf:cO n)
include hf
theorem N7(l:List aq)(ah:List av)(bD aP ab:Int)(s:Int):gq bD aP n ah l ab s=(cK n l ah bD aP ab s).map (ZcM (Q4 bD)):=by
 unfold gq cK;rw[(rm hf bD s).1,qf,zp,jX];simp only[NL,NF,WB,ZcM,Q4]
theorem Mv{l:List aq}(hl:l.length<=1048576){ah:List av}(hc:ah.length<=1048576){bD:Int}(hy:aB n.aA bD=YH y)(aP ab:Int):
 ∃d,cF n l ah bD aP ab=YH d/\ig bD aP n ah l ab=YH (if d<0 then((⟨0,0⟩:av),YK)else((⟨bD,d⟩:av),YJ)):=by
 have Ik:aJ (aD (cK n l ah bD aP ab) NN 0) λr=>∀d,r=.inr d->0<=d:=by
  refine aJ.loop (λk s=>∃i:Nat,s=(i:Int)/\i+k=61) (λk s hs=>?_) NN 61 0 ⟨0,rfl,rfl⟩ Yc
  obtain⟨i,rfl,hk⟩:=hs;refine aJ.cond (λhd=>?_) λhd=>aJ.ret (λd h=>by cases h)
  have hi:=X3 hd;have hw:aI ((i:Int)+1)=((i+1:Nat):Int):=by rw[aR X9];omega
  have go:rN (λk (s:Int)=>∃i:Nat,s=(i:Int)/\i+k=61) (λr:Unit⊕Int=>∀d,r=.inr d->0<=d) k (XI (aI ((i:Int)+1))):=⟨k-1,X9,i+1,hw,X9⟩
  obtain⟨b,hb⟩:=LN hf bD (i:Int);obtain⟨v,hv⟩:=qg (n:=n) (t:=⟨bD,(i:Int)⟩) hy;obtain⟨q,hq⟩:=sX hl (⟨bD,(i:Int)⟩:av);rw[hb];refine aJ.cond (λ_=>?_) λ_=>aJ.ret go
  rw[hv];refine aJ.cond (λ_=>?_) λ_=>aJ.ret go
  rw[jX,jk hc];refine aJ.cond (λ_=>?_) λ_=>aJ.ret go
  rw[hy,hq];exact aJ.cond (λ_=>aJ.ret (λd h=>by grind)) λ_=>aJ.ret go
 obtain⟨r,e,hr⟩:=Ik;have e2:=Ek (Q4 bD) (N7 hf l ah bD aP ab) NN (0:Int);rw[e]at e2
 unfold cF ig;rw[e,e2]
 cases r with
 |inl u=>exact⟨-1,rfl,rfl⟩
 |inr d=>exact⟨d,rfl,by rw[if_neg Yd];rfl⟩
theorem R1{l:List aq}(hl:l.length<=1048576){ah:List av}(hc:ah.length<=1048576)(ab aA f:Int)(hb:gG.length=(ak n).length)(k:Int){OK:List Int}(Zhs:OK.length=(ak n).length)(ch:Bool){i:Nat}(hi:i<n.aA.length):
 ∃OL ch',eB n l ah ab (ak n) gG f ((i:Int),OK)=YH (.inl (((i+1:Nat):Int),OL))/\de n n ah l ab aA (ak n) f (k,gG) ((i:Int),ch,OK)=YH (.inl (((i+1:Nat):Int),ch',OL))/\OL.length=(ak n).length/\((ch'=ch/\OL=OK)\/ch'=YJ):=by
 have Il:=hf.aA;have hw:aI ((i:Int)+1)=((i+1:Nat):Int):=by rw[aR X9];omega
 obtain⟨y,hy,hm⟩:=ki (xs:=n.aA) (i:=(i:Int)) ⟨X9,X9⟩;obtain⟨m1,m2⟩:=pL hm;have a0:=nb m1;have a1:=(na (ak n) y.au).2;have b0:=nb m2;have b1:=(na (ak n) y.a8).2;obtain⟨v6,g6,_⟩:=ki (xs:=gG) (i:=bf (ak n) y.au) ⟨a0,X9⟩;obtain⟨v11,g11,_⟩:=ki (xs:=OK) (i:=bf (ak n) y.a8) ⟨b0,X9⟩;obtain⟨z,ez,_⟩:=we (n:=n) v6 (YL (bf (ak n) y.au=f));obtain⟨d,ed,ef⟩:=Mv hf hl hc hy z ab;obtain⟨e,he⟩:=oL (n:=n) (t:=⟨(i:Int),d⟩) hy;unfold eB de;have RC:∀p,bS (ak n) p=YH (bf (ak n) p):=λp=>by exact oZ hf p
 simp only[hy,VS,oZ hf,RC,Jj,g11,rU]
 grind
theorem KN{l:List aq}(hl:l.length<=1048576){ah:List av}(hc:ah.length<=1048576)(ab aA f:Int)(hb:gG.length=(ak n).length)(zi:gG.length<=1048576)(k:Int):
 ∃r ch,eu n l ah ab (ak n) gG f=YH r/\aD (de n n ah l ab aA (ak n) f (k,gG)) NN (0,YK,gG)=YH (ch,r)/\r.length=(ak n).length/\(ch=YK->r=gG):=by
 have Il:=hf.aA;have key:∀(d i:Nat),i+d=n.aA.length->∀(OK:List Int) (ch:Bool),OK.length=(ak n).length->(ch=YK->OK=gG)->∀N,d<N->
  ∃r ch',aD (eB n l ah ab (ak n) gG f) N ((i:Int),OK)=YH r/\aD (de n n ah l ab aA (ak n) f (k,gG)) N ((i:Int),ch,OK)=YH (ch',r)/\r.length=(ak n).length/\(ch'=YK->r=gG):=by
  intro d
  induction d with
  |zero=>
   intro i hi OK ch h1 h2 N hN;obtain⟨N,rfl⟩:∃M,N=M+1:=⟨N-1,X9⟩;refine⟨OK,ch,?_,?_,h1,h2⟩
   ·unfold aD eB
    grind
   ·unfold aD de
    grind
  |succ d ih=>
   intro i hi OK ch h1 h2 N hN;obtain⟨N,rfl⟩:∃M,N=M+1:=⟨N-1,X9⟩;obtain⟨OL,ch',e1,e2,h3,h4⟩:=R1 hf hl hc ab aA f hb k h1 ch (show i<n.aA.length by omega)
   obtain⟨r,c,q1,q2,q3,q4⟩:=ih (i+1) X9 OL ch' h3 (λh=>by
    grind) N X9
   refine⟨r,c,?_,?_,q3,q4⟩
   ·unfold aD;grind
   ·unfold aD;grind
 obtain⟨r,ch,q1,q2,q3,q4⟩:=key n.aA.length 0 X9 gG YK hb (λ_=>rfl) NN Yc
 have e0:((0:Nat):Int)=0:=rfl;rw[e0]at q1 q2
 refine⟨r,ch,?_,q2,q3,q4⟩;unfold eu;rw[wZ zi,VS,q1];rfl
omit hf in
theorem Bv{l:List aq}{ah:List av}{ab f aP:Int}{i:Nat}(h:cd n l ah ab f aP (i+1)=cd n l ah ab f aP i):∀k,cd n l ah ab f aP (i+k)=cd n l ah ab f aP i
 |0=>rfl
 |k+1=>by
  have ih:=Bv h k;have e1:cd n l ah ab f aP (i+(k+1))=Gp n l ah ab f (cd n l ah ab f aP (i+k)):=rfl;have e2:cd n l ah ab f aP (i+1)=Gp n l ah ab f (cd n l ah ab f aP i):=rfl
  grind
theorem K5{l:List aq}(hl:l.length<=1048576){ah:List av}(hc:ah.length<=1048576)(ab f aP:Int)(hp:(ak n).length<=1048576)(aA:Nat)(Za2:aA<=1048576):
 aD (dc n n ah l ab (aA:Int) (ak n) f) NN (0,cd n l ah ab f aP 0)=YH (cd n l ah ab f aP aA):=by
 have key:∀(d i:Nat),i+d=aA->∀N,d<N->aD (dc n n ah l ab (aA:Int) (ak n) f) N ((i:Int),cd n l ah ab f aP i)=YH (cd n l ah ab f aP aA):=by
  intro d
  induction d with
  |zero=>
   intro i hi N hN;obtain⟨N,rfl⟩:∃M,N=M+1:=⟨N-1,X9⟩;have:i=aA:=X9;subst this;unfold aD dc;simp only[X2 (show ¬(i:Int)<(i:Int)by omega),X6];rfl
  |succ d ih=>
   intro i hi N hN;obtain⟨N,rfl⟩:∃M,N=M+1:=⟨N-1,X9⟩;have zi:=nw hf hl hc ab f aP i;have wI:aI ((i:Int)+1)=((i+1:Nat):Int):=by rw[aR X9];omega
   obtain⟨r,ch,q1,q2,q3,q4⟩:=KN hf hl hc ab (aA:Int) f zi X9 (i:Int);have hr:cd n l ah ab f aP (i+1)=r:=by
    have:=(r7 hf hl hc ab f aP i).1;rw[q1]at this
    exact(VW this).symm
   have ha:bW (bm ((([]:List Int):List Int).length+(cd n l ah ab f aP i).length) 8)=YH ():=by
    simp only[VY];exact xJ X9 X9
   have body:dc n n ah l ab (aA:Int) (ak n) f ((i:Int),cd n l ah ab f aP i)=(cond (!ch) (YH (.inr r)) (YH (.inl (((i+1:Nat):Int),r)))):=by
    unfold dc;simp only[X1 (show(i:Int)<(aA:Int)by omega),X5,ha,VS,List.nil_append,q2,wI]
   unfold aD;rw[body]
   cases ch with
   |false=>
    have e:=q4 rfl;rw[<-hr]at e
    have hconst:=Bv e (d+1);rw[show i+(d+1)=aA by omega]at hconst
    show YH r=_;rw[<-hr,e,hconst]
   |true=>
    rw[<-hr];exact ih (i+1) X9 N X9
 exact key aA 0 X9 NN Yc
theorem Fy(hp:(ak n).length<=1048576)(f:Int)(hf0:0<=f/\f<((ak n).length:Int))(aP:Int):gU (ak n) f aP=YH ((V7 (ak n).length (-1:Int)).set f.toNat (if 0 > aP then 0 else aP)):=by
 have Zb5:fB aP 0=YH (if 0 > aP then 0 else aP):=by
  unfold fB
  grind
 generalize hm:(if 0 > aP then 0 else aP:Int)=mx at Zb5⊢
 have hLl:((V7 (ak n).length (-1:Int)).set f.toNat mx).length=(ak n).length:=by simp
 have hLi:∀i:Nat,i<(ak n).length->((V7 (ak n).length (-1:Int)).set f.toNat mx)[i]?=YH (if(i:Int)=f then mx else -1):=λi hi=>by
  grind
 generalize (V7 (ak n).length (-1:Int)).set f.toNat mx=L at hLl hLi⊢
 have e:aD (gV (ak n) f aP) NN (0,[])=YH L:=by
  have:=my (body:=gV (ak n) f aP) (λi:Nat=>((i:Int),L.take i)) (n:=(ak n).length) (o:=L) (λi hi=>?_) ?_ NN Yc
  ·grind
  ·have hw:aI ((i:Int)+1)=((i+1:Nat):Int):=by rw[aR X9];omega
   have hx:=hLi i hi;have ha:∀x:Int,bW (bm ((L.take i).length+([x]:List Int).length) 8)=YH ():=λx=>eV Yd X9
   unfold gV;rw[<-uz hx]
   grind
  ·unfold gV
   grind
 unfold gU
 grind
theorem Bq{l:List aq}(hl:l.length<=1048576){ah:List av}(hc:ah.length<=1048576)(ab:Int)(h0:0<=bf (ak n) au){aP:Int}(Dt:aP<=100000)(hp:(ak n).length<=1048576)(aA:Nat)(Za2:aA<=1048576):
 dV n n ah l ab au aP (aA:Int)=YH (cd n l ah ab (bf (ak n) au) aP aA):=by
 have bU:=(na (ak n) au).2;have e0:aD (eH n n ah l ab aP (aA:Int) (ak n) (bf (ak n) au)) NN (0,[])=YH (V7 (ak n).length (-1:Int)):=by
  refine my (body:=eH n n ah l ab aP (aA:Int) (ak n) (bf (ak n) au)) (λi:Nat=>((i:Int),V7 i (-1:Int))) (n:=(ak n).length) (o:=V7 (ak n).length (-1:Int)) (λi hi=>?_) ?_ NN Yc
  ·have hw:aI ((i:Int)+1)=((i+1:Nat):Int):=by rw[aR X9];omega
   have ha:bW (bm ((V7 i (-1:Int)).length+([(-1)]:List Int).length) 8)=YH ():=eV (by simp only[List.length_replicate,VZ,VY];omega) X9
   unfold eH;simp only[X1 (show(i:Int)<((ak n).length:Int)by omega),X5,ha,VS,hw,List.replicate_succ']
  ·unfold eH
   simp
 have Zb1:cd n l ah ab (bf (ak n) au) aP 0=(V7 (ak n).length (-1:Int)).set (bf (ak n) au).toNat (if 0 > aP then 0 else aP):=by
  unfold cd;rw[Fy hf hp _ ⟨h0,bU⟩];rfl
 obtain⟨x,hx,_⟩:=ki (xs:=V7 (ak n).length (-1:Int)) (i:=bf (ak n) au) ⟨h0,by rw[List.length_replicate];exact bU⟩
 unfold dV;rw[qU,(dh hf).1,(dh hf).2];simp only[VS,oZ hf,X2 (show ¬bf (ak n) au<0 by omega),X2 (show ¬100000<aP by omega),X2 (show ¬(aA:Int)<0 by omega),X6,e0,hx,<-Zb1,K5 hf hl hc ab _ aP hp aA Za2]
end
section
variable {n:aj} (hf:cO n)
include hf
structure Found(n:aj)(l:List aq)(ah:List av)(aP ab:Int)(t:av):Prop where
 bj:fV n t=YJ
 start:aP<=cM n t
 open_:dp ah t=YH YK
 iU:∃y q,aB n.aA t.bD=YH y/\dD l t=YH q/\ab<=aI (y.iU-q)
theorem IL{l:List aq}{ah:List av}{bD aP ab d:Int}(h:cF n l ah bD aP ab=YH d):d=-1\/Found n l ah aP ab ⟨bD,d⟩:=by
 unfold cF at h
 cases e:aD (cK n l ah bD aP ab) NN 0 with
 |none=>grind
 |some r=>
  cases r with
  |inl u=>grind
  |inr d'=>
   refine .inr ?_;have:=vU (body:=cK n l ah bD aP ab) (P:=λr=>∀d,r=.inr d->Found n l ah aP ab ⟨bD,d⟩) (λs o hs=>?_) NN 0 _ e
   ·grind
   ·unfold cK at hs
    by_cases h60:s<=60
    ·rw[X1 h60]at hs
     obtain⟨_,b,hb⟩:=rm hf bD s;have FF:=hb;rw[hb,VS]at hs
     intro d hd;subst hd
     cases b with
     |false=>grind
     |true=>
      have ht:fV n ⟨bD,s⟩=true:=by unfold fV;grind
      simp only[X5]at hs
      cases h1:bp n ⟨bD,s⟩with
      |none=>grind
      |some v=>
       rw[h1,VS]at hs
       by_cases h2:aP<=v
       ·rw[X1 h2]at hs
        cases h3:dp ah ⟨bD,s⟩with
        |none=>grind
        |some c=>
         rw[h3,VS]at hs
         cases c with
         |true=>grind
         |false=>
          simp at hs
          cases h4:aB n.aA bD with
          |none=>grind
          |some y=>
           rw[h4,VS]at hs
           cases h5:dD l ⟨bD,s⟩with
           |none=>grind
           |some q=>
            rw[h5,VS]at hs
            by_cases h6:ab<=aI (y.iU-q)
            ·rw[X1 h6]at hs
             have:s=d:=by grind
             rw[<-this];exact⟨ht,by unfold cM;grind,h3,y,q,h4,h5,h6⟩
            grind
       grind
    grind
theorem OS{l:List aq}{ah:List av}{bD aP ab d:Int}(h:cF n l ah bD aP ab=YH d):d=-1\/fV n ⟨bD,d⟩=true:=by
 rcases IL hf h with h|h
 ·omega
 ·exact .inr h.bj
omit hf in
theorem ta{xs:List α}(h0:0<=i)(h1:i<xs.length):aB (xs.set i.toNat v) i=YH v:=by
 unfold aB;grind
omit hf in
theorem H5{xs:List α}(h0:0<=i)(h:j≠i):aB (xs.set i.toNat v) j=aB xs j:=by
 unfold aB
 grind
def sj(r:List Int)(x v:Int):Prop:=∃w,aB r x=YH w/\0<=w/\w<=v
def DL(n:aj)(l:List aq)(ah:List av)(ab f:Int)(r:List Int)(i:Nat)(x v:Int):Prop:=
 ∃(y:bK) (d u z:Int),n.aA[i]?=YH y/\bf (ak n) y.a8=x/\aB r (bf (ak n) y.au)=YH u/\¬u<0/\cZ n u (YL (bf (ak n) y.au=f))=YH z/\cF n l ah (i:Int) z ab=YH d/\¬d<0/\bl n ⟨(i:Int),d⟩=YH v
theorem S1(hn:aV n=YH YJ){l:List aq}(hl:l.length<=1048576){ah:List av}(hc:ah.length<=1048576)(ab:Int)(hb:gG.length=(ak n).length)(f:Int):
 aJ (eu n l ah ab (ak n) gG f) λr=>(∀x v,aB gG x=YH v->0<=v->sj r x v)/\∀x v,wk n l ah ab f gG x v->sj r x v:=by
 have hp:=O4 hf;have Il:=hf.aA;refine aJ.bind (P:=λr=>r=gG) ?_ λr hr=>?_
 ·by_cases h1:gG.length<=1048576
  ·exact aJ.of (wZ h1) rfl
  ·exact aJ.bW (jj Yd X9) (aJ.ret Ye)
 ·subst hr
  refine aJ.bind (P:=λo=>(∀x v,aB r x=YH v->0<=v->sj o x v)/\∀x v,wk n l ah ab f r x v->sj o x v) ?_ λo ho=>aJ.ret ho
  refine aJ.loop (fun(k:Nat) (s:Int×List Int)=>∃i:Nat,s.1=(i:Int)/\i+k=n.aA.length/\s.2.length=(ak n).length/\(∀x v,aB r x=YH v->0<=v->sj s.2 x v)/\∀j,j<i->∀x v,DL n l ah ab f r j x v->sj s.2 x v) (λk s hs=>?_) NN n.aA.length _ ⟨0,rfl,X9,hb,λx v h h0=>⟨v,h,h0,Int.le_refl _⟩,λj hj=>X9⟩ Yc
  obtain⟨i,hi,hk,hlen,hA,hB⟩:=hs;unfold eB;rw[hi];refine aJ.cond (λhd=>?_) λhd=>aJ.ret ⟨hA,λx v h=>?_⟩
  case refine_2=>
   obtain⟨j,y,d,u,z,c1,c2⟩:=h;have h1:=(VT.1 c1).1;have h2:=X4 hd;exact hB j X9 x v ⟨y,d,u,z,c1,c2⟩
  have bU:=X3 hd;have hw:aI ((i:Int)+1)=((i+1:Nat):Int):=by rw[aR X9];omega
  obtain⟨y,hy,hm⟩:=ki (xs:=n.aA) (i:=(i:Int)) ⟨X9,bU⟩;obtain⟨m1,m2⟩:=pL hm;have a0:=nb m1;have a1:=(na (ak n) y.au).2;have b0:=nb m2;have b1:=(na (ak n) y.a8).2;obtain⟨v6,g6,_⟩:=ki (xs:=r) (i:=bf (ak n) y.au) ⟨a0,X9⟩;obtain⟨v11,g11,_⟩:=ki (xs:=s.2) (i:=bf (ak n) y.a8) ⟨b0,X9⟩;simp only[hy,VS,oZ hf,g6,hw];have hyi:n.aA[i]?=YH y:=by rw[aS]at hy;omega
  have go:∀(s':List Int),s'.length=(ak n).length->(∀x v,sj s.2 x v->sj s' x v)->(∀x v,DL n l ah ab f r i x v->sj s' x v)->rN (fun(k:Nat) (s:Int×List Int)=>∃i:Nat,s.1=(i:Int)/\i+k=n.aA.length/\s.2.length=(ak n).length/\(∀x v,aB r x=YH v->0<=v->sj s.2 x v)/\∀j,j<i->∀x v,DL n l ah ab f r j x v->sj s.2 x v) (λo:List Int=>(∀x v,aB r x=YH v->0<=v->sj o x v)/\∀x v,wk n l ah ab f r x v->sj o x v) k (XI (((i+1:Nat):Int),s')):=λs' h1 h2 h3=>
   ⟨k-1,X9,i+1,rfl,X9,h1,λx v h h0=>h2 x v (hA x v h h0),λj hj x v h=>by
    grind⟩
  refine aJ.cond (λhu=>aJ.ret (go _ hlen (λx v h=>h) λx v h=>?_)) λhu=>?_
  ·obtain⟨y',d,u,z,c1,c2,c3,c4,_⟩:=h
   grind
  obtain⟨z,ez,_⟩:=we (n:=n) v6 (YL (bf (ak n) y.au=f));obtain⟨d,ed,_⟩:=Cn hf hl hc hy z ab;have hcI:∀x v,DL n l ah ab f r i x v->¬d<0/\x=bf (ak n) y.a8/\bl n ⟨(i:Int),d⟩=YH v:=by
   rintro x v ⟨y',d',u,z',c1,c2,c3,c4,c5,c6,c7,c8⟩
   grind
  rw[ez,VS,ed];refine aJ.cond (λhdd=>aJ.ret (go _ hlen (λx v h=>h) λx v h=>absurd (X3 hdd) (hcI x v h).1)) λDv=>?_
  have ME:fV n ⟨(i:Int),d⟩=true:=by
   rcases OS hf ed with h|h
   all_goals grind
  obtain⟨e,he⟩:=oL (n:=n) (t:=⟨(i:Int),d⟩) hy;have he0:0<=e:=by
   obtain⟨_,h2,h3,h4,_⟩:=cR hf hn ME
   grind
  simp only[he,g11];have Zbe:=fun(hv:v11<0\/e<v11)=>go (s.2.set (Int.toNat (bf (ak n) y.a8)) e) Yd (λx v h=>by
   obtain⟨w,wY,Az,hw3⟩:=h
   by_cases hx:x=bf (ak n) y.a8
   ·subst hx
    rw[g11]at wY
    obtain rfl:=VW wY;exact⟨_,ta b0 X9,he0,X9⟩
   ·exact⟨w,by rw[H5 b0 hx];omega,Az,hw3⟩) (λx v h=>by
   obtain⟨_,rfl,h8⟩:=hcI x v h;rw[he]at h8
   obtain rfl:=VW h8;exact⟨_,ta b0 X9,he0,Int.le_refl _⟩)
  refine aJ.cond (λh=>aJ.ret (Zbe (.inl (X3 h)))) λh1=>aJ.cond (λh=>aJ.ret (Zbe (.inr (X3 h)))) λh2=>aJ.ret (go _ hlen (λx v h=>h) λx v h=>?_)
  obtain⟨_,rfl,h8⟩:=hcI x v h;rw[he]at h8
  obtain rfl:=VW h8;have h1:=X4 h1;have h2:=X4 h2;exact⟨v11,g11,X9,X9⟩
theorem vM(hn:aV n=YH YJ){l:List aq}(hl:l.length<=1048576){ah:List av}(hc:ah.length<=1048576)(ab f aP:Int)(k:Nat):
 (∀x v,aB (cd n l ah ab f aP k) x=YH v->0<=v->sj (cd n l ah ab f aP (k+1)) x v)/\∀x v,wk n l ah ab f (cd n l ah ab f aP k) x v->sj (cd n l ah ab f aP (k+1)) x v:=by
 obtain⟨r,e,h⟩:=S1 hf hn hl hc ab (nw hf hl hc ab f aP k) f;have h1:=(r7 hf hl hc ab f aP k).1
 grind
end
section
variable {n:aj} (hf:cO n)
include hf
omit hf in
theorem UX{l:List ByteArray}{p q:ByteArray}(hp:0<=bf l p):YL (bf l p=bf l q)=YL (p=q):=by
 by_cases h:p=q
 ·grind
 ·rw[X2 h]
  refine X2 λhe=>h ?_
  have h1:=pK hp;have h2:=pK (l:=l) (p:=q) X9
  grind
def P5(n:aj)(l:List aq)(ah:List av)(ab f:Int)(r:List Int)(x v:Int)(t:av):Prop:=
 ∃(i:Nat) (y:bK) (d u z:Int),t=⟨(i:Int),d⟩/\n.aA[i]?=YH y/\bf (ak n) y.a8=x/\aB r (bf (ak n) y.au)=YH u/\¬u<0/\cZ n u (YL (bf (ak n) y.au=f))=YH z/\cF n l ah (i:Int) z ab=YH d/\¬d<0/\bl n ⟨(i:Int),d⟩=YH v
theorem Eo{l:List aq}(hl:l.length<=1048576){ah:List av}(hc:ah.length<=1048576)(ab:Int)(hb:before.length=(ak n).length)(hxq:x=bf (ak n) q0)(hx:0<=x/\x<(ak n).length)(e:Int){i:Nat}(hi:i<n.aA.length):
 (iS n l ah ab (ak n) before (bf (ak n) au) x e (i:Int)=YH (.inl ((i+1:Nat):Int))/\fo n n ah l ab (ak n) before au x e (i:Int)=YH (.inl ((i+1:Nat):Int))/\¬DL n l ah ab (bf (ak n) au) before i x e)\/
 ∃t,iS n l ah ab (ak n) before (bf (ak n) au) x e (i:Int)=YH (.inr (.inr t))/\fo n n ah l ab (ak n) before au x e (i:Int)=YH (.inr (.inr (t,YJ)))/\P5 n l ah ab (bf (ak n) au) before x e t:=by
 have Il:=hf.aA;have hw:aI ((i:Int)+1)=((i+1:Nat):Int):=by rw[aR X9];omega
 obtain⟨y,hy,hm⟩:=ki (xs:=n.aA) (i:=(i:Int)) ⟨X9,X9⟩;have hyi:n.aA[i]?=YH y:=by rw[aS]at hy;omega
 obtain⟨m1,m2⟩:=pL hm;have a0:=nb m1;have a1:=(na (ak n) y.au).2;obtain⟨v6,g6,_⟩:=ki (xs:=before) (i:=bf (ak n) y.au) ⟨a0,X9⟩;obtain⟨p,gp,_⟩:=ki (xs:=ak n) (i:=x) hx;obtain⟨z,ez,_⟩:=we (n:=n) v6 (YL (bf (ak n) y.au=bf (ak n) au));obtain⟨d,ed,ef⟩:=Mv hf hl hc hy z ab;obtain⟨v,hv⟩:=oL (n:=n) (t:=⟨(i:Int),d⟩) hy;have RC:∀p,bS (ak n) p=YH (bf (ak n) p):=λp=>by exact oZ hf p
 have ez':kv n v6 (YL (y.au=au))=YH z:=by rw[Jj,<-UX (l:=ak n) a0];omega
 have wG:∀{P:Prop},(∀y' d' u z',n.aA[i]?=YH y'->bf (ak n) y'.a8=x->aB before (bf (ak n) y'.au)=YH u->¬u<0->cZ n u (YL (bf (ak n) y'.au=bf (ak n) au))=YH z'->cF n l ah (i:Int) z' ab=YH d'->¬d'<0->bl n ⟨(i:Int),d'⟩=YH e->y'=y->u=v6->z'=z->d'=d->False)->¬DL n l ah ab (bf (ak n) au) before i x e:=by
  rintro _ H ⟨y',d',u,z',c1,c2,c3,c4,c5,c6,c7,c8⟩
  grind
 have S:iS n l ah ab (ak n) before (bf (ak n) au) x e (i:Int)=cond (!decide (y.a8=p)) (YH (.inl ((i+1:Nat):Int))) (cond (YL (v6<0)) (YH (.inl ((i+1:Nat):Int))) (cond (YL (0<=d)) (cond (YL (v=e)) (YH (.inr (.inr ⟨(i:Int),d⟩))) (YH (.inl ((i+1:Nat):Int)))) (YH (.inl ((i+1:Nat):Int))))):=by
  unfold iS;simp only[X1 (show(i:Int)<n.aA.length by omega),X5,hy,VS,oZ hf,gp,g6,ez,ed,hv,hw]
 have T:fo n n ah l ab (ak n) before au x e (i:Int)=cond (!decide (y.a8=p)) (YH (.inl ((i+1:Nat):Int))) (cond (YL (v6<0)) (YH (.inl ((i+1:Nat):Int))) (cond (YL (0<=d)) (cond (YL (v=e)) (YH (.inr (.inr (⟨(i:Int),d⟩,YJ)))) (YH (.inl ((i+1:Nat):Int)))) (YH (.inl ((i+1:Nat):Int))))):=by
  unfold fo;simp only[rU]
  grind
 by_cases h1:y.a8=p
 ·by_cases h2:v6<0
  ·refine .inl ⟨by grind,by grind,wG (P:=True) λy' d' u z' c1 c2 c3 c4 c5 c6 c7 c8 q1 q2 q3 q4=>c4 X9⟩
  ·by_cases h3:0<=d
   ·by_cases h4:v=e
    ·refine .inr ⟨⟨(i:Int),d⟩,by grind,by grind,i,y,d,v6,z,rfl,hyi,?_,g6,h2,ez,ed,X9,by grind⟩
     have g:=pK (l:=ak n) (p:=q0) X9
     grind
    ·refine .inl ⟨by grind,by grind,wG (P:=True) λy' d' u z' c1 c2 c3 c4 c5 c6 c7 c8 q1 q2 q3 q4=>h4 Yd⟩
   ·refine .inl ⟨by grind,by grind,wG (P:=True) λy' d' u z' c1 c2 c3 c4 c5 c6 c7 c8 q1 q2 q3 q4=>c7 X9⟩
 ·refine .inl ⟨by grind,by grind,wG (P:=True) λy' d' u z' c1 c2 c3 c4 c5 c6 c7 c8 q1 q2 q3 q4=>h1 ?_⟩
  rw[q1]at c2
  have g:=pK (nb m2)
  grind
theorem En{l:List aq}(hl:l.length<=1048576){ah:List av}(hc:ah.length<=1048576)(ab:Int)(hb:before.length=(ak n).length)(hxq:x=bf (ak n) q0)(hx:0<=x/\x<(ak n).length)(e:Int)(Od:wk n l ah ab (bf (ak n) au) before x e):
 ∃t,pD n l ah ab (ak n) before (bf (ak n) au) x e=YH t/\kz n n ah l ab (ak n) before au x e=YH (t,YJ)/\P5 n l ah ab (bf (ak n) au) before x e t:=by
 have Il:=hf.aA;obtain⟨i0,hci⟩:=Od;have hi0:i0<n.aA.length:=by grind
 have key:∀(d i:Nat),i+d=i0->∀N,d<N->∃t,aD (iS n l ah ab (ak n) before (bf (ak n) au) x e) N (i:Int)=YH (.inr t)/\aD (fo n n ah l ab (ak n) before au x e) N (i:Int)=YH (.inr (t,YJ))/\P5 n l ah ab (bf (ak n) au) before x e t:=by
  intro d
  induction d with
  |zero=>
   intro i hi N hN;obtain⟨N,rfl⟩:∃M,N=M+1:=⟨N-1,X9⟩
   rcases Eo hf hl hc ab hb hxq hx e (au:=au) (i:=i) X9 with⟨_,_,h⟩ |⟨t,h1,h2,h3⟩
   ·exact absurd ((show i=i0 by omega)▸hci) h
   ·exact⟨t,by unfold aD;grind,by unfold aD;grind,h3⟩
  |succ d ih=>
   intro i hi N hN;obtain⟨N,rfl⟩:∃M,N=M+1:=⟨N-1,X9⟩
   rcases Eo hf hl hc ab hb hxq hx e (au:=au) (i:=i) X9 with⟨h1,h2,_⟩ |⟨t,h1,h2,h3⟩
   ·obtain⟨t,q1,q2,q3⟩:=ih (i+1) X9 N X9
    exact⟨t,by unfold aD;grind,by unfold aD;grind,q3⟩
   ·exact⟨t,by unfold aD;grind,by unfold aD;grind,h3⟩
 obtain⟨t,h1,h2,h3⟩:=key i0 0 X9 NN Yc;exact⟨t,by unfold pD;grind,by unfold kz;grind,h3⟩
omit hf in
theorem SX{o:List av}(h:o.length<=1048576):aD (jG o) NN ((aI ((o.length:Int)-1)),([]:List av))=YH o.reverse:=by
 have key:∀(m:Nat),m<=o.length->∀N,m<N->aD (jG o) N ((m:Int)-1,(o.drop m).reverse)=YH o.reverse:=by
  intro m
  induction m with
  |zero=>
   intro hm N hN;obtain⟨N,rfl⟩:∃M,N=M+1:=⟨N-1,X9⟩;rfl
  |succ m ih=>
   intro hm N hN;obtain⟨N,rfl⟩:∃M,N=M+1:=⟨N-1,X9⟩;have hg:aB o (((m+1:Nat):Int)-1)=YH o[m]:=by
    rw[show((m+1:Nat):Int)-1=(m:Int)by omega,aS];simp
   have hw:aI (((m+1:Nat):Int)-1-1)=(m:Int)-1:=by rw[aR X9];omega
   have ha:bW (bm ((o.drop (m+1)).reverse.length+([o[m]]:List av).length) 16)=YH ():=eV Yd X9;have hd:o.drop m=o[m]::o.drop (m+1):=List.drop_eq_getElem_cons X9;have q:=ih X9 N X9;rw[hd,List.reverse_cons]at q
   unfold aD;unfold jG;simp only[X1 (show(0:Int)<=((m+1:Nat):Int)-1 by omega),hg,VS,ha,hw]
   exact q
 have:=key o.length (VX _) NN Yc;rw[aR X9]
 grind
def Fi(n:aj)(l:List aq)(ah:List av)(ab f aP:Int):List (List Int):=(Wg ((ak n).length+1)).map (cd n l ah ab f aP)
omit hf in
theorem xB{l:List aq}{ah:List av}{ab f aP:Int}(hk:k<=(ak n).length):aB (Fi n l ah ab f aP) (k:Int)=YH (cd n l ah ab f aP k):=by
 rw[aS];unfold Fi
 grind
theorem ND(hn:aV n=YH YJ){l:List aq}(hl:l.length<=1048576){ah:List av}(hc:ah.length<=1048576)(ab:Int)(aP:Int)
 (hC:cn n l=YJ/\0<=bf (ak n) au/\aP<=100000/\1<=ab):
 ∀(k:Nat) (q0:ByteArray) (x e:Int) (back:List av),x=bf (ak n) q0->0<=x->aB (cd n l ah ab (bf (ak n) au) aP k) x=YH e->0<=e->(k=0\/¬aB (cd n l ah ab (bf (ak n) au) aP (k-1)) x=YH e)->back.length+k<=(ak n).length->∀N,k<N->
  ∃G9,aD (fz n l ah au aP ab (ak n) (bf (ak n) au)) N (x,e,(k:Int),back.reverse)=YH G9.reverse/\aD (jF n n ah l ab au (ak n) (Fi n l ah ab (bf (ak n) au) aP)) N (x,e,(k:Int),back)=YH (.inl G9)/\G9.length<=(ak n).length:=by
 have hlg:=rD hn;have hp:(ak n).length<=40:=by have:=ff n;omega
 intro k
 induction k with
 |zero=>
  intro q0 x e back hxq hx hg he Ry hlen N hN;obtain⟨N,rfl⟩:∃M,N=M+1:=⟨N-1,X9⟩;refine⟨back,?_,?_,X9⟩
  all_goals rfl
 |succ k ih=>
  intro q0 x e back hxq hx hg he Ry hlen N hN;obtain⟨N,rfl⟩:∃M,N=M+1:=⟨N-1,X9⟩;have zi:=nw hf hl hc ab (bf (ak n) au) aP;have hnx:¬aB (cd n l ah ab (bf (ak n) au) aP k) x=YH e:=by
   grind
  have Od:wk n l ah ab (bf (ak n) au) (cd n l ah ab (bf (ak n) au) aP k) x e:=by
   rcases(r7 hf hl hc ab (bf (ak n) au) aP k).2 x e hg with h|h
   all_goals grind
  have hxl:x<(ak n).length:=by rw[hxq];exact(na (ak n) q0).2
  obtain⟨t,hs,hi,i,y,d,u,z,rfl,c1,c2,c3,c4,c5,c6,c7,c8⟩:=En hf hl hc ab (zi k) hxq ⟨hx,hxl⟩ e Od;have hfb:=qc hf hl hc ab aP hC (k:=k) X9;have hw:aI (((k+1:Nat):Int)-1)=(k:Int):=by rw[aR X9];omega
  have hy:aB n.aA (i:Int)=YH y:=by rw[aS];omega
  have ha1:bW (bm (([⟨(i:Int),d⟩]:List av).length+back.reverse.length) 16)=YH ():=eV Yd X9;have ha2:bW (bm (back.length+([⟨(i:Int),d⟩]:List av).length) 16)=YH ():=eV Yd X9;have My:=xB (n:=n) (l:=l) (ah:=ah) (ab:=ab) (f:=bf (ak n) au) (aP:=aP) (k:=k) X9;have RC:bS (ak n) y.au=YH (bf (ak n) y.au):=by exact oZ hf _
  have a0:=nb (pL (VV c1)).1;obtain⟨G9,q1,q2,q3⟩:=ih y.au (bf (ak n) y.au) u (back++[⟨(i:Int),d⟩]) rfl a0 c3 X9 (by
   by_cases xU:k=0
   ·omega
   ·refine .inr λhu=>hnx ?_
    obtain⟨k',rfl⟩:∃k',k=k'+1:=⟨k-1,X9⟩;have pk:=(vM hf hn hl hc ab (bf (ak n) au) aP k').2 x e ⟨i,y,d,u,z,c1,c2,hu,c4,c5,c6,c7,c8⟩;obtain⟨w,w1,w2,w3⟩:=pk;obtain⟨w',v1,v2,v3⟩:=(vM hf hn hl hc ab (bf (ak n) au) aP (k'+1)).1 x w w1 w2
    grind) Yd N X9
  refine⟨G9,?_,?_,q3⟩
  ·have hb:fz n l ah au aP ab (ak n) (bf (ak n) au) (x,e,((k+1:Nat):Int),back.reverse)=YH (.inl (bf (ak n) y.au,u,(k:Int),[⟨(i:Int),d⟩]++back.reverse)):=by
    unfold fz;simp only[X1 (show(0:Int)<((k+1:Nat):Int)by omega),X5,hw,hfb,VS,hs,ha1,hy,oZ hf,c3]
   unfold aD
   grind
  ·have hb:jF n n ah l ab au (ak n) (Fi n l ah ab (bf (ak n) au) aP) (x,e,((k+1:Nat):Int),back)=YH (.inl (bf (ak n) y.au,u,(k:Int),back++[⟨(i:Int),d⟩])):=by
    unfold jF
    simp_all
   unfold aD
   grind
theorem BV{l:List aq}(hl:l.length<=1048576){ah:List av}(hc:ah.length<=1048576)(ab:Int)(aP:Int)(hp:(ak n).length<=40)
 (hC:cn n l=YJ/\0<=bf (ak n) au/\aP<=100000/\1<=ab) {x e:Int} (hx:0<=x/\x<(ak n).length) (hg:aB (cd n l ah ab (bf (ak n) au) aP (ak n).length) x=YH e):
 ∃k:Nat,k<=(ak n).length/\aB (cd n l ah ab (bf (ak n) au) aP k) x=YH e/\(k=0\/¬aB (cd n l ah ab (bf (ak n) au) aP (k-1)) x=YH e)/\
  aD (fy n l ah au aP ab (ak n) (bf (ak n) au) x e) NN 0=YH (k:Int)/\aD (fe n n ah l ab au (ak n) x (Fi n l ah ab (bf (ak n) au) aP) e) NN 0=YH (k:Int):=by
 have zi:=nw hf hl hc ab (bf (ak n) au) aP;have key:∀(dd i:Nat),i+dd=(ak n).length->(i=0\/¬aB (cd n l ah ab (bf (ak n) au) aP (i-1)) x=YH e)->∀N,dd<N->
  ∃k:Nat,k<=(ak n).length/\aB (cd n l ah ab (bf (ak n) au) aP k) x=YH e/\(k=0\/¬aB (cd n l ah ab (bf (ak n) au) aP (k-1)) x=YH e)/\
  aD (fy n l ah au aP ab (ak n) (bf (ak n) au) x e) N (i:Int)=YH (k:Int)/\aD (fe n n ah l ab au (ak n) x (Fi n l ah ab (bf (ak n) au) aP) e) N (i:Int)=YH (k:Int):=by
  intro dd
  induction dd with
  |zero=>
   intro i hi h0 N hN;obtain⟨N,rfl⟩:∃M,N=M+1:=⟨N-1,X9⟩;obtain rfl:i=(ak n).length:=X9;refine⟨(ak n).length,VX _,hg,h0,?_,?_⟩
   ·unfold aD fy
    simp only[qc hf hl hc ab aP hC (VX _),VS,hg,decide_true,V5,X6]
   ·unfold aD fe
    simp only[xB (VX _),VS,hg,decide_true,V5,X6]
  |succ dd ih=>
   intro i hi h0 N hN;obtain⟨N,rfl⟩:∃M,N=M+1:=⟨N-1,X9⟩;have hw:aI ((i:Int)+1)=((i+1:Nat):Int):=by rw[aR X9];omega
   obtain⟨v,hv,_⟩:=ki (xs:=cd n l ah ab (bf (ak n) au) aP i) (i:=x) ⟨hx.1,by grind⟩
   by_cases hve:v=e
   ·subst hve
    refine⟨i,X9,hv,h0,?_,?_⟩
    ·unfold aD fy
     simp only[qc hf hl hc ab aP hC (show i<=(ak n).length by omega),VS,hv,decide_true,V5,X6]
    ·unfold aD fe
     simp only[xB (show i<=(ak n).length by omega),VS,hv,decide_true,V5,X6]
   ·obtain⟨k,q1,q2,q3,q4,q5⟩:=ih (i+1) X9 (.inr Yd) N X9
    refine⟨k,q1,q2,q3,?_,?_⟩
    ·have hb:fy n l ah au aP ab (ak n) (bf (ak n) au) x e (i:Int)=YH (.inl ((i+1:Nat):Int)):=by
      unfold fy;simp only[qc hf hl hc ab aP hC (show i<=(ak n).length by omega),VS,hv,X2 hve,Wr,X5,hw]
     unfold aD
     grind
    ·have hb:fe n n ah l ab au (ak n) x (Fi n l ah ab (bf (ak n) au) aP) e (i:Int)=YH (.inl ((i+1:Nat):Int)):=by
      unfold fe;simp only[xB (show i<=(ak n).length by omega),VS,hv,X2 hve,Wr,X5,hw]
     unfold aD
     grind
 obtain⟨k,q1,q2,q3,q4,q5⟩:=key (ak n).length 0 X9 (.inl rfl) NN Yc
 grind
theorem G7{l:List aq}{ah:List av}(ab:Int){aP:Int}(h:bf (ak n) au<0\/100000<aP)(aA:Int):dV n n ah l ab au aP aA=YH []:=by
 unfold dV;rw[qU,(dh hf).1,(dh hf).2];simp only[VS,oZ hf]
 grind
theorem qZ{l:List aq}(hl:l.length<=1048576){ah:List av}(hc:ah.length<=1048576)(au a8:ByteArray)(aP ab:Int):
 ∃r,ie n l ah au a8 aP ab=YH r/\bN n l ah au a8 aP ab=YH r:=by
 have RC:∀p,bS (ak n) p=YH (bf (ak n) p):=λp=>by rw[qU];exact oZ hf p
 unfold ie bN re oT;rw[vc hf hl,(dh hf).1,(dh hf).2];simp only[VS,oZ hf,RC]
 by_cases hB:cn n l=YJ
 case neg=>
  have hB:cn n l=false:=by grind
  have e:cV n l ah au aP ab ((ak n).length:Int)=YH []:=by
   unfold cV;rw[(dh hf).2];simp only[VS,oZ hf,il hf hl,hB,Wr,X5]
  simp_all
 have hn:=(dH hB).1;have hlg:=rD hn;have hp:(ak n).length<=40:=by have:=ff n;omega
 simp only[hB,V5]
 by_cases wY:ab<1
 ·have e:cV n l ah au aP ab ((ak n).length:Int)=YH []:=by
   unfold cV;rw[(dh hf).2];simp only[VS,oZ hf,il hf hl,X1 wY];simp
  simp_all
 simp only[X2 wY]
 by_cases hA:bf (ak n) au<0\/100000<aP
 ·have e:cV n l ah au aP ab ((ak n).length:Int)=YH []:=by
   unfold cV;rw[(dh hf).2];simp only[VS,oZ hf,il hf hl]
   grind
  have e0:aD (dB n n ah l ab au aP (ak n) (bf (ak n) a8)) NN (0,([]:List (List Int)))=YH (.inr ([],YK)):=by
   obtain⟨N,hN⟩:∃N,NN=N+1:=⟨NN-1,by rfl⟩
   rw[hN];unfold aD dB;simp only[G7 hf ab hA];rfl
  simp_all
 have hC:cn n l=YJ/\0<=bf (ak n) au/\aP<=100000/\1<=ab:=⟨hB,X9,X9,X9⟩;have zi:=nw hf hl hc ab (bf (ak n) au) aP;have Og:=(na (ak n) au).2;have hav:=fun(k:Nat) (hk:k<=(ak n).length)=>Bq hf hl hc ab hC.2.1 hC.2.2.1 X9 k X9
 by_cases ht:bf (ak n) a8<0
 ·have e0:aD (dB n n ah l ab au aP (ak n) (bf (ak n) a8)) NN (0,([]:List (List Int)))=YH (.inr ([],YK)):=by
   obtain⟨N,hN⟩:∃N,NN=N+1:=⟨NN-1,by rfl⟩
   rw[hN];have h0:=hav 0 X9;rw[show((0:Nat):Int)=0 from rfl]at h0
   unfold aD dB
   grind
  have hfb:=qc hf hl hc ab aP hC (k:=(ak n).length) (VX _)
  simp_all
 have e0:aD (dB n n ah l ab au aP (ak n) (bf (ak n) a8)) NN (0,([]:List (List Int)))=YH (.inl (Fi n l ah ab (bf (ak n) au) aP)):=by
  refine my (body:=dB n n ah l ab au aP (ak n) (bf (ak n) a8)) (λi:Nat=>((i:Int),(Wg i).map (cd n l ah ab (bf (ak n) au) aP))) (n:=(ak n).length+1) (o:=.inl (Fi n l ah ab (bf (ak n) au) aP)) (λi hi=>?_) ?_ NN Yc
  ·have hw:aI ((i:Int)+1)=((i+1:Nat):Int):=by rw[aR X9];omega
   have ha:bW (bm (((Wg i).map (cd n l ah ab (bf (ak n) au) aP)).length+([cd n l ah ab (bf (ak n) au) aP i]:List (List Int)).length) 24)=YH ():=eV Yd X9;unfold dB;simp only[X1 (show(i:Int)<=((ak n).length:Int)by omega),X5,hav i X9,VS,X2 (show ¬(((cd n l ah ab (bf (ak n) au) aP i).length:Int)=0)by grind),X6,X2 ht,D9,ha,hw,List.range_succ,Xw,WX,List.map_nil]
  ·unfold dB
   simp only[X2 (show ¬(((ak n).length+1:Nat):Int)<=((ak n).length:Int)by omega)]
   rfl
 have htl:=(na (ak n) a8).2;obtain⟨dW,UI,_⟩:=ki (xs:=cd n l ah ab (bf (ak n) au) aP (ak n).length) (i:=bf (ak n) a8) ⟨X9,by grind⟩
 rw[e0];simp only[VS,bk,xB (VX _),UI,qc hf hl hc ab aP hC (VX _)]
 by_cases hd:dW<0
 ·simp_all
 simp only[X2 hd,X6];obtain⟨k,q1,q2,q3,q4,q5⟩:=BV hf hl hc ab aP hp hC ⟨X9,htl⟩ UI;obtain⟨back,b1,b2,b3⟩:=ND hf hn hl hc ab aP hC k a8 (bf (ak n) a8) dW [] rfl X9 q2 X9 q3 Yd NN Yc;refine⟨(back.reverse,YJ),?_,?_⟩
 ·simp only[q5,VS,b2,bk,SX (show back.length<=1048576 by omega)]
 grind
end
def rP(l:List aq)(t:av):Int:=(l.map λb=>if b.bj=t then b.ab else 0).sum
theorem II{l:List aq}(hw:∀b∈l,1<=b.ab/\b.ab<=1000000)(t:av):0<=rP l t/\rP l t<=1000000*l.length:=by
 induction l with
 |nil=>simp[rP]
 |cons x xs ih=>
  have hx:=hw x List.mem_cons_self;have:=ih λb hb=>hw b (List.mem_cons_of_mem _ hb)
  unfold rP at this⊢
  rw[WX,List.sum_cons,VZ]
  split<;>omega
theorem R3{l:List aq}(hl:l.length<=1000)(hw:∀b∈l,1<=b.ab/\b.ab<=1000000)(t:av):dD l t=YH (rP l t):=by
 unfold dD;have e:aD (dK l t) NN (0,0)=YH (rP l t):=by
  have:=my (body:=dK l t) (λi:Nat=>(rP (l.take i) t,(i:Int))) (n:=l.length) (o:=rP l t) (λi hi=>?_) ?_ NN Yc
  ·simpa[rP]using this
  ·have ho:l[i]?=YH l[i]:=VU hi
   have hg:aB l (i:Int)=YH l[i]:=by rw[aS];exact ho
   have wI:aI ((i:Int)+1)=((i+1:Nat):Int):=bE hi X9;have hb:=II (l:=l.take i) (λb hb=>hw b (List.mem_of_mem_take hb)) t
   have hx:=hw _ (Wm hi);have hlen:(l.take i).length<=1000:=by rw[List.length_take];omega
   unfold dK;have hs:rP (l.take (i+1)) t=rP (l.take i) t+(if l[i].bj=t then l[i].ab else 0):=by
    unfold rP;rw[<-uz ho,Xw,List.sum_append];simp
   simp only[X1 (show(i:Int)<l.length by omega),X5,hg,VS,wI]
   rw[hs]
   by_cases ht:l[i].bj=t
   ·rw[X1 ht,if_pos ht,X5,aR X9]
   ·rw[X2 ht,if_neg ht,X6,Int.add_zero]
  ·unfold dK
   simp
 rw[e];rfl
theorem Kg{l:List aU}(hl:l.length<=1048576):l8 l=YH (uG (l.map bO)):=by
 unfold l8 uG;rw[uu,VS]
 cases dG (l.map bO)with
 |false=>rfl
 |true=>
  simp only[V5,X6,if_true];rw[ya tq hl (λa i x hx=>?_) λa=>by unfold oP;simp]
  ·rfl
  ·have hg:aB l (i:Int)=YH x:=by rw[aS];exact hx
   have hi:=(VT.1 hx).1;unfold oP;simp only[o4,tq,bO,oJ,hg,X1 (show(i:Int)<l.length by omega),X5,VS,beq_iff_eq]
   by_cases h2:x.kind=2
   ·simp[h2,bk]
   ·by_cases h3:x.kind=3
    ·simp[h3,bk]
    ·simp[h2,h3,bk]
end Go.Proofs.YtdilaemengjipaaGreatDoor
