/- A part of the proof of this claim's last theorem. No condition. -/
import Derived.Test.YtbjbellffaenaaaGreatDoorCT24
import Derived.Test.YtbjbellffaenaaaGreatDoorCT26
import Derived.Test.YtbjbellffaenaaaGreatDoorCT27
set_option linter.all false
set_option maxRecDepth 100000
open Go.Value renaming int->Zh
open Go.IntKind renaming i64->Zi
open Go renaming undef->Zj
open Option renaming some->s,none->Y
open Bool renaming true->X,false->N
open Decidable renaming decide->L
open List renaming length->D
open Option renaming bind->G
open _root_ renaming List->d,Nat->J,Option->F,Unit->Zo,cond->C
open Go.Proofs.YtbjbellffaenaaaGreatDoor renaming YA->R,aJ->M,aW->V,allI->Zp,bf->Z,vi->K
open Go.Proofs.Tryz
set_option maxHeartbeats 40000000
open List renaming getElem?_eq_some_iff->VT,getElem?_eq_getElem->VS,range->Wj,mem_of_getElem?->VU,getElem?_eq_none->Xl,length_nil->V2,length_cons->V0
open Option renaming bind_some->VR
open Bool renaming not_true->VX,false_eq_true->WJ,not_false->WI,and_true->XS
open Nat renaming le_refl->VW,lt_of_lt_of_le->Wn,lt_or_ge->Wu
open Option.some renaming inj->VV
open _root_.Array renaming getElem?_eq_getElem->V4
open _root_.Int renaming toNat->Wg
namespace Go.Proofs.YtbjbellffaenaaaGreatDoor
open Go.RowKit
variable {du en:Int}
def cn(x:Z):Ln:=⟨x.order,x.kind,x.bE,x.aQ⟩
theorem qP(n:Int):M n=wrap64 n:=IntWalk.i64_left n
theorem SK(c x:Int):IntKind.i64.wrap ((M (c*x)).tdiv 100)=ZcB c x:=by unfold ZcB;rw[<-qP,<-qP]
theorem yA(x:Z):nV x=s (rH x.order x.kind x.bE x.aQ):=by
 unfold nV rH x7;simp only[xe]
 grind
theorem BQ(x:Z):qg x=s (rH x.order x.kind x.bE x.aQ):=by
 rw[<-yA];rfl
theorem Zbo(f:Int->Ln->Int)(l:d Z)(a:Int):l.foldl (λa x=>f a (cn x)) a=(l.map cn).foldl f a:=by rw[List.foldl_map]
theorem BS{l:d Z}{body:Int×Int->F ((Int×Int)⊕Int)}(f:Int->Ln->Int)(hl:D l<=1048576)
 (h1:∀a (i:J) x,l[i]?=s x->body (a,(i:Int))=s (.inl (f a (cn x),M ((i:Int)+1)))) (h2:∀a,body (a,(D l:Int))=s (.inr a)):aB body NN (0,0)=s ((l.map cn).foldl f 0):=by
 refine(tz (fun(a:Int) (i:Int)=>(a,i)) (λ_ a x=>s (.inl (f a (cn x)))) s (λa i x hx=>?_) (λa=>by rw[h2];rfl) YF 0).trans ?_
 ·rw[h1 a i x hx,bz (VT.1 hx).1 R];rfl
 ·rw[DD,Zbo]
section
variable {l:d Z} (hl:l.length<=1048576)
include hl
theorem Hx(o k:Int):dL l o k=s (cC (l.map cn) o k):=by
 unfold dL cC;rw[BS (nS o k) hl (λa i x hx=>?_) λa=>by unfold r8;simp]
 ·rfl
 ·have hg:az l (i:Int)=s x:=by rw[aS];omega
  unfold r8;simp only[nf,nS,cn,qP]
  grind
theorem JB(o k:Int):fO l o k=s (cC (l.map cn) o k):=by
 unfold fO cC;rw[BS (nS o k) hl (λa i x hx=>?_) λa=>by unfold sa;simp]
 ·rfl
 ·have hg:az l (i:Int)=s x:=by rw[aS];omega
  unfold sa;simp only[nf,nS,cn,qP]
  grind
theorem R3(o k:Int):mZ l o k=s (Bs (l.map cn) o k):=by
 unfold mZ Bs;rw[BS (uD o k) hl (λa i x hx=>?_) λa=>by unfold pD;simp]
 ·rfl
 ·have hg:az l (i:Int)=s x:=by rw[aS];omega
  unfold pD;simp only[nf,uD,cn,qP]
  grind
theorem BW:bO l=s l:=by unfold bO;rw[fv YD R];rfl
theorem BX:cx l=s l:=by unfold cx;rw[fv YD R];rfl
end
theorem Zii{l:d Z}{i:J}{x:Z}(hx:l[i]?=s x):(l.map cn).getD i default=cn x:=by grind
theorem Sw(l:d Z)(i:J):(l.take i).map cn=(l.map cn).take i:=List.map_take
theorem UF{l:d Z}{i:J}{x:Z}(hx:l[i]?=s x):wm (l.map cn) i=(!Bi (l.map cn) i (cn x)&&xV ((l.map cn).take i) (cn x)):=by
 unfold wm;grind
theorem bad_eq{l:d Z}{i:J}{x:Z}:Bi (l.map cn) i (cn x)=(!rH x.order x.kind x.bE x.aQ ||L (0<i)&&L (x.aQ<((l.map cn).getD (i-1) default).t)):=rfl
theorem ZgZ{x:Z}(h:rH x.order x.kind x.bE x.aQ=X):x.kind=1\/x.kind=2\/x.kind=3:=Ks (x:=cn x) h
theorem E9{l:d Z}{i:J}(hi:i<D l)(hl:D l<=200)(t:Int):(C (L (0<(i:Int))) ((az l (M ((i:Int)-1))).bind λy=>C (L (t<y.aQ)) (s (.inr N)) (s (.inl ()))) (s (.inl ())):F (Zo⊕Bool))=
 s (if(L (0<i)&&L (t<((l.map cn).getD (i-1) default).t))=X then .inr N else .inl ()):=by
 cases i with
 |zero=>rfl
 |succ m=>
  have hm:l[m]?=s l[m]:=VS R;have hw:M (((m+1:J):Int)-1)=(m:Int):=by rw[aV R];omega
  rw[Yi (show(0:Int)<((m+1:J):Int)by omega),hw,aS,hm,Yi (show 0<m+1 by omega),Nat.add_sub_cancel,Zii hm]
  show C (L (t<l[m].aQ)) _ _=s (if L (t<l[m].aQ)=X then _ else _)
  grind
theorem Gy{l:d Z}{body:Int->F (Int⊕(Zo⊕Bool))}(hl:D l<=200)
 (h1:∀(i:J) x,l[i]?=s x->(∀j,j<i->wm (l.map cn) j=X)->rH x.order x.kind x.bE x.aQ=X->(L (0<i)&&L (x.aQ<((l.map cn).getD (i-1) default).t))=N->body (i:Int)=s (if xV ((l.map cn).take i) (cn x)=X then .inl ((i+1:J):Int)else .inr (.inr N)))
 (h0:∀(i:J) x,l[i]?=s x->Bi (l.map cn) i (cn x)=X->body (i:Int)=s (.inr (.inr N)))
 (h2:body (D l:Int)=s (.inr (.inl ()))):(aB body NN 0).bind (bj (λ_=>s X) (λr=>s r))=s (ep (l.map cn)):=by
 unfold ep;rw[List.length_map,Yi hl,qB (c:=wm (l.map cn)) (n:=D l) (r:=.inr N) (e:=.inl ()) (λi hi hj=>?_) (λ_=>h2) YF]
 ·unfold Bd
  grind
 ·obtain⟨x,hx⟩:∃x,l[i]?=s x:=⟨_,VS hi⟩
  rw[UF hx]
  cases hb:Bi (l.map cn) i (cn x)with
  |true=>grind
  |false=>
   have Ex:=hb;rw[bad_eq,Bool.or_eq_false_iff]at Ex
   simp_all
section
variable {l:d Z} (h:l.length<=200) {i:J} {x:Z} (hx:l[i]?=s x)
include h hx
theorem BZ:i<D l/\az l (i:Int)=s x/\cf (iq 0 (i:Int) (D l))=s ()/\(D (l.take i))<=1048576/\L ((i:Int)<D l)=X/\M ((i:Int)+1)=((i+1:J):Int):=by
 have hi:=(VT.1 hx).1;exact⟨hi,by rw[aS];omega,oB (Yi ⟨R,R,R⟩),by grind,Yi R,bz hi R⟩
theorem Zjo(hb:Bi (l.map cn) i (cn x)=X):iC l (i:Int)=s (.inr (.inr N)):=by
 obtain⟨hi,hg,hs,bD,hd,hw⟩:=BZ h hx;rw[bad_eq]at hb
 unfold iC;simp only[hd,Yw,nf,hg,VR,yA,E9 hi h]
 grind
theorem Zjp(hb:Bi (l.map cn) i (cn x)=X):iE l (i:Int)=s (.inr (.inr N)):=by
 obtain⟨hi,hg,hs,bD,hd,hw⟩:=BZ h hx;rw[bad_eq]at hb
 unfold iE;simp only[hd,Yw,nf,hg,VR,BQ,E9 hi h]
 grind
theorem ZhR(hl:rH x.order x.kind x.bE x.aQ=X)(hb:(L (0<i)&&L (x.aQ<((l.map cn).getD (i-1) default).t))=N):
 iC l (i:Int)=s (if xV ((l.map cn).take i) (cn x)=X then .inl ((i+1:J):Int)else .inr (.inr N)):=by
 obtain⟨hi,hg,hs,bD,hd,hw⟩:=BZ h hx;unfold iC;simp only[hd,Yw,nf,hg,VR,yA,hl,VX,Yx,E9 hi h,hb,hs,zF,Hx bD,Sw,hw,bj,WJ,if_false]
 rcases ZgZ hl with hk|hk|hk
 ·rw[ZhH (x:=cn x) hk]
  simp only[cn]
  grind
 ·rw[ZhI (x:=cn x) hk]
  simp only[cn,qP]
  grind
 ·rw[ZhJ (x:=cn x) hk]
  simp only[cn]
  grind
theorem ZhS(hj:∀j,j<i->wm (l.map cn) j=X)(hl:rH x.order x.kind x.bE x.aQ=X)(hb:(L (0<i)&&L (x.aQ<((l.map cn).getD (i-1) default).t))=N):
 iE l (i:Int)=s (if xV ((l.map cn).take i) (cn x)=X then .inl ((i+1:J):Int)else .inr (.inr N)):=by
 obtain⟨hi,hg,hs,bD,hd,hw⟩:=BZ h hx;have hc:=R1 (xs:=l.map cn) (i:=i) x.order 3 (zi.2 hj) R;unfold iE;simp only[hd,Yw,nf,hg,VR,BQ,hl,VX,Yx,E9 hi h,hb,hs,zF,JB bD,R3 bD,Sw,hw,bj,WJ,if_false,hc]
 rcases ZgZ hl with hk|hk|hk
 ·rw[ZhH (x:=cn x) hk]
  simp only[hk,cn]
  grind
 ·rw[ZhI (x:=cn x) hk]
  simp only[hk,cn,qP]
  grind
 ·rw[ZhJ (x:=cn x) hk]
  simp only[hk,cn,beq_iff_eq]
  grind
end
theorem xE(l:d Z):eP l=s (ep (l.map cn)):=by
 unfold eP
 by_cases h:D l<=200
 ·rw[Yt (show ¬(200:Int)<D l by omega)]
  exact Gy h (λi x hx _ hl hb=>ZhR h hx hl hb) (λi x hx hb=>Zjo h hx hb) (by unfold iC;simp)
 ·rw[Yi (show(200:Int)<D l by omega),Yw,yG YD]
theorem zx(l:d Z):fk l=s (ep (l.map cn)):=by
 unfold fk
 by_cases h:D l<=200
 ·rw[Yt (show ¬(200:Int)<D l by omega)]
  exact Gy h (λi x hx hj hl hb=>ZhS h hx hj hl hb) (λi x hx hb=>Zjp h hx hb) (by unfold iE;simp)
 ·rw[Yi (show(200:Int)<D l by omega),Yw,yG YD]
theorem Zij{l:d Z}(h:ep (l.map cn)=X):D l<=200:=by
 by_cases h':D l<=200
 ·omega
 ·rw[yG YD]at h;cases h
/-! Zjh. -/
theorem Je{l:d Int}(hl:D l<=1048576){i:J}{x:Int}(hx:l[i]?=s x):(C (!(L (0<=x)&&L (x<=100))) (s (.inr N)) (C (L (0<(i:Int))) ((az l (M ((i:Int)-1))).bind λy=>C (L (x<y)) (s (.inr N)) (s (.inl ()))) (s (.inl ()))):F (Zo⊕Bool))=
 s (if vz l i=X then .inl ()else .inr N):=by
 have xg:(L (0<=x)&&L (x<=100))=x7 x 0 100:=rfl;rw[xg]
 cases h:x7 x 0 100 with
 |false=>rw[U4 hx h];rfl
 |true=>
  cases i with
  |zero=>rw[QY (VW 0) hx h];rfl
  |succ m=>
   have bD:=(VT.1 hx).1;have hm:l[m]?=s l[m]:=VS R;have hw:M (((m+1:J):Int)-1)=(m:Int):=by rw[aV R];omega
   rw[hw,aS]
   by_cases hy:x<l[m]
   ·rw[QX hm hx hy];grind
   ·rw[ZcA hm hx h hy];grind
theorem QZ{l:d Int}(hl:D l<=1048576):fE l=s (qv l):=by
 unfold fE qv;rw[qB (c:=vz l) (n:=D l) (r:=.inr N) (e:=.inl ()) (λi hi _=>?_) (λ_=>by unfold mA;simp) YF]
 ·unfold Bd
  cases(Wj (D l)).all (vz l)
  ·rfl
  ·rw[xe];rfl
 ·have hx:l[i]?=s l[i]:=VS hi
  unfold mA;simp only[nf,aS,hx,VR,xe,Je hl hx,bz hi R]
  grind
theorem Q0{l:d Int}(hl:D l<=1048576):fH l=s (qv l):=by
 unfold fH qv;rw[qB (c:=vz l) (n:=D l) (r:=.inr N) (e:=.inl ()) (λi hi _=>?_) (λ_=>by unfold mC;simp) YF]
 ·unfold Bd
  cases(Wj (D l)).all (vz l)
  ·rfl
  ·rw[cO];rfl
 ·have hx:l[i]?=s l[i]:=VS hi
  unfold mC;simp only[nf,aS,hx,VR,cO,Je hl hx,bz hi R]
  grind
/-! ZnR,Zm8,Zlt,Zm4,given back. -/
def xX(l:d Z)(x:Z):d Z×Int:=if 200<=D l then(l,5)else if ep ((l++[x]).map cn)=X then(l++[x],0)else(l,1)
def vN(l:d Z)(o a t:Int):d Z×Int:=
 if ep (l.map cn)=N then(l,1)else if rH o 1 a t=N then(l,1)else if L (0<cC (l.map cn) o 1)=X then(l,2)else xX l ⟨o,1,a,t⟩
def Ol(l:d Z)(o a t:Int):d Z×Int:=
 if ep (l.map cn)=N then(l,1)else if rH o 2 a t=N then(l,1)else if L (cC (l.map cn) o 1=0)=X then(l,3)else if L (kX (l.map cn) o<a)=X then(l,4)else xX l ⟨o,2,a,t⟩
def vZ(l:d Z)(o du en:Int)(ps:d Int)(t:Int):d Z×Int:=
 if ep (l.map cn)=N then(l,1)else if qv ps=N then(l,1)else if x7 o 1 9999=N then(l,1)else if x7 t 0 100000=N then(l,1)
 else if L (cC (l.map cn) o 1=0)=X then(l,3)else if L (0<kX (l.map cn) o)=X then(l,3)else if L (0<cC (l.map cn) o 3)=X then(l,2)
 else if L (uG (cC (l.map cn) o 1) du en ps=0)=X then(l,4)else xX l ⟨o,3,uG (cC (l.map cn) o 1) du en ps,t⟩
section
variable {l:d Z} (hl:l.length<=1048576)
include hl
theorem KJ(o:Int):jh l o=s (kX (l.map cn) o):=by
 unfold jh kX;simp only[xE,Hx hl,qP]
 grind
theorem KL(o:Int):eW l o=s (kX (l.map cn) o):=by
 unfold eW kX;simp only[zx,JB hl,qP]
 grind
theorem Re(x:Z):lY l x=s (xX l x):=by
 unfold lY xX;rw[BW hl];simp
 by_cases h:200<=D l
 ·grind
 ·rw[fv YD R]
  simp only[xE]
  grind
theorem Rf(x:Z):mo l x=s (xX l x):=by
 unfold mo xX;rw[BX hl];simp only[VR];rw[oB (b:=bn (D l+D ([x]:d Z)) 32) Y9]
 by_cases h:200<=D l
 ·grind
 ·simp only[zx]
  grind
theorem ZaS(o a t:Int):lR l o a t=s (vN l o a t):=by
 unfold lR vN;simp only[xE,yA,BW hl,Hx hl,Re hl]
 grind
theorem ZaT(o a t:Int):mf l o a t=s (vN l o a t):=by
 unfold mf vN;simp only[zx,BQ,BX hl,JB hl,Rf hl]
 grind
theorem ZkU(o a t:Int):pN l o a t=s (Ol l o a t):=by
 unfold pN Ol;simp only[xE,yA,BW hl,Hx hl,KJ hl,Re hl]
 grind
theorem ZkV(o a t:Int):pX l o a t=s (Ol l o a t):=by
 unfold pX Ol;simp only[zx,BQ,BX hl,JB hl,KL hl,Rf hl]
 grind
end
theorem Pg(h:0<=du/\du<=200000)(k:0<=en/\en<=200000)(he:¬en<=du):IntKind.i64.wrap (Int.tdiv (M ((M (en-du))-1)) 1440)=(en-du-1) / 1440:=by
 rw[show M (M (en-du)-1)=en-du-1 by rw[aV (n:=en-du) R,aV R],Int.tdiv_eq_ediv_of_nonneg R]
 exact aV R
theorem SL{ps:d Int}(hp:qv ps=X)(he:¬en<=du):az ps ((sV du en ps:J):Int)=s (ps.getD (sV du en ps) 0):=by
 have:=OC hp he;rw[aS,List.getD_eq_getElem?_getD,VS this];rfl
theorem OE{ps:d Int}(hp:D ps<=1048576)(c du en:Int):oF c du en ps=s (uG c du en ps):=by
 unfold oF uG G0;simp only[QZ hp,xe]
 cases h1:qv ps
 ·rfl
 cases h2:x7 c 0 100000
 ·simp only[x7]at h2;grind
 cases h3:x7 du 0 200000
 ·simp only[x7]at h2 h3;grind
 cases h4:x7 en 0 200000
 ·simp only[x7]at h2 h3 h4;grind
 by_cases h5:en<=du
 ·grind
 ·have hl:=GP h1
  have e:=Pg (qA h3) (qA h4) h5;have hi:(if(M ((D ps:Int)-1))<(en-du-1) / 1440 then(M ((D ps:Int)-1))else(en-du-1) / 1440)=((sV du en ps:J):Int):=by
   rw[aV R];unfold sV
   grind
  simp only[x7]at h2 h3 h4
  simp only[h2,h3,h4,e,hi,SL h1 h5,Yt h5,VR,VX,WI,XS,Yx,if_true,SK]
theorem OG{ps:d Int}(hp:D ps<=1048576)(c du en:Int):lG c du en ps=s (uG c du en ps):=by
 unfold lG uG G0;simp only[Q0 hp,cO,nf]
 cases h1:qv ps
 ·rfl
 cases h2:x7 c 0 100000
 ·simp only[x7]at h2;grind
 cases h3:x7 du 0 200000
 ·simp only[x7]at h2 h3;grind
 cases h4:x7 en 0 200000
 ·simp only[x7]at h2 h3 h4;grind
 by_cases h5:en<=du
 ·grind
 ·have hl:=GP h1
  have e:=Pg (qA h3) (qA h4) h5;have hi:(C (L ((D ps:Int)<=(en-du-1) / 1440)) (s (.inl (M ((D ps:Int)-1)))) (s (.inl ((en-du-1) / 1440))):F (Int⊕Empty))=s (.inl ((sV du en ps:J):Int)):=by
   rw[aV R];unfold sV
   grind
  simp only[x7]at h2 h3 h4
  simp only[h2,h3,h4,e,hi,SL h1 h5,Yt h5,VR,VX,WI,XS,Yx,if_true,bj,SK]
section
variable {l:d Z} (hl:l.length<=1048576) {ps:d Int} (hp:ps.length<=1048576)
include hl hp
theorem ZcX(o du en t:Int):lW l o du en ps t=s (vZ l o du en ps t):=by
 unfold lW vZ x7;simp only[xE,QZ hp,xe,BW hl,Hx hl,KJ hl,OE hp,Re hl,VR]
 grind
theorem ZcY(o du en t:Int):mj l o du en ps t=s (vZ l o du en ps t):=by
 unfold mj vZ x7;simp only[zx,Q0 hp,cO,BX hl,JB hl,R3 hl,KL hl,OG hp,Rf hl,VR]
 cases hb:ep (l.map cn)
 ·rfl
 ·rw[ZaV o 3 hb]
  grind
end
structure Zjg(o:aD):Prop where
 world:sE o.world
 bb:uc o.bb
 bd:o.bd.length<=1048576
 zT:o.aU.length<=1048576
 lines:o.lines.length<=1048576
 aK:o.aK.length<=1048576
 aF:o.aF.length<=1048576
 ZkW:∀p∈o.aK,p.label.aZ.size<=uY/\p.ar.size<=uY/\p.bJ.length<NN
 Zjn:∀a∈o.aF,a.aM.label.aZ.size<=uY/\a.aM.ar.size<=uY/\a.aM.bJ.length<NN
def FU(o:aD)(i:J)(p:aP)(v:Int×Bool)(x:F ay):Bool:=match x with
 |some x=>v.2&&(L (x.ar=p.ar)&&(L (x.aZ=p.label.aZ)&&(L (x.ax=p.label.ax)&&(L (x.ah=p.ah)&&L (cC (o.lines.map cn) (((i+1:J):Int)) 1=v.1)))))
 |none=>N
theorem tq(o:aD)(i:J)(p:aP)(v:Int×Bool)(x:ay):FU o i p v (s x)=(v.2&&(L (x.ar=p.ar)&&(L (x.aZ=p.label.aZ)&&(L (x.ax=p.label.ax)&&(L (x.ah=p.ah)&&L (cC (o.lines.map cn) (((i+1:J):Int)) 1=v.1)))))):=rfl
def oA(o:aD)(i:J)(p:aP):Bool:=FU o i p ((js o.bb o.bd p).getD (0,N)) o.world.ae[i]?
def wR(o:aD)(_:J)(x:Z):Bool:=!decide ((D o.aK:Int)<x.order)&&!decide (o.world.now<x.aQ)
def JW(_:J)(a:bk):Bool:=(fM a).getD N
def fg(o:aD):Bool:=
 eY o.world&&(uq o.bb&&(ui o.bd (D o.bb:Int)&&(qv o.aU&&(ep (o.lines.map cn)&&(L ((D o.aK:Int)=(D o.world.ae:Int))&&(!decide (150<(D o.aF:Int))&&(Zp (oA o) 0 o.aK&&(Zp (wR o) 0 o.lines&&Zp JW 0 o.aF))))))))
section
variable {o:aD} (hf:Zjg o)
include hf
theorem NZ(hl:D o.aK=D o.world.ae):aB (mg o) NN 0=s (if Zp (oA o) 0 o.aK=X then .inl ()else .inr N):=by
 refine gM (A:=Zo) (λ_ i=>i) _ (λa _=>a) (λ_=>()) (λa i p hp=>?_) (λa=>?_) (by have:=hf.aK;unfold NN;omega) ()
 ·have bD:=(VT.1 hp).1
  have uP:=hf.aK;have hg:az o.aK (i:Int)=s p:=by rw[aS];omega
  obtain⟨x,hx⟩:∃x,o.world.ae[i]?=s x:=⟨_,VS R⟩;have hgx:az o.world.ae (i:Int)=s x:=by rw[aS];omega
  have hi:M ((i:Int)+1)=((i+1:J):Int):=bz bD R;obtain⟨p1,p2,p3⟩:=hf.ZkW p (VU hp);obtain⟨_,v,hv⟩:=Ce hf.bb hf.bd p1 p2 p3;have ZmA:fO o.lines ((i+1:J):Int) 1=s (cC (o.lines.map cn) (((i+1:J):Int)) 1):=JB hf.lines _ _;unfold mg qt oA;simp only[hx,tq]
  grind
 ·unfold mg
  simp
theorem NY(hl:D o.aK=D o.world.ae):aB (lS o) NN 0=s (if Zp (oA o) 0 o.aK=X then .inl ()else .inr N):=by
 refine gM (A:=Zo) (λ_ i=>i) _ (λa _=>a) (λ_=>()) (λa i p hp=>?_) (λa=>?_) (by have:=hf.aK;unfold NN;omega) ()
 ·have bD:=(VT.1 hp).1
  have uP:=hf.aK;have hg:az o.aK (i:Int)=s p:=by rw[aS];omega
  obtain⟨x,hx⟩:∃x,o.world.ae[i]?=s x:=⟨_,VS R⟩;have hgx:az o.world.ae (i:Int)=s x:=by rw[aS];omega
  have hi:M ((i:Int)+1)=((i+1:J):Int):=bz bD R;obtain⟨p1,p2,p3⟩:=hf.ZkW p (VU hp);obtain⟨e,v,hv⟩:=Ce hf.bb hf.bd p1 p2 p3;have ZmA:dL o.lines ((i+1:J):Int) 1=s (cC (o.lines.map cn) (((i+1:J):Int)) 1):=Hx hf.lines _ _;unfold lS oA;simp only[hg,hgx,hx,VR,e,hv,tq]
  grind
 ·unfold lS
  simp
theorem N1:aB (mh o) NN 0=s (if Zp (wR o) 0 o.lines=X then .inl ()else .inr N):=by
 refine gM (A:=Zo) (λ_ i=>i) _ (λa _=>a) (λ_=>()) (λa i p hp=>?_) (λa=>?_) (by have:=hf.lines;unfold NN;omega) ()
 ·have bD:=(VT.1 hp).1
  have uP:=hf.lines;have hg:az o.lines (i:Int)=s p:=by rw[aS];omega
  have hi:M ((i:Int)+1)=((i+1:J):Int):=bz bD R;unfold mh wR
  grind
 ·unfold mh
  simp
theorem N0(hl:D o.aK=D o.world.ae):aB (lT o) NN 0=s (if Zp (wR o) 0 o.lines=X then .inl ()else .inr N):=by
 refine gM (A:=Zo) (λ_ i=>i) _ (λa _=>a) (λ_=>()) (λa i p hp=>?_) (λa=>?_) (by have:=hf.lines;unfold NN;omega) ()
 ·have bD:=(VT.1 hp).1
  have uP:=hf.lines;have hg:az o.lines (i:Int)=s p:=by rw[aS];omega
  have hi:M ((i:Int)+1)=((i+1:J):Int):=bz bD R;unfold lT wR
  grind
 ·unfold lT
  simp
theorem N3:aB (mi o) NN 0=s (if Zp JW 0 o.aF=X then .inl ()else .inr N):=by
 refine gM (A:=Zo) (λ_ i=>i) _ (λa _=>a) (λ_=>()) (λa i p hp=>?_) (λa=>?_) (by have:=hf.aF;unfold NN;omega) ()
 ·have bD:=(VT.1 hp).1
  have uP:=hf.aF;have hg:az o.aF (i:Int)=s p:=by rw[aS];omega
  have hi:M ((i:Int)+1)=((i+1:J):Int):=bz bD R;obtain⟨p1,p2,p3⟩:=hf.Zjn p (VU hp);obtain⟨b,_,hb⟩:=Ft p1 p2 p3;unfold mi JW
  grind
 ·unfold mi
  simp
theorem N2:aB (lU o) NN 0=s (if Zp JW 0 o.aF=X then .inl ()else .inr N):=by
 refine gM (A:=Zo) (λ_ i=>i) _ (λa _=>a) (λ_=>()) (λa i p hp=>?_) (λa=>?_) (by have:=hf.aF;unfold NN;omega) ()
 ·have bD:=(VT.1 hp).1
  have uP:=hf.aF;have hg:az o.aF (i:Int)=s p:=by rw[aS];omega
  have hi:M ((i:Int)+1)=((i+1:J):Int):=bz bD R;obtain⟨p1,p2,p3⟩:=hf.Zjn p (VU hp);obtain⟨b,qV,hb⟩:=Ft p1 p2 p3;unfold lU JW
  grind
 ·unfold lU
  simp
theorem Em:mX o=s (fg o):=by
 have hp:fH o.aU=s (qv o.aU):=Q0 hf.zT;have hl:fk o.lines=s (ep (o.lines.map cn)):=zx _;unfold mX fg;simp only[nZ hf.world,LG hf.bb,SP hf.bd,hp,hl,VR]
 cases eY o.world
 ·rfl
 cases uq o.bb
 ·rfl
 cases ui o.bd (D o.bb:Int)
 ·rfl
 cases qv o.aU
 ·rfl
 cases ep (o.lines.map cn)
 ·rfl
 by_cases he:(D o.aK:Int)=(D o.world.ae:Int)
 ·rw[Yi he]
  cases L (150<(D o.aF:Int))
  ·simp only[NZ hf R,N1 hf,N3 hf]
   grind
  rfl
 grind
theorem yz:kJ o=s (fg o):=by
 have hp:fE o.aU=s (qv o.aU):=QZ hf.zT;have hl:eP o.lines=s (ep (o.lines.map cn)):=xE _;unfold kJ fg;simp only[qz hf.world,LF hf.bb,SO hf.bd,hp,hl,VR]
 cases eY o.world
 ·rfl
 cases uq o.bb
 ·rfl
 cases ui o.bd (D o.bb:Int)
 ·rfl
 cases qv o.aU
 ·rfl
 cases ep (o.lines.map cn)
 ·rfl
 by_cases he:(D o.aK:Int)=(D o.world.ae:Int)
 ·rw[Yi he]
  cases L (150<(D o.aF:Int))
  ·simp only[NY hf R,N0 hf R,N2 hf]
   grind
  rfl
 grind
end
end Go.Proofs.YtbjbellffaenaaaGreatDoor
namespace Go.Proofs.YtbjbellffaenaaaGreatDoor
open Go.RowKit Go.Lib Go.Sort
abbrev SW(w:World):J->Prop:=λb=>b<w.heap.size
def uI{w w':World}{p:PV}{x:Value}(h:eO w (SW w) p x)(hu:Up w w'):eO w' (SW w') p x:=
 h.ext (λb hb=>Wn hb hu.size) (λb o hb=>hu.cell (p:=⟨b,o,Y⟩) hb)
def eh.Zm3{P:Program}{α:Type}[eZ α]{c:α->d PV}[hf:we c (id:α->α)]{f:FuncId}{args:d PV}{T:TypeId}{r:d α}(h:eh P f args [] (.ms 0) [s ⟨T,eZ.k α,r.map c⟩]){w:World}(ht:DM w (oW λ_=>Y)){vs:Array Value}(hl:vs.size=D args)(ha:∀(i:J) (p:PV),args[i]?=s p->∃x,vs[i]?=s x/\eC w (E1 (SW w) (λ_=>Y) 0) p x):
 Calls P f vs w λe w'=>∃v,e=.returned v/\Own w' w.heap.size T v r/\Up w w':=by
 have hok:Ok w (oW λ_=>Y) (E1 (λb=>b<w.heap.size) (λ_=>Y) 0) w []:=
  ⟨Fs.refl _ _,λb h=>h,λl B h=>YM,λl l' B B' h=>YM,λl h=>absurd h (Nat.not_lt_zero l),λl B h=>YM,λl mb h=>YD,λl B h=>YM,ht,λ_ _ h=>h.elim⟩
 refine(h (λb=>b<w.heap.size) (λ_=>Y) w vs (λ_ _=>False) hok hl ha).mono ?_
 rintro e w' ⟨v,E',rfl,hk,_,_,_,hr⟩;refine⟨v,rfl,?_,⟨hk.up.os,hk.up.tape,hk.up.output,hk.up.size,λb hb=>hk.up.block b hb QL⟩⟩
 obtain⟨B,hB,hb,rfl⟩:=hr.vp hk (l:=0) rfl;have LQ:=hb.k;have hn:B.n=D r:=by have:=hb.n;simp_all
 have hT:=hb.T;simp only at LQ hT
 cases hz:B.z with
 |true=>
  have h0:r=[]:=by have:=hb.nil hz;simp_all
  subst h0;have Nj:B.sv=.slice Y 0 0:=by simp[sx.sv,hz]
  rw[Nj];exact World.ownsRow_nil _ _ _ _
 |false=>
  have Nj:B.sv=.slice (s ⟨B.b,0,Y⟩) (D r) B.c:=by simp[sx.sv,hz,hn]
  rw[Nj];obtain⟨cells,hc,tv,va⟩:=hb.mem hz;have pj:=hk.own 0 B hB hz;have Py:w.heap.size<=B.b:=by
   grind
  refine⟨by rw[nd],.inr ⟨B.b,B.c,cells,rfl,Py,by simp_all,by rw[<-hn];exact hb.nc,hb.cm,by simp_all,?_⟩⟩
  apply List.ext_getElem?;intro t;have hkp:0<eZ.k α:=eZ.pos
  rcases Wu t (D r*eZ.k α)with hi|hi
  ·rw[List.getElem?_take_of_lt hi,Array.getElem?_toList]
   have od:t / eZ.k α<D r:=by rw[Nat.div_lt_iff_lt_mul hkp];omega
   have hj:=Nat.mod_lt t hkp;have e0:t / eZ.k α*eZ.k α+t % eZ.k α=t:=by rw[Nat.mul_comm];exact Nat.div_add_mod t _
   have vD:D (c r[t / eZ.k α])=eZ.k α:=hf.len _;obtain⟨u,vJ,Ab⟩:=hf.aQ r[t / eZ.k α] (t % eZ.k α) _ (VS R);obtain⟨x,x1,_,x3⟩:=va (t / eZ.k α) (c r[t / eZ.k α]) (t % eZ.k α) (.v u) YD YG;obtain⟨rfl,_⟩:=x3.jw;rw[LQ,e0]at x1
   have LO:=xu (xs:=r) (i:=t / eZ.k α) (x:=r[t / eZ.k α]) (VS od) vJ
   simp_all
  ·rw[Xl YD,Xl (by rw[nd];omega)]
def ZjG:Tx prog 29 50 (eZ.k aq) 32:=Tx.mk' (z:=.agg #[I 0,I 0,I 0,I 0]) Tryz.underlying29 YC rfl
section
variable {n:ab} (hf:cD n) {w:World} {O:J->Prop} (ht:DM w O) {v0 v1:Value} (h0:eO w (SW w) (.sl (n.aC.map cY)) v0) (h1:eO w (SW w) (.sl (n.off.map V)) v1)
include hf ht h0 h1
theorem ZaD{W:World}(hu:Up w W){xs:d aq}(hx:D xs<=1048576){lv:Value}(hl:eO W (SW W) (.sl (xs.map aG)) lv):
 Calls prog 47 #[.agg #[v0,v1,I n.change],lv] W λe w'=>e=.returned (.bool (cb n xs))/\Up W w':=by
 have o0:=h0.one YE YE;have o1:=h1.one YE YE;have hC:=CT.ok (P:=prog) (vR hf hx);simp only[CT.f,CT.args,CT.m0,CT.res,CT.mem]at hC
 refine eh.Zac hC (AW ht (O':=λ_=>False) ⟨hu.os,hu.tape,hu.output,hu.size,λb hb _=>hu.block b hb⟩ λb _ h=>h.elim) rfl λi p hp=>?_
 match i with
 |0=>
  obtain rfl:_=p:=VV hp;refine⟨_,rfl,.ag _ _ rfl (λj x hx=>?_) λj p x hp hx=>?_⟩
  ·match j with
   |0=>simp_all
   |1=>simp_all
   |2=>obtain rfl:_=x:=VV hx
       rfl
   |j+3=>grind
  ·match j with
   |0=>obtain rfl:_=x:=VV hx
       obtain rfl:_=p:=VV hp;exact .c (uI h0 hu)
   |1=>obtain rfl:_=x:=VV hx
       obtain rfl:_=p:=VV hp;exact .c (uI h1 hu)
   |2=>obtain rfl:_=x:=VV hx
       obtain rfl:_=p:=VV hp;exact tZ _ rfl
   |j+3=>grind
 |1=>
  obtain rfl:_=p:=VV hp;exact⟨_,rfl,.c hl⟩
 |i+2=>grind
omit hf h0 h1 in
theorem R2{W:World}(hu:Up w W){xs:d aq}(hx:D xs<=1048576){lv:Value}(hl:eO W (SW W) (.sl (xs.map aG)) lv):
 Calls prog 156 #[lv] W λe w'=>∃v,e=.returned v/\Own w' W.heap.size 50 v xs/\Up W w':=by
 have hm:gZ xs=s xs:=by
  unfold gZ;simp only[V2,Br hx (show 32<=1024 by omega),VR,List.nil_append]
 have hC:=CT.ok (P:=prog) hm;simp only[CT.f,CT.args,CT.m0,CT.res,CT.mem]at hC
 refine eh.Zm3 hC (AW ht (O':=λ_=>False) ⟨hu.os,hu.tape,hu.output,hu.size,λb hb _=>hu.block b hb⟩ λb _ h=>h.elim) rfl λi p hp=>?_
 match i with
 |0=>
  obtain rfl:_=p:=VV hp;exact⟨_,rfl,.c hl⟩
 |i+1=>grind
end
def gD{w w':World}{b o:J}{v:Value}(h:w.cell? ⟨b,o,Y⟩=s v)(hb:b<w.heap.size)(hu:Up w w'):w'.cell? ⟨b,o,Y⟩=s v:=(hu.cell (p:=⟨b,o,Y⟩) hb).trans h
def Tk{w W:World}{O:J->Prop}(h:DM w O)(hu:Up w W){B:J}(hB:w.heap.size<=B):DM W (λb=>B<=b):=by
 obtain⟨T,h1,h2⟩:=h;exact⟨T,λb hb=>⟨Wn (h1 b hb).1 hu.size,λh=>by have:=(h1 b hb).1;omega⟩,λw'' Zh9=>h2 w'' λb hb=>(Zh9 b hb).trans (hu.block b (h1 b hb).1)⟩
def Zcw{w:World}{B Bx:J}{v v':Value}{xs:d aq}(h:Own w B 50 v xs)(hx:w.heap[Bx]?=s (.cells #[v'] 29 (0,0))):v.ownBlock≠s Bx:=by
 rcases h.2 with⟨hv,_⟩ |⟨g,cap,cur,hv,hB,hg,_⟩
 ·rw[hv];simp[Value.ownBlock]
 ·rw[hv]
  intro e;have:g=Bx:=by simpa[Value.ownBlock]using e
  subst this;rw[hg]at hx
  simp at hx
section
variable {n:ab} (hf:cD n) {w:World} {O:J->Prop} (ht:DM w O) {v0 v1:Value} (h0:eO w (SW w) (.sl (n.aC.map cY)) v0) (h1:eO w (SW w) (.sl (n.off.map V)) v1)
 {l:d aq} (hl:l.length<=1048000) {lv:Value} (hlr:eO w (SW w) (.sl (l.map aG)) lv) (aR ah:Int) {aE:d au} (hwl:aE.length<=1048576) {A:F Addr} {wn:J} (BM:Rd w w.heap.size A aE)
include hf ht h0 h1 hl hlr hwl BM
theorem Zd9(zZ:¬(cb n l=X/\(D aE)<=20)):
 Calls prog 176 #[.agg #[v0,v1,I n.change],lv,I aR,I ah,.slice A (D aE) wn] w λe w'=>∃v,e=.returned (.tuple #[v,.bool N])/\Own w' w.heap.size 50 v l/\Up w w':=by
 have hA:=fun(W:World) (hu:Up w W)=>ZaD hf ht h0 h1 hu (xs:=l) R (uI hlr hu)
 have hC:=fun(W:World) (hu:Up w W)=>R2 ht hu (xs:=l) R (uI hlr hu)
 have HA:Hid _:=hA;have HC:Hid _:=hC;clear hA hC hf ht h0 h1 hlr BM
 by_cases hb:cb n l=X
 ·have h20:(20:Int)<(D aE:Int):=by
   rcases Wu 20 (D aE) with h|h
   ·omega
   ·exact absurd ⟨hb,h⟩ zZ
  have Hb:Hid (cb n l=X):=hb;clear zZ hb
  go_enter func176,ntmps176
  go_wp2_with (first
   |(go_at_call 47;refine(HA.out _ YB).mono ?_;rintro e w1 ⟨rfl,vJ⟩;rw[Hb.out])
   |(go_at_call 156;refine(HC.out _ YB).mono ?_;rintro e w2 ⟨v2,rfl,D7,Ab⟩))
  go_ret2
  exact⟨v2,rfl,D7.down YB,by(repeat(first|exact Up.rfl' _|(refine Up.al _ ?_) |(refine Up.dr _ ?_) |(refine Up.sZ ?_) |(refine Up.sc ?_ YH _) |(refine Up.step YN ?_)))⟩
 ·have Ex:cb n l=false:=by simpa using hb
  have Hb:Hid (cb n l=N):=Ex;clear zZ hb Ex
  go_enter func176,ntmps176
  go_wp2_with (first
   |(go_at_call 47;refine(HA.out _ YB).mono ?_;rintro e w1 ⟨rfl,vJ⟩;rw[Hb.out])
   |(go_at_call 156;refine(HC.out _ YB).mono ?_;rintro e w2 ⟨v2,rfl,D7,Ab⟩))
  go_ret2
  exact⟨v2,rfl,D7.down YB,by(repeat(first|exact Up.rfl' _|(refine Up.al _ ?_) |(refine Up.dr _ ?_) |(refine Up.sZ ?_) |(refine Up.sc ?_ YH _) |(refine Up.step YN ?_)))⟩
theorem ZaJ(hb:cb n l=X)(h20:D aE<=20):
 Calls prog 176 #[.agg #[v0,v1,I n.change],lv,I aR,I ah,.slice A (D aE) wn] w λe w'=>∃v ys ok,e=.returned (.tuple #[v,.bool ok])/\Own w' w.heap.size 50 v ys/\Up w w'/\cG n l aR ah aE=s (ys,ok):=by
 have hlb:=(dJ hb).2;have hA:=fun(W:World) (hu:Up w W) (xs:d aq) (hx:D xs<=1048576) (lv:Value) (hl:eO W (SW W) (.sl (xs.map aG)) lv)=>ZaD hf ht h0 h1 hu (xs:=xs) hx hl
 have hC:=fun(W:World) (hu:Up w W)=>R2 ht hu (xs:=l) R (uI hlr hu)
 have HA:Hid _:=hA;have HC:Hid _:=hC;have HL:Hid (∀W,Up w W->eO W (SW W) (.sl (l.map aG)) lv):=λW hu=>uI hlr hu
 have HW:Hid (Rd w w.heap.size A aE):=BM;have HF:Hid (cD n):=hf;have HT:Hid (DM w O):=ht;have Hb:Hid (cb n l=X):=hb;have ZnW:¬(20:Int)<(D aE:Int):=R;clear hA hC hf ht h0 h1 hlr BM hb
 go_enter func176,ntmps176
 go_wp2_with (first
  |(go_at_call 47;refine(HA.out _ YB l R lv (HL.out _ YB)).mono ?_;rintro e w1 ⟨rfl,vJ⟩;rw[Hb.out])
  |(go_at_call 156;refine(HC.out _ YB).mono ?_;rintro e w2 ⟨v2,rfl,D7,Ab⟩;obtain⟨A2,c2,rfl,LM,_⟩:=D7.form))
 have LV:Up (w.alloc (.cells #[v0,v1,I n.change] 27)) w2:=by(repeat(first|exact Up.rfl' _|(refine Up.al _ ?_) |(refine Up.dr _ ?_) |(refine Up.sZ ?_) |(refine Up.sc ?_ YH _) |(refine Up.step YN ?_)))
 have pj:Own w2 (w.heap.size+1) 50 (.slice A2 (D l) c2) l:=by
  have:=D7.down (w0:=w.alloc (.cells #[v0,v1,I n.change] 27)) YB
  simpa using this
 have HUB:=Lib.hid LV;have HO:=Lib.hid pj;clear D7 LM pj
 go_loopw [30] (λK wr=>∃(i:J) (v:Value),K=Zh Zi i/\i<=D aE/\Own wr (w.heap.size+1) 50 v (l++iU aR ah (aE.take i))/\wr.heap[w2.heap.size]?=s (.cells #[v] 29 (0,0))/\Up (w.alloc (.cells #[v0,v1,I n.change] 27)) wr) (λK _=>D aE-(intOf K).toNat)
 case atStart=>
  refine⟨0,_,by go_num,R,?_,heap_alloc_new _ _,Up.al _ HUB.out⟩
  simp only[List.take_zero,iU,List.map_nil,List.append_nil];exact HO.out.up (Up.al _ (Up.rfl' _))
 case round=>
  obtain⟨i,v,rfl,hi,hv,hx,BM⟩:=hrel;obtain⟨A3,c3,rfl,hc3,hm3⟩:=hv.form;have E3:D (l++iU aR ah (aE.take i))=D l+i:=by simp[iU];omega
  rw[E3]at hv hx
  have hcx:wr.cell? ⟨w2.heap.size,0,Y⟩=s (.slice A3 (D l+i) c3):=by rw[cell_of_row wr _ 0 _ _ (0,0) hx];rfl
  have hz:w2.heap.size<wr.heap.size:=(Array.getElem?_eq_some_iff.1 hx).1;have PC:wr.heap.size≠w2.heap.size:=R;have IQ:w2.heap.size≠wr.heap.size:=R;have HV:=Lib.hid hv;have HX:=Lib.hid hx;have HWR:=Lib.hid BM;have HNL:=Lib.hid E3;clear hv hx BM;clear E3 hc3 hm3
  by_cases bD:i<D aE
  ·obtain⟨b,off,rfl,Pw,ta⟩:=(HW.out.up (Up.step (w.alloc (.cells #[v0,v1,I n.change] 27) |> λ_=>HWR.out) (Up.al _ (Up.rfl' w)))).aQ (VS bD)
   have d0:wr.cell? ⟨b,off+i*2,Y⟩=s (I aE[i].bq):=ta 0 _ rfl;have d1:wr.cell? ⟨b,off+i*2+1,Y⟩=s (I aE[i].day):=ta 1 _ rfl;clear ta;have Gj:Rd ((wr.alloc (.cells #[I aE[i].bq,I aE[i].day] 48)).alloc (.cells #[I aR,I aE[i].bq,I aE[i].day,I ah] 50)) (wr.heap.size+2) (s ⟨wr.heap.size+1,0,Y⟩) [(⟨aR,aE[i],ah⟩:aq)]:=by
    have e:(wr.alloc (.cells #[I aE[i].bq,I aE[i].day] 48)).heap.size=wr.heap.size+1:=by simp
    have h:=Rd.one (wr.alloc (.cells #[I aE[i].bq,I aE[i].day] 48)) 50 (⟨aR,aE[i],ah⟩:aq) (wr.heap.size+2) (by rw[e];omega)
    rw[e]at h
    exact h
   have HR1:=Lib.hid Gj;clear Gj;have hlen:=HNL.out;have xh:w.heap.size+1<=wr.heap.size:=by have:=HWR.out.size;simpa using this
   go_wp2_with (at_builtin;refine gb ZjG rfl (.tmp 34) (.tmp 39) rfl (base:=w.heap.size+1) (ys:=l++iU aR ah (aE.take i)) (xs:=[(⟨aR,aE[i],ah⟩:aq)]) YT (HV.out.up YB) 1 YT rfl HR1.out Y2 YX YL ?_;intro v' w3 LU hg3 _ hu3;refine Hid.out ?_)
   have PB:w3.heap[w2.heap.size]?=s (.cells #[.slice A3 (D l+i) c3] 29 (0,0)):=by
    rw[hg3.block _ YL (λe=>Zcw HV.out HX.out e.symm)]
    exact((Up.al _ (Up.al _ (Up.rfl' wr))).block _ hz).trans HX.out
   obtain⟨A4,c4,rfl,hc4,hm4⟩:=LU.form;have hl4:D (l++iU aR ah (aE.take i)++[(⟨aR,aE[i],ah⟩:aq)])=D l+(i+1):=by simp[iU];omega
   rw[hl4]at LU⊢
   clear hl4;have Sm:iU aR ah (aE.take (i+1))=iU aR ah (aE.take i)++[⟨aR,aE[i],ah⟩]:=by
    unfold iU;rw[List.take_succ_eq_append_getElem bD,List.map_append];rfl
   have Zmf:w3.cell? ⟨w2.heap.size,0,Y⟩=s (.slice A3 (D l+i) c3):=by rw[cell_of_row w3 _ 0 _ _ (0,0) PB];rfl
   have Zn5:w3.frozen? ⟨w2.heap.size,0,Y⟩=false:=by simp[World.frozen?,PB]
   have Zkt:Up (w.alloc (.cells #[v0,v1,I n.change] 27)) w3:=hu3 _ YE (Up.al _ (Up.al _ HWR.out));have HX3:=Lib.hid PB;have HO3:=Lib.hid LU;have HN:=Lib.hid Sm;have HW3:=Lib.hid Zkt;clear PB LU hg3 hu3 Sm Zkt hc4 hm4 hlen;refine Lib.hid ?_
   go_wp2
   refine⟨⟨i+1,_,by go_num,R,?_,heap_setCell_same w3 _ 0 _ _ _ HX3.out,Up.sc HW3.out (by have:=HUB.out.size;simp at this⊢;omega) _⟩,by simp[intOf];omega⟩
   rw[HN.out,<-List.append_assoc];exact HO3.out.grown (row:=s w2.heap.size) ⟨rfl,rfl,rfl,by simp,λk hk gL=>heap_setCell_other _ _ _ _ (λe=>gL Zb)⟩ (.inr (Zcw HO3.out HX3.out))
  ·have hie:i=D aE:=R
   subst hie;have tV:=Zgl HV.out HX.out (by rw[HNL.out];omega) (Tk HT.out (Up.step HWR.out (Up.al _ (Up.rfl' w))) R) (λb h=>h)
   have Cz:¬(D aE:Int)<(D aE:Int):=R
   go_wp2_with (go_at_call 231;refine tV.mono ?_;rintro e w4 ⟨rfl,ys,hp,hs,ho4,Np⟩;refine Hid.out ?_)
   rw[List.take_length]at hp
   have hyl:D ys=D l+D aE:=by rw[hp.length_eq];simp[iU]
   have D9:=wC HF.out hl aR ah hp hs;have Kn:Up (w.alloc (.cells #[v0,v1,I n.change] 27)) w4:=by
    have h:=HWR.out;exact⟨Np.os.trans h.os,Np.tape.trans h.tape,Np.output.trans h.output,Nat.le_trans h.size Np.size,λb hb=>(Np.block b (Wn hb h.size) (λhh=>by simp at hb;omega)).trans (h.block b hb)⟩
   have e0:w4.cell? ⟨w.heap.size,0,Y⟩=s v0:=gD YE YE Kn;have e1:w4.cell? ⟨w.heap.size,1,Y⟩=s v1:=gD YE YE Kn;have e2:w4.cell? ⟨w.heap.size,2,Y⟩=s (I n.change):=gD YE YE Kn;have ex:w4.heap[w2.heap.size]?=s (.cells #[.slice A3 (D l+D aE) c3] 29 (0,0)):=(Np.block _ hz (λhh=>hh.2 rfl)).trans HX.out
   have exc:w4.cell? ⟨w2.heap.size,0,Y⟩=s (.slice A3 (D l+D aE) c3):=by rw[cell_of_row w4 _ 0 _ _ (0,0) ex];rfl
   have hrp:eO w4 (SW w4) (.sl (ys.map aG)) (.slice A3 (D l+D aE) c3):=by
    rw[<-hyl]at ho4⊢
    obtain⟨A5,c5,e5,h5,h6⟩:=ho4.form;obtain⟨rfl,rfl⟩:A3=A5/\c3=c5:=by simpa using e5
    exact Fb (c:=aG) id (by rw[List.map_id];exact ho4.rd) h5 h6
   have Zh8:Up w w4:=Up.step Kn (Up.al _ (Up.rfl' w));have hA:=HA.out w4 Zh8 ys R _ hrp;have HSP:=Lib.hid D9;have HO4:=Lib.hid ho4;have HUP:=Lib.hid Kn;have Zhe:=Lib.hid Zh8;have HZ4:Hid (w2.heap.size<w4.heap.size):=Wn hz Np.size;clear tV hp hs ho4 Np hyl D9 Kn ex hrp Zh8;refine Lib.hid ?_
   cases hby:cb n ys with
   |true=>
    rw[hby]at hA
    have HBY:=Lib.hid hby;clear hby
    go_wp2_with (first
     |(go_at_call 47;refine hA.mono ?_;rintro e w5 ⟨rfl,vQ⟩;have ZnU:=gD exc HZ4.out vQ))
    go_ret2
    exact⟨_,ys,X,rfl,(HO4.out.more R).up vQ,Up.step vQ (Up.step HUP.out (Up.al _ (Up.rfl' w))),by rw[HSP.out,if_pos ⟨Hb.out,h20,HBY.out⟩]⟩
   |false=>
    rw[hby]at hA
    have HBY:=Lib.hid hby;clear hby
    go_wp2_with (first
     |(go_at_call 47;refine hA.mono ?_;rintro e w5 ⟨rfl,vQ⟩)
     |(go_at_call 156;refine(HC.out _ (Up.step vQ Zhe.out)).mono ?_;rintro e w6 ⟨v6,rfl,ho6,Sn⟩))
    go_ret2
    exact⟨v6,l,N,rfl,ho6.down (Up.step vQ Zhe.out),Up.step Sn (Up.step vQ Zhe.out),by rw[HSP.out,if_neg (λh=>by rw[HBY.out]at h;cases h.2.2)]⟩
end
end Go.Proofs.YtbjbellffaenaaaGreatDoor
namespace Go.Proofs.YtbjbellffaenaaaGreatDoor
open Go.RowKit Go.Lib
def Zey(n:ab):Bool:=L (D n.aC<=1048576)&&L (D n.off<=1048576)&&n.aC.all λl=>L (l.ar.size<=uY)&&L (l.aZ.size<=uY)
def yu{n:ab}:Zey n=X↔cD n:=by
 unfold Zey;simp only[Bool.and_eq_true,Yy,List.all_eq_true];exact⟨λh=>⟨h.1.1,h.1.2,λl hl=>h.2 l hl⟩,λh=>⟨⟨h.aC,h.off⟩,λl hl=>h.bq l hl⟩⟩
def gE(n:ab)(l:d aq)(aR:Int)(ah:Int)(aE:d au):F ((d aq)×Bool):=
 if Zey n=X/\(D l)<=1048000/\(D aE)<=1048576 then cG n l aR ah aE else Y
def ZlH{vs:Array Value}{x0 x1 x2 x3 x4:Value}(h:vs.size=5)(h0:vs[0]?=s x0)(h1:vs[1]?=s x1)(h2:vs[2]?=s x2)(h3:vs[3]?=s x3)(h4:vs[4]?=s x4):vs=#[x0,x1,x2,x3,x4]:=by
 grind
def EB(n:ab)(l:d aq)(aR:Int)(ah:Int)(aE:d au){r:(d aq)×Bool}(H:gE n l aR ah aE=s r):eh prog 176 [.ag (aT n),.sl (l.map aG),K aR,K ah,.sl (aE.map bg)] [] (.tu [.ms 0,vb r.2]) [s ⟨.of 50,4,r.1.map aG⟩]:=by
 unfold gE at H
 split at H
 case isFalse=>cases H
 rename_i hok;obtain⟨hf,hln,hwn⟩:=hok;have hf:=yu.1 hf;intro S β w vs ω hk hl ha;obtain⟨x0,q0,r0⟩:=ha 0 _ rfl;obtain⟨x1,q1,r1⟩:=ha 1 _ rfl;obtain⟨x2,q2,r2⟩:=ha 2 _ rfl;obtain⟨x3,q3,r3⟩:=ha 3 _ rfl;obtain⟨x4,q4,r4⟩:=ha 4 _ rfl;obtain rfl:=ZlH hl q0 q1 q2 q3 q4;obtain rfl:=DB r2;obtain rfl:=DB r3;obtain⟨us,rfl,hul,vJ,hur⟩:=r0.si;have ZbR:us.size=3:=hul;have z0:us[0]?=s us[0]:=V4 R;have z1:us[1]?=s us[1]:=V4 R;have z2:us[2]?=s us[2]:=V4 R;have hus:us=#[us[0],us[1],us[2]]:=ZgJ ZbR z0 z1 z2;have w0:=(hur 0 (.sl (n.aC.map cY)) _ rfl z0).uk;have w1:=(hur 1 (.sl (n.off.map V)) _ rfl z1).uk;have w2:=DB (hur 2 (K n.change) _ rfl z2);have w3:=r1.uk;have w4:=r4.uk;have up:∀{p:PV} {x:Value},eO w S p x->eO w (SW w) p x:=λh=>h.ext (λb hb=>hk.sz b hb) λ_ _ _=>rfl
 obtain⟨A,wn,rfl,_,_,IN⟩:=K9 (id:au->au) (c:=bg) hk.sz w4;rw[List.map_id]at IN
 have Zkg:Calls prog 176 #[.agg #[us[0],us[1],I n.change],x1,I aR,I ah,.slice A (D aE) wn] w λe w'=>∃v ys ok,e=.returned (.tuple #[v,.bool ok])/\Own w' w.heap.size 50 v ys/\Up w w'/\cG n l aR ah aE=s (ys,ok):=by
  by_cases zZ:cb n l=X/\(D aE)<=20
  ·exact ZaJ hf hk.JC (up w0) (up w1) hln (up w3) aR ah hwn IN zZ.1 zZ.2
  ·refine(Zd9 hf hk.JC (up w0) (up w1) hln (up w3) aR ah hwn IN zZ).mono ?_
   rintro e w' ⟨v,rfl,ho,hu⟩;refine⟨v,l,N,rfl,ho,hu,?_⟩;unfold cG;rw[tr R,VR,ie hf R,VR]
   by_cases hb:cb n l=X
   all_goals grind
 rw[hus,w2];refine Zkg.mono ?_;rintro e w' ⟨v,ys,ok,rfl,ho,hu,D9⟩;rw[D9]at H
 obtain rfl:=VV H;obtain⟨E',h1,h2,h3,h4,h5⟩:=uU (c:=aG) hk ho hu (λx=>⟨rfl,λj p hj=>by
  obtain⟨u,vJ,Ab⟩:=we.aQ (c:=aG) (g:=(id:aq->aq)) x j p hj;exact⟨u,vJ,eZ.one _ u (VU vJ),λw E=>by rw[Ab];exact tZ _ (eZ.one _ u (VU vJ))⟩⟩)
 refine⟨_,E',rfl,h1,h2,h3,h4,.tu _ _ rfl λj p x hp hx=>?_⟩
 match j with
 |0=>grind
 |1=>obtain rfl:_=p:=VV hp
     obtain rfl:_=x:=VV hx;exact tZ _ rfl
 |j+2=>grind
instance (n:ab)(l:d aq)(aR:Int)(ah:Int)(aE:d au):CT prog (gE n l aR ah aE):=⟨176,[.ag (aT n),.sl (l.map aG),K aR,K ah,.sl (aE.map bg)],[],λr=>.tu [.ms 0,vb r.2],λr=>[s ⟨.of 50,4,r.1.map aG⟩],EB n l aR ah aE⟩
end Go.Proofs.YtbjbellffaenaaaGreatDoor
namespace Go.Proofs.YtbjbellffaenaaaGreatDoor
open Go.RowKit
def gq(w:aw)(cM:ByteArray)(aZ:ByteArray)(ax:Int)(ah:Int):F (aw×Int×Bool):=
 G (eG w) λy1=>
 G (fR w) λy2=>
 C (!y2)
 (s (y1,0,N))
 (C (L (30<=(D w.ae:Int)))
 (s (y1,0,N))
 (C (L (cM=aZ))
 (s (y1,0,N))
 (G (ba ax 1 3) λy3=>
 C (!y3)
 (s (y1,0,N))
 (G (ba ah 1 30000) λy4=>
 C (!y4)
 (s (y1,0,N))
 (G (jI w.aa w.av w.ak cM aZ (M (w.now+1)) ah) λy5=>
 C (!y5.2)
 (s (y1,0,N))
 (G (gE w.aa w.av (M ((D w.ae:Int)+1)) ah y5.1) λy6=>
 C (!y6.2)
 (s (y1,0,N))
 (G (gN w.aa ax cM aZ (M (w.now+1))) λy7=>
 G (eQ y5.1) λy8=>
 G (cf (bn (D (y1.ae:d ay)+D ([(⟨cM,aZ,ax,ah,w.now,y7,y8,0,1,cM,0⟩:ay)]:d ay)) 128)) λ_=>
 G (Ev (.un::vs cM::(U 3 (.be 0 0 0::(U 4 (.be 1 0 0::.un::.un::.be 2 0 0::K (M ((D w.ae:Int)+1))::(U 102 [])))))) [s ⟨.of 33,10,[cL w]⟩,s ⟨.of 33,10,[zg]⟩,s ⟨.of 33,10,[[.ms 3,.ms 4,K y1.aa.change,.ms 5,.ms 6,.ms 7,K y1.now,.ms 8,.ms 9,K y1.br]]⟩,s ⟨.of 101,6,y1.aa.aC.map cY⟩,s ⟨.of 3,1,y1.aa.off.map V⟩,s ⟨⟨63,s 48⟩,11,((y1.ae:d ay)++[(⟨cM,aZ,ax,ah,w.now,y7,y8,0,1,cM,0⟩:ay)]).map bx⟩,s ⟨.of 50,4,y6.1.map aG⟩,s ⟨.of 48,2,y1.ak.map bg⟩,s ⟨.of 89,6,y1.aL.map bA⟩,s ⟨.of 3,1,y1.skip.map V⟩]) λ_=>
 G (bw [2,3,4,5,6,7,8,9]) λ_=>
 G (gg (⟨y1.aa,((y1.ae:d ay)++[(⟨cM,aZ,ax,ah,w.now,y7,y8,0,1,cM,0⟩:ay)]),y6.1,y1.ak,y1.now,y1.aL,y1.skip,y1.br⟩:aw) (⟨(M ((D w.ae:Int)+1)),w.now,1,cM,(⟨0,0⟩:au)⟩:aI)) λy9=>
 s (y9,(M ((D w.ae:Int)+1)),X))))))))
instance (w:aw)(cM:ByteArray)(aZ:ByteArray)(ax:Int)(ah:Int):CT prog (gq w cM aZ ax ah):=⟨111,[.ag (cL w),vs cM,vs aZ,K ax,K ah],[],λr=>.tu [.ag [.ms 0,.ms 1,K r.1.aa.change,.ms 2,.ms 3,.ms 4,K r.1.now,.ms 5,.ms 6,K r.1.br],K r.2.1,vb r.2.2],λr=>[s ⟨.of 101,6,r.1.aa.aC.map cY⟩,s ⟨.of 3,1,r.1.aa.off.map V⟩,s ⟨⟨63,s 48⟩,11,r.1.ae.map bx⟩,s ⟨.of 50,4,r.1.av.map aG⟩,s ⟨.of 48,2,r.1.ak.map bg⟩,s ⟨.of 89,6,r.1.aL.map bA⟩,s ⟨.of 3,1,r.1.skip.map V⟩],ck (gq.eq_1 ..) func111 ntmps111 results111⟩
def ks(w:ab)(o:ay):F ByteArray:=
 C (L (o.state=2))
 (G (az o.aE o.aH) λy1=>
 G (az w.aC y1.bq) λy2=>
 s y2.aZ)
 (s o.place)
instance (w:ab)(o:ay):CT prog (ks w o):=⟨119,[.ag [.sl (w.aC.map cY),.sl (w.off.map V),K w.change,.un,.un,.un,.un,.un,.un,.un],.ag (bx o)],[],λr=>vs r,λr=>[],cw (ks.eq_1 ..) func119 ntmps119 results119⟩
def jC(w:aw)(id:Int)(y2:Int)(s0:Int×(d aq)):F ((Int×(d aq))⊕(d aq)):=
 C (L (s0.1<(D w.av:Int)))
 (G (az w.av s0.1) λy3=>
 C (!decide (y3.aR=id))
 (G (cf (bn (D (s0.2:d aq)+D ([y3]:d aq)) 32)) λ_=>
 s (.inl ((M (s0.1+1)),((s0.2:d aq)++[y3]))))
 (G (zU w.ae (M (id-1))) λy4=>
 G (cf (iq y2 (D y4.aE:Int) (D y4.aE))) λ_=>
 G (fT (da y4.aE y2 (D y4.aE:Int)) y3.aN) λy5=>
 C (!y5)
 (G (cf (bn (D (s0.2:d aq)+D ([y3]:d aq)) 32)) λ_=>
 s (.inl ((M (s0.1+1)),((s0.2:d aq)++[y3]))))
 (s (.inl ((M (s0.1+1)),s0.2)))))
 (s (.inr s0.2))
instance (w:aw)(id:Int)(y2:Int):bm (jC w id y2):=⟨λs0=>(.be 0 0 0::K id::.un::.un::.be 3 (Wg (M (id-1))) 0::K y2::.ms 8::(U 22 (.ms 4::K (D w.av:Int)::K s0.1::(U 132 [])))),λs0=>[s ⟨.of 33,10,[[.ms 1,.ms 2,K w.aa.change,.ms 3,.ms 4,.ms 5,K w.now,.ms 6,.ms 7,K w.br]]⟩,s ⟨.of 101,6,w.aa.aC.map cY⟩,s ⟨.of 3,1,w.aa.off.map V⟩,s ⟨⟨63,s 48⟩,11,w.ae.map bx⟩,s ⟨.of 50,4,w.av.map aG⟩,s ⟨.of 48,2,w.ak.map bg⟩,s ⟨.of 89,6,w.aL.map bA⟩,s ⟨.of 3,1,w.skip.map V⟩,s ⟨.of 50,4,s0.2.map aG⟩]⟩
def fZ(w:aw)(id:Int):F aw:=
 G (az w.ae (M (id-1))) λy1=>
 G (jc y1) λy2=>
 (aB (jC w id y2) NN (0,([]:d aq))).bind (λo0=>
 G (zU w.ae (M (id-1))) λy6=>
 G (cf (iq 0 y2 (D y6.aE))) λ_=>
 G (eQ (da y6.aE 0 y2)) λy7=>
 G (zU w.ae (M (id-1))) λy8=>
 C (L (0<y2))
 (G (az y7 (M (y2-1))) λy9=>
 G (cE w.aa y9) λdO=>
 G (zU w.ae (M (id-1))) λlJ=>
 G (ks w.aa (⟨y8.ar,y8.aZ,y8.ax,y8.ah,y8.aQ,y8.fc,y7,y8.aH,y8.state,y8.place,y8.bK⟩:ay)) λlA=>
 G (zU w.ae (M (id-1))) λqi=>
 G (jI w.aa o0 w.ak lA y8.aZ (if(M (dO+w.aa.change)) > (M (w.now+1))then(M (dO+w.aa.change))else(M (w.now+1))) y8.ah) λoY=>
 C (!oY.2)
 (s (⟨w.aa,(w.ae.set (Wg (M (id-1))) (⟨y8.ar,y8.aZ,y8.ax,y8.ah,y8.aQ,y8.fc,y7,y8.aH,y8.state,y8.place,y8.bK⟩:ay)),o0,w.ak,w.now,w.aL,w.skip,w.br⟩:aw))
 (G (zU w.ae (M (id-1))) λrT=>
 G (gE w.aa o0 id y8.ah oY.1) λpI=>
 C pI.2
 (G (zU w.ae (M (id-1))) λtE=>
 G (cf (bn (D (y7:d au)+D (oY.1:d au)) 16)) λ_=>
 s (⟨w.aa,(w.ae.set (Wg (M (id-1))) (⟨y8.ar,y8.aZ,y8.ax,y8.ah,y8.aQ,y8.fc,((y7:d au)++oY.1),y8.aH,y8.state,y8.place,y8.bK⟩:ay)),pI.1,w.ak,w.now,w.aL,w.skip,w.br⟩:aw))
 (s (⟨w.aa,(w.ae.set (Wg (M (id-1))) (⟨y8.ar,y8.aZ,y8.ax,y8.ah,y8.aQ,y8.fc,y7,y8.aH,y8.state,y8.place,y8.bK⟩:ay)),o0,w.ak,w.now,w.aL,w.skip,w.br⟩:aw))))
 (G (ks w.aa (⟨y8.ar,y8.aZ,y8.ax,y8.ah,y8.aQ,y8.fc,y7,y8.aH,y8.state,y8.place,y8.bK⟩:ay)) λxT=>
 G (zU w.ae (M (id-1))) λzf=>
 G (jI w.aa o0 w.ak xT y8.aZ (M (w.now+1)) y8.ah) λFh=>
 C (!Fh.2)
 (s (⟨w.aa,(w.ae.set (Wg (M (id-1))) (⟨y8.ar,y8.aZ,y8.ax,y8.ah,y8.aQ,y8.fc,y7,y8.aH,y8.state,y8.place,y8.bK⟩:ay)),o0,w.ak,w.now,w.aL,w.skip,w.br⟩:aw))
 (G (zU w.ae (M (id-1))) λIp=>
 G (gE w.aa o0 id y8.ah Fh.1) λCw=>
 C Cw.2
 (G (zU w.ae (M (id-1))) λIq=>
 G (cf (bn (D (y7:d au)+D (Fh.1:d au)) 16)) λ_=>
 s (⟨w.aa,(w.ae.set (Wg (M (id-1))) (⟨y8.ar,y8.aZ,y8.ax,y8.ah,y8.aQ,y8.fc,((y7:d au)++Fh.1),y8.aH,y8.state,y8.place,y8.bK⟩:ay)),Cw.1,w.ak,w.now,w.aL,w.skip,w.br⟩:aw))
 (s (⟨w.aa,(w.ae.set (Wg (M (id-1))) (⟨y8.ar,y8.aZ,y8.ax,y8.ah,y8.aQ,y8.fc,y7,y8.aH,y8.state,y8.place,y8.bK⟩:ay)),o0,w.ak,w.now,w.aL,w.skip,w.br⟩:aw)))))
instance (w:aw)(id:Int):CT prog (fZ w id):=⟨183,[.be 0 0 0,K id],[s ⟨.of 33,10,[[.ms 1,.ms 2,K w.aa.change,.ms 3,.ms 4,.ms 5,K w.now,.ms 6,.ms 7,K w.br]]⟩,s ⟨.of 101,6,w.aa.aC.map cY⟩,s ⟨.of 3,1,w.aa.off.map V⟩,s ⟨⟨63,s 48⟩,11,w.ae.map bx⟩,s ⟨.of 50,4,w.av.map aG⟩,s ⟨.of 48,2,w.ak.map bg⟩,s ⟨.of 89,6,w.aL.map bA⟩,s ⟨.of 3,1,w.skip.map V⟩],λr=>.tu [],λr=>[s ⟨.of 33,10,[[.ms 1,.ms 2,K r.aa.change,.ms 3,.ms 8,.ms 5,K r.now,.ms 6,.ms 7,K r.br]]⟩,s ⟨.of 101,6,r.aa.aC.map cY⟩,s ⟨.of 3,1,r.aa.off.map V⟩,s ⟨⟨63,s 48⟩,11,r.ae.map bx⟩,Y,s ⟨.of 48,2,r.ak.map bg⟩,s ⟨.of 89,6,r.aL.map bA⟩,s ⟨.of 3,1,r.skip.map V⟩,s ⟨.of 50,4,r.av.map aG⟩],ck (fZ.eq_1 ..) func183 ntmps183 results183⟩
def gr(t:au)(y1:aw)(s0:Int×Int×Int×Int×(d bP)×(d Int)×(d ay)×(d aq)×(d au)×(d aI)×(d Int)):F ((Int×Int×Int×Int×(d bP)×(d Int)×(d ay)×(d aq)×(d au)×(d aI)×(d Int))⊕(Int×Int×Int×(d bP)×(d Int)×(d ay)×(d aq)×(d au)×(d aI)×(d Int))):=
 C (L (s0.1<(D y1.ae:Int)))
 (G (az s0.2.2.2.2.2.2.1 s0.1) λy6=>
 G (jc y6) λy7=>
 G (cf (iq y7 (D y6.aE:Int) (D y6.aE))) λ_=>
 G (fT (da y6.aE y7 (D y6.aE:Int)) t) λy8=>
 C y8
 (G (bw [2,3,4,5,6,7,8,9]) λ_=>
 G (fZ (⟨(⟨s0.2.2.2.2.1,s0.2.2.2.2.2.1,s0.2.1⟩:ab),s0.2.2.2.2.2.2.1,s0.2.2.2.2.2.2.2.1,s0.2.2.2.2.2.2.2.2.1,s0.2.2.1,s0.2.2.2.2.2.2.2.2.2.1,s0.2.2.2.2.2.2.2.2.2.2,s0.2.2.2.1⟩:aw) (M (s0.1+1))) λy9=>
 s (.inl ((M (s0.1+1)),y9.aa.change,y9.now,y9.br,y9.aa.aC,y9.aa.off,y9.ae,y9.av,y9.ak,y9.aL,y9.skip)))
 (s (.inl ((M (s0.1+1)),s0.2.1,s0.2.2.1,s0.2.2.2.1,s0.2.2.2.2.1,s0.2.2.2.2.2.1,s0.2.2.2.2.2.2.1,s0.2.2.2.2.2.2.2.1,s0.2.2.2.2.2.2.2.2.1,s0.2.2.2.2.2.2.2.2.2.1,s0.2.2.2.2.2.2.2.2.2.2))))
 (s (.inr (s0.2.1,s0.2.2.1,s0.2.2.2.1,s0.2.2.2.2.1,s0.2.2.2.2.2.1,s0.2.2.2.2.2.2.1,s0.2.2.2.2.2.2.2.1,s0.2.2.2.2.2.2.2.2.1,s0.2.2.2.2.2.2.2.2.2.1,s0.2.2.2.2.2.2.2.2.2.2)))
instance (t:au)(y1:aw):bm (gr t y1):=⟨λs0=>(U 3 (.be 0 0 0::.be 1 0 0::.un::.be 2 0 0::(U 44 (K (D y1.ae:Int)::K s0.1::(U 19 []))))),λs0=>[s ⟨.of 48,2,[[K t.bq,K t.day]]⟩,s ⟨.of 33,10,[zg]⟩,s ⟨.of 33,10,[[.ms 3,.ms 4,K s0.2.1,.ms 5,.ms 6,.ms 7,K s0.2.2.1,.ms 8,.ms 9,K s0.2.2.2.1]]⟩,s ⟨.of 101,6,s0.2.2.2.2.1.map cY⟩,s ⟨.of 3,1,s0.2.2.2.2.2.1.map V⟩,s ⟨⟨63,s 48⟩,11,s0.2.2.2.2.2.2.1.map bx⟩,s ⟨.of 50,4,s0.2.2.2.2.2.2.2.1.map aG⟩,s ⟨.of 48,2,s0.2.2.2.2.2.2.2.2.1.map bg⟩,s ⟨.of 89,6,s0.2.2.2.2.2.2.2.2.2.1.map bA⟩,s ⟨.of 3,1,s0.2.2.2.2.2.2.2.2.2.2.map V⟩]⟩
def l6(w:aw)(t:au):F (aw×Bool):=
 G (eG w) λy1=>
 G (fR w) λy2=>
 C (!y2)
 (s (y1,N))
 (G (db w.aa t) λy3=>
 C (!y3)
 (s (y1,N))
 (G (ca w.aa t) λy4=>
 C (L (y4<=w.now))
 (s (y1,N))
 (G (fT w.ak t) λy5=>
 C y5
 (s (y1,N))
 (C (L (20<=(D w.ak:Int)))
 (s (y1,N))
 (G (cf (bn (D (y1.ak:d au)+D ([t]:d au)) 16)) λ_=>
 (aB (gr t y1) NN (0,y1.aa.change,y1.now,y1.br,y1.aa.aC,y1.aa.off,y1.ae,y1.av,((y1.ak:d au)++[t]),y1.aL,y1.skip)).bind (λo0=>
 s ((⟨(⟨o0.2.2.2.1,o0.2.2.2.2.1,o0.1⟩:ab),o0.2.2.2.2.2.1,o0.2.2.2.2.2.2.1,o0.2.2.2.2.2.2.2.1,o0.2.1,o0.2.2.2.2.2.2.2.2.1,o0.2.2.2.2.2.2.2.2.2,o0.2.2.1⟩:aw),X)))))))
instance (w:aw)(t:au):CT prog (l6 w t):=⟨116,[.ag (cL w),.ag (bg t)],[],λr=>.tu [.ag [.ms 0,.ms 1,K r.1.aa.change,.ms 2,.ms 3,.ms 4,K r.1.now,.ms 5,.ms 6,K r.1.br],vb r.2],λr=>[s ⟨.of 101,6,r.1.aa.aC.map cY⟩,s ⟨.of 3,1,r.1.aa.off.map V⟩,s ⟨⟨63,s 48⟩,11,r.1.ae.map bx⟩,s ⟨.of 50,4,r.1.av.map aG⟩,s ⟨.of 48,2,r.1.ak.map bg⟩,s ⟨.of 89,6,r.1.aL.map bA⟩,s ⟨.of 3,1,r.1.skip.map V⟩],ck (l6.eq_1 ..) func116 ntmps116 results116⟩
def oi(w:aw)(dw:ByteArray)(s0:Int×(d Int)):F ((Int×(d Int))⊕(d Int)):=
 C (L (s0.1<(D w.ae:Int)))
 (G (az w.ae s0.1) λy2=>
 C (L (y2.state=1))
 (C (L (y2.place=dw))
 (G (cf (bn (D (s0.2:d Int)+D ([(M (s0.1+1))]:d Int)) 8)) λ_=>
 s (.inl ((M (s0.1+1)),((s0.2:d Int)++[(M (s0.1+1))]))))
 (s (.inl ((M (s0.1+1)),s0.2))))
 (s (.inl ((M (s0.1+1)),s0.2))))
 (s (.inr s0.2))
instance (w:aw)(dw:ByteArray):bm (oi w dw):=⟨λs0=>(.un::vs dw::(U 3 (.ms 0::(U 8 (.sl (w.ae.map bx)::K (D w.ae:Int)::K s0.1::(U 20 [])))))),λs0=>[s ⟨.of 3,1,s0.2.map V⟩]⟩
def lC(w:aw)(dw:ByteArray):F (d Int):=
 G (fR w) λy1=>
 C (!y1)
 (s ([]:d Int))
 ((aB (oi w dw) NN (0,([]:d Int))).bind (λo0=>
 s o0))
def Ca(w:aw)(dw:ByteArray){r:(d Int)}(H:lC w dw=s r):eh prog 38 [.ag (cL w),vs dw] [] (.ms 0) [s ⟨.of 3,1,r.map V⟩]:=by
 replace H:=H0 H;unfold lC at H
 refine je func38 rfl ntmps38 results38 λQ hQ Kf=>?_
 exact LA
instance (w:aw)(dw:ByteArray):CT prog (lC w dw):=⟨38,[.ag (cL w),vs dw],[],λr=>.ms 0,λr=>[s ⟨.of 3,1,r.map V⟩],Ca w dw⟩
def hZ(w:aw)(y2:(d ByteArray))(s0:Int×Int):F ((Int×Int)⊕Int):=
 C (L (s0.2<(D y2:Int)))
 (G (az y2 s0.2) λy3=>
 G (lC w y3) λy4=>
 s (.inl ((M (s0.1+(D y4:Int))),(M (s0.2+1)))))
 (s (.inr s0.1))
instance (w:aw)(y2:(d ByteArray)):bm (hZ w y2):=⟨λs0=>(.un::.be 0 0 0::.un::K s0.1::.ms 1::K s0.2::(U 56 [])),λs0=>[s ⟨.of 33,10,[cL w]⟩,s ⟨.of 9,1,y2.map jQ⟩]⟩
def oj(w:aw)(s1:Int×Int×(d au)):F ((Int×Int×(d au))⊕Int):=
 C (L (s1.2.1<(D w.av:Int)))
 (G (az w.av s1.2.1) λy5=>
 G (re s1.2.2 y5.aN) λy6=>
 C (!y6)
 (G (cf (bn (D (s1.2.2:d au)+D ([y5.aN]:d au)) 16)) λ_=>
 G (mQ w y5.aN) λy7=>
 s (.inl ((M (s1.1+(D y7:Int))),(M (s1.2.1+1)),((s1.2.2:d au)++[y5.aN]))))
 (s (.inl (s1.1,(M (s1.2.1+1)),s1.2.2))))
 (s (.inr s1.1))
instance (w:aw):bm (oj w):=⟨λs1=>(.un::.be 0 0 0::.un::K s1.1::.un::.un::.ms 1::K s1.2.1::(U 54 [])),λs1=>[s ⟨.of 33,10,[cL w]⟩,s ⟨.of 48,2,s1.2.2.map bg⟩]⟩
def oK(w:aw):F Bool:=
 G (nh w 3) λy1=>
 G (dm w.aa) λy2=>
 (aB (hZ w y2) NN (y1,0)).bind (λo0=>
 (aB (oj w) NN (o0,0,([]:d au))).bind (λo1=>
 s (L (o1=(D w.ae:Int)))))
instance (w:aw):CT prog (oK w):=⟨8,[.ag (cL w)],[],λr=>vb r,λr=>[],cw (oK.eq_1 ..) func8 ntmps8 results8⟩
def nv(w:aw)(s0:Int×(d Int)):F ((Int×(d Int))⊕(d Int)):=
 C (L (s0.1<(D w.ae:Int)))
 (G (az w.ae s0.1) λy2=>
 G (eU w y2) λy3=>
 C y3
 (G (cf (bn (D (s0.2:d Int)+D ([(M (s0.1+1))]:d Int)) 8)) λ_=>
 s (.inl ((M (s0.1+1)),((s0.2:d Int)++[(M (s0.1+1))]))))
 (s (.inl ((M (s0.1+1)),s0.2))))
 (s (.inr s0.2))
instance (w:aw):bm (nv w):=⟨λs0=>(.un::.be 0 0 0::.un::.ms 1::(U 8 (.sl (w.ae.map bx)::K (D w.ae:Int)::K s0.1::(U 14 [])))),λs0=>[s ⟨.of 33,10,[cL w]⟩,s ⟨.of 3,1,s0.2.map V⟩]⟩
def nr(w:aw):F (d Int):=
 G (fR w) λy1=>
 C (!y1)
 (s ([]:d Int))
 ((aB (nv w) NN (0,([]:d Int))).bind (λo0=>
 s o0))
instance (w:aw):CT prog (nr w):=⟨184,[.ag (cL w)],[],λr=>.ms 0,λr=>[s ⟨.of 3,1,r.map V⟩],cw (nr.eq_1 ..) func184 ntmps184 results184⟩
def fb(y2:(d Int))(s0:Int×Int×Int×Int×Int×(d bP)×(d Int)×(d ay)×(d aq)×(d au)×(d aI)×(d Int)):F ((Int×Int×Int×Int×Int×(d bP)×(d Int)×(d ay)×(d aq)×(d au)×(d aI)×(d Int))⊕(Int×Int×Int×Int×(d bP)×(d Int)×(d ay)×(d aq)×(d au)×(d aI)×(d Int))):=
 C (L (s0.2.1<(D y2:Int)))
 (G (az y2 s0.2.1) λy3=>
 G (bw [1,2,3,4,5,6,7,8]) λ_=>
 G (fZ (⟨(⟨s0.2.2.2.2.2.1,s0.2.2.2.2.2.2.1,s0.2.2.1⟩:ab),s0.2.2.2.2.2.2.2.1,s0.2.2.2.2.2.2.2.2.1,s0.2.2.2.2.2.2.2.2.2.1,s0.2.2.2.1,s0.2.2.2.2.2.2.2.2.2.2.1,s0.2.2.2.2.2.2.2.2.2.2.2,s0.2.2.2.2.1⟩:aw) y3) λy4=>
 G (az y4.ae (M (y3-1))) λy5=>
 G (eU y4 y5) λy6=>
 C (!y6)
 (s (.inl ((M (s0.1+1)),(M (s0.2.1+1)),y4.aa.change,y4.now,y4.br,y4.aa.aC,y4.aa.off,y4.ae,y4.av,y4.ak,y4.aL,y4.skip)))
 (s (.inl (s0.1,(M (s0.2.1+1)),y4.aa.change,y4.now,y4.br,y4.aa.aC,y4.aa.off,y4.ae,y4.av,y4.ak,y4.aL,y4.skip))))
 (s (.inr (s0.1,s0.2.2.1,s0.2.2.2.1,s0.2.2.2.2.1,s0.2.2.2.2.2.1,s0.2.2.2.2.2.2.1,s0.2.2.2.2.2.2.2.1,s0.2.2.2.2.2.2.2.2.1,s0.2.2.2.2.2.2.2.2.2.1,s0.2.2.2.2.2.2.2.2.2.2.1,s0.2.2.2.2.2.2.2.2.2.2.2)))
instance (y2:(d Int)):bm (fb y2):=⟨λs0=>(.un::.un::.be 0 0 0::.un::.be 1 0 0::K s0.1::(U 5 (.ms 9::K (D y2:Int)::K s0.2.1::(U 19 [])))),λs0=>[s ⟨.of 33,10,[zg]⟩,s ⟨.of 33,10,[[.ms 2,.ms 3,K s0.2.2.1,.ms 4,.ms 5,.ms 6,K s0.2.2.2.1,.ms 7,.ms 8,K s0.2.2.2.2.1]]⟩,s ⟨.of 101,6,s0.2.2.2.2.2.1.map cY⟩,s ⟨.of 3,1,s0.2.2.2.2.2.2.1.map V⟩,s ⟨⟨63,s 48⟩,11,s0.2.2.2.2.2.2.2.1.map bx⟩,s ⟨.of 50,4,s0.2.2.2.2.2.2.2.2.1.map aG⟩,s ⟨.of 48,2,s0.2.2.2.2.2.2.2.2.2.1.map bg⟩,s ⟨.of 89,6,s0.2.2.2.2.2.2.2.2.2.2.1.map bA⟩,s ⟨.of 3,1,s0.2.2.2.2.2.2.2.2.2.2.2.map V⟩,s ⟨.of 3,1,y2.map V⟩]⟩
def jV(w:aw):F (aw×Int):=
 G (eG w) λy1=>
 G (nr w) λy2=>
 (aB (fb y2) NN (0,0,y1.aa.change,y1.now,y1.br,y1.aa.aC,y1.aa.off,y1.ae,y1.av,y1.ak,y1.aL,y1.skip)).bind (λo0=>
 s ((⟨(⟨o0.2.2.2.2.1,o0.2.2.2.2.2.1,o0.2.1⟩:ab),o0.2.2.2.2.2.2.1,o0.2.2.2.2.2.2.2.1,o0.2.2.2.2.2.2.2.2.1,o0.2.2.1,o0.2.2.2.2.2.2.2.2.2.1,o0.2.2.2.2.2.2.2.2.2.2,o0.2.2.2.1⟩:aw),o0.1))
instance (w:aw):CT prog (jV w):=⟨117,[.ag (cL w)],[],λr=>.tu [.ag [.ms 0,.ms 1,K r.1.aa.change,.ms 2,.ms 3,.ms 4,K r.1.now,.ms 5,.ms 6,K r.1.br],K r.2],λr=>[s ⟨.of 101,6,r.1.aa.aC.map cY⟩,s ⟨.of 3,1,r.1.aa.off.map V⟩,s ⟨⟨63,s 48⟩,11,r.1.ae.map bx⟩,s ⟨.of 50,4,r.1.av.map aG⟩,s ⟨.of 48,2,r.1.ak.map bg⟩,s ⟨.of 89,6,r.1.aL.map bA⟩,s ⟨.of 3,1,r.1.skip.map V⟩],ck (jV.eq_1 ..) func117 ntmps117 results117⟩
def pU(o:aD)(p:aP):F (Int×aD):=
 G (lV o.bb o.bd p) λy1=>
 C (!y1.2)
 (s (2,o))
 (C (L (y1.1=0))
 (s (2,o))
 (G (rF 8 []) λ_=>
 G (gq o.world p.ar p.label.aZ p.label.ax p.ah) λy2=>
 C (!y2.2.2)
 (s (3,o))
 (G (lR o.lines y2.2.1 y1.1 o.world.now) λy3=>
 C (!decide (y3.2=0))
 (s (4,o))
 (G (gF p) λy4=>
 G (cf (bn (D (o.aK:d aP)+D ([y4]:d aP)) 88)) λ_=>
 s (0,(⟨y2.1,o.bb,o.bd,o.aU,((o.aK:d aP)++[y4]),y3.1,o.aF⟩:aD))))))
instance (o:aD)(p:aP):CT prog (pU o p):=⟨51,[.be 0 0 0,.ag (cd p)],[s ⟨.of 40,16,[[.ms 1,.ms 2,K o.world.aa.change,.ms 3,.ms 4,.ms 5,K o.world.now,.ms 6,.ms 7,K o.world.br,.ms 8,.ms 9,.ms 10,.ms 11,.ms 12,.ms 13]]⟩,s ⟨.of 101,6,o.world.aa.aC.map cY⟩,s ⟨.of 3,1,o.world.aa.off.map V⟩,s ⟨⟨63,s 48⟩,11,o.world.ae.map bx⟩,s ⟨.of 50,4,o.world.av.map aG⟩,s ⟨.of 48,2,o.world.ak.map bg⟩,s ⟨.of 89,6,o.world.aL.map bA⟩,s ⟨.of 3,1,o.world.skip.map V⟩,s ⟨.of 124,2,o.bb.map dV⟩,s ⟨.of 127,4,o.bd.map dK⟩,s ⟨.of 3,1,o.aU.map V⟩,s ⟨⟨58,s 3⟩,7,o.aK.map cd⟩,s ⟨.of 82,4,o.lines.map bV⟩,s ⟨⟨60,s 3⟩,13,o.aF.map fQ⟩],λr=>K r.1,λr=>[s ⟨.of 40,16,[[.ms 14,.ms 15,K r.2.world.aa.change,.ms 16,.ms 17,.ms 18,K r.2.world.now,.ms 19,.ms 20,K r.2.world.br,.ms 8,.ms 9,.ms 10,.ms 21,.ms 22,.ms 13]]⟩,Y,Y,Y,Y,Y,Y,Y,s ⟨.of 124,2,r.2.bb.map dV⟩,s ⟨.of 127,4,r.2.bd.map dK⟩,s ⟨.of 3,1,r.2.aU.map V⟩,Y,Y,s ⟨⟨60,s 3⟩,13,r.2.aF.map fQ⟩,s ⟨.of 101,6,r.2.world.aa.aC.map cY⟩,s ⟨.of 3,1,r.2.world.aa.off.map V⟩,s ⟨⟨63,s 48⟩,11,r.2.world.ae.map bx⟩,s ⟨.of 50,4,r.2.world.av.map aG⟩,s ⟨.of 48,2,r.2.world.ak.map bg⟩,s ⟨.of 89,6,r.2.world.aL.map bA⟩,s ⟨.of 3,1,r.2.world.skip.map V⟩,s ⟨⟨58,s 3⟩,7,r.2.aK.map cd⟩,s ⟨.of 82,4,r.2.lines.map bV⟩],ck (pU.eq_1 ..) func51 ntmps51 results51⟩
def lD(o:aD)(a:bk):F (Int×aD):=
 C (L ((D o.world.ae:Int)<a.order))
 (s (4,o))
 (G (az o.world.ae (M (a.order-1))) λy1=>
 G (pN o.lines a.order a.bE o.world.now) λy2=>
 C (L (a.kind=6))
 (C (!decide (y1.state=3))
 (s (4,o))
 (G (lW o.lines a.order y1.fc y1.bK o.aU o.world.now) λy3=>
 C (!decide (y3.2=0))
 (s (4,o))
 (s (0,(⟨o.world,o.bb,o.bd,o.aU,o.aK,y3.1,o.aF⟩:aD)))))
 (C (!decide (y2.2=0))
 (s (4,o))
 (s (0,(⟨o.world,o.bb,o.bd,o.aU,o.aK,y2.1,o.aF⟩:aD)))))
instance (o:aD)(a:bk):CT prog (lD o a):=⟨52,[.be 0 0 0,.ag (fQ a)],[s ⟨.of 40,16,[[.ms 1,.ms 2,K o.world.aa.change,.ms 3,.ms 4,.ms 5,K o.world.now,.ms 6,.ms 7,K o.world.br,.ms 8,.ms 9,.ms 10,.ms 11,.ms 12,.ms 13]]⟩,s ⟨.of 101,6,o.world.aa.aC.map cY⟩,s ⟨.of 3,1,o.world.aa.off.map V⟩,s ⟨⟨63,s 48⟩,11,o.world.ae.map bx⟩,s ⟨.of 50,4,o.world.av.map aG⟩,s ⟨.of 48,2,o.world.ak.map bg⟩,s ⟨.of 89,6,o.world.aL.map bA⟩,s ⟨.of 3,1,o.world.skip.map V⟩,s ⟨.of 124,2,o.bb.map dV⟩,s ⟨.of 127,4,o.bd.map dK⟩,s ⟨.of 3,1,o.aU.map V⟩,s ⟨⟨58,s 3⟩,7,o.aK.map cd⟩,s ⟨.of 82,4,o.lines.map bV⟩,s ⟨⟨60,s 3⟩,13,o.aF.map fQ⟩],λr=>K r.1,λr=>[s ⟨.of 40,16,[[.ms 1,.ms 2,K r.2.world.aa.change,.ms 3,.ms 4,.ms 5,K r.2.world.now,.ms 6,.ms 7,K r.2.world.br,.ms 8,.ms 9,.ms 10,.ms 11,.ms 14,.ms 13]]⟩,s ⟨.of 101,6,r.2.world.aa.aC.map cY⟩,s ⟨.of 3,1,r.2.world.aa.off.map V⟩,s ⟨⟨63,s 48⟩,11,r.2.world.ae.map bx⟩,s ⟨.of 50,4,r.2.world.av.map aG⟩,s ⟨.of 48,2,r.2.world.ak.map bg⟩,s ⟨.of 89,6,r.2.world.aL.map bA⟩,s ⟨.of 3,1,r.2.world.skip.map V⟩,s ⟨.of 124,2,r.2.bb.map dV⟩,s ⟨.of 127,4,r.2.bd.map dK⟩,s ⟨.of 3,1,r.2.aU.map V⟩,s ⟨⟨58,s 3⟩,7,r.2.aK.map cd⟩,Y,s ⟨⟨60,s 3⟩,13,r.2.aF.map fQ⟩,s ⟨.of 82,4,r.2.lines.map bV⟩],ck (lD.eq_1 ..) func52 ntmps52 results52⟩
def kL(o:aD)(a:bk):F (Int×aD):=
 C (L (a.kind=3))
 (C (L (a.bG<=o.world.now))
 (s (6,o))
 (G (rF 8 []) λ_=>
 G (kQ o.world a.bG) λy1=>
 s (0,(⟨y1,o.bb,o.bd,o.aU,o.aK,o.lines,o.aF⟩:aD))))
 (C (L (a.kind=4))
 (G (rF 8 []) λ_=>
 G (l6 o.world a.aN) λy2=>
 C (!y2.2)
 (s (6,o))
 (s (0,(⟨y2.1,o.bb,o.bd,o.aU,o.aK,o.lines,o.aF⟩:aD))))
 (C (L (a.kind=5))
 (G (jV o.world) λy3=>
 C (L (y3.2=0))
 (s (6,o))
 (s (0,(⟨y3.1,o.bb,o.bd,o.aU,o.aK,o.lines,o.aF⟩:aD))))
 (s (0,o))))
instance (o:aD)(a:bk):CT prog (kL o a):=⟨53,[.be 0 0 0,.ag (fQ a)],[s ⟨.of 40,16,[[.ms 1,.ms 2,K o.world.aa.change,.ms 3,.ms 4,.ms 5,K o.world.now,.ms 6,.ms 7,K o.world.br,.ms 8,.ms 9,.ms 10,.ms 11,.ms 12,.ms 13]]⟩,s ⟨.of 101,6,o.world.aa.aC.map cY⟩,s ⟨.of 3,1,o.world.aa.off.map V⟩,s ⟨⟨63,s 48⟩,11,o.world.ae.map bx⟩,s ⟨.of 50,4,o.world.av.map aG⟩,s ⟨.of 48,2,o.world.ak.map bg⟩,s ⟨.of 89,6,o.world.aL.map bA⟩,s ⟨.of 3,1,o.world.skip.map V⟩,s ⟨.of 124,2,o.bb.map dV⟩,s ⟨.of 127,4,o.bd.map dK⟩,s ⟨.of 3,1,o.aU.map V⟩,s ⟨⟨58,s 3⟩,7,o.aK.map cd⟩,s ⟨.of 82,4,o.lines.map bV⟩,s ⟨⟨60,s 3⟩,13,o.aF.map fQ⟩],λr=>K r.1,λr=>[s ⟨.of 40,16,[[.ms 14,.ms 15,K r.2.world.aa.change,.ms 16,.ms 17,.ms 18,K r.2.world.now,.ms 19,.ms 20,K r.2.world.br,.ms 8,.ms 9,.ms 10,.ms 11,.ms 12,.ms 13]]⟩,Y,Y,Y,Y,Y,Y,Y,s ⟨.of 124,2,r.2.bb.map dV⟩,s ⟨.of 127,4,r.2.bd.map dK⟩,s ⟨.of 3,1,r.2.aU.map V⟩,s ⟨⟨58,s 3⟩,7,r.2.aK.map cd⟩,s ⟨.of 82,4,r.2.lines.map bV⟩,s ⟨⟨60,s 3⟩,13,r.2.aF.map fQ⟩,s ⟨.of 101,6,r.2.world.aa.aC.map cY⟩,s ⟨.of 3,1,r.2.world.aa.off.map V⟩,s ⟨⟨63,s 48⟩,11,r.2.world.ae.map bx⟩,s ⟨.of 50,4,r.2.world.av.map aG⟩,s ⟨.of 48,2,r.2.world.ak.map bg⟩,s ⟨.of 89,6,r.2.world.aL.map bA⟩,s ⟨.of 3,1,r.2.world.skip.map V⟩],ck (kL.eq_1 ..) func53 ntmps53 results53⟩
def mU(o:aD)(a:bk):F (Int×aD):=
 C (L (a.kind=1))
 (G (bw [0,1,2,3,4,5,6]) λ_=>
 G (nE o a.aM) λy1=>
 s (y1.1,y1.2))
 (C (L (a.kind=2))
 (C (L (a.kind=2))
 (G (bw [0,1,2,3,4,5,6]) λ_=>
 G (j7 o a) λy2=>
 s (y2.1,y2.2))
 (C (L (a.kind=3))
 (C (L (a.bG<=o.world.now))
 (s (6,o))
 (G (rF 8 []) λ_=>
 G (gG o.world a.bG) λy3=>
 s (0,(⟨y3,o.bb,o.bd,o.aU,o.aK,o.lines,o.aF⟩:aD))))
 (C (L (a.kind=4))
 (G (rF 8 []) λ_=>
 G (dB o.world a.aN) λy4=>
 C (!y4.2)
 (s (6,o))
 (s (0,(⟨y4.1,o.bb,o.bd,o.aU,o.aK,o.lines,o.aF⟩:aD))))
 (G (dv o.world) λy5=>
 C (L (y5.2=0))
 (s (6,o))
 (s (0,(⟨y5.1,o.bb,o.bd,o.aU,o.aK,o.lines,o.aF⟩:aD)))))))
 (C (L (a.kind=6))
 (G (bw [0,1,2,3,4,5,6]) λ_=>
 G (j7 o a) λy6=>
 s (y6.1,y6.2))
 (C (L (a.kind=3))
 (C (L (a.bG<=o.world.now))
 (s (6,o))
 (G (rF 8 []) λ_=>
 G (gG o.world a.bG) λy7=>
 s (0,(⟨y7,o.bb,o.bd,o.aU,o.aK,o.lines,o.aF⟩:aD))))
 (C (L (a.kind=4))
 (G (rF 8 []) λ_=>
 G (dB o.world a.aN) λy8=>
 C (!y8.2)
 (s (6,o))
 (s (0,(⟨y8.1,o.bb,o.bd,o.aU,o.aK,o.lines,o.aF⟩:aD))))
 (G (dv o.world) λy9=>
 C (L (y9.2=0))
 (s (6,o))
 (s (0,(⟨y9.1,o.bb,o.bd,o.aU,o.aK,o.lines,o.aF⟩:aD))))))))
instance (o:aD)(a:bk):CT prog (mU o a):=⟨80,[.be 0 0 0,.ag (fQ a)],[s ⟨.of 40,16,[[.sl (o.world.aa.aC.map cY),.sl (o.world.aa.off.map V),K o.world.aa.change,.sl (o.world.ae.map bx),.sl (o.world.av.map aG),.sl (o.world.ak.map bg),K o.world.now,.sl (o.world.aL.map bA),.sl (o.world.skip.map V),K o.world.br,.ms 1,.ms 2,.ms 3,.ms 4,.ms 5,.ms 6]]⟩,s ⟨.of 124,2,o.bb.map dV⟩,s ⟨.of 127,4,o.bd.map dK⟩,s ⟨.of 3,1,o.aU.map V⟩,s ⟨.of 58,7,o.aK.map cd⟩,s ⟨.of 82,4,o.lines.map bV⟩,s ⟨.of 60,13,o.aF.map fQ⟩],λr=>K r.1,λr=>[s ⟨.of 40,16,[[.sl (r.2.world.aa.aC.map cY),.sl (r.2.world.aa.off.map V),K r.2.world.aa.change,.sl (r.2.world.ae.map bx),.sl (r.2.world.av.map aG),.sl (r.2.world.ak.map bg),K r.2.world.now,.sl (r.2.world.aL.map bA),.sl (r.2.world.skip.map V),K r.2.world.br,.ms 1,.ms 2,.ms 3,.ms 7,.ms 8,.ms 6]]⟩,s ⟨.of 124,2,r.2.bb.map dV⟩,s ⟨.of 127,4,r.2.bd.map dK⟩,s ⟨.of 3,1,r.2.aU.map V⟩,Y,Y,s ⟨.of 60,13,r.2.aF.map fQ⟩,s ⟨.of 58,7,r.2.aK.map cd⟩,s ⟨.of 82,4,r.2.lines.map bV⟩],cw (mU.eq_1 ..) func80 ntmps80 results80⟩
