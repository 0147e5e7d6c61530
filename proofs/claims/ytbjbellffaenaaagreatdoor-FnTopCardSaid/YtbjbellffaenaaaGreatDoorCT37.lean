/- A part of the proof of this claim's last theorem. No condition. -/
import Derived.Test.YtbjbellffaenaaaGreatDoorCT35
import Derived.Test.YtbjbellffaenaaaGreatDoorCT36
set_option linter.all false
set_option maxRecDepth 10000
open Option renaming some->J,none->Zd
open Bool renaming true->V,false->Zf
open Decidable renaming decide->W
open List renaming length->F
open _root_ renaming ByteArray->R,Int->C,List->D,Nat->G,cond->N
open Go.Proofs.YtbjbellffaenaaaGreatDoor renaming YA->E,YE->Z,aJ->L,aP->X,bL->O,bl->Y,bw->S,dU->M
namespace Go.Proofs.YtbjbellffaenaaaGreatDoor
open List renaming length_append->V5,mem_cons->VY,not_mem_nil->V1,getElem?_eq_some_iff->VT,getElem?_eq_getElem->VS,mem_append->We,mem_singleton->Wh,mem_of_mem_take->WK,length_take->Wy,mem_of_getElem?->VU,getElem_of_mem->V3,take_of_length_le->Xh
open Option renaming bind_some->T,getD_some->W9,map_some->WC
open Bool renaming and_eq_true->V7,not_true->VX,not_false->WI
open Nat renaming zero_le->Ws,eq_zero_or_pos->XY
open Classical renaming byContradiction->XQ
open Go.RowKit
variable {b:aq}{bd l:D bH}{i:G}{o x y:aD}{p:D C}
structure xZ(p:X):Prop where
 aZ:p.label.aZ.size<=100
 ar:p.ar.size<=100
 bJ:p.bJ.length<=1000
theorem b60{k:G}(h:k<=100):k<=uY:=by unfold uY;omega
theorem xZ.pf{p:X}(h:xZ p):PF p:=⟨b60 h.aZ,b60 h.ar,by have:=h.bJ;omega⟩
structure OD(n:ab)(K:G)(o:aD):Prop where
 of:OF o
 w:L6 n K o.world
 pl:o.aK.length<=K
 jl:o.aF.length<=K
 rl:1<=o.bd.length
theorem OD.mono{n:ab}{K:G}{o:aD}(h:OD n K o):OD n (K+1) o:=⟨h.of,h.w.mono,by have:=h.pl;omega,by have:=h.jl;omega,h.rl⟩
theorem Lx{α:Type}{x:Option α}{r:α}{P:α->Prop}(h:aO x P)(e:x=J r):P r:=by
 obtain⟨y,e',h⟩:=h
 simp_all
theorem Zet{n:ab}(hn:uA n){K:G}(h:OD n K o){a:bk}(ha:PF a.aM):aO (kr o a) λr=>OD n (K+1) r.1:=by
 obtain⟨x,c,_,e,hx⟩:=By h.of ha;refine aO.of e ?_
 rcases hx with⟨_,rfl⟩ |⟨_,hD⟩
 ·exact h.mono
 have hx:=(ET h.of ha hD).1;obtain⟨y,rfl,hy⟩:=hD.how;have hu:a.kind=3->a.bG<=100000:=λhk=>by
  have:=Ba ha.fit.1 ha.fit.2.1 ha.fit.2.2 hD.act;omega
 have uP:=h.pl;have EZ:F (o.aF++[a])<=K+1:=by rw[V5];have:=h.jl;simp_all
 rcases hy with⟨_,hy⟩ |⟨_,hy⟩ |⟨_,w,rfl,hy⟩
 ·obtain⟨v,aE,ys,fc,_,_,_,_,q⟩:=hy.nQ
  have hw:L6 n (K+1) y.world:=Lx (P:=λr:aw×C×Bool=>L6 n (K+1) r.1) (L8 hn h.w _ _ _ _) q
  refine⟨hx,hw,?_,EZ,by show 1<=F y.bd;rw[hy.bd];exact h.rl⟩
  show (F y.aK)<=K+1;rw[hy.aK,V5];simp_all
 ·obtain⟨l,z,rfl,_⟩:=hy
  exact⟨hx,h.w.mono,Nat.le_succ_of_le uP,EZ,h.rl⟩
 ·refine⟨hx,?_,Nat.le_succ_of_le uP,EZ,h.rl⟩
  rcases hy with⟨hk,bD,rfl⟩ |⟨_,q,_⟩ |⟨_,m,_,q,_⟩
  ·have:=Lx (Zaz hn h.w a.bG) (CG h.w.ok.fit _)
   rwa[if_pos ⟨h.w.ok.ok,Int.le_of_lt bD,hu hk⟩]at this
  ·exact Lx (P:=λr:aw×Bool=>L6 n (K+1) r.1) (VI hn h.w _) q
  ·exact Lx (P:=λr:aw×C=>L6 n (K+1) r.1) (Rl hn h.w) q
theorem Q1{n:ab}(hd:uA n){p:R}(h:p∈aj n):p.size<=100:=by
 have key:p∈jO n:=by unfold aj at h;rw[uO]at h;simp_all
 unfold jO at key
 obtain⟨l,hl,hp⟩:=List.mem_flatMap.1 key;simp only[VY,V1,or_false]at hp
 rcases hp with rfl|rfl
 ·have:=(sM _ (hd.bq l hl).ar).2;omega
 ·have:=(sM _ (hd.bq l hl).aZ).2;omega
theorem E8{n:ab}(hn:uA n){c:Y}(h:M c):aO (cT c n) λr=>r.1.size<=100/\M r.2:=by
 have hl:=hn.len;have hp:0<F (aj n):=by
  have:=(mz (n:=n) (List.getElem_mem (show 0<F n.aC by omega))).1
  grind
 unfold cT;rw[(cV hn.fit).2,T];refine aO.gC (aO.bind (oV h 9) λy2 h2=>aO.cond (λ_=>aO.gC (aO.bind (w8 h2) λy3 h3=>aO.ret ⟨le_of_eq_of_le (sM _ h3.1).2 YJ,h3.2⟩)) λ_=>aO.gC (aO.bind (O h2 _) λy4 h4=>aO.get h4.1.1 (h4.1.2.1 E) λx hx _=>aO.ret ⟨Q1 hn hx,h4.2⟩))
theorem On{l:D C}(h:l=[25,50,100]\/l=[10]\/l=[0,100]\/l=[0]\/l=[1,1,2,3,50,100]):qv l=V/\(F l)<=6:=by
 rcases h with rfl|rfl|rfl|rfl|rfl<;>exact⟨by decide,by decide⟩
theorem K0{c:Y}(h:M c):aO (jW c) λr=>(qv r.1=V/\(F r.1)<=6)/\M r.2:=by
 unfold jW;refine aO.gC (aO.bind (O h 5) λy hy=>aO.cond (λ_=>aO.ret ⟨On Z,hy.2⟩) λh0=>aO.cond (λ_=>aO.ret ⟨On Z,hy.2⟩) λh1=>aO.cond (λ_=>aO.ret ⟨On Z,hy.2⟩) λh2=>aO.cond (λ_=>aO.ret ⟨On Z,hy.2⟩) λh3=>aO.cond (λ_=>aO.ret ⟨On Z,hy.2⟩) λh4=>?_)
 grind
theorem UB{c:Y}(h:M c):aO (nF c) λr=>r.1.aZ.size<=100/\M r.2:=by
 unfold nF;have sz:∀p∈ur,p.size<=100:=λp hp=>by have:=(sM p hp).2;omega
 exact aO.gC (aO.bind (O h 3) λy1 h1=>aO.gC (aO.bind (O h1.2 1000) λy2 h2=>aO.gC (aO.bind (w8 h2.2) λy3 h3=>aO.gC (aO.bind (oV h3.2 3) λy4 h4=>aO.cond (λ_=>aO.gC (aO.bind (rX h4 Z) λy5 h5=>aO.ret ⟨sz _ h3.1,h5.2⟩)) λ_=>aO.ret ⟨sz _ h3.1,h4⟩))))
theorem VK{c:Y}(h:M c):aO (nG c) λr=>F r.1<=3/\M r.2:=by
 unfold nG;exact aO.gC (aO.bind (O h _) λy1 h1=>aO.gC (aO.bind (O h1.2 _) λy2 h2=>aO.gC (aO.bind (O h2.2 _) λy3 h3=>aO.ret ⟨by simp,h3.2⟩)))
theorem GL{c:Y}(h:M c):aO (dH c) λr=>xZ r.1/\M r.2:=by
 unfold dH;have sz:∀p∈ur,p.size<=100:=λp hp=>by have:=(sM p hp).2;omega
 have osl:(⟨#[79,83,76]⟩:R).size<=100:=by decide
 refine aO.gC (aO.bind (UB h) λy1 h1=>aO.gC (aO.bind (w8 h1.2) λy2 h2=>aO.gC (aO.bind (O h2.2 _) λy3 h3=>aO.gC (aO.bind (VK h3.2) λy4 h4=>aO.gC (aO.bind (O h4.2 _) λy5 h5=>?_)))))
 have hs:F y4.1<=1000:=E;exact aO.cond (λ_=>aO.gC (aO.bind (oV h5.2 3) λy6 h6=>aO.cond (λ_=>aO.gC (aO.bind (rX h6 Z) λy7 h7=>aO.ret ⟨⟨h1.1,osl,hs⟩,h7.2⟩)) λ_=>aO.ret ⟨⟨h1.1,osl,hs⟩,h6⟩)) λ_=>aO.gC (aO.bind (oV h5.2 3) λy6 h6=>aO.cond (λ_=>aO.gC (aO.bind (rX h6 Z) λy7 h7=>aO.ret ⟨⟨h1.1,sz _ h2.1,hs⟩,h7.2⟩)) λ_=>aO.ret ⟨⟨h1.1,sz _ h2.1,hs⟩,h6⟩)
theorem TF{n:ab}(hn:uA n){c:Y}(h:M c)(hl:F o.lines<=1048576)(hw:o.world.aa=n):aO (oO c o) λr=>xZ r.1.aM/\M r.2:=by
 have osl:(⟨#[79,83,76]⟩:R).size<=100:=by decide
 have pz:xZ (⟨⟨0,0,⟨#[]⟩⟩,⟨#[]⟩,0,[],0⟩:X):=⟨by decide,by decide,by simp⟩
 unfold oO;rw[hw];refine aO.gC (aO.bind (O h 9) λy1 h1=>?_)
 have take:aO ((S [0]).bind λ_=>(dH y1.2).bind λy2=>(S [0]).bind λ_=>(aA y2.2 6000).bind λy3=>(S [0]).bind λ_=>(aA y3.2 300).bind λy4=>(S [0]).bind λ_=>(aA y4.2 200).bind λy5=>(S [0]).bind λ_=>(aA y5.2 200).bind λy6=>(S [0]).bind λ_=>(cT y6.2 n).bind λy7=>(S [0]).bind λ_=>(cT y7.2 n).bind λy8=>
  N (W (y7.1=y8.1)) (J ((⟨1,(⟨(⟨y2.1.label.ax,y2.1.label.bU,y8.1⟩:bt),⟨#[79,83,76]⟩,(L (200+y3.1)),[(L (100+y4.1)),(L (100+y5.1)),(L (50+y6.1))],y2.1.value⟩:X),0,0,0,(⟨0,0⟩:au)⟩:bk),y8.2))
  (J ((⟨1,(⟨(⟨y2.1.label.ax,y2.1.label.bU,y8.1⟩:bt),y7.1,(L (200+y3.1)),[(L (100+y4.1)),(L (100+y5.1)),(L (50+y6.1))],y2.1.value⟩:X),0,0,0,(⟨0,0⟩:au)⟩:bk),y8.2))) λr:bk×Y=>xZ r.1.aM/\M r.2:=
  aO.gC (aO.bind (GL h1.2) λy2 h2=>aO.gC (aO.bind (O h2.2 _) λy3 h3=>aO.gC (aO.bind (O h3.2 _) λy4 h4=>aO.gC (aO.bind (O h4.2 _) λy5 h5=>aO.gC (aO.bind (O h5.2 _) λy6 h6=>aO.gC (aO.bind (E8 hn h6.2) λy7 h7=>aO.gC (aO.bind (E8 hn h7.2) λy8 h8=>aO.cond (λ_=>aO.ret ⟨⟨h8.1,osl,by simp⟩,h8.2⟩) λ_=>aO.ret ⟨⟨h8.1,h7.1,by simp⟩,h8.2⟩)))))))
 have g:∀{b:Bool} {x y:Option (bk×Y)},(aO x λr=>xZ r.1.aM/\M r.2)->(aO y λr=>xZ r.1.aM/\M r.2)->aO (N b x y) λr=>xZ r.1.aM/\M r.2:=λh k=>aO.cond (λ_=>h) λ_=>k
 have rest:aO (N (W (y1.1=3))
      ((S [0]).bind λ_=>(aA y1.2 (L ((F o.aK:C)+1))).bind λy9=>(eW o.lines (L (1+y9.1))).bind λdO=>(S [0,3]).bind λ_=>(bZ y9.2 ([0,0,0,100])).bind λlJ=>(gv 1 (L (dO-lJ.1))).bind λlA=>J ((⟨2,(⟨(⟨0,0,⟨#[]⟩⟩:bt),⟨#[]⟩,0,[],0⟩:X),(L (1+y9.1)),lA,0,(⟨0,0⟩:au)⟩:bk),lJ.2.1))
      (N (W (y1.1=4)) ((S [0]).bind λ_=>(dX y1.2 o.world).bind λqi=>J ((⟨4,(⟨(⟨0,0,⟨#[]⟩⟩:bt),⟨#[]⟩,0,[],0⟩:X),0,0,0,qi.1⟩:bk),qi.2))
      (N (W (y1.1=5)) (J ((⟨5,(⟨(⟨0,0,⟨#[]⟩⟩:bt),⟨#[]⟩,0,[],0⟩:X),0,0,0,(⟨0,0⟩:au)⟩:bk),y1.2))
      (N (W (y1.1=6)) ((S [0]).bind λ_=>(aA y1.2 (L ((F o.aK:C)+1))).bind λoY=>J ((⟨6,(⟨(⟨0,0,⟨#[]⟩⟩:bt),⟨#[]⟩,0,[],0⟩:X),(L (1+oY.1)),0,0,(⟨0,0⟩:au)⟩:bk),oY.2))
      ((rF 8 [4]).bind λ_=>(S [0]).bind λ_=>(aA y1.2 90).bind λrT=>J ((⟨3,(⟨(⟨0,0,⟨#[]⟩⟩:bt),⟨#[]⟩,0,[],0⟩:X),0,0,(L (o.world.now+(L (30*rT.1)))),(⟨0,0⟩:au)⟩:bk),rT.2)))))) λr:bk×Y=>xZ r.1.aM/\M r.2:=
  g (aO.gC (aO.bind (O h1.2 _) λy9 h9=>aO.bind (aO.of (Q:=λ_=>True) (KL hl _) trivial) λdO _=>aO.gC (aO.bind (rX h9.2 Z) λlJ II=>aO.bind (E6 _ _) λlA _=>aO.ret ⟨pz,II.2⟩)))
   (g (aO.gC (aO.bind (JO hn h1.2 hw) λqi h13=>aO.ret ⟨pz,h13⟩)) (g (aO.ret ⟨pz,h1.2⟩) (g (aO.gC (aO.bind (O h1.2 _) λoY h14=>aO.ret ⟨pz,h14.2⟩)) (aO.drw (aO.gC (aO.bind (O h1.2 _) λrT h15=>aO.ret ⟨pz,h15.2⟩))))))
 grind
abbrev ZZ:D cB:=[(⟨⟨#[65,65,65]⟩,⟨#[67,90,90]⟩⟩:cB),(⟨⟨#[68,65,65]⟩,⟨#[90,90,90]⟩⟩:cB)]
theorem ZiW:uc ZZ:=⟨by simp,λz hz=>by
 simp only[VY,V1,or_false]at hz
 rcases hz with rfl|rfl<;>exact⟨b60 YJ,b60 YJ⟩⟩
theorem Zlf:uq ZZ=true:=by decide +kernel
def ZgE(i:G)(r:bH):Prop:=r.pG=((i / 6:G):C)/\r.ax=((1+i % 6 / 2:G):C)/\(i % 2=0->r.qo=5000/\500<=r.nQ/\r.nQ<=900)/\(i % 2=1->r.qo=40000/\1000<=r.nQ/\r.nQ<=1800)
def wg(l:D bH):Prop:=∀(i:G) r,l[i]?=J r->ZgE i r
theorem wg.snoc{r:bH}(h:wg l)(hr:ZgE (F l) r):wg (l++[r]):=λi x hx=>by
 rw[List.getElem?_append]at hx
 split at hx
 ·exact h i x hx
 grind
theorem ZcU(h:wg l)(hl:F l=12):ui l 2=true:=by
 unfold ui;rw[V7];refine⟨cX.2 λj x hx=>?_,Yi E⟩
 have hj:=(VT.1 hx).1;rw[hl]at hj
 obtain⟨a,b,c,d⟩:=h j x hx;unfold Jj;have z0:x.pG=0\/x.pG=1:=E;have hs:1<=x.ax/\x.ax<=3:=E;have ZeL:1<=x.qo/\x.qo<=1000000000:=E;have hp:0<=x.nQ/\x.nQ<=100000:=E;have Zny:(W (0+j=0) ||Zda l[0+j-1]? x)=true:=by
  by_cases h0:j=0
  ·simp_all
  ·obtain⟨y,hy⟩:∃y,l[j-1]?=J y:=⟨_,VS E⟩
   obtain⟨a',b',c',d'⟩:=h (j-1) y hy;rw[show 0+j-1=j-1 by omega,hy,Lc]
   unfold xl;simp only[Bool.or_eq_true,V7,decide_eq_true_eq];omega
 simp only[V7,Bool.not_eq_true',decide_eq_true_eq,Yz]
 grind
section
variable {n:ab} (hd:uA n) {skip:D C} (hs:skip.length<=50)
include hd hs
theorem Zfg:sE (⟨n,[],[],[],0,[],skip,0⟩:aw):=⟨hd.fit,by simp,by simp,by simp,by simp,by grind,λo ho=>by grind⟩
theorem ZkL:eY (⟨n,[],[],[],0,[],skip,0⟩:aw)=true:=by
 unfold eY cb xP;simp only[hd.ok,W9];simp[allI];omega
theorem Zcr(hl:F bd=12)(hp:F p<=6)(K:G):OD n K (⟨⟨n,[],[],[],0,[],skip,0⟩,ZZ,bd,p,[],[],[]⟩:aD):=
 ⟨⟨Zfg hd hs,ZiW,by simp_all,by grind,by simp,by simp,by simp,λp hp=>YD,λa ha=>YD⟩,ZmX hd hs K,Ws _,Ws _,by simp_all⟩
theorem Zcq(hr:wg bd)(hl:F bd=12)(hp:qv p=V):fg (⟨⟨n,[],[],[],0,[],skip,0⟩,ZZ,bd,p,[],[],[]⟩:aD)=true:=
 wW (ZkL hd hs) Zlf (by rw[show((F ZZ:G):C)=2 from rfl];exact ZcU hr hl) hp rfl rfl Z rfl rfl rfl
theorem QI(hr:wg bd)(hl:F bd=12)(hp:qv p=V/\(F p)<=6):
 l8 n skip ZZ bd p=J ((⟨⟨n,[],[],[],0,[],skip,0⟩,ZZ,bd,p,[],[],[]⟩:aD),V):=by
 have ho:=Zcr hd hs hl hp.2 0;unfold l8;rw[UQ hd hs,T];show(gS _).bind _=_;rw[ER ho.of,T,Em ho.of.fit,Zcq hd hs hr hl hp.1];rfl
end
theorem QH{c:Y}(h:M c):aO (oM c) λr=>(∃n,uA n/\OD n 0 r.1/\fg r.1=V/\∃skip,r.1.world=⟨n,[],[],[],0,[],skip,0⟩)/\M r.2:=by
 unfold oM;refine aO.gC (aO.bind (Zff h) λy1 h1=>?_)
 obtain⟨h1,Ge⟩:=h1;refine aO.bind (P:=λo=>M ⟨o.1,o.2.1,o.2.2.1⟩/\uA ⟨o.2.2.2,y1.1.off,y1.1.change⟩) ?_ λo0 Us=>?_
 ·have hlen:=h1.len
  refine aO.loop (fun(k:G) (s:C×(D YB8)×C×C×(D bP))=>∃i:G,s.1=(i:C)/\i+k=F s.2.2.2.2/\M ⟨s.2.1,s.2.2.1,s.2.2.2.1⟩/\uA ⟨s.2.2.2.2,y1.1.off,y1.1.change⟩) (λk s hs=>?_) NN (F y1.1.aC) _ ⟨0,rfl,by simp,Ge,h1⟩ YF
  obtain⟨i,hi,hk,hc,hd⟩:=hs;have Qd:=hd.len;simp only at Qd
  unfold rv;rw[hi];refine aO.cond (λbD=>?_) λ_=>aO.ret ⟨hc,hd⟩
  have bD:=Yu bD;have BL:L ((i:C)+1)=((i+1:G):C):=by rw[aV E];omega
  rw[BL];refine aO.gC (aO.bind (oV hc 3) λy2 h2=>aO.cond (λ_=>aO.drw (aO.gC (aO.bind (O h2 20) λy3 h3=>?_))) λ_=>aO.ret ⟨k-1,E,i+1,rfl,by grind,h2,hd⟩)
  refine aO.get E bD λx hx _=>aO.ret ⟨k-1,E,i+1,rfl,by grind,h3.2,?_⟩
  have b3:=h3.1.2.1 E;have b0:=h3.1.1;have hr:L (3000+L (1000*y3.1))=3000+1000*y3.1:=by rw[aV (n:=1000*y3.1) E,aV E]
  refine⟨by simp_all,λl hl=>?_,hd.off,hd.change⟩
  rcases List.mem_or_eq_of_mem_set hl with hl|rfl
  ·exact hd.bq l hl
  ·obtain⟨a1,a2,a3,a4,a5,a6,a7⟩:=hd.bq x hx
   exact⟨a1,a2,a3,a4,a5,a6,by grind⟩
 refine aO.gC (aO.bind (O Us.1 5) λy5 h5=>?_)
 have b5:=h5.1.2.1 E;have b5':=h5.1.1;refine aO.bind (P:=λo=>M ⟨o.1,o.2.1,o.2.2.1⟩/\(F o.2.2.2)<=50) ?_ λo1 Ng=>?_
 ·refine aO.loop (fun(k:G) (s:C×(D YB8)×C×C×(D C))=>s.1=(k:C)/\(F s.2.2.2.2)+k<=5/\M ⟨s.2.1,s.2.2.1,s.2.2.2.1⟩) (λk s hs=>?_) NN y5.1.toNat _ ⟨E,by grind,h5.2⟩ YF
  obtain⟨hk,hl,hc⟩:=hs;unfold ry;refine aO.cond (λhd=>?_) λ_=>aO.ret ⟨hc,by grind⟩
  have hd:=Yu hd;have BL:L (s.1-1)=((k-1:G):C):=by rw[aV E];omega
  exact aO.gC (aO.bind (O hc 20) λy6 h6=>aO.cf (iW YD E) (aO.ret ⟨k-1,E,BL,by grind,h6.2⟩))
 refine aO.bind (P:=λo=>M ⟨o.1,o.2.1,o.2.2.1⟩/\wg o.2.2.2/\(F o.2.2.2)=12) ?_ λo2 D7=>?_
 ·refine aO.loop (fun(k:G) (s:C×(D YB8)×C×C×(D bH))=>∃z:G,s.1=(z:C)/\z+k=2/\M ⟨s.2.1,s.2.2.1,s.2.2.2.1⟩/\wg s.2.2.2.2/\(F s.2.2.2.2)=6*z) (λk s hs=>?_) NN 2 _ ⟨0,rfl,rfl,Ng.1,λi r hr=>YD,rfl⟩ YF
  obtain⟨z,hz,hk,hc,hR,hL⟩:=hs;unfold rz;rw[hz];refine aO.cond (λbD=>?_) λCz=>aO.ret ⟨hc,hR,by grind⟩
  have bD:=Yu bD;have hwz:L ((z:C)+1)=((z+1:G):C):=by rw[aV E];omega
  rw[hwz];refine aO.bind (P:=λo=>M ⟨o.1,o.2.1,o.2.2.1⟩/\wg o.2.2.2/\(F o.2.2.2)=6*(z+1)) ?_ λo3 LU=>aO.ret ⟨k-1,E,z+1,rfl,E,LU.1,LU.2.1,LU.2.2⟩
  refine aO.loop (fun(k:G) (s3:C×(D YB8)×C×C×(D bH))=>∃t:G,s3.1=((t+1:G):C)/\t+k=3/\M ⟨s3.2.1,s3.2.2.1,s3.2.2.2.1⟩/\wg s3.2.2.2.2/\(F s3.2.2.2.2)=6*z+2*t) (λk s3 hs3=>?_) NN 3 _ ⟨0,rfl,rfl,hc,hR,hL⟩ YF
  obtain⟨t,ht,hk3,hc3,hR3,hL3⟩:=hs3;unfold rA;rw[ht];refine aO.cond (λhle=>?_) λEY=>aO.ret ⟨hc3,hR3,by grind⟩
  have hle:=Yu hle;have Ql:L (((t+1:G):C)+1)=((t+1+1:G):C):=by rw[aV E];omega
  rw[Ql];refine aO.gC (aO.bind (O hc3 5) λy7 h7=>aO.cf (iW YD E) (aO.gC (aO.bind (O h7.2 9) λy8 h8=>aO.cf (iW YD E) (aO.ret ⟨k-1,E,t+1,rfl,E,h8.2,?_,by grind⟩))))
  have b7:=h7.1.2.1 E;have b7':=h7.1.1;have b8:=h8.1.2.1 E;have b8':=h8.1.1;have e7:L (500+L (100*y7.1))=500+100*y7.1:=by rw[aV (n:=100*y7.1) E,aV E]
  have e8:L (1000+L (100*y8.1))=1000+100*y8.1:=by rw[aV (n:=100*y8.1) E,aV E]
  refine(hR3.snoc ?_).snoc ?_
  ·rw[hL3]
   refine⟨?_,?_,λ_=>⟨rfl,?_,?_⟩,λ_=>?_⟩<;>simp only[e7,hz]<;>omega
  ·simp only[V5,List.length_cons,List.length_nil,hL3]
   refine⟨?_,?_,λ_=>?_,λ_=>⟨rfl,?_,?_⟩⟩<;>simp only[e8,hz]<;>omega
 refine aO.Ev (aO.drw (aO.gC (aO.bind (K0 D7.1) λy9 h9=>?_)))
 rw[QI Us.2 Ng.2 D7.2.1 D7.2.2 h9.1,T];exact aO.ret ⟨⟨_,Us.2,Zcr Us.2 Ng.2 D7.2.2 h9.1.2 0,Zcq Us.2 Ng.2 D7.2.1 D7.2.2 h9.1.1,_,rfl⟩,h9.2⟩
theorem OD.le{n:ab}{o:aD}{K:G}(h:OD n K o):∀j,OD n (K+j) o
 |0=>h
 |j+1=>(OD.le h j).mono
abbrev tO(o:aD):(D bP)×(D C)×C×(D ay)×(D aq)×(D au)×C×(D aI)×(D C)×C×(D cB)×(D bH)×(D C)×(D bf)×(D X)×(D bk):=
 (o.world.aa.aC,o.world.aa.off,o.world.aa.change,o.world.ae,o.world.av,o.world.ak,o.world.now,o.world.aL,o.world.skip,o.world.br,o.bb,o.bd,o.aU,o.lines,o.aK,o.aF)
/-! Znq and lines that fit,or do not. -/
def ZS(l:D cB):Prop:=∀z∈l,z.first.size<=100/\z.last.size<=100
theorem ZS.fit{l:D cB}(h:ZS l)(hl:F l<=1000):uc l:=⟨E,λz hz=>⟨b60 (h z hz).1,b60 (h z hz).2⟩⟩
theorem ZS.snoc{l:D cB}{z:cB}(h:ZS l)(h1:z.first.size<=100)(h2:z.last.size<=100):ZS (l++[z]):=λy hy=>by
 rcases We.1 hy with hy|hy
 ·exact h y hy
 simp_all
structure OA(o:aD):Prop where
 of:OF o
 dp:uA o.world.aa
 cnt:eY o.world=V->JQ 8 o.world
theorem PO{n:ab}(hn:uA n){c:Y}(h:M c)(hl:F o.lines<=1048576)(hw:o.world.aa=n):aO (oL c o) λr=>xZ r.1.aM/\M r.2.1/\r.2.2=o:=by
 have osl:(⟨#[79,83,76]⟩:R).size<=100:=by decide
 have pz:xZ (⟨⟨0,0,⟨#[]⟩⟩,⟨#[]⟩,0,[],0⟩:X):=⟨by decide,by decide,by simp⟩
 unfold oL;rw[hw];refine aO.gC (aO.bind (O h 9) λy1 h1=>?_)
 have take:aO ((S [0]).bind λ_=>(dH y1.2).bind λy2=>(S [0]).bind λ_=>(aA y2.2 6000).bind λy3=>(S [0]).bind λ_=>(aA y3.2 300).bind λy4=>(S [0]).bind λ_=>(aA y4.2 200).bind λy5=>(S [0]).bind λ_=>(aA y5.2 200).bind λy6=>(S [0]).bind λ_=>(cT y6.2 n).bind λy7=>(S [0]).bind λ_=>(cT y7.2 n).bind λy8=>
  N (W (y7.1=y8.1)) (J ((⟨1,(⟨(⟨y2.1.label.ax,y2.1.label.bU,y8.1⟩:bt),⟨#[79,83,76]⟩,(L (200+y3.1)),[(L (100+y4.1)),(L (100+y5.1)),(L (50+y6.1))],y2.1.value⟩:X),0,0,0,(⟨0,0⟩:au)⟩:bk),y8.2,o))
  (J ((⟨1,(⟨(⟨y2.1.label.ax,y2.1.label.bU,y8.1⟩:bt),y7.1,(L (200+y3.1)),[(L (100+y4.1)),(L (100+y5.1)),(L (50+y6.1))],y2.1.value⟩:X),0,0,0,(⟨0,0⟩:au)⟩:bk),y8.2,o))) λr:bk×Y×aD=>xZ r.1.aM/\M r.2.1/\r.2.2=o:=
  aO.gC (aO.bind (GL h1.2) λy2 h2=>aO.gC (aO.bind (O h2.2 _) λy3 h3=>aO.gC (aO.bind (O h3.2 _) λy4 h4=>aO.gC (aO.bind (O h4.2 _) λy5 h5=>aO.gC (aO.bind (O h5.2 _) λy6 h6=>aO.gC (aO.bind (E8 hn h6.2) λy7 h7=>aO.gC (aO.bind (E8 hn h7.2) λy8 h8=>aO.cond (λ_=>aO.ret ⟨⟨h8.1,osl,by simp⟩,h8.2,rfl⟩) λ_=>aO.ret ⟨⟨h8.1,h7.1,by simp⟩,h8.2,rfl⟩)))))))
 have g:∀{b:Bool} {x y:Option (bk×Y×aD)},(aO x λr=>xZ r.1.aM/\M r.2.1/\r.2.2=o)->(aO y λr=>xZ r.1.aM/\M r.2.1/\r.2.2=o)->aO (N b x y) λr=>xZ r.1.aM/\M r.2.1/\r.2.2=o:=λh k=>aO.cond (λ_=>h) λ_=>k
 have rest:aO (N (W (y1.1=3))
      ((S [0]).bind λ_=>(aA y1.2 (L ((F o.aK:C)+1))).bind λy9=>(eW o.lines (L (1+y9.1))).bind λdO=>(S [0,9]).bind λ_=>(bZ y9.2 ([0,0,0,100])).bind λlJ=>(gv 1 (L (dO-lJ.1))).bind λlA=>J ((⟨2,(⟨(⟨0,0,⟨#[]⟩⟩:bt),⟨#[]⟩,0,[],0⟩:X),(L (1+y9.1)),lA,0,(⟨0,0⟩:au)⟩:bk),lJ.2.1,o))
      (N (W (y1.1=4)) ((S [0]).bind λ_=>(dX y1.2 o.world).bind λqi=>J ((⟨4,(⟨(⟨0,0,⟨#[]⟩⟩:bt),⟨#[]⟩,0,[],0⟩:X),0,0,0,qi.1⟩:bk),qi.2,o))
      (N (W (y1.1=5)) (J ((⟨5,(⟨(⟨0,0,⟨#[]⟩⟩:bt),⟨#[]⟩,0,[],0⟩:X),0,0,0,(⟨0,0⟩:au)⟩:bk),y1.2,o))
      (N (W (y1.1=6)) ((S [0]).bind λ_=>(aA y1.2 (L ((F o.aK:C)+1))).bind λoY=>J ((⟨6,(⟨(⟨0,0,⟨#[]⟩⟩:bt),⟨#[]⟩,0,[],0⟩:X),(L (1+oY.1)),0,0,(⟨0,0⟩:au)⟩:bk),oY.2,o))
      ((rF 8 [4]).bind λ_=>(S [0]).bind λ_=>(aA y1.2 90).bind λrT=>J ((⟨3,(⟨(⟨0,0,⟨#[]⟩⟩:bt),⟨#[]⟩,0,[],0⟩:X),0,0,(L (o.world.now+(L (30*rT.1)))),(⟨0,0⟩:au)⟩:bk),rT.2,o)))))) λr:bk×Y×aD=>xZ r.1.aM/\M r.2.1/\r.2.2=o:=
  g (aO.gC (aO.bind (O h1.2 _) λy9 h9=>aO.bind (aO.of (Q:=λ_=>True) (KL hl _) trivial) λdO _=>aO.gC (aO.bind (rX h9.2 Z) λlJ II=>aO.bind (E6 _ _) λlA _=>aO.ret ⟨pz,II.2,rfl⟩)))
   (g (aO.gC (aO.bind (JO hn h1.2 hw) λqi h13=>aO.ret ⟨pz,h13,rfl⟩)) (g (aO.ret ⟨pz,h1.2,rfl⟩) (g (aO.gC (aO.bind (O h1.2 _) λoY h14=>aO.ret ⟨pz,h14.2,rfl⟩)) (aO.drw (aO.gC (aO.bind (O h1.2 _) λrT h15=>aO.ret ⟨pz,h15.2,rfl⟩))))))
 exact g (g take rest) (g (g take rest) (g take rest))
theorem Mc{n:ab}(hn:uA n){c:Y}(h:M c)(hl:F o.lines<=1048576)(hw:o.world.aa=n):aO (kT c o) λr=>xZ r.1.aM/\r.2.2.aF=o.aF:=by
 unfold kT;exact aO.gC (aO.bind (PO hn h hl hw) λy1 h1=>aO.gC (aO.bind (O h1.2.1 12) λy2 h2=>aO.cond (λ_=>aO.gC (aO.bind (O h2.2 9) λy3 _=>aO.ret ⟨h1.1,by simp_all⟩)) λ_=>aO.cond (λ_=>aO.gC (aO.bind (rX h2.2 Z) λy3 _=>aO.ret ⟨h1.1,by simp_all⟩)) λ_=>aO.cond (λ_=>aO.gC (aO.bind (rX h2.2 Z) λy3 _=>aO.ret ⟨h1.1,by simp_all⟩)) λ_=>aO.cond (λ_=>aO.gC (aO.bind (rX h2.2 Z) λy3 _=>aO.ret ⟨h1.1,by simp_all⟩)) λ_=>aO.cond (λ_=>aO.gC (aO.bind (rX h2.2 Z) λy3 h3=>aO.gC (aO.bind (rX h3.2 Z) λy4 _=>aO.ret ⟨h1.1,by simp_all⟩))) λ_=>aO.cond (λ_=>aO.ret ⟨⟨h1.1.aZ,h1.1.ar,h1.1.bJ⟩,by simp_all⟩) λ_=>aO.ret ⟨h1.1,by simp_all⟩))
theorem ML{code:D YB8}(hl:F code<=4096)(hb:∀x∈code,0<=x.v/\x.v<=255):aO (nI code) λr=>(∃n,uA n/\OD n 0 r.1/\fg r.1=V/\∃skip,r.1.world=⟨n,[],[],[],0,[],skip,0⟩)/\r.1.aF=[]/\(F r.2)<=9/\∀a∈r.2,PF a.aM:=by
 unfold nI;refine aO.bind (Zfh hl hb) λy1 h1=>aO.gC (aO.bind (QH h1) λy2 h2=>aO.Ev ?_)
 obtain⟨⟨n,hn,ho,hov,hsk⟩,hc⟩:=h2;have hj0:y2.1.aF=[]:=List.length_eq_zero_iff.1 (Nat.le_zero.1 ho.jl);rw[ER ho.of,T];refine aO.gC (aO.bind (O hc 9) λy4 h4=>?_)
 have b8:=h4.1;have b8':=b8.2.1 E;refine aO.bind (P:=λo=>∃(c:Y) (x:aD),o=(c.b,c.i,c.h,tO x)/\M c/\OD n 8 x) ?_ λo0 Us=>?_
 ·have hk:(((y4.1.toNat:G):C))=y4.1:=E
  refine aO.loop (fun(k:G) s=>∃(c:Y) (x:aD),s=((k:C),c.b,c.i,c.h,tO x)/\k<=8/\M c/\OD n (8-k) x) (λk s hs=>?_) NN y4.1.toNat _ ⟨y4.2,y2.1,by rw[hk],E,h4.2,by have:=ho.le (8-y4.1.toNat);simp_all⟩ YF
  obtain⟨c,x,rfl,hk,hc,hO⟩:=hs;unfold qL;refine aO.cond (λhd=>?_) λhd=>aO.ret ⟨c,x,rfl,hc,?_⟩
  ·have hd:=Yu hd
   have BL:L ((k:C)-1)=((k-1:G):C):=by rw[aV E];omega
   refine aO.Ev (aO.drw (aO.gC (aO.bind (TF hn hc (o:=x) hO.of.lines hO.w.dp) λy3 h3=>aO.bind (Zet hn hO h3.1.pf) λy4 h4=>aO.ret ⟨k-1,E,y3.2,y4.1,?_,E,h3.2,?_⟩)))
   all_goals grind
  simp_all
 ·obtain⟨c,x,rfl,hc,hO⟩:=Us
  have EZ:=hO.jl;have haf:∀a∈x.aF,PF a.aM:=hO.of.af;refine aO.gC (aO.bind (oV hc 3) λy7 h7=>aO.cond (λ_=>aO.gC (aO.bind (Mc hn h7 (o:=x) hO.of.lines hO.w.dp) λy8 h8=>?_)) λ_=>aO.ret ⟨⟨n,hn,ho,hov,hsk⟩,hj0,by grind,haf⟩)
  rw[h8.2];refine aO.cf Y9 (aO.ret ⟨⟨n,hn,ho,hov,hsk⟩,hj0,by simp_all,λa ha=>?_⟩)
  rcases We.1 ha with ha|ha
  ·simp_all
  ·rw[Wh.1 ha];exact h8.1.pf
structure Zap(o:aD)(l:D bk)(x:aD)(n:G):Prop where
 run:iM o l=J (x,(n:C))
 spec:ug o l=J (x,(n:C))
 ox:OF x
 le:n<=l.length
 few:n<=150
 jr:x.aF=l.take n
 ZeF:∀a∈x.aF,Ln1 a
 res:mF o (l.take 150)=(x,n)
theorem ZiA{l:D bk}(ho:OF o)(hj:o.aF=[])(hl:F l<=20)(ha:∀a∈l,PF a.aM):∃x n,Zap o l x n:=by
 obtain⟨r1,r2,r3⟩:=Le (l.take 150) ho λb hb=>ha b (WK hb)
 have hle:=Ld (l.take 150) o;rw[Wy]at hle
 have hjr:=(Hd ho ha hj).1;have hac:=Jp (l.take 150) ho λb hb=>ha b (WK hb)
 have ht:(l.take 150).take (mF o (l.take 150)).2=l.take (mF o (l.take 150)).2:=by simp_all
 rw[ht]at hac
 refine⟨_,_,G7 ho E ha,OK ho E ha,r1,E,E,hjr,λa hm=>?_,rfl⟩
 rw[hjr]at hm
 exact Zg1 (ha a (WK hm)) (hac a hm)
theorem Pr{w:aw}(h:oc w){i:G}{o:ay}(ho:w.ae[i]?=J o):∀(d q:G) (a b:au),o.aE[q]?=J a->o.aE[q+d]?=J b->bY w.aa a<=bY w.aa b
 |0,q,a,b,h1,h2=>by
  simp_all
 |d+1,q,a,b,h1,h2=>by
  have bD:=(VT.1 h2).1;have h3:o.aE[q+d]?=J (o.aE[q+d]' E):=VS _;have ih:=Pr h ho d q a _ h1 h3;have hw:=h.aE ho;have n1:=hw.next (q+d) _ b h3 h2;have n2:=hw.aN _ (VU h3);omega
theorem Mt{w:aw}(h:oc w)(hb:b∈w.av)(hc:dx w.ak b.aN=V):bY w.aa b.aN<=w.now:=by
 obtain⟨j,o,t,h1,h2,rfl⟩:=FK (jN h).1 hb;have hO:=iV h.fit h.ok h1;obtain⟨q,hq,rfl⟩:=V3 h2;have hqe:=VS hq;have hg:=hO.aH;have hqc:(q:C)<aY o:=XQ λhx=>by
  have ho:=hO.open_;have hm:o.aE[q]∈o.aE.drop (aY o).toNat:=by
   refine VU (i:=q-(aY o).toNat) ?_
   simp_all
  simp_all
 have hs:=h.state h1;have hw:=h.aE h1;show bY w.aa o.aE[q]<=w.now;have past:(q:C)<o.aH->bY w.aa o.aE[q]<=w.now:=λbD=>by
  have h3:o.aE[(o.aH-1).toNat]?=J (o.aE[(o.aH-1).toNat]' E):=VS _;have p1:=hs.past _ E h3;have p2:=Pr h h1 ((o.aH-1).toNat-q) q _ _ hqe (by rw[show q+((o.aH-1).toNat-q)=(o.aH-1).toNat by omega];exact h3)
  have p3:=hw.aN _ (VU h3);omega
 unfold aY at hqc
 rcases hs.cases with⟨s1,_⟩ |⟨s1,_,_,t,t1,t2,_⟩ |⟨s1,_⟩
 all_goals grind
def sK:bk:=⟨3,⟨⟨0,0,⟨#[]⟩⟩,⟨#[]⟩,0,[],0⟩,0,0,100000,⟨0,0⟩⟩
theorem Hf:PF sK.aM:=⟨Ws _,Ws _,Ws _⟩
theorem Zdf:bS sK=J true:=by
 have hs:=λb=>xH (a:=sK) (b:=b) (by show 0<NN;unfold NN;omega)
 unfold bS;simp only[nf,gV,cO,hs];rfl
theorem Zdd(h:OF x)(hv:fg x=V)(hj:F x.aF<150):∃y c,fh x sK=J (y,c)/\((¬c=0/\y=x/\x.world.now=100000)\/(c=0/\JS x sK y/\MK x sK=J y)):=by
 obtain⟨y,c,e1,_,hc⟩:=By h Hf;refine⟨y,c,e1,?_⟩
 rcases hc with⟨hc,rfl⟩ |⟨rfl,hd⟩
 ·refine .inl ⟨hc,rfl,XQ λhn=>hc ?_⟩
  have hw:oc y.world:=⟨h.world,(iw hv).1⟩;have yx:=hw.parts.1;have hif:eY y.world=V/\y.world.now<=100000/\(100000:C)<=100000:=⟨hw.ok,E,E⟩;have ha:=It h.world 100000;rw[if_pos hif]at ha
  have rS:∀l,S l=J ():=λ_=>rfl
  have dS:∀a b,rF a b=J ():=λ_ _=>rfl
  unfold fh kL at e1
  simp only[decide_true,rS,dS,show W ((3:C)=1)=Zf from rfl,show W ((3:C)=2)=Zf from rfl,show W ((3:C)=6)=Zf from rfl,show W ((3:C)=3)=V from rfl,show W ((0:C)=0)=V from rfl,Yw,J6 h,yz h.fit,hv,Zdf,J5 Hf,T,VX,Yx,Yt (show ¬(150:C)<=F y.aF by omega),show sK.kind=3 from rfl,show sK.bG=100000 from rfl,Yt (show ¬(100000:C)<=y.world.now by omega),ha]at e1
  rw[xq E E]at e1
  simp_all
 ·refine .inr ⟨rfl,hd,?_⟩
  rw[MK,e1];rfl
theorem Zdh(h:OF x)(hv:fg x=V)(hF:∀o∈x.world.ae,Tz x.world.aa o)(hd:JS x sK y){p:X}(hp:x.aK[i]?=J p):
 ∃o z,x.world.ae[i]?=J o/\y.world.ae[i]?=J z/\-1<=tY x.world.aa o/\tY x.world.aa o<=100000/\(tY x.world.aa o=-1/\¬z.state=3\/¬tY x.world.aa o=-1/\z.state=3/\z.bK=tY x.world.aa o/\z.place=p.label.aZ):=by
 obtain⟨q,rfl,hy⟩:=hd.how;have hw:oc x.world:=⟨h.world,(iw hv).1⟩;have hyw:(JM q (x.aF++[sK])).world=vG x.world 100000:=by
  rcases hy with⟨hk,_⟩ |⟨hk,_⟩ |⟨_,w,rfl,hm⟩
  ·cases hk
  ·rcases hk with hk|hk<;>cases hk
  ·rcases hm with⟨_,_,rfl⟩ |⟨hk,_⟩ |⟨hk,_⟩
   ·rfl
   ·cases hk
   ·cases hk
 have hpt:=hw.parts;obtain⟨a1,a2,a3⟩:=CF hw (u:=100000) hpt.1.2 E;have hn:fV (vG x.world 100000)<0:=by
  rcases a3 with a3|a3
  ·omega
  ·rcases uV a1 with⟨k,_⟩ |⟨_,k,_⟩<;>omega
 have hlen:=a2.len;have uP:=(iw hv).2.2.2.2.2.1;have Av:=cX.1 (iw hv).2.2.2.2.2.2.2.1 i p hp;have hi:=(VT.1 hp).1;have h1:x.world.ae[i]?=J (x.world.ae[i]' E):=VS _;have h2:(vG x.world 100000).ae[i]?=J ((vG x.world 100000).ae[i]' E):=VS _;generalize x.world.ae[i]' E=o at h1
 generalize (vG x.world 100000).ae[i]' E=z at h2
 have hs:=a2.ord i o z h1 h2;have he:ql (vG x.world 100000).aa z=ql x.world.aa o:=by unfold ql;rw[hs.aE,hs.aZ,a2.aa]
 have he2:tY (vG x.world 100000).aa z=tY x.world.aa o:=by unfold tY;rw[he,hs.aE,a2.aa]
 obtain⟨q1,q2⟩:=TI a1 hn h2;obtain⟨p1,p2⟩:=U6 hw h1;rw[he,he2]at q1
 rw[he]at q2
 have zL:o.aZ=p.label.aZ:=by
  rw[Nat.zero_add]at Av
  unfold oA at Av
  rw[h1,tq]at Av
  simp_all
 rw[hyw];refine⟨o,z,h1,h2,?_⟩
 cases hE:ql x.world.aa o with
 |true=>
  obtain⟨s1,s2,s3⟩:=q1 hE;have:=p1 hE;exact⟨E,E,.inr ⟨E,s1,s3,by rw[s2,hs.aZ,zL]⟩⟩
 |false=>
  simp_all
theorem VB{l:D bk}{n:G}(ho:OF o)(hj:o.aF=[])(hl:F l<=20)(ha:∀a∈l,PF a.aM)(hP:Zap o l x n)(hd:JS x sK y)(hA:MK x sK=J y):
 (F y.aF)<=150/\(∀a∈y.aF,Ln1 a)/\iM o y.aF=J (y,(F y.aF:C)):=by
 have hjy:=Bz hd;have hle:=hP.le;have Ut:F x.aF=n:=by rw[hP.jr,Wy];omega
 have hyl:F y.aF=n+1:=by simp_all
 have hg:∀a∈y.aF,Ln1 a:=λa hm=>by
  rw[hjy]at hm
  rcases We.1 hm with hm|hm
  ·exact hP.ZeF a hm
  ·rw[Wh.1 hm];exact Zg1 Hf Zdf
 refine⟨E,hg,?_⟩;have hpf:∀a∈y.aF,PF a.aM:=λa hm=>by
  rw[hjy]at hm
  rcases We.1 hm with hm|hm
  ·rw[hP.jr]at hm;grind
  ·rw[Wh.1 hm];exact Hf
 have h1:=(Hd ho ha hj).2;rw[hP.res]at h1
 simp only at h1
 rw[Xh (show (F x.aF)<=150 by omega)]at h1
 have h2:=OQ x.aF [sK] (x:=o) YG;rw[h1,oX hA,<-hjy]at h2
 have h3:=G7 (x:=o) (l:=y.aF) ho E hpf;rw[Xh (show (F y.aF)<=150 by omega),h2]at h3
 rw[h3,hyl,Ut];rfl
theorem ZhW{w:aw}(h:oc w){o:ay}(ho:w.ae[i]?=J o){t:au}(ht:t∈o.aE):∃y,az w.aa.aC t.bq=J y/\bB w.aa t=y.aZ:=by
 obtain⟨y,hy,_⟩:=cZ h.fit.dp ((iV h.fit h.ok ho).aN t ht);exact⟨y,hy,by unfold bB;simp_all⟩
theorem RF{w:aw}(h:oc w){o:ay}(ho:w.ae[i]?=J o)(hF:Tz w.aa o):eU w o=J (!ql w.aa o):=by
 have hok:=iV h.fit h.ok ho;have tV:=h.state ho;have hl:=h.fit.aE o (VU ho);have hg:=hok.aH;obtain⟨c1,c2,c3⟩:=sL hg hl;have ve:∀t,o.aE.getLast?=J t->bB w.aa t=o.aZ->ql w.aa o=true:=λt h1 h2=>by unfold ql;simp_all
 have Qg:∀t,o.aE.getLast?=J t->¬bB w.aa t=o.aZ->ql w.aa o=false:=λt h1 h2=>by unfold ql;simp_all
 have vH:¬aY o=F o.aE->0<F o.aE->ql w.aa o=true:=λhc hp=>by
  obtain⟨t,t1,t2⟩:=xD hp (k:=F o.aE-1) E
  rcases hF with e|e
  all_goals simp_all
 unfold eU
 rcases tV.cases with⟨k1,k2,k3,k4,k5⟩ |⟨k1,k2,k3,t,k4,k5,k6⟩ |⟨k1,k2,k3,k4,k5,k6⟩
 ·have C4:aY o=o.aH:=by unfold aY;omega
  rw[c3,C4,if_neg (show ¬(F o.aE:C)<o.aH by omega),Yt (show ¬o.state=3 by omega)]
  simp only[WI,Yw,T]
  by_cases vd:o.aH=F o.aE
  ·have uu:jK w o=J o.place:=by unfold jK;simp_all
   rw[Yi vd,Yw,uu,T,k2,Yt k3];have he:ql w.aa o=false:=by
    rcases XY (F o.aE) with h0|h0
    ·unfold ql;simp_all
    ·obtain⟨t,t1,t2⟩:=xD h0 (k:=(o.aH-1).toNat) E
     refine Qg t t2 λe=>k3 ?_
     unfold pK
     simp_all
   rw[he]
  grind
 ·have C4:aY o=o.aH+1:=by unfold aY;omega
  have bD:=(VT.1 k4).1;rw[c3,C4,if_neg (show ¬(F o.aE:C)<o.aH+1 by omega),Yt (show ¬o.state=3 by omega)]
  simp only[WI,Yw,T]
  by_cases vd:o.aH+1=F o.aE
  ·obtain⟨y,hy,zL⟩:=ZhW h ho (VU k4)
   have zJ:az o.aE o.aH=J t:=by unfold az;simp_all
   have uu:jK w o=J y.aZ:=by unfold jK;simp_all
   rw[Yi vd,Yw,uu,T,<-zL];obtain⟨t',t1,t2⟩:=xD (l:=o.aE) E (k:=o.aH.toNat) E;rw[k4]at t1
   obtain rfl:=Option.some.inj t1;unfold ql;rw[t2]
  grind
 ·rw[Yi k1]
  obtain⟨t,t1,t2⟩:=xD (l:=o.aE) E (k:=(o.aH-1).toNat) E;rw[ve t t2 (by unfold pK at k3;simp_all)]
  rfl
theorem U7{w:aw}(h:oc w){o:ay}(ho:w.ae[i]?=J o)(hF:Tz w.aa o):nn w ((i:C)+1)=J (tY w.aa o):=by
 have Ib:=h.fit.ae;have bD:=(VT.1 ho).1;have hw:L ((i:C)+1-1)=(i:C):=by rw[aV E];omega
 have hg:az w.ae (i:C)=J o:=by rw[aS];omega
 unfold nn;rw[qz h.fit,h.ok,gV,cO,hw,hg,Yi (show 1<=(i:C)+1 by omega),Yi (show(i:C)+1<=(F w.ae:C)by omega)]
 simp only[T,VX,Yx,Bool.and_self,RF h ho hF];unfold tY
 cases he:ql w.aa o with
 |false=>simp
 |true=>
  have hp:0<F o.aE:=by
   rcases XY (F o.aE) with h0|h0
   ·unfold ql at he;simp_all
   omega
  have hl:=h.fit.aE o (VU ho);obtain⟨t,t1,t2⟩:=xD hp (k:=F o.aE-1) E;have C8:L ((F o.aE:C)-1)=(F o.aE:C)-1:=aV E;have zJ:az o.aE ((F o.aE:C)-1)=J t:=by unfold az;rw[if_pos E,show((F o.aE:C)-1).toNat=F o.aE-1 by omega];omega
  obtain⟨_,e2,_⟩:=bX h.fit.dp h.dp ((iV h.fit h.ok ho).aN t (VU t1));simp only[VX,Yx,Yt (show ¬(F o.aE:C)=0 by omega),C8,zJ,T,qm,e2,t2,WC,W9,if_true]
theorem PU{n:ab}{l:D aq}(hb:cb n l=V)(hm:b∈l):((cN n b.aN.bq b.aN.day).getD Zf=V)/\(∀b∈l,1<=b.ah/\b.ah<=1000000)/\∃g,az n.aC b.aN.bq=J g/\sy l b.aN<=g.jb:=by
 have one:∀b∈l,((cN n b.aN.bq b.aN.day).getD Zf=V/\(1<=b.aR/\b.aR<=9999))/\1<=b.ah/\b.ah<=1000000:=λb hm=>by
  obtain⟨i,hi,rfl⟩:=V3 hm;have h1:=(wD hb hi).1;unfold PS at h1
  simp_all
 have wt:∀b∈l,1<=b.ah/\b.ah<=1000000:=λb hm=>(one b hm).2
 refine⟨(one b hm).1.1,wt,?_⟩;have hl:=(dJ hb).2;obtain⟨i,hi,rfl⟩:=V3 hm;have h2:=(wD hb hi).2;unfold bk2 at h2
 rw[VS hi]at h2
 simp only[Kw (show (F l)<=1000 by omega) wt]at h2
 grind
theorem Zgi{w:aw}(h:oc w)(hm:b∈w.av):(∃v,qF w.aa w.av b.aN=J v/\0<=v)/\pO w.aa b.aN=J (bY w.aa b.aN):=by
 have hb:=ze h.ok;have hn:=(dJ hb).1;have hl:=(dJ hb).2;obtain⟨hr,hw,g,hg,hle⟩:=PU hb hm;have ht:=vk h.fit.dp hn b.aN;have hs:=sY h.fit.dp b.aN;rw[hs]at hr ht
 have PA:fA w.aa b.aN=true:=hr;rw[PA]at ht
 obtain⟨b1,b2⟩:=Ef hw b.aN;have Znz:=(zA h.fit.dp hn _ (VU (ky hg).2)).jb;obtain⟨e1,_,_⟩:=bX h.fit.dp hn PA;refine⟨⟨g.jb-sy w.av b.aN,?_,E⟩,?_⟩
 ·have ew:L (g.jb-sy w.av b.aN)=g.jb-sy w.av b.aN:=aV E
  unfold qF;simp only[vR h.fit.dp h.fit.av,hb,ht,hg,zy,Kw (show (F w.av)<=1000 by omega) hw,ew,T,VX,Yx]
 ·unfold pO
  simp only[ht,lI,e1,T,VX,Yx]
theorem top12(code:D YB8)(hb:∀x∈code,0<=x.v/\x.v<=255):rM code=J true:=by
 unfold rM xF;rw[T]
 by_cases Gd:4096<(F code:C)
 ·rw[Yi Gd];rfl
 rw[Yt Gd,Yx];obtain⟨⟨o,l⟩,e,⟨nt,hnt,Pz,hov,skip,hw⟩,hj,hl,ha⟩:=ML (code:=code) E hb;simp only at Pz hov hw hj hl ha
 have ho:=Pz.of;obtain⟨x,n,hP⟩:=ZiA ho hj E ha;have Ut:(F x.aF:C)=(n:C):=by have:=hP.le;rw[hP.jr,Wy];omega
 have hT:L5 nt x:=by
  have:=Tm hnt (l.take 150) (Zgt hnt ho hov hw) λa hm=>ha a (WK hm)
  rw[hP.res]at this
  exact this
 have hx:=hT.of;have hv:=hT.ok;have hwk:=hT.w;have hFE:∀z∈x.world.ae,Tz x.world.aa z:=λz hz=>by rw[hT.wd.dp];exact(hT.wd.fin z hz).ends
 have Zl7:∀(t:D PV) (m:Mem),Ev t m=J ():=λ_ _=>rfl
 have Zl3:∀(a:G) (b:D G),rF a b=J ():=λ_ _=>rfl
 have zY:=hwk.fit.av;have ZkB:aB (oI (o,l) (x,(n:C))) NN 0=J (.inl ()):=by
  refine vl (xs:=x.world.av) (λi b hb=>?_) (by unfold oI;simp) zY
  have bD:=(VT.1 hb).1;have hm:=VU hb;have hg:az x.world.av (i:C)=J b:=by rw[aS];exact hb
  obtain⟨⟨v,e1,v0⟩,e2⟩:=Zgi hwk hm;have vD:=Mt hwk hm;unfold oI;simp only[Yi (show(i:C)<F x.world.av by omega),Yw,hg,T,e1,Yt (show ¬v<0 by omega),Yx,SS hwk.fit.ak,e2]
  cases hc:dx x.world.ak b.aN with
  |true=>rw[Yw,Yt (show ¬x.world.now<bY x.world.aa b.aN by have:=vD hc;omega),Yx]
  |false=>rfl
 obtain⟨y,c,hA,tv⟩:=Zdd hx hv (show (F x.aF)<150 by have:=hP.le;omega)
 have Zmd:(⟨3,⟨⟨0,0,⟨#[]⟩⟩,⟨#[]⟩,0,[],0⟩,0,0,100000,⟨0,0⟩⟩:bk)=sK:=rfl;have Zmu:kJ x=J true:=by rw[yz hx.fit,hv]
 simp only[e,T,Zl7,Zl3,hP.run,Zmu,VX,Yx,Ut,decide_true,Oi hwk,yX hwk hT.Hu,Pf hx hv,ZkB,bj,Zmd,hA]
 rcases tv with⟨hc,rfl,yx⟩ |⟨rfl,hD,hdo⟩
 ·simp[hc,yx]
 ·have hTy:=Pj hnt hT Hf hD
  obtain⟨g1,g2,g3⟩:=VB ho hj E ha hP hD hdo;have hF:=NG g1 g2;have hR:=ZcV g1 g2;have hS:=VD hTy.of;have uP:=hx.aK;have ZkC:aB (oJ (o,l) (x,(n:C)) (y,0)) NN 0=J (.inl ()):=by
   refine vl (xs:=x.aK) (λi p hp=>?_) (by unfold oJ;simp) uP
   have bD:=(VT.1 hp).1;obtain⟨q,z,h1,h2,p0,p1,hq⟩:=Zdh hx hv hFE hD hp;have Ac:L ((i:C)+1)=(i:C)+1:=by rw[aV E]
   have hgz:az y.world.ae (i:C)=J z:=by rw[aS];exact h2
   have hgp:az x.aK (i:C)=J p:=by rw[aS];exact hp
   unfold oJ;simp only[Yi (show(i:C)<F x.aK by omega),Yw,Ac,U7 hwk h1 (hFE _ (VU h1)),T,hgz,hgp]
   rcases hq with⟨k1,k2⟩ |⟨k1,k2,k3,k4⟩
   ·simp[k1,k2]
   ·simp[k1,k2,k3,k4]
  simp only[decide_true,VX,Yx,ZkC,bj,T,hF,hR,g3,Yw,hS,yX hTy.w hTy.Hu,Pf hTy.of hTy.ok]
