/- A part of the proof of this claim's last theorem. No condition. -/
import Derived.Test.YtbjbellffaenaaaGreatDoorCT31
import Derived.Test.YtbjbellffaenaaaGreatDoorCT30
import Derived.Test.YtbjbellffaenaaaGreatDoorCT32
set_option linter.all false
set_option maxRecDepth 10000
open Option renaming some->D,none->Zd
open Bool renaming true->X,false->Zf
open Decidable renaming decide->S
open List renaming length->G
open Option renaming bind->Zn
open _root_ renaming ByteArray->K,List->C,Nat->E,Option->Zo,cond->V
open Go.Proofs.YtbjbellffaenaaaGreatDoor renaming YA->F,Yi->Y,aV->Z,aj->J,bc->T
open Go.Proofs.Tryz
set_option maxHeartbeats 40000000
namespace Go.Proofs.YtbjbellffaenaaaGreatDoor
open Option renaming bind_some->O,map_some->WC,getD_some->W9
open _root_.Int renaming tdiv_eq_ediv_of_nonneg->Yn,tmod_eq_emod_of_nonneg->Yo,le_refl->WT
open Bool renaming not_true->VX,and_eq_true->V7,not_eq_true'->Ww
open List renaming mem_cons->VY,mem_map->WH,Nodup->XT,mem_of_getLast?->WX,length_append->V5,getElem?_eq_getElem->VS,any_eq_false->XC,mem_append->We,getElem?_eq_some_iff->VT,countP_cons->X5,length_cons->V0,countP_le_length->Xj,take_succ_eq_append_getElem->Wt,length_take->Wy,length_nil->V2,mem_of_getElem?->VU,map_cons->WM,sum_cons->Xo,nodup_cons->Xs,map_append->Xv,sum_append->Ya,getElem_of_mem->V3
open Nat renaming zero_add->Wa,le_refl->VW,le_trans->Wd
open Option.some renaming inj->VV
open Go.RowKit
variable {a:bk}{aZ ar p q:K}{ak ts:C au}{e:Int}{k:E}{t:au}{y:bP}{α:Type}
def MO(e ax:Int):Int:=(e / 1440+(if 1080<e % 1440 then 1 else 0)+(if ax=1 then 0 else if ax=2 then 1 else 4))*1440+1080
theorem GX{n:ab}{ax e aQ:Int}(he:gx n ar aZ aQ=D e)(h0:0<=e)(h1:e<=100000)(hs:1<=ax/\ax<=3):gN n ax ar aZ aQ=D (MO e ax):=by
 unfold gN;rw[he,gV];simp only[O,cO];have d1:e.tdiv 1440=e / 1440:=Yn h0;have d2:e.tmod 1440=e % 1440:=Yo h0;have hb:0<=e / 1440/\e / 1440<=69:=F;have BM:IntKind.i64.wrap (e / 1440)=e / 1440:=Z F;have hk:∃k:Int,0<=k/\k<=4/\az ([0,1,4]:C Int) (aJ (ax-1))=D k/\k=(if ax=1 then 0 else if ax=2 then 1 else 4):=by
  rw[Z F]
  rcases(show ax=1\/ax=2\/ax=3 by omega)with rfl|rfl|rfl
  ·exact⟨0,F,F,rfl,by simp⟩
  ·exact⟨1,F,F,rfl,by simp⟩
  ·exact⟨4,F,F,rfl,by simp⟩
 obtain⟨k,k0,k1,k2,k3⟩:=hk;rw[d1,d2,BM,Y hs.1,Y hs.2,Yt (show ¬e=-1 by omega),k2]
 simp only[Yx,Bool.and_self,VX,O];unfold MO;rw[<-k3]
 by_cases hd:1080<e % 1440
 ·rw[Y hd,if_pos hd,Yw]
  rw[Z (n:=e / 1440+1) F,Z (n:=e / 1440+1+k) F,Z (n:=(e / 1440+1+k)*1440) F,Z F]
 ·rw[Yt hd,if_neg hd,Yx]
  rw[Z (n:=e / 1440+k) F,Z (n:=(e / 1440+k)*1440) F,Z F,Int.add_zero]
theorem Zbi{e ax:Int}(h0:0<=e)(h1:e<=100000):e<=MO e ax/\MO e ax<=200000:=by
 unfold MO;omega
section
variable {n:ab} (hf:cD n) (hn:aX n=D X) (hr:∀l∈n.aC,1<=l.jb)
include hf hn hr
end
section
variable {n:ab} (hf:cD n) (hn:aX n=D X)
include hf hn
theorem Zcs(bq aQ:Int):pQ bq aQ n=jJ bq aQ n [] [] 0:=by
 have hb:sS n bq aQ=iD bq aQ n [] [] 0:=by
  funext s
  unfold sS iD;rw[(sW hf bq s).1]
  cases hd:S (s<=60)with
  |false=>rfl
  |true=>
  cases hx:cN n bq s with
  |none=>rfl
  |some b=>
  cases b with
  |false=>rfl
  |true=>
  obtain⟨y,hy⟩:=yQ hf hx;have hlo:=(zA hf hn y (tR hy)).jb;have hw:aJ (y.jb-0)=y.jb:=by rw[Z F];omega
  have ht:fT [] (⟨bq,s⟩:au)=D false:=by rfl
  have hL:kg [] (⟨bq,s⟩:au)=D 0:=by rfl
  grind
 unfold pQ jJ vX;rw[hb]
 cases(aB (iD bq aQ n [] [] 0) NN 0).bind (bj (λo0=>D ((⟨0,0⟩:au),Zf)) λr=>D r)with
 |none=>rfl
 |some r=>rfl
theorem JY(ar:K)(aQ aC:Int):kW n n ar aQ aC=ff n n [] [] 0 ar aQ aC:=by
 have yb:∀aC y1 y2 s1,lj n n aC y1 y2 s1=dN n n [] [] 0 aC y1 y2 s1:=λaC y1 y2 s1=>by
  unfold lj dN;simp only[Zcs hf hn]
 have qV:∀aC y1 y2,lh n n aC y1 y2=dM n n [] [] 0 aC y1 y2:=λaC y1 y2=>by
  unfold lh dM
  grind
 have Qa:∀y1 y2,py n n aQ aC y1 y2=fF n n [] [] 0 aQ aC y1 y2:=λy1 y2=>rfl
 unfold kW ff
 grind
theorem As{aQ:Int}(Py:0<=T (J n) ar)(uu:aQ<=100000)(zL:0<=T (J n) aZ)(he:az (bT n [] [] 0 (T (J n) ar) aQ (G (J n))) (T (J n) aZ)=D e):gx n ar aZ aQ=D e:=by
 have hlg:=pZ hn;have hp:G (J n)<=40:=by have:=dR n;omega
 have uP:=(jf (J n) aZ).2;have zY:=ou hf (l:=[]) YE (ak:=[]) YE 0 (T (J n) ar) aQ (G (J n));have hav:=Fz hf (l:=[]) YE (ak:=[]) YE 0 Py uu F (G (J n)) F;have hpa:bQ (J n) aZ=D (T (J n) aZ):=by exact kP hf aZ
 have hi:dy n=D true:=by rw[(iu hf).1];omega
 unfold gx oe tK;rw[(cV hf).1,(cV hf).2,hi];simp only[O,VX,Yx,JY hf hn,hav,hpa,Yt (show ¬T (J n) aZ<0 by omega),Yt (show ¬((G (bT n [] [] 0 (T (J n) ar) aQ (G (J n))):Int)=0)by omega),he]
theorem JG(ht:fA n t=X)(hy:az n.aC t.bq=D y):bY n t=t.day*1440+y.start/\cH n t=t.day*1440+y.start+y.o8:=by
 obtain⟨d0,d1⟩:=za ht;have hl:=zA hf hn y (tR hy);obtain⟨a0,a1⟩:=hl.start;obtain⟨b0,b1⟩:=hl.o8;have e1:bp n t=D (t.day*1440+y.start):=by
  unfold bp;rw[hy];simp;rw[Z (n:=t.day*1440) F,Z F]
 have e2:bo n t=D (t.day*1440+y.start+y.o8):=by
  unfold bo;rw[e1,hy];simp;rw[Z F]
 exact⟨by unfold bY;grind,by unfold cH;grind⟩
theorem Zfj{bq d0 z:Int}(ht:fA n ⟨bq,d0⟩=X)(hz:z<=bY n ⟨bq,d0⟩):∃d,dc n [] [] bq z 0=D d/\0<=d/\d<=d0/\fA n ⟨bq,d⟩=true:=by
 obtain⟨d1,d2⟩:=za ht;simp only at d1 d2
 obtain⟨y,hy,hym⟩:=cZ hf ht;have hlo:=(zA hf hn y hym).jb;have hc:dZ []=λ_=>D false:=by
  rfl
 have hw:aJ (y.jb-0)=y.jb:=by rw[Z F];omega
 have Ni:∀s:Int,0<=s->s<=60->df n [] [] bq z 0 s=D (if fA n ⟨bq,s⟩=X/\z<=bY n ⟨bq,s⟩then .inr (.inr s)else .inl (s+1)):=λs s0 s1=>by
  have hws:aJ (s+1)=s+1:=Z F;have hr:=sY hf ⟨bq,s⟩;unfold df;rw[Y s1,hr,hws]
  cases hb:fA n ⟨bq,s⟩with
  |false=>simp
  |true=>
  obtain⟨t1,_⟩:=bX hf hn hb;simp only[NS]
  grind
 have key:∀(k:E) (s:Int),0<=s->s+(k:Int)=d0->∀N,k<N->∃d,aB (df n [] [] bq z 0) N s=D (.inr d)/\s<=d/\d<=d0/\fA n ⟨bq,d⟩=true:=by
  intro k
  induction k with
  |zero=>
   intro s s0 hs N hN;obtain rfl:s=d0:=F;refine⟨s,?_,WT _,WT _,ht⟩;unfold aB
   grind
  |succ k ih=>
   intro s s0 hs N hN;obtain⟨N,rfl⟩:∃M,N=M+1:=⟨N-1,F⟩;unfold aB;rw[Ni s s0 F]
   by_cases h:fA n ⟨bq,s⟩=X/\z<=bY n ⟨bq,s⟩
   ·grind
   ·obtain⟨d,e1,e2,e3,e4⟩:=ih (s+1) F F N F
    grind
 obtain⟨d,e1,e2,e3,e4⟩:=key d0.toNat 0 F F NN YF;unfold dc
 grind
theorem Zgm{f aQ:Int}{u:Int}(ht:fA n t=X)(hl:uz (bT n [] [] 0 f aQ k) (T (J n) (ic n t)) u)(hu:(if T (J n) (ic n t)=f then u else u+n.change)<=bY n t):
 uz (bT n [] [] 0 f aQ (k+1)) (T (J n) (bB n t)) (cH n t):=by
 obtain⟨y,hy,hym⟩:=cZ hf ht;have f1:ic n t=y.ar:=by unfold ic;grind
 have f2:bB n t=y.aZ:=by unfold bB;grind
 obtain⟨n0,n1⟩:=iH hn;obtain⟨_,_,_,t4,t5⟩:=bX hf hn ht;rw[f1]at hl hu
 rw[f2];obtain⟨v,v1,v2,v3⟩:=hl;obtain⟨i0,hi⟩:=ky hy;have hz:dI n v (S (T (J n) y.ar=f))=D (if T (J n) y.ar=f then v else v+n.change):=by
  unfold dI
  by_cases h:T (J n) y.ar=f
  ·grind
  ·rw[Yt h,if_neg h,Yx,Z F]
 have CD:(if T (J n) y.ar=f then v else v+n.change)<=bY n ⟨t.bq,t.day⟩:=by
  show _<=bY n t;omega
 obtain⟨d,e1,e2,e3,e4⟩:=Zfj hf hn (bq:=t.bq) (d0:=t.day) ht CD;obtain⟨_,q2,_⟩:=bX hf hn e4;have ZjZ:xY n [] [] 0 f (bT n [] [] 0 f aQ k) (T (J n) y.aZ) (cH n ⟨t.bq,d⟩):=by
  refine⟨t.bq.toNat,y,d,v,_,hi,rfl,v1,F,hz,?_,F,?_⟩
  all_goals grind
 obtain⟨x,x1,x2,x3⟩:=(zl hf hn (l:=[]) YE (ak:=[]) YE 0 f aQ k).2 _ _ ZjZ;refine⟨x,x1,x2,?_⟩;have g1:=(JG hf hn ht hy).2;have g2:=(JG hf hn e4 hy).2
 grind
theorem FR{f aQ:Int}:∀(aE:C au) (p:K) (z u:Int) (k:E),gm n p z aE->uz (bT n [] [] 0 f aQ k) (T (J n) p) u->(if T (J n) p=f then u else u+n.change)<=z->
 ∀t,aE.getLast?=D t->uz (bT n [] [] 0 f aQ (k+G aE)) (T (J n) (bB n t)) (cH n t)
 | [],p,z,u,k,_,_,_,t,ht=>by grind
 |x::aE,p,z,u,k,hc,hl,hu,t,ht=>by
  obtain⟨c1,c2,c3,c4⟩:=hc;obtain⟨n0,n1⟩:=iH hn;subst c2;have h1:=Zgm hf hn (t:=x) c1 hl F
  cases aE with
  |nil=>
   grind
  |cons y aE=>
   have:=FR (y::aE) (bB n x) (cH n x+n.change) (cH n x) (k+1) c4 h1 F t ht
   grind
theorem HE{aQ:Int}{aE:C au}(Py:0<=T (J n) ar)(hnd:(ar::aE.map (bB n)).Nodup)(hc:gm n ar aQ aE):G aE<=G (J n):=by
 have uP:∀p∈ar::aE.map (bB n),0<=T (J n) p:=λp hp=>by
  rcases VY.1 hp with rfl|hp
  ·omega
  ·obtain⟨t,ht,rfl⟩:=WH.1 hp
   obtain⟨y,hy,hym⟩:=cZ hf (nU hc t ht);have f2:bB n t=y.aZ:=by unfold bB;grind
   rw[f2];exact iX (mz hym).2
 have h2:((ar::aE.map (bB n)).map λp=>(T (J n) p).toNat).Nodup:=by
  unfold XT at hnd⊢
  rw[List.pairwise_map];refine hnd.imp_of_mem λ{a b} ha hb gL e=>gL ?_
  have h1:=uP a ha;have h2:=uP b hb;have g1:=qn h1;have g2:=qn h2
  grind
 have:=Dj (G (J n)) _ h2 λx hx=>by
  obtain⟨p,hp,rfl⟩:=WH.1 hx;have:=uP p hp;have:=(jf (J n) p).2;omega
 grind
theorem FF{l:C aq}(hl:G l<=1048576)(hc:G ak<=1048576){aQ ah:Int}{aE:C au}(h:bI n l ak ar aZ aQ ah=D (aE,X)):
 ∃e,uz (bT n [] [] 0 (T (J n) ar) aQ (G (J n))) (T (J n) aZ) e/\e<=100000:=by
 have hR:=sB hf hl hc h;obtain⟨q1,q2,q3,q4⟩:=hR.hC;have hlg:=pZ hn;have hp:G (J n)<=40:=by have:=dR n;omega
 have bD:=(jf (J n) ar).2;have Qa:az (bT n [] [] 0 (T (J n) ar) aQ 0) (T (J n) ar)=D (if 0 > aQ then 0 else aQ):=by
  unfold bT;rw[EU hf F _ ⟨q2,bD⟩];exact tH q2 YD
 have h0:uz (bT n [] [] 0 (T (J n) ar) aQ 0) (T (J n) ar) (if 0 > aQ then 0 else aQ):=⟨_,Qa,F,WT _⟩
 have ve:=hR.last
 cases hw:aE.getLast? with
 |none=>
  obtain rfl:ar=aZ:=by grind
  have:=wB hf hn (l:=[]) YE (ak:=[]) YE 0 aQ (T (J n) ar) Qa F (G (J n))
  grind
 |some t=>
  have Av:=hR.chain;have Ey:=nU Av t (WX hw);obtain⟨_,_,_,_,t5⟩:=bX hf hn Ey;have zL:bB n t=aZ:=by
   grind
  have h1:=FR hf hn aE ar _ _ 0 Av h0 F t hw;have hwl:=HE hf hn q2 hR.nodup Av;rw[Wa,zL]at h1
  obtain⟨v,v1,v2,v3⟩:=h1;obtain⟨v',w1,w2,w3⟩:=wB hf hn (l:=[]) YE (ak:=[]) YE 0 aQ (T (J n) ar) v1 v2 (G (J n)-G aE);rw[show (G aE)+(G (J n)-G aE)=G (J n) by omega]at w1
  exact⟨v',⟨v',w1,w2,WT _⟩,F⟩
theorem Oy{l:C aq}(hl:G l<=1048576)(hc:G ak<=1048576){aQ ah ax:Int}(hs:1<=ax/\ax<=3){aE:C au}(h:bI n l ak ar aZ aQ ah=D (aE,X)):
 ∃d,gN n ax ar aZ aQ=D d/\0<=d/\d<=200000:=by
 have hR:=sB hf hl hc h;obtain⟨q1,q2,q3,q4⟩:=hR.hC;have vH:=FF hf hn hl hc h;obtain⟨e,⟨v,v1,v2,v3⟩,he⟩:=vH;have:=Zbi (ax:=ax) v2 (show v<=100000 by omega)
 exact⟨_,GX (As hf hn q2 q3 hR.zL v1) v2 F hs,F,this.2⟩
end
section
variable {n:ab} (hf:cD n) (hn:aX n=D X)
include hf hn
theorem Zit{bq z:Int}(hy:az n.aC bq=D y):ly n bq z=dc n [] [] bq z 0:=by
 have hlo:=(zA hf hn y (tR hy)).jb;have hw:aJ (y.jb-0)=y.jb:=by rw[Z F];omega
 have hb:lH n bq z=df n [] [] bq z 0:=by
  funext s
  unfold lH df
  cases S (s<=60)with
  |false=>rfl
  |true=>
  cases cN n bq s with
  |none=>rfl
  |some b=>
  cases b with
  |false=>rfl
  |true=>
  cases bp n ⟨bq,s⟩with
  |none=>rfl
  |some v=>
  simp only[O]
  cases S (z<=v)with
  |false=>rfl
  |true=>
  have hc:dZ [] (⟨bq,s⟩:au)=D false:=by rfl
  simp only[Yw,hc,O,Bool.not_false,hy,NS,hw,Y hlo.1]
 unfold ly dc;rw[hb]
theorem Zf0(gK:C Int)(f:Int):mr n (J n) gK f=eB n [] [] 0 (J n) gK f:=by
 have hb:nN n (J n) gK f=eX n [] [] 0 (J n) gK f:=by
  funext s
  unfold nN eX
  cases S (s.1<(G n.aC:Int))with
  |false=>simp
  |true=>
  cases hy:az n.aC s.1 with
  |none=>simp
  |some y=>simp only[Zit hf hn hy]
 unfold mr eB;rw[hb]
theorem PR{aQ:Int}(Py:0<=T (J n) ar)(uu:aQ<=100000)(hk:k<=G (J n)):ia n ar aQ (k:Int)=D (bT n [] [] 0 (T (J n) ar) aQ k):=by
 have hp:=Dz hf;obtain⟨r0,e0,_⟩:=wK hf (T (J n) ar) aQ;have h0:bT n [] [] 0 (T (J n) ar) aQ 0=r0:=by unfold bT;grind
 unfold ia;rw[(cV hf).2];simp only[O,kP hf];have e:aB (fJ n (k:Int) (J n) (T (J n) ar)) NN (0,bT n [] [] 0 (T (J n) ar) aQ 0)=D (bT n [] [] 0 (T (J n) ar) aQ k):=by
  refine il (body:=fJ n (k:Int) (J n) (T (J n) ar)) (λi:E=>((i:Int),bT n [] [] 0 (T (J n) ar) aQ i)) (n:=k) (o:=bT n [] [] 0 (T (J n) ar) aQ k) (λi hi=>?_) ?_ NN YF
  ·unfold fJ
   rw[Y (show(i:Int)<(k:Int)by omega),Y (show(i:Int)<(G (J n):Int)by omega),Zf0 hf hn,(tp hf (l:=[]) YE (ak:=[]) YE 0 _ aQ i).1,Z F]
   rfl
  ·unfold fJ
   simp
 grind
theorem P5{aQ:Int}(Py:0<=T (J n) ar)(uu:aQ<=100000)(zL:0<=T (J n) aZ)(he:az (bT n [] [] 0 (T (J n) ar) aQ (G (J n))) (T (J n) aZ)=D e):jq n ar aZ aQ=D e:=by
 have bD:=(jf (J n) aZ).2;have zY:=ou hf (l:=[]) YE (ak:=[]) YE 0 (T (J n) ar) aQ (G (J n));unfold jq;rw[(cV hf).2];simp only[O,kP hf,PR hf hn Py uu (VW _),Yt (show ¬T (J n) aZ<0 by omega),Yt (show ¬((G (bT n [] [] 0 (T (J n) ar) aQ (G (J n))):Int)=0)by omega),Yx,he]
omit hf hn in
theorem K8{ax e aQ:Int}(he:jq n ar aZ aQ=D e)(h0:0<=e)(h1:e<=100000)(hs:1<=ax/\ax<=3):iS n ax ar aZ aQ=D (MO e ax):=by
 unfold iS;rw[he];simp only[O,cO];have d1:e.tdiv 1440=e / 1440:=Yn h0;have d2:e.tmod 1440=e % 1440:=Yo h0;have BM:IntKind.i64.wrap (e / 1440)=e / 1440:=Z F;have hk:∃k:Int,0<=k/\k<=4/\aJ (aJ (ax-1)*aJ (ax-1))=k/\k=(if ax=1 then 0 else if ax=2 then 1 else 4):=by
  rcases(show ax=1\/ax=2\/ax=3 by omega)with rfl|rfl|rfl
  ·exact⟨0,F,F,by rfl,by simp⟩
  ·exact⟨1,F,F,by rfl,by simp⟩
  ·exact⟨4,F,F,by rfl,by simp⟩
 obtain⟨k,k0,k1,k2,k3⟩:=hk;rw[d1,d2,BM,Y hs.1,Y hs.2,Yt (show ¬e<0 by omega),k2]
 simp;unfold MO;rw[<-k3]
 by_cases hd:1080<e % 1440
 ·rw[Y hd,if_pos hd,Yw]
  rw[Z (n:=e / 1440+1) F,Z (n:=e / 1440+1+k) F,Z (n:=(e / 1440+1+k)*1440) F,Z F]
 ·rw[Yt hd,if_neg hd,Yx]
  rw[Z (n:=e / 1440+k) F,Z (n:=(e / 1440+k)*1440) F,Z F,Int.add_zero]
theorem Cf{l:C aq}(hl:G l<=1048576)(hc:G ak<=1048576){aQ ah ax:Int}(hs:1<=ax/\ax<=3){aE:C au}(h:bI n l ak ar aZ aQ ah=D (aE,X)):
 ∃d,gN n ax ar aZ aQ=D d/\iS n ax ar aZ aQ=D d/\0<=d/\d<=200000:=by
 obtain⟨d,d1,d2,d3⟩:=Oy hf hn hl hc hs h;have hR:=sB hf hl hc h;obtain⟨q1,q2,q3,q4⟩:=hR.hC;have bD:=(jf (J n) aZ).2;have zY:=ou hf (l:=[]) YE (ak:=[]) YE 0 (T (J n) ar) aQ (G (J n));obtain⟨e,he,_⟩:=fB (xs:=bT n [] [] 0 (T (J n) ar) aQ (G (J n))) (i:=T (J n) aZ) ⟨hR.zL,F⟩;have e1:=As hf hn q2 q3 hR.zL he;have e2:=P5 hf hn q2 q3 hR.zL he;have iZ:0<=e/\e<=100000:=by
  obtain⟨v,hv,h0⟩:∃v,uz (bT n [] [] 0 (T (J n) ar) aQ (G (J n))) (T (J n) aZ) v/\v<=100000:=FF hf hn hl hc h;obtain⟨v',v1,v2,v3⟩:=hv
  grind
 refine⟨MO e ax,GX e1 iZ.1 iZ.2 hs,K8 e2 iZ.1 iZ.2 hs,?_⟩;have:=Zbi (ax:=ax) iZ.1 iZ.2;omega
end
theorem DN{w:aw}(h:oc w)(ar aZ:K)(ax ah:Int):
 ∃r,gq w ar aZ ax ah=D r/\dQ w ar aZ ax ah=D r/\(r=(w,0,Zf)/\RO w ar aZ ax ah\/∃aE ys fc,Zat w ar aZ ax ah r aE ys fc):=by
 have hf:=h.fit;obtain⟨p1,p2,p3,p4,p5,p6,p7⟩:=h.parts;obtain⟨r,e,hr⟩:=Zav h ar aZ ax ah λaE hw hs=>by
  obtain⟨d,d1,_,d2,d3⟩:=Cf hf.dp h.dp hf.av hf.ak hs hw
  grind
 refine⟨r,e,?_,hr⟩;have Ac:aJ (w.now+1)=w.now+1:=Z F;have C8:aJ ((G w.ae:Int)+1)=(G w.ae:Int)+1:=Z F;unfold dQ;rw[uE hf,nZ hf,h.ok,Ac,C8];simp only[cO]
 -- RL follows where all is ZoU but the aE
 obtain⟨⟨aE,b⟩,e1,e2⟩:=tG hf.dp hf.av hf.ak ar aZ (w.now+1) ah;have hbt:=FH hf.dp (show (G w.av)<=1048000 by omega) ((G w.ae:Int)+1) ah aE
 obtain⟨y6,e6,_⟩:=hbt;rw[e2];simp only[O];rw[e6]
 rcases hr with⟨rfl,hR⟩ |⟨Znm,ys,fc,hT⟩
 ·by_cases c1:30<=G w.ae
  ·grind
  rw[Yt (show ¬(30:Int)<=(G w.ae:Int)by omega)]
  by_cases c2:ar=aZ
  ·grind
  rw[Yt c2]
  by_cases c3:1<=ax/\ax<=3
  case neg=>
   grind
  rw[Y c3.2]
  by_cases c4:1<=ah/\ah<=30000
  case neg=>
   grind
  rw[Y c4.2];simp
  rcases hR with hx|hx|hx|hx|⟨x,hx⟩ |⟨wy,l,hx,hy⟩
  all_goals grind
 ·have hrm:=hT.jb
  rw[e2]at hrm
  have hb:b=true:=congrArg Prod.snd (VV hrm);have ZmE:aE=Znm:=congrArg Prod.fst (VV hrm);subst ZmE;subst hb;have yw:=hT.book;rw[e6]at yw
  obtain rfl:=VV yw;have hok:=hT.ok;obtain⟨k1,k2,_⟩:=hok.parts;have k2':G (w.ae++[mO w ar aZ ax ah fc aE])<=30:=k2;rw[V5]at k2'
  simp at k2'
  have hv:=o9 hok.ok (i:=G w.ae) (o:=mO w ar aZ ax ah fc aE) (by
   show(w.ae++[mO w ar aZ ax ah fc aE])[G w.ae]?=_;simp)
  unfold kv at hv
  simp at hv
  have c3:1<=ax/\ax<=3:=hv.1.1.1.1.1.1.1.1.2;have c4:1<=ah/\ah<=30000:=hv.1.1.1.1.1.1.1.2;obtain⟨d,d1,d2,_⟩:=Cf hf.dp h.dp hf.av hf.ak c3 hT.jb;have hpr:=hT.prom;rw[d1]at hpr
  obtain rfl:=VV hpr;have hR:=sB hf.dp hf.av hf.ak hT.jb;have hlen:=hR.len;have ha:cf (bn (G w.ae+G ([mO w ar aZ ax ah d aE]:C ay)) 128)=D ():=fv YD F;have hsi:=Li (w:=⟨w.aa,w.ae++[mO w ar aZ ax ah d aE],ys,w.ak,w.now,w.aL,w.skip,w.br⟩) ⟨by grind,p4,by grind⟩ ⟨(G w.ae:Int)+1,w.now,1,ar,⟨0,0⟩⟩
  rw[Yt (show ¬(30:Int)<=(G w.ae:Int)by omega),Yt hT.ne,Y c3.1,Y c3.2,Y c4.1,Y c4.2]
  simp only[d2,O];unfold mO at ha hsi
  rw[ha];simp;rw[hsi,hT.res];rfl
theorem Zch{σ σ' ο ο':Type}{b:σ->Zo (σ⊕ο)}{b':σ'->Zo (σ'⊕ο')}(I:E->σ->σ'->Prop){P:ο->ο'->Prop}
 (h:∀k s s',I k s s'->(∃t t' k',b s=D (.inl t)/\b' s'=D (.inl t')/\k'<k/\I k' t t')\/∃o o',b s=D (.inr o)/\b' s'=D (.inr o')/\P o o'):
 ∀(N k:E) (s:σ) (s':σ'),I k s s'->k<N->∃o o',aB b N s=D o/\aB b' N s'=D o'/\P o o'
 |0,k,s,s',_,hN=>F
 |N+1,k,s,s',hI,hN=>by
  simp only[aB]
  rcases h k s s' hI with⟨t,t',k',e,e',hk,hI'⟩ |⟨o,o',e,e',hP⟩
  ·rw[e,e']
   exact Zch I h N k' t t' hI' F
  grind
structure Shut(w:aw)(t:au)(x:aw):Prop where
 aN:fA w.aa t=X
 later:w.now<bY w.aa t
 new:¬t∈w.ak
 few:w.ak.length<20
 ok:oc x
 same:sJ ⟨w.aa,w.ae,w.av,w.ak++[t],w.now,w.aL,w.skip,w.br⟩ x
 ord:∀(i:E) (o:ay),w.ae[i]?=D o->∃o',x.ae[i]?=D o'/\(¬t∈nR o->o'=o)/\rU w.aa o o'
theorem Js{w:aw}(h:oc w)(t:au):∃r,l6 w t=D r/\dB w t=D r/\(r=(w,Zf)\/∃x,r=(x,X)/\Shut w t x):=by
 have hf:=h.fit;obtain⟨p1,p2,p3,p4,p5,p6,p7⟩:=h.parts;obtain⟨hP,hRs⟩:=jN h;unfold l6 dB;rw[Bu hf,uE hf,O,O,qz hf,nZ hf,h.ok,O,O,(tx hf.dp t).1,yB hf.dp h.dp,O,O]
 cases AZ:fA w.aa t with
 |false=>simp
 |true=>
 obtain⟨t1,t2,t3,t4,t5⟩:=bX hf.dp h.dp AZ;have tV:ca w.aa t=D (bY w.aa t):=by rw[lI];omega
 rw[tV,t1,O,O];simp only[VX]
 by_cases c1:bY w.aa t<=w.now
 ·grind
 rw[Yt c1,jH,jx hf.ak];have hcb:(w.ak.any λy=>S (y=t))=dx w.ak t:=rfl
 rw[hcb]
 cases vD:dx w.ak t with
 |true=>simp
 |false=>
 simp only[Yx]
 by_cases c2:(20:Int)<=(G w.ak:Int)
 ·grind
 have ha:cf (bn (G w.ak+G ([t]:C au)) 16)=D ():=fv YD F;rw[Yt c2,ha]
 let w1:aw:=⟨w.aa,w.ae,w.av,w.ak++[t],w.now,w.aL,w.skip,w.br⟩
 have hf1:sE w1:=⟨hf.dp,hf.ae,hf.av,by grind,hf.aL,hf.skip,hf.aE⟩
 have xW:¬t∈w.ak:=λhm=>by grind
 have key:∃r r',aB (gr t w) NN (0,sG w1)=D r/\aB (fD t) NN (0,sG w1)=D r'/\r'=r/\∃u,r=sG u/\sJ w1 u/\ye u (λj=>if j<G w.ae then u.ak else w.ak)/\∀(i:E) (o:ay),w.ae[i]?=D o->∃o',u.ae[i]?=D o'/\(¬t∈nR o->o'=o)/\rU w.aa o o':=by
  refine Zch (fun(k:E) (s s':Int×Int×Int×Int×(C bP)×(C Int)×(C ay)×(C aq)×(C au)×(C aI)×(C Int))=>s'=s/\∃(i:E) (u:aw),s=((i:Int),sG u)/\i+k=G w.ae/\sJ w1 u/\ye u (λj=>if j<i then u.ak else w.ak)/\
   (∀(j:E) (o:ay),w.ae[j]?=D o->∃o',u.ae[j]?=D o'/\(¬t∈nR o->o'=o)/\rU w.aa o o')/\∀j,i<=j->u.ae[j]?=w.ae[j]?) (λk s s' hs=>?_) NN (G w.ae) _ _ ⟨rfl,0,w1,rfl,F,sJ.refl _,⟨hf1,hP.n7,hP.now,hP.N4,λi o ho=>hP.ord i o ho,hP.sum,λi=>by grind⟩,λj o ho=>⟨o,ho,λ_=>rfl,Or.inl rfl⟩,λj _=>rfl⟩ YF
  obtain⟨rfl,i,u,rfl,hk,hS,hU,hold,BJ⟩:=hs;have hul:G u.ae=G w.ae:=hS.len
  by_cases bD:i<G w.ae
  ·have hd1:S ((i:Int)<(G w.ae:Int))=true:=Y F
   have hd2:S ((i:Int)<(G u.ae:Int))=true:=Y F;have BL:aJ ((i:Int)+1)=((i+1:E):Int):=by rw[Z F];omega
   have LP:=VS bD;have Qk:u.ae[i]?=D w.ae[i]:=by grind
   have hg:az u.ae (i:Int)=D w.ae[i]:=by rw[aS];omega
   have hO:=fW hU Qk;have hlen:=wY hU Qk;obtain⟨k0,k1,k2,k3⟩:=nY hU Qk;have ZbB:ga w.ae[i]=D (aY w.ae[i]):=(sL hO.ok.aH F).1;have IL:jc w.ae[i]=D (aY w.ae[i]):=by
    rw[(sL hO.ok.aH F).2.2,if_neg F]
   have Ax:cf (iq (aY w.ae[i]) (w.ae[i].aE.length:Int) w.ae[i].aE.length)=D ():=oB Y1;have yy:da w.ae[i].aE (aY w.ae[i]) (w.ae[i].aE.length:Int)=nR w.ae[i]:=by
    unfold da nR;rw[List.take_of_length_le YE]
   have hrl:G (nR w.ae[i])<=1048576:=by unfold nR;grind
   have hcr:((nR w.ae[i]).any λy=>S (y=t))=dx (nR w.ae[i]) t:=rfl
   cases hc:dx (nR w.ae[i]) t
   rotate_left
   ·have hm:=jG.1 hc
    obtain⟨r1,r2⟩:=Rk hU Qk (λe=>by grind)
    obtain⟨u',e2,e,hR,hU'⟩:=Fw hU Qk r1 r2;obtain⟨s1,⟨o',o1,o2⟩,s3⟩:=OJ hU.fit.dp hR Qk;rw[hS.aa]at o2
    have e':fZ ⟨⟨u.aa.aC,u.aa.off,u.aa.change⟩,u.ae,u.av,u.ak,u.now,u.aL,u.skip,u.br⟩ ((i+1:E):Int)=D u':=e;have BB:ey ⟨⟨u.aa.aC,u.aa.off,u.aa.change⟩,u.ae,u.av,u.ak,u.now,u.aL,u.skip,u.br⟩ (i:Int)=D u':=e2;refine .inl ⟨(((i+1:E):Int),sG u'),_,k-1,?_,?_,F,rfl,i+1,u',rfl,F,hS.trans s1,?_,λj o ho=>?_,λj hj=>?_⟩
    ·unfold gr
     simp only[sG,hd1,Yw,hg,O,IL,Ax,yy,jx hrl,BL,hcr,hc,bw,e']
    ·unfold fD
     show V (S ((i:Int)<(G u.ae:Int))) _ _=_;rw[hd2];simp only[sG,Yw,hg,O,ZbB,Ax,yy,jH,jx hrl,BL,hcr,hc,bw,BB]
    ·have ef:(λj=>if j=i then u.ak else if j<i then u.ak else w.ak)=λj=>if j<i+1 then u'.ak else w.ak:=by
      funext j
      rw[s1.ak]
      grind
     grind
    all_goals grind
   ·refine .inl ⟨(((i+1:E):Int),sG u),_,k-1,?_,?_,F,rfl,i+1,u,rfl,F,hS,⟨hU.fit,hU.n7,hU.now,hU.N4,λj o ho=>?_,hU.sum,λj=>?_⟩,hold,λj hj=>BJ j F⟩
    ·unfold gr
     simp only[sG,hd1,Yw,Yx,hg,O,IL,Ax,yy,jx hrl,BL,hcr,hc]
    ·unfold fD
     show V (S ((i:Int)<(G u.ae:Int))) _ _=_;rw[hd2];simp only[sG,Yw,Yx,hg,O,ZbB,Ax,yy,jH,jx hrl,BL,hcr,hc]
    ·by_cases hj:j=i
     ·subst hj
      rw[Qk]at ho
      obtain rfl:=VV ho;have hv:=hU.ord j _ Qk;rw[if_neg (Nat.lt_irrefl j)]at hv
      rw[if_pos (Nat.lt_succ_self j)];unfold AL kv at hv⊢
      simp only[V7,Ww]at hv⊢
      refine⟨hv.1,?_⟩;have h12:=hv.2;rw[hS.ak];refine XC.2 λy hy hyc=>?_
      have:=XC.1 h12 y hy;have ZmG:=jG.1 hyc
      rcases We.1 ZmG with hx|hx
      ·exact this (jG.2 hx)
      ·obtain rfl:=List.mem_singleton.1 hx
       have:dx (nR w.ae[j]) y=true:=jG.2 hy
       grind
     ·have hv:=hU.ord j o ho
      grind
    ·show(if j<i+1 then u.ak else w.ak).length<=1048576
     split
     ·exact hU.fit.ak
     omega
  ·have hd1:S ((i:Int)<(G w.ae:Int))=false:=Yt F
   have hd2:S ((i:Int)<(G u.ae:Int))=false:=Yt F;refine .inr ⟨sG u,_,?_,?_,rfl,u,rfl,hS,?_,hold⟩
   ·unfold gr
    grind
   ·unfold fD
    show V (S ((i:Int)<(G u.ae:Int))) _ _=_
    grind
   refine⟨hU.fit,hU.n7,hU.now,hU.N4,λj o ho=>?_,hU.sum,λj=>?_⟩
   ·have hj:=(VT.1 ho).1
    have hv:=hU.ord j o ho
    grind
   ·show(if j<G w.ae then u.ak else w.ak).length<=1048576
    split
    ·exact hU.fit.ak
    omega
 obtain⟨r,_,e,e2,rfl,u,rfl,hS,hU,hold⟩:=key;have e':aB (gr t w) NN (0,w.aa.change,w.now,w.br,w.aa.aC,w.aa.off,w.ae,w.av,w.ak++[t],w.aL,w.skip)=D (sG u):=e;have BB:aB (fD t) NN (0,w.aa.change,w.now,w.br,w.aa.aC,w.aa.off,w.ae,w.av,w.ak++[t],w.aL,w.skip)=D (sG u):=e2;rw[e',BB];refine⟨(u,X),rfl,rfl,.inr ⟨u,rfl,AZ,F,xW,F,?_,hS,hold⟩⟩;refine Ps ⟨hU.fit,hU.n7,hU.now,hU.N4,λj o ho=>?_,hU.sum,λ_=>hU.fit.ak⟩ ⟨?_,by rw[hS.aL];omega,by rw[hS.skip];omega,by rw[hS.aL,hS.br];omega,?_,?_⟩
 ·have hj:=(VT.1 ho).1
  have hv:=hU.ord j o ho;rw[if_pos (by rw[<-hS.len];omega)]at hv
  omega
 ·rw[hS.ak];grind
 ·refine cX.2 λj x hx=>?_
  unfold uB;rw[hS.ak,hS.aa]at *
  have xi:(w.ak++[t])[j]?=D x:=hx;rw[Wa];show(fA w.aa x&&!dx ((w.ak++[t]).take j) x)=X
  by_cases hj:j<G w.ak
  ·rw[List.getElem?_append_left hj]at xi
   have:=cX.1 hRs.cl j x xi;unfold uB at this
   grind
  grind
 ·refine cX.2 λj x hx=>?_
  rw[hS.aL]at hx
  have:=cX.1 hRs.sc j x hx;unfold Ah at this⊢
  rw[hS.aa,hS.now];omega
def rm(p:ay->Bool):E->C ay->C Int
 |_,[]=>[]
 |i,o::os=>(if p o=X then [((i+1:E):Int)]else [])++rm p (i+1) os
theorem tA(p:ay->Bool):∀(os:C ay) (i:E),G (rm p i os)=os.countP p
 | [],_=>rfl
 |o::os,i=>by
  unfold rm;rw[V5,tA p os,X5]
  grind
theorem zB{p:ay->Bool}{x:Int}:∀{os:C ay} {i:E},x∈rm p i os↔∃(j:E) (o:ay),os[j]?=D o/\p o=X/\x=((i+j+1:E):Int)
 | [],i=>by simp[rm]
 |o::os,i=>by
  unfold rm;rw[We,zB (os:=os) (i:=i+1)];constructor
  ·rintro(h|⟨j,o',h1,h2,h3⟩)
   ·grind
   ·exact⟨j+1,o',by grind,h2,F⟩
  grind
theorem GQ(p:ay->Bool):∀(os:C ay) (o:ay) (i:E),rm p i (os++[o])=rm p i os++(if p o=X then [((i+G os+1:E):Int)]else [])
 | [],o,i=>by simp[rm]
 |x::os,o,i=>by
  simp only[List.cons_append,rm,GQ p os o (i+1),List.append_assoc,V0]
  grind
theorem Bt{w:aw}(hl:G w.ae<=1048576){body:Int×C Int->Zo ((Int×C Int)⊕C Int)}{p:ay->Bool}
 (h1:∀(i:E) (out:C Int) (o:ay),w.ae[i]?=D o->G out<=i->body ((i:Int),out)=D (.inl (((i+1:E):Int),out++(if p o=X then [((i+1:E):Int)]else []))))
 (h2:∀out,body ((G w.ae:Int),out)=D (.inr out)):aB body NN (0,([]:C Int))=D (rm p 0 w.ae):=by
 refine il (body:=body) (λi:E=>((i:Int),rm p 0 (w.ae.take i))) (n:=G w.ae) (λi hi=>?_) YD NN YF
 have ho:=VS hi;have uP:G (rm p 0 (w.ae.take i))<=i:=by
  rw[tA];exact Wd Xj YD
 rw[h1 i _ _ ho uP,Wt hi,GQ,Wy,Nat.min_eq_left F,Wa]
theorem EM{n:E}(h:n<=1048576):cf (bn (n+1) 8)=D ():=oB Y9
def fP(n:ab)(o:ay):Bool:=!decide (o.state=3)&&S (aY o=G o.aE)&&!decide (gT n o=o.aZ)
def Po(p:K)(o:ay):Bool:=S (o.state=1)&&S (o.place=p)
def G9(t:au)(o:ay):Bool:=S (o.state=2)&&S (o.aE[o.aH.toNat]?=D t)
section
variable {w:aw} (h:oc w)
include h
theorem Zae(p:K):lC w p=D (rm (Po p) 0 w.ae):=by
 have Ib:=h.fit.ae;unfold lC;rw[qz h.fit,h.ok,O];simp only[VX,Yx];rw[Bt Ib (p:=Po p) (λi out o ho hlen=>?_) (λout=>by unfold oi;simp)]
 ·rfl
 ·have bD:=(VT.1 ho).1
  have hg:az w.ae (i:Int)=D o:=by rw[aS];omega
  have hi:aJ ((i:Int)+1)=((i+1:E):Int):=bz bD F;unfold oi Po;simp only[Y (show(i:Int)<G w.ae by omega),Yw,hg,O,hi,V0,V2,EM (show (G out)<=1048576 by omega)]
  grind
theorem Zc7(t:au):mQ w t=D (rm (G9 t) 0 w.ae):=by
 have Ib:=h.fit.ae;unfold mQ;rw[qz h.fit,h.ok,O];simp only[VX,Yx];rw[Bt Ib (p:=G9 t) (λi out o ho hlen=>?_) (λout=>by unfold pr;simp)]
 ·rfl
 ·have bD:=(VT.1 ho).1
  have hg:az w.ae (i:Int)=D o:=by rw[aS];omega
  have hi:aJ ((i:Int)+1)=((i+1:E):Int):=bz bD F;have hok:=iV h.fit h.ok ho;unfold pr G9;simp only[Y (show(i:Int)<G w.ae by omega),Yw,hg,O,hi,V0,V2,EM (show (G out)<=1048576 by omega)]
  by_cases h2:o.state=2
  ·have vd:o.aH<G o.aE:=by
    rcases hok.cases with⟨c,_⟩ |⟨_,c⟩ |⟨c,_⟩<;>omega
   obtain⟨t2,htg,_⟩:=DK h.fit h.ok ho hok.aH.1 vd;rw[(ky htg).2]
   grind
  simp_all
theorem Hv{i:E}{o:ay}(ho:w.ae[i]?=D o):eU w o=D (fP w.aa o):=by
 have hok:=iV h.fit h.ok ho;have hl:=h.fit.aE o (VU ho);obtain⟨_,_,c3⟩:=sL hok.aH hl;have Cz:=hok.aH;unfold eU fP
 rcases hok.cases with⟨k1,k2⟩ |⟨k1,k2⟩ |⟨k1,k2,k3⟩
 ·have C4:aY o=o.aH:=by unfold aY;omega
  have hp:jK w o=D (gT w.aa o):=by
   unfold jK gT
   grind
  grind
 ·have C4:aY o=o.aH+1:=by unfold aY;omega
  obtain⟨t,htg,AZ⟩:=DK h.fit h.ok ho hok.aH.1 k2;obtain⟨y,hy,_⟩:=cZ h.fit.dp AZ;have hp:jK w o=D (gT w.aa o):=by
   unfold jK gT;rw[Y k1,if_pos k1,htg,(ky htg).2];simp only[Yw,O,hy,WC,W9];unfold bB
   grind
  grind
 grind
theorem Lq:nr w=D (rm (fP w.aa) 0 w.ae):=by
 have Ib:=h.fit.ae;unfold nr;rw[qz h.fit,h.ok,O];simp only[VX,Yx];rw[Bt Ib (p:=fP w.aa) (λi out o ho hlen=>?_) (λout=>by unfold nv;simp)]
 ·rfl
 ·have bD:=(VT.1 ho).1
  have hg:az w.ae (i:Int)=D o:=by rw[aS];omega
  have hi:aJ ((i:Int)+1)=((i+1:E):Int):=bz bD F;unfold nv;simp only[Y (show(i:Int)<G w.ae by omega),Yw,hg,O,hi,Hv h ho,V0,V2,EM (show (G out)<=1048576 by omega)]
  grind
end
theorem Zef{w:aw}(hl:G w.ae<=1048576)(s:Int):nh w s=D ((w.ae.countP λo=>S (o.state=s):E):Int):=by
 unfold nh;have:=il (body:=kl w s) (λi:E=>((((w.ae.take i).countP λo=>S (o.state=s):E):Int),(i:Int))) (n:=G w.ae) (o:=((w.ae.countP λo=>S (o.state=s):E):Int)) (λi hi=>?_) (by unfold kl;simp) NN YF
 ·simp_all
 ·have ho:=VS hi
  have hg:az w.ae (i:Int)=D w.ae[i]:=by rw[aS];omega
  have hw:aJ ((i:Int)+1)=((i+1:E):Int):=bz hi F;have hc:((w.ae.take i).countP λo=>S (o.state=s))<=1048576:=Wd Xj YD
  unfold kl;simp only[Y (show(i:Int)<G w.ae by omega),Yw,hg,O,hw]
  rw[Wt hi,List.countP_append,List.countP_singleton]
  cases S (w.ae[i].state=s)with
  |true=>
   rw[Yw,Z F];rfl
  |false=>rfl
theorem sum_add{β:Type}(g e:β->E):∀P:C β,(P.map λp=>g p+e p).sum=(P.map g).sum+(P.map e).sum
 | []=>rfl
 |p::P=>by simp only[WM,Xo,sum_add g e P];omega
theorem Th{β:Type}[DecidableEq β](c:Bool)(x:β):∀P:C β,P.Nodup->(P.map λp=>if(c&&S (x=p))=X then 1 else 0).sum=if c=X/\x∈P then 1 else 0
 | [],_=>by simp
 |p::P,hn=>by
  obtain⟨n1,n2⟩:=Xs.1 hn;rw[WM,Xo,Th c x P n2]
  grind
theorem yp{α β:Type}[DecidableEq β](q:α->Bool)(f:α->β):∀(os:C α) (P:C β),P.Nodup->(∀o∈os,q o=X->f o∈P)->(P.map λp=>os.countP λo=>q o&&S (f o=p)).sum=os.countP q
 | [],P,_,_=>by
  have:∀P:C β,(P.map λ_=>0).sum=0:=λP=>by induction P with
   |nil=>rfl
   |cons a P ih=>grind
  simp_all
 |o::os,P,hn,hm=>by
  have ih:=yp q f os P hn λx hx=>hm x YD
  have e:(λp=>(o::os).countP λo=>q o&&S (f o=p))=λp=>(os.countP λo=>q o&&S (f o=p))+(if(q o&&S (f o=p))=X then 1 else 0):=funext λp=>X5
  rw[e,sum_add,ih,Th (q o) (f o) P hn,X5]
  grind
theorem Cd(n:ab):(J n).Nodup:=by
 unfold J XT;have hs:((jO n).foldl vh []).Pairwise λa b=>tf a b=true:=xv List.Pairwise.nil
 exact hs.imp λ{a b} (bD:tf a b=X) (e:a=b)=>Lf b YD
theorem SS{l:C au}(hl:G l<=1048576)(t:au):re l t=D (dx l t):=by
 unfold re;rw[uS (xs:=l) (p:=λy=>S (y=t)) (r:=.inr X) (e:=.inl ()) (λi hi=>?_) (by simp[r9]) YF]
 ·unfold dx
  grind
 ·have hg:az l (i:Int)=D l[i]:=by rw[aS];simp
  have hw:aJ ((i:Int)+1)=((i+1:E):Int):=bz hi F;unfold r9
  grind
theorem Oi{w:aw}(h:oc w):oK w=D true:=by
 obtain⟨p1,p2,p3,p4,p5,p6,p7⟩:=h.parts;have uP:=dR w.aa;have hlg:=pZ h.dp;obtain⟨hP,_⟩:=jN h;unfold oK;rw[Zef h.fit.ae,O,(cV h.fit.dp).2,O]
 let c3:=w.ae.countP λo=>S (o.state=3)
 let W:=λp:K=>w.ae.countP (Po p)
 let R:=λt:au=>w.ae.countP (G9 t)
 have bnd:∀q:ay->Bool,w.ae.countP q<=30:=λq=>Wd Xj p2
 have Zla:∀(l:C K),(l.map W).sum<=30*G l:=λl=>by
  induction l with
  |nil=>simp
  |cons a l ih=>grind
 have Znj:∀(l:C au),(l.map R).sum<=30*G l:=λl=>by
  induction l with
  |nil=>simp
  |cons a l ih=>grind
 have e1:aB (hZ w (J w.aa)) NN ((c3:Int),0)=D (((c3+((J w.aa).map W).sum:E)):Int):=by
  refine il (body:=hZ w (J w.aa)) (λi:E=>(((c3+(((J w.aa).take i).map W).sum:E):Int),(i:Int))) (n:=G (J w.aa)) (λi hi=>?_) (by unfold hZ;simp) NN YF
  have hg:az (J w.aa) (i:Int)=D (J w.aa)[i]:=by rw[aS];simp
  have hw:aJ ((i:Int)+1)=((i+1:E):Int):=bz hi F;have hs:=Zla ((J w.aa).take i);rw[Wy]at hs
  have hc:=bnd λo=>S (o.state=3)
  have hb:=bnd (Po (J w.aa)[i]);unfold hZ;simp only[Y (show(i:Int)<G (J w.aa) by omega),Yw,hg,O,hw,Zae h,tA]
  rw[Z F,Wt hi,Xv,Ya]
  grind
 have e1':aB (hZ w (J w.aa)) NN (((w.ae.countP λo=>S (o.state=3):E):Int),0)=_:=e1
 rw[e1',O];have e2:aO (aB (oj w) NN ((((c3+((J w.aa).map W).sum:E)):Int),0,([]:C au))) λr=>∃seen:C au,seen.Nodup/\(∀b∈w.av,b.aN∈seen)/\r=((c3+((J w.aa).map W).sum+(seen.map R).sum:E):Int):=by
  refine aO.loop (fun(k:E) (s:Int×Int×C au)=>∃i:E,s.2.1=(i:Int)/\i+k=G w.av/\(G s.2.2)<=i/\s.2.2.Nodup/\(∀j,j<i->∀b,w.av[j]?=D b->b.aN∈s.2.2)/\s.1=((c3+((J w.aa).map W).sum+(s.2.2.map R).sum:E):Int)) (λk s hs=>?_) NN (G w.av) _ ⟨0,rfl,F,by simp,List.nodup_nil,λj hj=>F,by simp⟩ YF
  obtain⟨i,hi,hk,Ax,hnd,xg,hn⟩:=hs;unfold oj;rw[hi];refine aO.cond (λhd=>?_) λhd=>aO.ret ⟨s.2.2,hnd,λb hb=>?_,hn⟩
  ·have bD:i<G w.av:=by simp_all
   have hw:aJ ((i:Int)+1)=((i+1:E):Int):=bz bD F;have hb:=VS bD;have hg:az w.av (i:Int)=D w.av[i]:=by rw[aS];omega
   rw[hg,O,SS F,O,hw];refine aO.cond (λhc=>?_) λhc=>aO.ret ⟨k-1,F,i+1,rfl,F,by grind,hnd,λj hj b hjb=>?_,hn⟩
   ·have hc':¬w.av[i].aN∈s.2.2:=λhm=>by rw[jG.2 hm]at hc;grind
    refine aO.cf (iW YD F) ?_;rw[Zc7 h,O];have C6:=Zla (J w.aa);have D8:=Znj s.2.2;have hc3:=bnd λo=>S (o.state=3)
    have hbr:=bnd (G9 w.av[i].aN);refine aO.ret ⟨k-1,F,i+1,rfl,F,by simp_all,?_,λj hj b hjb=>?_,?_⟩
    ·grind
    ·grind
    ·simp only
     rw[hn,tA,Z F,Xv,Ya]
     grind
   ·by_cases H8:j=i
    ·subst H8
     rw[hb]at hjb
     obtain rfl:=VV hjb;exact jG.1 YG
    grind
  ·have:=Yv hd
   obtain⟨j,hj,rfl⟩:=V3 hb;exact xg j F _ (VS hj)
 obtain⟨r,e2,seen,hnd,xg,rfl⟩:=e2;rw[e2,O];have s1:((J w.aa).map W).sum=w.ae.countP λo=>S (o.state=1):=by
  refine yp (λo:ay=>S (o.state=1)) (λo=>o.place) w.ae (J w.aa) (Cd _) λo ho hs=>?_
  obtain⟨i,hi,rfl⟩:=V3 ho;have LP:=VS hi;have tV:=Yu hs;have hO:=fW hP LP;have uP:=CU hP LP F;have hp2:gT w.aa w.ae[i]=w.ae[i].place:=by unfold gT;simp_all
  rw[<-hp2,<-uP];have hv:=o9 h.ok LP;unfold kv at hv
  simp only[V7,Ww,Yy,Yz]at hv
  exact ZbV (GR h.fit.dp h.dp F λt ht=>hO.ok.aN t (List.mem_of_mem_take ht))
 have s2:(seen.map R).sum=w.ae.countP λo=>S (o.state=2):=by
  have hR:∀t,R t=w.ae.countP λo=>S (o.state=2)&&S ((o.aE[o.aH.toNat]?).getD ⟨0,0⟩=t):=λt=>by
   show w.ae.countP (G9 t)=_;refine List.countP_congr λo ho=>?_
   obtain⟨i,hi,rfl⟩:=V3 ho;have LP:=VS hi;unfold G9
   by_cases h2:w.ae[i].state=2
   ·rcases(fW hP LP).st.cases with⟨c,_⟩ |⟨_,_,_,t',c1,_⟩ |⟨c,_⟩
    all_goals simp_all
   simp_all
  have hm:seen.map R=seen.map λt=>w.ae.countP λo=>S (o.state=2)&&S ((o.aE[o.aH.toNat]?).getD ⟨0,0⟩=t):=List.map_congr_left λt _=>hR t
  rw[hm];refine yp (λo:ay=>S (o.state=2)) (λo=>(o.aE[o.aH.toNat]?).getD ⟨0,0⟩) w.ae seen hnd λo ho hs=>?_
  obtain⟨i,hi,rfl⟩:=V3 ho;have LP:=VS hi;have tV:=Yu hs
  rcases(fW hP LP).st.cases with⟨c,_⟩ |⟨_,_,_,t',c1,_⟩ |⟨c,_⟩
  ·omega
  ·rw[c1]
   exact xg _ (vT hP LP (VU c1))
  omega
 have s3:∀(os:C ay),(∀o∈os,o.state=1\/o.state=2\/o.state=3)->(os.countP λo=>S (o.state=3))+(os.countP λo=>S (o.state=1))+(os.countP λo=>S (o.state=2))=G os:=by
  intro os
  induction os with
  |nil=>simp
  |cons o os ih=>
   grind
 have s4:=s3 w.ae λo ho=>by
  obtain⟨i,hi,rfl⟩:=V3 ho
  rcases(fW hP (VS hi)).st.cases with⟨c,_⟩ |⟨c,_⟩ |⟨c,_⟩
  all_goals omega
 rw[s1,s2];have:((c3+(w.ae.countP λo=>S (o.state=1))+(w.ae.countP λo=>S (o.state=2)):E):Int)=(G w.ae:Int):=by
  omega
 simp_all
theorem countP_set(p:α->Bool):∀{l:C α} {i:E} {o:α} (x:α),l[i]?=D o->(l.set i x).countP p+(if p o=X then 1 else 0)=l.countP p+(if p x=X then 1 else 0)
 | [],_,_,_,h=>by grind
 |a::l,0,o,x,h=>by
  grind
 |a::l,i+1,o,x,h=>by
  grind
theorem Oo(p:ay->Bool):∀(os:C ay) (i:E),(rm p i os).Pairwise (· < ·)
 | [],_=>List.Pairwise.nil
 |o::os,i=>by
  refine List.pairwise_append.2 ⟨by cases p o<;>simp,Oo p os (i+1),λa ha b hb=>?_⟩
  obtain⟨j,o',_,_,rfl⟩:=zB.1 hb
  grind
theorem Fp.same{w w':aw}(h:Fp w)(k:sJ w w'):Fp w':=by
 refine⟨by rw[k.ak];exact h.ak,by rw[k.aL];exact h.aL,by rw[k.skip];exact h.skip,by rw[k.aL,k.br];exact h.br,?_,?_⟩
 ·have:=h.cl
  unfold uB at this⊢
  rw[k.ak,k.aa];omega
 ·have:=h.sc
  unfold Ah at this⊢
  rw[k.aL,k.aa,k.now];omega
def Zao(n:ab)(ak:C au)(now:Int)(bs:C aq)(i:E)(o:ay):Prop:=(∃x,bI n bs ak (gT n o) o.aZ (atR n now o) o.ah=D (x,Zf))\/
 ∃aE,bI n bs ak (gT n o) o.aZ (atR n now o) o.ah=D (aE,X)/\cG n bs ((i+1:E):Int) o.ah aE=D (bs,Zf)
structure JU(w x:aw)(n:E):Prop where
 ok:oc x
 same:sJ w x
 num:n+x.ae.countP (fP w.aa)=w.ae.countP (fP w.aa)
 ord:∀(i:E) (o:ay),w.ae[i]?=D o->∃o',x.ae[i]?=D o'/\rU w.aa o o'/\(o'=o\/fP w.aa o=X/\fP w.aa o'=Zf)
 Zd:∀(i:E) (o:ay),w.ae[i]?=D o->x.ae[i]?=D o->fP w.aa o=X->∃bs,(∀b∈bs,b∈x.av)/\cb w.aa bs=X/\Zao w.aa w.ak w.now bs i o
theorem Lp{n:ab}{o:ay}(h:fP n o=X):¬o.state=3/\aY o=G o.aE/\¬gT n o=o.aZ/\nR o=[]/\bW o=o.aE:=by
 unfold fP at h
 simp at h
 refine⟨h.1.1,h.1.2,h.2,?_,?_⟩
 ·unfold nR
  simp_all
 ·unfold bW
  simp_all
theorem yV{w:aw}(h:oc w):gA w=D (rm (fP w.aa) 0 w.ae):=by
 have Ib:=h.fit.ae;unfold gA;rw[nZ h.fit,h.ok];rw[Bt Ib (p:=fP w.aa) (λi out o ho hlen=>?_) (λout=>by unfold kt;simp)]
 ·rfl
 ·have bD:=(VT.1 ho).1
  have hi:aJ ((i:Int)+1)=((i+1:E):Int):=bz bD F;obtain⟨b,b1,b2,_⟩:=Eo h.fit h.ok ho;rw[Hv h ho]at b1
  unfold kt;simp only[V0,V2,EM (show (G out)<=1048576 by omega)]
  grind
theorem G8{w:aw}(h:oc w):∃(x:aw) (n:E),jV w=D (x,(n:Int))/\dv w=D (x,(n:Int))/\JU w x n:=by
 have hf:=h.fit;obtain⟨p1,p2,p3,p4,p5,p6,p7⟩:=h.parts
 let ids:=rm (fP w.aa) 0 w.ae
 have Zn8:G ids<=30:=by
  rw[tA];grind
 have hpw:ids.Pairwise (· < ·):=Oo _ _ _
 unfold jV dv;rw[Bu hf,uE hf,O,O,Lq h,yV h,O,O];have key:∃r r',aB (fb ids) NN (0,0,sG w)=D r/\aB (dA ids) NN (0,sG w)=D r'/\∃(u:aw) (m:E),r=((m:Int),sG u)/\r'=sG u/\JU w u m:=by
  refine Zch (fun(k:E) (s:Int×Int×Int×Int×Int×(C bP)×(C Int)×(C ay)×(C aq)×(C au)×(C aI)×(C Int)) (s':Int×Int×Int×Int×(C bP)×(C Int)×(C ay)×(C aq)×(C au)×(C aI)×(C Int))=>
   ∃(a:E) (u:aw) (m:E),s=((m:Int),(a:Int),sG u)/\s'=((a:Int),sG u)/\a+k=G ids/\oc u/\sJ w u/\m<=a/\m+u.ae.countP (fP w.aa)=w.ae.countP (fP w.aa)/\
   (∀(i:E) (o:ay),w.ae[i]?=D o->∃o',u.ae[i]?=D o'/\rU w.aa o o'/\(o'=o\/fP w.aa o=X/\fP w.aa o'=Zf))/\
   (∀(i:E) (o:ay),w.ae[i]?=D o->(∀b,b<a->¬ids[b]?=D ((i+1:E):Int))->u.ae[i]?=D o)/\
   (∀(i:E) (o:ay),w.ae[i]?=D o->u.ae[i]?=D o->fP w.aa o=X->(∃b,b<a/\ids[b]?=D ((i+1:E):Int))->∃bs,(∀b∈bs,b∈u.av)/\cb w.aa bs=X/\Zao w.aa w.ak w.now bs i o)) (λk s s' hs=>?_) NN (G ids) _ _
   ⟨0,w,0,rfl,rfl,F,h,sJ.refl w,VW _,Wa _,λi o ho=>⟨o,ho,Or.inl rfl,.inl rfl⟩,λi o ho _=>ho,λi o _ _ _ hb=>F⟩ YF
  obtain⟨a,u,m,rfl,rfl,hk,hu,hS,hma,Zkm,hold,BJ,IM⟩:=hs
  by_cases bD:a<G ids
  ·have hd:S ((a:Int)<(G ids:Int))=true:=Y F
   have hwa:aJ ((a:Int)+1)=((a+1:E):Int):=by rw[Z F];omega
   have hwm:aJ ((m:Int)+1)=((m+1:E):Int):=by rw[Z F];omega
   have hia:ids[a]?=D ids[a]:=VS bD;have hga:az ids (a:Int)=D ids[a]:=by rw[aS];omega
   obtain⟨i,o,LP,tV,hx⟩:=zB.1 (List.getElem_mem bD);rw[Wa]at hx
   have xi:ids[a]=((i+1:E):Int):=hx;have Zn7:i<30:=by grind
   have Qk:u.ae[i]?=D o:=BJ i o LP λb hb e=>by
    have zY:b<G ids:=F;rw[VS zY]at e
    have:=List.pairwise_iff_getElem.1 hpw b a zY bD hb
    grind
   obtain⟨hU,hRs⟩:=jN hu;obtain⟨r1,r2,r3,r4,r5⟩:=Lp tV;have uf:u.aa=w.aa:=hS.aa;obtain⟨u',e2,e,hR,hU'⟩:=Fw hU Qk r1 YD;obtain⟨s1,⟨o',o1,o2⟩,s3⟩:=OJ hU.fit.dp hR Qk;rw[uf]at o2
   have wO:oc u':=by
    refine Ps ?_ (hRs.same s1);have ef:(λj=>if j=i then u.ak else u.ak)=λ_:E=>u'.ak:=by
     funext j;rw[s1.ak];simp
    grind
   have ZgR:iz u i o=u.av:=by unfold iz;rw[r4];exact Ud _ _
   have Nj:=Hv wO o1;have Zkk:u'.aa=w.aa:=s1.aa.trans uf;rw[Zkk]at Nj
   have BL:aJ (((i+1:E):Int)-1)=(i:Int):=by rw[Z F];omega
   have hgo:az u'.ae (i:Int)=D o':=by rw[aS];omega
   have e':fZ ⟨⟨u.aa.aC,u.aa.off,u.aa.change⟩,u.ae,u.av,u.ak,u.now,u.aL,u.skip,u.br⟩ ((i+1:E):Int)=D u':=e;have BB:ey ⟨⟨u.aa.aC,u.aa.off,u.aa.change⟩,u.ae,u.av,u.ak,u.now,u.aL,u.skip,u.br⟩ (i:Int)=D u':=e2;have D9:dA ids ((a:Int),sG u)=D (.inl (((a+1:E):Int),sG u')):=by
    unfold dA;simp only[sG,hd,Yw,hga,O,bw,xi,BL,BB,hwa]
   have him:∀v,fP w.aa o'=v->fb ids ((m:Int),(a:Int),sG u)=D (.inl ((((if v=X then m else m+1):E):Int),((a+1:E):Int),sG u')):=λv hv=>by
    unfold fb;simp only[sG,hd,Yw,hga,O,bw,xi,BL,e',hgo,hwa]
    grind
   rcases hR with⟨zZ,Nn⟩ |⟨aE,bs,hN,Nn⟩
   · -- nothing is found: all stays
    have huu:u'=u:=by
     have C7:u.ae.set i o=u.ae:=by
      refine List.ext_getElem? λj=>?_
      grind
     rw[Nn,ZgR,r5];show(⟨u.aa,u.ae.set i o,u.av,u.ak,u.now,u.aL,u.skip,u.br⟩:aw)=u;rw[C7]
    rw[huu]at o1 D9 him
    rw[Qk]at o1
    obtain rfl:=VV o1;refine .inl ⟨_,_,k-1,him _ tV,D9,F,a+1,u,m,by rfl,rfl,F,hu,hS,F,Zkm,hold,λj x hj hb=>BJ j x hj λb hba=>hb b F,λj x hj hux hsx hb=>?_⟩
    obtain⟨b,qV,yb⟩:=hb
    by_cases hba:b<a
    ·exact IM j x hj hux hsx ⟨b,hba,yb⟩
    ·have hbe:b=a:=F
     subst hbe;rw[hia,xi]at yb
     have H8:j=i:=by grind
     subst H8;rw[LP]at hj
     obtain rfl:=VV hj;refine⟨u.av,λb hb=>hb,by rw[<-uf];exact hU.n7,?_⟩
     have ZbO:=zZ;unfold Zan at ZbO
     rw[ZgR,uf,hS.ak,hS.now]at ZbO
     exact ZbO
   · -- a aE is found
    have Zoi:¬aE=[]:=λhw=>by
     have hl:=hN.Pp.last
     grind
    have zK:o'=gU o (bW o++aE):=by
     rw[Nn]at o1
     have:(u.ae.set i (gU o (bW o++aE)))[i]?=D o':=o1
     grind
    have ZbD:fP w.aa o'=false:=by
     have C4:aY o'=aY o:=by rw[zK];rfl
     have hwl:0<G aE:=by grind
     have hol:G o'.aE=G o.aE+G aE:=by
      rw[zK];show(bW o++aE).length=_
      simp_all
     unfold fP
     grind
    have yw:u'.av=bs:=by rw[Nn];rfl
    have xg:∀b∈u.av,b∈u'.av:=λb hb=>by
     rw[yw];exact hN.perm.mem_iff.2 (List.mem_append_left _ YG)
    have Zj1:=countP_set (fP w.aa) (gU o (bW o++aE)) Qk;rw[<-zK,tV,ZbD]at Zj1
    have hou:u'.ae=u.ae.set i o':=by rw[Nn,zK];rfl
    simp only[if_true,Bool.false_eq_true,if_false]at Zj1
    refine .inl ⟨_,_,k-1,him _ ZbD,D9,F,a+1,u',m+1,by simp,rfl,F,wO,hS.trans s1,F,by grind,λj x hj=>?_,λj x hj hb=>?_,λj x hj hux hsx hb=>?_⟩
    ·grind
    ·grind
    ·have H8:¬j=i:=λe=>by
      grind
     rw[s3 j H8]at hux
     obtain⟨b,qV,yb⟩:=hb;have hba:b<a:=by
      grind
     obtain⟨bs',q1,q2,q3⟩:=IM j x hj hux hsx ⟨b,hba,yb⟩
     grind
  ·have hd:S ((a:Int)<(G ids:Int))=false:=Yt F
   refine .inr ⟨((m:Int),sG u),sG u,?_,?_,u,m,rfl,rfl,hu,hS,Zkm,hold,λi o ho Qk tV=>IM i o ho Qk tV ?_⟩
   ·unfold fb
    grind
   ·unfold dA
    grind
   ·have hm:((0+i+1:E):Int)∈ids:=zB.2 ⟨i,o,ho,tV,rfl⟩
    rw[Wa]at hm
    obtain⟨b,hb,hbe⟩:=V3 hm;exact⟨b,F,by simp_all⟩
 obtain⟨r,r',e,e2,u,m,rfl,rfl,hR⟩:=key;have e':aB (fb (rm (fP w.aa) 0 w.ae)) NN (0,0,w.aa.change,w.now,w.br,w.aa.aC,w.aa.off,w.ae,w.av,w.ak,w.aL,w.skip)=D ((m:Int),sG u):=e;have BB:aB (dA (rm (fP w.aa) 0 w.ae)) NN (0,w.aa.change,w.now,w.br,w.aa.aC,w.aa.off,w.ae,w.av,w.ak,w.aL,w.skip)=D (sG u):=e2;rw[e',BB];refine⟨u,m,rfl,?_,hR⟩;have hsu:=yV hR.ok;have Zmz:gA ⟨⟨u.aa.aC,u.aa.off,u.aa.change⟩,u.ae,u.av,u.ak,u.now,u.aL,u.skip,u.br⟩=D (rm (fP u.aa) 0 u.ae):=hsu;simp only[sG,O,Zmz];have hn:=hR.num;have hnn:fP u.aa=fP w.aa:=by rw[hR.same.aa]
 rw[tA,tA,hnn];have hc:w.ae.countP (fP w.aa)<=30:=Wd Xj p2;rw[Z F,show((w.ae.countP (fP w.aa):E):Int)-((u.ae.countP (fP w.aa):E):Int)=(m:Int)by omega]
structure PF(p:aP):Prop where
 aZ:p.label.aZ.size<=uY
 ar:p.ar.size<=uY
 bJ:p.bJ.length<=1048576
structure OF(o:aD):Prop where
 world:sE o.world
 bb:uc o.bb
 bd:o.bd.length<=1048576
 zT:o.aU.length<=1048576
 lines:o.lines.length<=1048576
 aK:o.aK.length<=1048576
 aF:o.aF.length<=1048576
 pf:∀p∈o.aK,PF p
 af:∀a∈o.aF,PF a.aM
theorem PF.fit{p:aP}(h:PF p):p.label.aZ.size<=uY/\p.ar.size<=uY/\(G p.bJ)<NN:=⟨h.aZ,h.ar,by have:=h.bJ;unfold NN;omega⟩
theorem OF.fit{o:aD}(h:OF o):Zjg o:=⟨h.world,h.bb,h.bd,h.zT,h.lines,h.aK,h.aF,λp hp=>(h.pf p hp).fit,λa ha=>(h.af a ha).fit⟩
theorem J7{p:aP}(h:PF p):gF p=D p:=by
 unfold gF;rw[fv (by have:=h.bJ;grind) F];rfl
theorem ES{p:aP}(h:PF p):iT p=D p:=by
 unfold iT;rw[xC h.bJ];rfl
theorem J5(h:PF a.aM):fw a=D a:=by
 unfold fw;rw[J7 h];rfl
theorem BU{xs:C α}{body:Int×C α->Zo ((Int×C α)⊕C α)}(h1:∀(i:E) x,xs[i]?=D x->body ((i:Int),xs.take i)=D (.inl (((i+1:E):Int),xs.take i++[x])))
 (h2:body ((G xs:Int),xs)=D (.inr xs)) (hN:G xs<NN):aB body NN (0,[])=D xs:=by
 refine il (λi=>(((i:E):Int),xs.take i)) (n:=G xs) (λi hi=>?_) YD NN hN
 simp_all
theorem xq{x:α}{n c:E}(h:n<=1048576)(hc:c<=1024):cf (bn (n+G ([x]:C α)) c)=D ():=oB (by unfold bn;rw[Yy,show([x]:C α).length=1 from rfl];exact⟨F,Wd (Nat.mul_le_mul (show n+1<=1048577 by omega) hc) F⟩)
section
variable {o:aD} (h:OF o)
include h
theorem J6:dP o=D o:=by
 have e0:∀y1 y2,aB (iN o y1 y2) NN (0,[])=D o.aK:=λy1 y2=>by
  refine BU (λi x hx=>?_) (by unfold iN;simp) (by have:=h.aK;unfold NN;omega)
  have bD:=(VT.1 hx).1;have hp:=h.aK;unfold iN;simp only[Y (show(i:Int)<G o.aK by omega),aS,hx,O,J7 (h.pf x (VU hx)),bz bD F]
  rw[xq YD F];rfl
 have e1:∀y1 y2 o0,aB (iO o y1 y2 o0) NN (0,[])=D o.aF:=λy1 y2 o0=>by
  refine BU (λi x hx=>?_) (by unfold iO;simp) (by have:=h.aF;unfold NN;omega)
  have bD:=(VT.1 hx).1;have hp:=h.aF;unfold iO;simp only[Y (show(i:Int)<G o.aF by omega),aS,hx,O,J5 (h.af x (VU hx)),bz bD F]
  rw[xq YD F];rfl
 show(eG o.world).bind _=_;rw[Bu h.world,O,fv (by have:=h.bb.1;grind) F,O,fv (by have:=h.bd;grind) F,O,fv (by have:=h.zT;grind) F,O,BW h.lines,O,e0,O,e1]
 rfl
theorem ER:gS o=D o:=by
 have e0:∀y1 y2 y3,aB (kR o y1 y2 y3) NN (0,[])=D o.aK:=λy1 y2 y3=>by
  refine BU (λi x hx=>?_) (by unfold kR;simp) (by have:=h.aK;unfold NN;omega)
  have bD:=(VT.1 hx).1;have hp:=h.aK;unfold kR;simp only[Y (show(i:Int)<G o.aK by omega),aS,hx,O,ES (h.pf x (VU hx)),bz bD F]
  rw[xq YD F];rfl
 have e1:∀y1 y2 y3 o0,aB (kS o y1 y2 y3 o0) NN (0,[])=D o.aF:=λy1 y2 y3 o0=>by
  refine BU (λi x hx=>?_) (by unfold kS;simp) (by have:=h.aF;unfold NN;omega)
  have bD:=(VT.1 hx).1;have hp:=h.aF;unfold kS;simp only[Y (show(i:Int)<G o.aF by omega),aS,hx,O,ES (h.af x (VU hx)),bz bD F]
  rw[xq YD F];rfl
 show(fq o.world).bind _=_;rw[uE h.world,O,fv (by have:=h.bb.1;grind) F,O,fv (by have:=h.bd;grind) F,O,xC h.zT,O,BX h.lines,O,e0,O,e1]
 rfl
end
structure RQ(o:aD)(p:aP)(x:aD):Prop where
 nQ:∃v aE ys fc,js o.bb o.bd p=D (v,X)/\¬v=0/\Zat o.world p.ar p.label.aZ p.label.ax p.ah (x.world,(o.world.ae.length:Int)+1,X) aE ys fc/\vN o.lines ((o.world.ae.length:Int)+1) v o.world.now=(x.lines,0)/\dQ o.world p.ar p.label.aZ p.label.ax p.ah=D (x.world,(o.world.ae.length:Int)+1,X)
 bb:x.bb=o.bb
 bd:x.bd=o.bd
 zT:x.aU=o.aU
 aK:x.aK=o.aK++[p]
 aF:x.aF=o.aF
section
variable {o:aD} (h:OF o) (hv:eY o.world=X)
include h hv
theorem VQ{p:aP}(hp:PF p):∃r,pU o p=D r/\nE o p=D r/\(¬r.1=0/\r.2=o\/r.1=0/\RQ o p r.2):=by
 have hw:oc o.world:=⟨h.world,hv⟩;obtain⟨e,v,e'⟩:=Ce h.bb h.bd hp.fit.1 hp.fit.2.1 hp.fit.2.2;unfold pU nE;rw[e,e',O,O];obtain⟨v,ok⟩:=v
 cases ok with
 |false=>simp
 |true=>
 by_cases hz:v=0
 ·simp_all
 simp only[Yt hz];obtain⟨r,a1,a2,hr⟩:=DN hw p.ar p.label.aZ p.label.ax p.ah;show ∃r,(gq _ _ _ _ _).bind _=_/\(dQ _ _ _ _ _).bind _=_/\_;rw[a1,a2]
 rcases hr with⟨rfl,_⟩ |⟨aE,ys,fc,hT⟩
 ·simp
 have Nh:=hT.res;have yx:r.1.now=o.world.now:=by rw[Nh];rfl
 have hid:r.2.1=(G o.world.ae:Int)+1:=by grind
 have hok:r.2.2=true:=by grind
 simp only[hok,hid,yx,ZaS h.lines,ZaT h.lines,O,J7 hp,ES hp]
 by_cases hc:(vN o.lines ((G o.world.ae:Int)+1) v o.world.now).2=0
 ·rw[Y hc,VX,xq h.aK F]
  refine⟨_,rfl,rfl,.inr ⟨rfl,⟨v,aE,ys,fc,e',hz,?_,?_,?_⟩,rfl,rfl,rfl,rfl,rfl⟩⟩
  all_goals grind
 simp_all
def L4(o:aD)(a:bk)(x:aD):Prop:=∃l y,x=⟨o.world,o.bb,o.bd,o.aU,o.aK,l,o.aF⟩/\1<=a.order/\az o.world.ae (a.order-1)=D y/\
 (¬a.kind=6/\Ol o.lines a.order a.bE o.world.now=(l,0)\/a.kind=6/\y.state=3/\vZ o.lines a.order y.fc y.bK o.aU o.world.now=(l,0))
theorem QF(hl:G o.aK=G o.world.ae)(h1:1<=a.order):∃r,lD o a=D r/\j7 o a=D r/\(¬r.1=0/\r.2=o\/r.1=0/\L4 o a r.2):=by
 have ho:=h.world.ae;unfold lD j7;rw[cO,hl]
 by_cases h2:(G o.world.ae:Int)<a.order
 ·rw[Y h2,Yt (show ¬a.order<=(G o.world.ae:Int)by omega)]
  simp
 have hw:aJ (a.order-1)=a.order-1:=Z F;obtain⟨y,hy⟩:∃y,az o.world.ae (a.order-1)=D y:=by
  obtain⟨k,hk⟩:∃k:E,a.order-1=(k:Int):=⟨(a.order-1).toNat,F⟩;rw[hk];exact⟨_,VS (show k<G o.world.ae by omega)⟩
 rw[Yt h2,Y h1,Y (show a.order<=(G o.world.ae:Int)by omega)]
 simp only[hw,hy,O,ZkU h.lines,ZkV h.lines,ZcX h.lines h.zT,ZcY h.lines h.zT]
 by_cases hk:a.kind=6
 ·simp only[Y hk]
  by_cases hs:y.state=3
  ·simp only[Y hs]
   by_cases hc:(vZ o.lines a.order y.fc y.bK o.aU o.world.now).2=0
   ·simp only[Y hc]
    exact⟨_,rfl,rfl,.inr ⟨rfl,_,y,rfl,h1,hy,.inr ⟨hk,hs,by grind⟩⟩⟩
   simp_all
  simp_all
 ·simp only[Yt hk]
  by_cases hc:(Ol o.lines a.order a.bE o.world.now).2=0
  ·simp only[Y hc]
   exact⟨_,rfl,rfl,.inr ⟨rfl,_,y,rfl,h1,hy,.inl ⟨hk,by grind⟩⟩⟩
  simp_all
def Fl(o:aD)(a:bk)(x:aD):Prop:=∃w,x=⟨w,o.bb,o.bd,o.aU,o.aK,o.lines,o.aF⟩/\
 (a.kind=3/\o.world.now<a.bG/\w=vG o.world a.bG\/a.kind=4/\dB o.world a.aN=D (w,X)/\Shut o.world a.aN w\/a.kind=5/\∃n:E,¬n=0/\dv o.world=D (w,(n:Int))/\JU o.world w n)
theorem UP(hk:a.kind=3/\a.bG<=100000\/a.kind=4\/a.kind=5):∃r,kL o a=D r/\(¬r.1=0/\r.2=o\/r.1=0/\Fl o a r.2)/\
 (V (S (a.kind=3)) (V (S (a.bG<=o.world.now)) (D (6,o)) ((rF 8 []).bind λ_=>(gG o.world a.bG).bind λy3=>D (0,(⟨y3,o.bb,o.bd,o.aU,o.aK,o.lines,o.aF⟩:aD))))
  (V (S (a.kind=4)) ((rF 8 []).bind λ_=>(dB o.world a.aN).bind λy4=>V (!y4.2) (D (6,o)) (D (0,(⟨y4.1,o.bb,o.bd,o.aU,o.aK,o.lines,o.aF⟩:aD))))
  ((dv o.world).bind λy5=>V (S (y5.2=0)) (D (6,o)) (D (0,(⟨y5.1,o.bb,o.bd,o.aU,o.aK,o.lines,o.aF⟩:aD))))):Zo (Int×aD))=D r:=by
 have hw:oc o.world:=⟨h.world,hv⟩;unfold kL
 rcases hk with⟨hk,hu⟩ |hk|hk
 ·simp only[hk]
  by_cases hc:a.bG<=o.world.now
  ·simp_all
  ·have hif:eY o.world=X/\o.world.now<=a.bG/\a.bG<=100000:=⟨hv,F,hu⟩
   simp only[Yt hc,It h.world,if_pos hif];refine⟨_,rfl,.inr ⟨rfl,_,rfl,.inl ⟨hk,F,rfl⟩⟩,?_⟩;rw[CG h.world,if_pos hif];rfl
 ·simp only[hk]
  obtain⟨r,e1,e2,hr⟩:=Js hw a.aN;rw[e1]
  rcases hr with rfl|⟨x,rfl,hS⟩
  ·refine⟨_,rfl,.inl ⟨by simp,rfl⟩,?_⟩
   show(dB o.world a.aN).bind _=_
   grind
  ·refine⟨_,rfl,.inr ⟨rfl,_,rfl,.inr (.inl ⟨hk,e2,hS⟩)⟩,?_⟩
   show(dB o.world a.aN).bind _=_
   grind
 ·simp only[hk]
  obtain⟨x,n,e1,e2,hR⟩:=G8 hw;have BB:=e2;rw[e1,BB];simp only[O]
  by_cases hn:n=0
  ·simp_all
  ·simp only[Yt (show ¬((n:Int)=0)by omega)]
   exact⟨_,rfl,.inr ⟨rfl,_,rfl,.inr (.inr ⟨hk,n,hn,e2,hR⟩)⟩,rfl⟩
end
section
variable {n:ab} (hf:cD n) (hn:aX n=D X)
include hf hn
theorem Pq{p:K}:∀(L:C au) (q:K) (a:Int),gm n q a L->p∈q::L.map (bB n)->(q::L.map (bB n)).Nodup->
 ∃L2,(∃a2,a<=a2/\gm n p a2 L2)/\(p::L2.map (bB n)).Nodup/\yt n p L2=yt n q L/\(L2=[]\/L2.getLast?=L.getLast?)
 |L,q,a,hc,hm,hnd=>by
  by_cases hq:q=p
  ·grind
  ·cases L with
   |nil=>
    simp_all
   |cons y L=>
    obtain⟨t1,t2,t3,t4,t5⟩:=bX hf hn hc.1;obtain⟨c0,c1⟩:=iH hn;have hc3:=hc.2.2.1;have Gh:p∈bB n y::L.map (bB n):=by
     grind
    obtain⟨L2,⟨a2,h1,h2⟩,h3,h4,h5⟩:=Pq L (bB n y) (cH n y+n.change) hc.2.2.2 Gh (Xs.1 hnd).2;refine⟨L2,⟨a2,F,h2⟩,h3,h4,?_⟩
    rcases h5 with h5|h5
    ·simp_all
    ·cases L with
     |nil=>simp_all
     |cons z L=>simp_all
 termination_by L=>G L
theorem S7:∀(ts:C au) (p:K) (z:Int),gm n p z ts->∃L,gm n p z L/\(p::L.map (bB n)).Nodup/\yt n p L=yt n p ts/\(L=[]\/∃t',L.getLast?=D t'/\∀t,ts.getLast?=D t->cH n t'<=cH n t)
 | [],p,z,_=>⟨[],trivial,by simp,rfl,.inl rfl⟩
 |x::ts,p,z,hc=>by
  obtain⟨c1,c2,c3,c4⟩:=hc;obtain⟨t1,t2,t3,t4,t5⟩:=bX hf hn c1;obtain⟨k0,k1⟩:=iH hn;obtain⟨L,h1,h2,h3,h4⟩:=S7 ts (bB n x) (cH n x+n.change) c4;have ve:∀t',L.getLast?=D t'->(∀t,ts.getLast?=D t->cH n t'<=cH n t)->ts=[]->L=[]:=λt' HQ _ hts=>by
   subst hts
   cases L with
   |nil=>rfl
   |cons w L=>
    exfalso
    rcases h4 with h4|h4
    ·grind
    ·have e:yt n (bB n x) (w::L)=bB n x:=h3
     have e2:=qT (n:=n) (p:=bB n x) HQ
     grind
  have up:∀t',(∀t,ts.getLast?=D t->cH n t'<=cH n t)->¬ts=[]->∀t,(x::ts).getLast?=D t->cH n t'<=cH n t:=λt' h gL t ht=>by
   grind
  by_cases hp:p∈bB n x::L.map (bB n)
  ·obtain⟨L2,⟨a2,q1,q2⟩,q3,q4,q5⟩:=Pq hf hn L (bB n x) (cH n x+n.change) h1 hp h2
   refine⟨L2,Bq q2 F,q3,q4.trans h3,?_⟩
   rcases q5 with q5|q5
   ·simp_all
   ·rcases h4 with h4|⟨t',g1,g2⟩
    ·simp_all
    grind
  ·refine⟨x::L,⟨c1,c2,c3,h1⟩,Xs.2 ⟨hp,h2⟩,h3,.inr ?_⟩
   have own:∀t,(x::ts).getLast?=D t->cH n x<=cH n t:=λt ht=>by
    rcases VY.1 (WX ht)with rfl|hm
    ·omega
    ·have:=xo hf hn c4 t hm
     obtain⟨_,_,_,u4,_⟩:=bX hf hn (nU c4 t hm);omega
   rcases h4 with h4|⟨t',g1,g2⟩
   ·simp_all
   grind
theorem ZfQ{u z:Int}(hp:0<=T (J n) p)(hu:0<=u/\u<=100000)(hc:gm n p z ts)(huz:u<=z)(hq:yt n p ts=q)(gL:¬p=q):
 ∃e,gx n p q u=D e/\0<=e/\∀t,ts.getLast?=D t->e<=cH n t:=by
 obtain⟨L,h1,h2,h3,h4⟩:=S7 hf hn ts p z hc;have bD:=(jf (J n) p).2;have hlg:=pZ hn;have uP:G (J n)<=40:=by have:=dR n;omega
 rcases h4 with rfl|⟨t',g1,g2⟩
 ·exact absurd (h3.trans hq) gL
 have Qa:az (bT n [] [] 0 (T (J n) p) u 0) (T (J n) p)=D (if 0 > u then 0 else u):=by
  unfold bT;rw[EU hf F _ ⟨hp,bD⟩];exact tH hp YG
 have h0:uz (bT n [] [] 0 (T (J n) p) u 0) (T (J n) p) u:=⟨_,Qa,F,F⟩;have hl:=FR hf hn L p z u 0 h1 h0 F t' g1;have hwl:=HE hf hn hp h2 h1;have zL:bB n t'=q:=by rw[<-hq,<-h3];exact(qT g1).symm
 have Ey:=nU h1 t' (WX g1);obtain⟨y,hy,hym⟩:=cZ hf Ey;have f2:bB n t'=y.aZ:=by unfold bB;simp_all
 have hqi:0<=T (J n) q:=by rw[<-zL,f2];exact iX (mz hym).2
 rw[Wa,zL]at hl
 obtain⟨v,v1,v2,v3⟩:=hl;obtain⟨v',w1,w2,w3⟩:=wB hf hn (l:=[]) YE (ak:=[]) YE 0 u (T (J n) p) v1 v2 (G (J n)-G L);rw[show (G L)+(G (J n)-G L)=G (J n) by omega]at w1
 exact⟨v',As hf hn hp hu.2 hqi w1,w2,λt ht=>by grind⟩
theorem TL{u z s:Int}(hp:0<=T (J n) p)(hu:0<=u/\u<=100000)(hc:gm n p z ts)(huz:u<=z)(hq:yt n p ts=q)(hs:u<=s)(hl:∀t,ts.getLast?=D t->cH n t<=s):
 fp n ⟨p,u⟩ ⟨q,s⟩=D X/\gP n p u q s=D true:=by
 unfold fp gP
 by_cases gL:p=q
 ·simp_all
 ·obtain⟨e,e1,e2,e3⟩:=ZfQ hf hn hp hu hc huz hq gL
  have zq:e<=s:=by
   cases ht:ts.getLast? with
   |none=>
    have:ts=[]:=List.getLast?_eq_none_iff.1 ht;subst this;exact absurd hq gL
   |some t=>grind
  grind
end
def jS(a:aD)(b:aD)(s0:Int):Zo (Int⊕(Unit⊕Bool)):=
 V (S (s0<(G a.aK:Int)))
 (Zn (az a.aK s0) λy6=>
 Zn (az b.aK s0) λy7=>
 Zn (j3 y6 y7) λy8=>
 V (!y8)
 (D (.inr (.inr Zf)))
 (D (.inl (aJ (s0+1)))))
 (D (.inr (.inl ())))
instance (a:aD)(b:aD):bm (jS a b):=⟨λs0=>(.un::.un::.be 0 0 0::.be 1 0 0::(U 61 (vi (G a.aK:Int)::vi s0::(U 34 [])))),λs0=>[D ⟨.of 40,16,[eD a]⟩,D ⟨.of 40,16,[eD b]⟩]⟩
def jT(a:aD)(b:aD)(s1:Int):Zo (Int⊕(Unit⊕Bool)):=
 V (S (s1<(G a.aF:Int)))
 (Zn (az a.aF s1) λy9=>
 Zn (az b.aF s1) λdO=>
 Zn (mR y9 dO) λlJ=>
 V (!lJ)
 (D (.inr (.inr Zf)))
 (D (.inl (aJ (s1+1)))))
 (D (.inr (.inl ())))
instance (a:aD)(b:aD):bm (jT a b):=⟨λs1=>(.un::.un::.be 0 0 0::.be 1 0 0::(U 80 (vi (G a.aF:Int)::vi s1::(U 15 [])))),λs1=>[D ⟨.of 40,16,[eD a]⟩,D ⟨.of 40,16,[eD b]⟩]⟩
def lX(a:aD)(b:aD):Zo Bool:=
 Zn (np a.world b.world) λy1=>
 V (!y1)
 (D Zf)
 (Zn (jm a.bb b.bb) λy2=>
 V (!y2)
 (D Zf)
 (Zn (jj a.bd b.bd) λy3=>
 V (!y3)
 (D Zf)
 (Zn (fY a.aU b.aU) λy4=>
 V (!y4)
 (D Zf)
 (Zn (ji a.lines b.lines) λy5=>
 V (!y5)
 (D Zf)
 (V (!decide ((G a.aK:Int)=(G b.aK:Int)))
 (D Zf)
 (V (!decide ((G a.aF:Int)=(G b.aF:Int)))
 (D Zf)
 ((aB (jS a b) NN 0).bind (bj (λo0=>
 (aB (jT a b) NN 0).bind (bj (λo1=>
 D X) (λr=>D r))) (λr=>D r)))))))))
instance (a:aD)(b:aD):CT prog (lX a b):=⟨18,[.ag (eD a),.ag (eD b)],[],λr=>vb r,λr=>[],cw (lX.eq_1 ..) func18 ntmps18 results18⟩
