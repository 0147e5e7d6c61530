/- A part of the proof of this claim's last theorem. No condition. -/
import Derived.Test.YtbjbellffaenaaaGreatDoorCT10
import Derived.Test.YtbjbellffaenaaaGreatDoorCT5
import Derived.Test.YtbjbellffaenaaaGreatDoorCT9
import Derived.Test.YtbjbellffaenaaaGreatDoorCT7
import Derived.Test.YtbjbellffaenaaaGreatDoorCT8
import Derived.Sort.Walk0
set_option linter.all false
set_option maxRecDepth 10000
open Option renaming some->u,none->Zd
open Bool renaming true->S,false->J
open Decidable renaming decide->F
open List renaming length->E
open Option renaming bind->G
open _root_ renaming List->C,Nat->R,Option->D,Unit->M,absurd->Zp,cond->d,congrArg->Zo
open Go.Proofs.YtbjbellffaenaaaGreatDoor renaming NN->V,YA->Z,aB->T,aJ->O,az->K,tf->W,vi->L
open Go.Proofs.Tryz
set_option maxHeartbeats 40000000
namespace Go.Proofs.YtbjbellffaenaaaGreatDoor
open Option renaming bind_some->Y
open Bool renaming not_true->VX,not_false->WI,and_true->XS
open BitVec renaming ofInt->Wf
open _root_.Int renaming tmod->XH,toNat_natCast->WS,tdiv->Xf
open Nat renaming lt_or_ge->Wu,zero_le->Ws
open List renaming range->Wj,getElem?_eq_getElem->VS,all_eq_true->VZ,mem_cons_self->Wo,pairwise_cons->Wx,mem_cons->VY,foldl_cons->Wq,mem_map->WH,pairwise_map->XA,getElem?_eq_some_iff->VT,takeWhile_cons_of_pos->Ye,getElem_of_mem->V3
open Go.RowKit
variable {a b p:ByteArray}{body:Int->D (Int⊕Int)}{i:R}{l:C aq}{n:ab}{out:C ByteArray}{r:Bool}{t:au}{α:Type}
theorem lI:@ca=@bp:=rfl
theorem qm:@cE=@bo:=rfl
def Gw(l:bP):Prop:=l.ar.size<=uY/\l.aZ.size<=uY
theorem BP{l:bP}(h:Gw l):sP l=gz l/\∃b,gz l=u b:=by
 obtain⟨e1,b1,s1⟩:=pn (s:=l.ar) h.1;obtain⟨e2,b2,s2⟩:=pn (s:=l.aZ) h.2;constructor
 ·unfold sP gz;rw[e1,e2,gV]
 ·unfold gz
  rw[s1,s2];simp only[Y,cO]
  grind
structure cD(n:ab):Prop where
 aC:n.aC.length<=1048576
 off:n.off.length<=1048576
 bq:∀l∈n.aC,Gw l
theorem tR{xs:C α}{i:Int}{x:α}(h:K xs i=u x):x∈xs:=List.mem_of_getElem? (ky h).2
theorem Zco(h:cD n):og n=cq n:=by
 funext i
 unfold og cq
 cases hg:K n.aC i with
 |none=>rfl
 |some y=>simp only[Y,(BP (h.bq y (tR hg))).1]
theorem Zcp:oh n=cr n:=by
 funext i
 unfold oh cr;rw[gV]
 cases hg:K n.off i with
 |none=>rfl
 |some y=>rfl
theorem ZkJ(h:cD n):∃o,T (cq n) V 0=u o:=by
 refine BV (n:=E n.aC) (by have:=h.aC;unfold V;omega) (λi hi=>?_) ⟨_,by simp[cq];rfl⟩
 have hw:=bz hi (by have:=h.aC;omega)
 have hg:K n.aC (i:Int)=u n.aC[i]:=by rw[aS];simp
 obtain⟨b,hb⟩:=(BP (h.bq _ (List.getElem_mem hi))).2
 cases b with
 |true=>exact Tc (by simp only[cq,Yi (show(i:Int)<E n.aC by omega),Yw,hg,Y,hb,hw,VX,Yx])
 |false=>exact RD (by simp only[cq,Yi (show(i:Int)<E n.aC by omega),Yw,hg,Y,hb,WI,Yw];rfl)
theorem ZkK(h:cD n):∃o,T (cr n) V 0=u o:=by
 refine BV (n:=E n.off) (by have:=h.off;unfold V;omega) (λi hi=>?_) ⟨_,by simp[cr];rfl⟩
 have hw:=bz hi (by have:=h.off;omega)
 have hg:K n.off (i:Int)=u n.off[i]:=by rw[aS];simp
 have hd:=Yi (show(i:Int)<E n.off by omega)
 cases hb:F (0<=n.off[i])&&F (n.off[i]<=60)with
 |false=>exact RD (by simp only[cr,hd,Yw,hg,Y,cO,hb,WI];rfl)
 |true=>
  by_cases h0:0<(i:Int)
  ·have C8:O ((i:Int)-1)=((i-1:R):Int):=by rw[aV (by have:=h.off;omega)];omega
   have hg2:K n.off ((i-1:R):Int)=u n.off[i-1]:=by rw[aS];simp
   cases hc:F (n.off[i]<=n.off[i-1])with
   |true=>exact RD (by simp only[cr,hd,Yw,hg,Y,cO,hb,VX,Yx,Yi h0,C8,hg2,hc];rfl)
   |false=>exact Tc (by simp only[cr,hd,Yw,hg,Y,cO,hb,VX,Yx,Yi h0,C8,hg2,hc,hw])
  ·exact Tc (by simp only[cr,hd,Yw,hg,Y,cO,hb,VX,Yx,Yt h0,hw])
theorem iu(h:cD n):dy n=aX n/\∃b,aX n=u b:=by
 constructor
 ·unfold dy aX;rw[Zco h,Zcp,gV]
 ·obtain⟨o0,h0⟩:=ZkJ h
  obtain⟨o1,h1⟩:=ZkK h;unfold aX;rw[h0,h1];simp only[Y,cO]
  rcases o0 with o0|o0
  ·rcases o1 with o1|o1
   ·simp only[bj]
    cases F ((E n.aC:Int)<=20)<;>cases F ((E n.off:Int)<=10)<;>exact⟨_,rfl⟩
   simp
  simp
def rJ(n:ab)(bq:Int)(day:Int):D Bool:=
 G (dy n) λy1=>
 d y1
 (G (nB n bq day) λy2=>
 u y2)
 (u J)
instance (n:ab)(bq:Int)(day:Int):CT prog (rJ n bq day):=⟨110,[.ag (aT n),L bq,L day],[],λr=>vb r,λr=>[],cw (rJ.eq_1 ..) func110 ntmps110 results110⟩
def db(n:ab)(t:au):D Bool:=
 G (rJ n t.bq t.day) λy1=>
 u y1
instance (n:ab)(t:au):CT prog (db n t):=⟨48,[.ag (aT n),.ag (bg t)],[],λr=>vb r,λr=>[],cw (db.eq_1 ..) func48 ntmps48 results48⟩
def lx(n:ab)(bq:Int)(day:Int):D Bool:=
 G (aX n) λy1=>
 d y1
 (G (cN n bq day) λy2=>
 u y2)
 (u J)
instance (n:ab)(bq:Int)(day:Int):CT prog (lx n bq day):=⟨261,[.ag (aT n),L bq,L day],[],λr=>vb r,λr=>[],cw (lx.eq_1 ..) func261 ntmps261 results261⟩
def eI(n:ab)(t:au):D Bool:=
 G (lx n t.bq t.day) λy1=>
 u y1
instance (n:ab)(t:au):CT prog (eI n t):=⟨214,[.ag (aT n),.ag (bg t)],[],λr=>vb r,λr=>[],cw (eI.eq_1 ..) func214 ntmps214 results214⟩
theorem zv{l:C Int}(h:E l<=1048576)(x:Int):lk l x=u (l.any λy=>F (y=x)):=by
 unfold lk;rw[uS (xs:=l) (p:=λy=>F (y=x)) (r:=.inr S) (e:=.inl ()) (λi hi=>?_) (by simp[se]) YF]
 ·grind
 ·have hw:=bz hi Z
  have hg:K l (i:Int)=u l[i]:=by rw[aS];simp
  simp only[se,Yi (show(i:Int)<E l by omega),Yw,hg,Y,hw]
  grind
theorem jx{l:C au}(h:E l<=1048576)(x:au):fT l x=u (l.any λy=>F (y=x)):=by
 unfold fT;rw[uS (xs:=l) (p:=λy=>F (y=x)) (r:=.inr S) (e:=.inl ()) (λi hi=>?_) (by simp[qq]) YF]
 ·grind
 ·have hw:=bz hi Z
  have hg:K l (i:Int)=u l[i]:=by rw[aS];simp
  simp only[qq,Yi (show(i:Int)<E l by omega),Yw,hg,Y,hw]
  grind
theorem jH:@dZ=@fT:=rfl
theorem Qn(h:E n.off<=1048576)(x:Int):(T (qI n x) V 0).bind (bj (λ_=>u S) (λr=>u r))=u (!(n.off.any λy=>F (y=x))):=by
 rw[uS (xs:=n.off) (p:=λy=>F (y=x)) (r:=.inr J) (e:=.inl ()) (λi hi=>?_) (by simp[qI]) YF]
 ·grind
 ·have hw:=bz hi Z
  have hg:K n.off (i:Int)=u n.off[i]:=by rw[aS];simp
  simp only[qI,Yi (show(i:Int)<E n.off by omega),Yw,hg,Y,hw]
  grind
def Ky(x:Int):Int:=IntKind.i64.wrap (Wf IntKind.i64.bits x &&& Wf IntKind.i64.bits 1).toNat
theorem UK(x:Int):Ky x=0\/Ky x=1:=by
 unfold Ky;have h:(Wf IntKind.i64.bits x &&& Wf IntKind.i64.bits 1).toNat<=1:=by
  rw[BitVec.toNat_and];refine Nat.le_trans Nat.and_le_right ?_
  decide
 rw[show IntKind.i64.wrap ((Wf IntKind.i64.bits x &&& Wf IntKind.i64.bits 1).toNat:Int)=((Wf IntKind.i64.bits x &&& Wf IntKind.i64.bits 1).toNat:Int)from aV Z];omega
theorem sW(h:cD n)(bq day:Int):nB n bq day=cN n bq day/\∃b,cN n bq day=u b:=by
 have hl:=h.aC;have hw:O ((E n.aC:Int)-1)=E n.aC-1:=aV Z;unfold nB cN;rw[gV,hw,cO,cO];simp only[Y]
 by_cases h1:bq<0
 ·grind
 by_cases h2:(E n.aC:Int)<=bq
 ·grind
 simp only[Yt h1,Yt h2,Yi (show 0<=bq by omega),Yi (show bq<=(E n.aC:Int)-1 by omega),Yw,XS,Yx]
 by_cases h3:0<=day/\day<=60
 ·simp only[Yi h3.1,Yi h3.2,XS,VX,Yx,Yw]
  have hg:K n.aC bq=u (n.aC[bq.toNat]' Z):=by
   unfold K;grind
  rw[hg];simp only[Y];have hm:0<=XH day 7:=Int.tmod_nonneg 7 h3.1;rw[oB (Yi hm)];simp only[Y];rw[Qn h.off,zv h.off];generalize Int.fdiv _ _=q;have hb:=UK q;unfold Ky at hb
  grind
 grind
theorem VC(h:cD n)(bq day:Int):rJ n bq day=lx n bq day/\∃b,lx n bq day=u b:=by
 obtain⟨e,b,s⟩:=iu h;obtain⟨e2,b2,s2⟩:=sW h bq day;unfold rJ lx
 grind
theorem tx(h:cD n)(t:au):db n t=eI n t/\∃b,eI n t=u b:=by
 obtain⟨e,b,s⟩:=VC h t.bq t.day;unfold db eI
 simp_all
theorem zy:@kg=@eJ:=by
 funext l t
 unfold kg eJ;have:qZ l t=eR l t:=by
  funext s
  unfold qZ eR
  cases hg:K l s.2 with
  |none=>rfl
  |some y=>rfl
 grind
def ik(n:ab)(l:C aq)(s0:Int):D (Int⊕(M⊕Bool)):=
 d (F (s0<(E l:Int)))
 (G (K l s0) λy2=>
 d (F (0<s0))
 (G (K l (O (s0-1))) λy3=>
 G (gO y3 y2) λy4=>
 d (F (0<=y4))
 (u (.inr (.inr J)))
 (G (db n y2.aN) λy5=>
 d (!y5)
 (u (.inr (.inr J)))
 (G (ba y2.aR 1 9999) λy6=>
 d (!y6)
 (u (.inr (.inr J)))
 (G (ba y2.ah 1 1000000) λy7=>
 d (!y7)
 (u (.inr (.inr J)))
 (G (kg l y2.aN) λy8=>
 G (K n.aC y2.aN.bq) λy9=>
 d (F (y9.jb<y8))
 (u (.inr (.inr J)))
 (u (.inl (O (s0+1)))))))))
 (G (db n y2.aN) λdO=>
 d (!dO)
 (u (.inr (.inr J)))
 (G (ba y2.aR 1 9999) λlJ=>
 d (!lJ)
 (u (.inr (.inr J)))
 (G (ba y2.ah 1 1000000) λlA=>
 d (!lA)
 (u (.inr (.inr J)))
 (G (kg l y2.aN) λqi=>
 G (K n.aC y2.aN.bq) λoY=>
 d (F (oY.jb<qi))
 (u (.inr (.inr J)))
 (u (.inl (O (s0+1)))))))))
 (u (.inr (.inl ())))
instance (n:ab)(l:C aq):bm (ik n l):=⟨λs0=>(.un::.sl (l.map aG)::.be 0 0 0::(U 12 (.sl (l.map aG)::L (E l:Int)::L s0::(U 51 [])))),λs0=>[u ⟨.of 27,3,[aT n]⟩]⟩
def iB(n:ab)(l:C aq):D Bool:=
 G (dy n) λy1=>
 d (!y1)
 (u J)
 (d (F (120<(E l:Int)))
 (u J)
 ((T (ik n l) V 0).bind (bj (λo0=>
 u S) (λr=>u r))))
instance (n:ab)(l:C aq):CT prog (iB n l):=⟨47,[.ag (aT n),.sl (l.map aG)],[],λr=>vb r,λr=>[],cw (iB.eq_1 ..) func47 ntmps47 results47⟩
def jX(n:ab)(l:C aq)(s0:Int):D (Int⊕(M⊕Bool)):=
 d (F (s0<(E l:Int)))
 (G (K l s0) λy2=>
 G (cN n y2.aN.bq y2.aN.day) λy3=>
 d (!y3)
 (u (.inr (.inr J)))
 (G (bh y2.aR 1 9999) λy4=>
 d (!y4)
 (u (.inr (.inr J)))
 (G (bh y2.ah 1 1000000) λy5=>
 d (!y5)
 (u (.inr (.inr J)))
 (d (F (0<s0))
 (G (K l (O (s0-1))) λy6=>
 G (na y6 y2) λy7=>
 d (!y7)
 (u (.inr (.inr J)))
 (u (.inl (O (s0+1)))))
 (u (.inl (O (s0+1))))))))
 (u (.inr (.inl ())))
instance (n:ab)(l:C aq):bm (jX n l):=⟨λs0=>(.un::.sl (l.map aG)::.be 0 0 0::.un::.un::L s0::(U 80 [])),λs0=>[u ⟨.of 27,3,[aT n]⟩]⟩
def jY(n:ab)(l:C aq)(s1:Int):D (Int⊕(M⊕Bool)):=
 d (F (s1<(E l:Int)))
 (G (K l s1) λy8=>
 G (eJ l y8.aN) λy9=>
 G (K l s1) λdO=>
 G (K n.aC dO.aN.bq) λlJ=>
 d (F (lJ.jb<y9))
 (u (.inr (.inr J)))
 (u (.inl (O (s1+1)))))
 (u (.inr (.inl ())))
instance (n:ab)(l:C aq):bm (jY n l):=⟨λs1=>(.un::.sl (l.map aG)::.be 0 0 0::(U 4 (L s1::(U 78 [])))),λs1=>[u ⟨.of 27,3,[aT n]⟩]⟩
def fG(n:ab)(l:C aq):D Bool:=
 G (aX n) λy1=>
 d (!y1)
 (u J)
 (d (F (120<(E l:Int)))
 (u J)
 ((T (jX n l) V 0).bind (bj (λo0=>
 (T (jY n l) V 0).bind (bj (λo1=>
 u S) (λr=>u r))) (λr=>u r))))
instance (n:ab)(l:C aq):CT prog (fG n l):=⟨195,[.ag (aT n),.sl (l.map aG)],[],λr=>vb r,λr=>[],cw (fG.eq_1 ..) func195 ntmps195 results195⟩
def uC(a b:Int):Int:=if a<b then -1 else if b<a then 1 else 0
theorem PY(a b:Int):cP a b=u (uC a b):=by
 unfold cP uC
 grind
theorem Zbm(x y z:Int):ld [x,y,z]=u (if x≠0 then x else if y≠0 then y else z):=by
 obtain⟨k,hk⟩:∃k,V=k+1+1+1+1:=⟨1152921504606846972,by rfl⟩
 unfold ld;rw[hk];have w0:O 1=1:=aV Z;have w1:O 2=2:=aV Z;have w2:O 3=3:=aV Z
 by_cases hx:x=0
 ·by_cases hy:y=0
  ·by_cases hz:z=0
   ·simp[T,bj,cJ,K,hx,hy,hz,w0,w1,w2]
   ·simp[T,bj,cJ,K,hx,hy,hz,w0,w1]
  ·simp[T,bj,cJ,K,hx,hy,w0]
 ·simp[T,cJ,K,hx]
def rE(a b:aq):Bool:=if a.aN.day≠b.aN.day then F (a.aN.day<b.aN.day)else if a.aN.bq≠b.aN.bq then F (a.aN.bq<b.aN.bq)else F (a.aR<b.aR)
theorem FC(a b:aq):na a b=u (rE a b):=by
 unfold na rE
 grind
theorem IA(a b:aq):∃v,gO a b=u v/\F (0<=v)=!rE a b:=by
 unfold gO;simp only[PY,Y,Zbm];unfold rE uC
 grind
theorem vV(h:E l<=1048576)(t:au):∃v,eJ l t=u v:=by
 have hh:∃o,T (eR l t) V (0,0)=u o:=by
  refine yD (λk s=>∃i:R,i+k=E l/\s.2=(i:Int)) ?_ V (E l) (0,0) ⟨0,Z,rfl⟩ YF
  rintro k ⟨a,s⟩ ⟨i,hi,hs⟩;subst hs
  rcases Wu i (E l) with bD|Cz
  ·have hw:=bz bD Z
   have hg:K l (i:Int)=u l[i]:=by rw[aS];simp
   cases hc:F (l[i].aN=t)with
   |true=>
    refine⟨_,by simp only[eR,Yi (show(i:Int)<E l by omega),Yw,hg,Y,hc,hw];rfl,?_⟩
    rintro s' e;cases e;exact⟨k-1,Z,i+1,Z,rfl⟩
   |false=>
    refine⟨_,by simp only[eR,Yi (show(i:Int)<E l by omega),Yw,Yx,hg,Y,hc,hw];rfl,?_⟩
    rintro s' e;cases e;exact⟨k-1,Z,i+1,Z,rfl⟩
  ·have:i=E l:=Z
   subst this;refine⟨_,by simp only[eR,Yt (show ¬((E l:Int)<E l)by omega),Yx];rfl,?_⟩
   simp
 obtain⟨o,ho⟩:=hh;exact⟨o,by unfold eJ;grind⟩
theorem yQ(h:cD n){bq day:Int}(hr:cN n bq day=u S):∃y,K n.aC bq=u y:=by
 have hl:=h.aC;have hw:O ((E n.aC:Int)-1)=E n.aC-1:=aV Z;unfold cN at hr
 rw[cO]at hr
 simp at hr
 by_cases h1:0<=bq/\bq<=(E n.aC:Int)-1
 ·exact⟨n.aC[bq.toNat]' Z,by unfold K;grind⟩
 grind
def PS(n:ab)(l:C aq)(i:R):Bool:=match l[i]? with
 |none=>S
 |some y=>(cN n y.aN.bq y.aN.day).getD J&&(F (1<=y.aR)&&F (y.aR<=9999))&&(F (1<=y.ah)&&F (y.ah<=1000000))&&(F (i=0) ||match l[i-1]? with
  |none=>S
  |some x=>rE x y)
def bk2(n:ab)(l:C aq)(i:R):Bool:=match l[i]? with
 |none=>S
 |some y=>match K n.aC y.aN.bq,eJ l y.aN with
  |some g,u v=>!decide (g.jb<v)
  |_,_=>J
def cb(n:ab)(l:C aq):Bool:=(aX n).getD J&&F ((E l:Int)<=120)&&(Wj (E l)).all λi=>PS n l i&&bk2 n l i
theorem ie(h:cD n)(hl:E l<=1048576):fG n l=u (cb n l):=by
 obtain⟨_,b,hb⟩:=iu h;unfold fG cb;rw[hb]
 cases b with
 |false=>rfl
 |true=>
  by_cases Zl9:120<(E l:Int)
  ·grind
  have e0:T (jX n l) V 0=u (if(Wj (E l)).all (PS n l)=S then .inl ()else .inr J):=by
   refine qB (λi hi _=>?_) (λ_=>by simp[jX]) YF
   have hw:=bz hi Z;have hg:K l (i:Int)=u l[i]:=by rw[aS];simp
   obtain⟨_,rb,hrb⟩:=sW h l[i].aN.bq l[i].aN.day;simp only[jX,Yi (show(i:Int)<E l by omega),hg,Y,hrb,cO,PS,VS hi]
   cases rb with
   |false=>simp
   |true=>
    cases F (1<=l[i].aR)&&F (l[i].aR<=9999)with
    |false=>simp
    |true=>
     cases F (1<=l[i].ah)&&F (l[i].ah<=1000000)with
     |false=>simp
     |true=>
      by_cases hi0:i=0
      ·grind
      ·have C8:O ((i:Int)-1)=((i-1:R):Int):=by rw[aV Z];omega
       have hg2:K l ((i-1:R):Int)=u l[i-1]:=by rw[aS];simp
       simp only[FC]
       grind
  rw[e0]
  by_cases wi:(Wj (E l)).all (PS n l)=S
  ·rw[if_pos wi]
   have e1:T (jY n l) V 0=u (if(Wj (E l)).all (bk2 n l)=S then .inl ()else .inr J):=by
    refine qB (λi hi _=>?_) (λ_=>by simp[jY]) YF
    have hw:=bz hi Z;have hg:K l (i:Int)=u l[i]:=by rw[aS];simp
    obtain⟨v,hv⟩:=vV hl l[i].aN;have qV:=VZ.1 wi i (List.mem_range.2 hi);obtain⟨_,rb,hrb⟩:=sW h l[i].aN.bq l[i].aN.day;have hrt:rb=true:=by
     simp only[PS]at qV
     grind
    subst hrt;obtain⟨g,vd⟩:=yQ h hrb;simp only[jY,bk2]
    grind
   grind
  grind
theorem vk(h:cD n)(hn:aX n=u S)(t:au):db n t=cN n t.bq t.day:=by
 rw[(tx h t).1];unfold eI lx
 grind
theorem vR(h:cD n)(hl:E l<=1048576):iB n l=u (cb n l):=by
 obtain⟨en,b,hb⟩:=iu h;unfold iB cb;rw[en,hb]
 cases b with
 |false=>rfl
 |true=>
  by_cases Zl9:120<(E l:Int)
  ·grind
  have e0:T (ik n l) V 0=u (if(Wj (E l)).all (λi=>PS n l i&&bk2 n l i)=S then .inl ()else .inr J):=by
   refine qB (λi hi _=>?_) (λ_=>by simp[ik]) YF
   have hw:=bz hi Z;have hg:K l (i:Int)=u l[i]:=by rw[aS];simp
   obtain⟨_,rb,hrb⟩:=sW h l[i].aN.bq l[i].aN.day;have ht:=vk h hb l[i].aN;rw[hrb]at ht
   obtain⟨v,hv⟩:=vV hl l[i].aN;have BJ:∀{X:D (Int⊕(M⊕Bool))} {pre:Bool},pre=(F (i=0) ||match l[i-1]? with
    |none=>S
    |some x=>rE x l[i])->
    X=(d (!pre) (u (.inr (.inr J))) ((u rb).bind λdO=>d (!dO) (u (.inr (.inr J))) ((bh l[i].aR 1 9999).bind λlJ=>d (!lJ) (u (.inr (.inr J))) ((bh l[i].ah 1 1000000).bind λlA=>d (!lA) (u (.inr (.inr J))) ((u v).bind λqi=>(K n.aC l[i].aN.bq).bind λoY=>d (F (oY.jb<qi)) (u (.inr (.inr J))) (u (.inl ((i+1:R):Int))))))))->
    X=u (if(PS n l i&&bk2 n l i)=S then .inl ((i+1:R):Int)else .inr (.inr J)):=by
    rintro X pre hpre rfl;simp only[PS,bk2,VS hi,hrb,cO,<-hpre]
    cases pre with
    |false=>simp
    |true=>
     cases rb with
     |false=>simp
     |true=>
      obtain⟨g,vd⟩:=yQ h hrb
      grind
   by_cases hi0:i=0
   ·refine BJ (pre:=S) YD ?_
    simp only[ik,Yi (show(i:Int)<E l by omega),Yt (show ¬0<(i:Int)by omega),Yw,Yx,hg,Y,ht,gV,zy,hv,hw,VX]
   ·have C8:O ((i:Int)-1)=((i-1:R):Int):=by rw[aV Z];omega
    have hg2:K l ((i-1:R):Int)=u l[i-1]:=by rw[aS];simp
    obtain⟨cv,C4,Qb⟩:=IA l[i-1] l[i];refine BJ (pre:=rE l[i-1] l[i]) YD ?_;simp only[ik,Yi (show(i:Int)<E l by omega),Yi (show 0<(i:Int)by omega),Yw,hg,C8,hg2,C4,Qb,Y,ht,gV,zy,hv,hw]
  grind
theorem Jw{α:Type}{r:α->α->Prop}(irr:∀a,¬r a a)(asy:∀a b,r a b->¬r b a):∀{l1 l2:C α},l1.Pairwise r->l2.Pairwise r->(∀x,x∈l1↔x∈l2)->l1=l2
 | [],[],_,_,_=>rfl
 | [],b::l2,_,_,h=>Zp ((h b).2 (Wo ..)) YE
 |a::l1,[],_,_,h=>Zp ((h a).1 (Wo ..)) YE
 |a::l1,b::l2,h1,h2,h=>by
  rw[Wx]at h1 h2
  have C2:a=b:=by
   rcases VY.1 ((h a).1 (Wo ..))with e|e
   ·exact e
   ·rcases VY.1 ((h b).2 (Wo ..))with e'|e'
    all_goals grind
  congr 1
  refine Jw irr asy h1.2 h2.2 λx=>⟨λhx=>?_,λhx=>?_⟩
  all_goals grind
theorem Ck(a b:ByteArray):W a b=S↔a.data.toList<b.data.toList:=by
 unfold W;rw[Go.Proofs.bytesLess_eq,ByteArray.toList_eq,ByteArray.toList_eq,Yy]
theorem J1(h:a.data.toList=b.data.toList):a=b:=by
 obtain⟨⟨x⟩⟩:=a;simp_all
theorem Lf(a:ByteArray):¬W a a=true:=by rw[Ck];simp
theorem Zdi(a b:ByteArray)(h:W a b=S):¬W b a=true:=by rw[Ck]at *;grind
theorem ZiH{a b c:ByteArray}(h:W a b=S)(h':W b c=S):W a c=true:=by rw[Ck]at *;grind
theorem SY(h:¬W a b=S)(hn:a≠b):W b a=true:=by
 rw[Ck]at *
 rcases List.le_total a.data.toList b.data.toList with e|e
 ·rcases(List.le_iff_lt_or_eq.1 e)with e'|e'
  ·grind
  ·exact Zp (J1 e') hn
 ·rcases(List.le_iff_lt_or_eq.1 e)with e'|e'
  ·omega
  ·exact Zp (J1 e'.symm) hn
def vh:C ByteArray->ByteArray->C ByteArray
 | [],p=>[p]
 |x::xs,p=>if W x p=S then x::vh xs p else if x=p then x::xs else p::x::xs
theorem Gn{p y:ByteArray}:∀{xs:C ByteArray},y∈vh xs p↔y=p\/y∈xs
 | []=>by simp[vh]
 |x::xs=>by
  unfold vh
  split
  ·rw[VY,Gn];grind
  grind
theorem Eb{p:ByteArray}:∀{xs:C ByteArray},xs.Pairwise (λa b=>W a b=S)->(vh xs p).Pairwise (λa b=>W a b=S)
 | [],_=>by simp[vh]
 |x::xs,h=>by
  rw[Wx]at h
  unfold vh
  split
  ·rw[Wx]
   refine⟨λy hy=>?_,Eb h.2⟩
   rcases Gn.1 hy with e|e
   all_goals grind
  ·rename_i h1
   split
   ·simp_all
   ·rename_i h2
    have h3:=SY h1 h2;rw[Wx,Wx];refine⟨λy hy=>?_,h⟩
    rcases VY.1 hy with e|e
    ·grind
    ·exact ZiH h3 (h.1 y e)
theorem Gm{p:ByteArray}:∀{xs:C ByteArray},E (vh xs p)<=E xs+1
 | []=>by simp[vh]
 |x::xs=>by
  unfold vh
  split
  ·have:=Gm (p:=p) (xs:=xs);grind
  grind
theorem uO{y:ByteArray}:∀{l acc:C ByteArray},y∈l.foldl vh acc↔y∈l\/y∈acc
 | [],acc=>by simp
 |p::l,acc=>by rw[Wq,uO,Gn];grind
theorem xv:∀{l acc:C ByteArray},acc.Pairwise (λa b=>W a b=S)->(l.foldl vh acc).Pairwise (λa b=>W a b=S)
 | [],acc,h=>h
 |p::l,acc,h=>xv (l:=l) (Eb h)
theorem IH:∀{l acc:C ByteArray},E (l.foldl vh acc)<=E l+E acc
 | [],acc=>by simp
 |p::l,acc=>by
  have h1:=IH (l:=l) (acc:=vh acc p);have h2:=Gm (p:=p) (xs:=acc)
  grind
/-! The Zi7: a list Zly Zlx,sorted. -/
theorem Zbb{y:ByteArray}:∀{l acc:C ByteArray},y∈l.foldl dd acc↔y∈l\/y∈acc
 | [],acc=>by simp
 |p::l,acc=>by
  rw[Wq,Zbb];unfold dd
  split
  ·rename_i h
   have h:=Sr.1 h
   grind
  grind
theorem MG:∀{l acc:C ByteArray},acc.Nodup->(l.foldl dd acc).Nodup
 | [],acc,h=>h
 |p::l,acc,h=>by
  rw[Wq];refine MG ?_;unfold dd
  split
  ·exact h
  ·rename_i h1
   rw[List.nodup_append];refine⟨h,by simp,?_⟩
   intro a ha b hb;simp at hb
   rintro rfl;subst hb;exact h1 (Sr.2 ha)
theorem Zdu{y:ByteArray}{xs:C ByteArray}:y∈Hm xs↔y∈xs:=by
 unfold Hm;rw[WH];constructor
 ·rintro⟨l,hl,rfl⟩
  rw[List.mem_mergeSort,WH]at hl
  obtain⟨b,hb,rfl⟩:=hl;omega
 ·intro h
  exact⟨y.data.toList,by rw[List.mem_mergeSort];grind,J1 YE⟩
theorem O4{xs:C ByteArray}(h:xs.Nodup):(Hm xs).Pairwise (λa b=>W a b=S):=by
 unfold Hm;rw[XA];have h1:((xs.map λb:ByteArray=>b.data.toList).mergeSort λx y=>F (x<=y)).Pairwise (λa b=>F (a<=b)=S):=
  List.pairwise_mergeSort (λa b c=>by grind) (λa b=>by grind) _
 have h2:((xs.map λb:ByteArray=>b.data.toList).mergeSort λx y=>F (x<=y)).Nodup:=by
  rw[(List.mergeSort_perm _ _).nodup_iff];unfold List.Nodup;rw[XA];exact h.imp λgL e=>gL (J1 e)
 refine(h1.and h2).imp ?_;rintro a b ⟨h3,h4⟩;rw[Ck]
 grind
def aj(n:ab):C ByteArray:=(jO n).foldl vh []
theorem Ea(h:cD n):di n=u (aj n):=by
 unfold di;rw[if_pos ⟨h.aC,VZ.2 λl hl=>Yi (by have:=h.bq l hl;unfold Gw uY at this;unfold maxLen;omega)⟩]
 congr 1
 exact Jw (r:=λa b=>W a b=S) Lf Zdi (O4 (MG List.nodup_nil)) (xv List.Pairwise.nil) λx=>by
  rw[Zdu,Zbb];unfold aj;rw[uO]
theorem ZeW{xs:C α}{p:α->Bool}(h1:∀i (hi:i<E xs),body (i:Int)=u (if p xs[i]=S then .inl ((i+1:R):Int)else .inr (i:Int)))(h2:body (E xs:Int)=u (.inr (E xs:Int)))(hN:E xs<V):
 T body V 0=u (E (xs.takeWhile p):Int):=by
 have key:∀(ys:C α) (i N:R),xs.drop i=ys->i<=E xs->E ys<N->T body N (i:Int)=u ((i+E (ys.takeWhile p):R):Int):=by
  intro ys
  induction ys with
  |nil=>
   intro i N hd hi hN
   cases N with
   |zero=>omega
   |succ N=>
    have:i=E xs:=by grind
    subst this;simp only[T,h2];rfl
  |cons y ys ih=>
   intro i N hd hi hN
   cases N with
   |zero=>omega
   |succ N=>
    have hy:xs[i]?=u y:=by
     have:=Zo (λl=>l[0]?) hd
     grind
    have bD:i<E xs:=(VT.1 hy).1;have hyv:xs[i]=y:=(VT.1 hy).2;have Cy:xs.drop (i+1)=ys:=by
     have:=Zo (List.drop 1) hd
     simpa using this
    simp only[T,h1 i bD,hyv]
    cases hp:p y with
    |true=>
     have:=ih (i+1) N Cy bD YG;rw[Ye hp]
     grind
    |false=>
     simp_all
 grind
theorem Ss(p:ByteArray):∀(xs:C ByteArray),vh xs p=
 if xs[E (xs.takeWhile λx=>W x p)]?=u p then xs else xs.take (E (xs.takeWhile λx=>W x p))++[p]++xs.drop (E (xs.takeWhile λx=>W x p))
 | []=>by rfl
 |x::xs=>by
  unfold vh
  cases h:W x p with
  |true=>
   rw[Ye (by exact h),Ss p xs]
   grind
  |false=>
   simp_all
theorem OZ{i':Int}(hl:E out<=4194304):
 (d (F ((E (out.takeWhile λx=>W x p):Int)=(E out:Int)))
  ((cf (iq 0 (E (out.takeWhile λx=>W x p):Int) (E out))).bind λ_=>
  (cf (bn (E (([]:C ByteArray):C ByteArray)+E ((da out 0 (E (out.takeWhile λx=>W x p):Int)):C ByteArray)) 16)).bind λ_=>
  (cf (bn (E (((([]:C ByteArray):C ByteArray)++(da out 0 (E (out.takeWhile λx=>W x p):Int))):C ByteArray)+E ([p]:C ByteArray)) 16)).bind λ_=>
  (cf (iq (E (out.takeWhile λx=>W x p):Int) (E out:Int) (E out))).bind λ_=>
  (cf (bn (E (((((([]:C ByteArray):C ByteArray)++(da out 0 (E (out.takeWhile λx=>W x p):Int))):C ByteArray)++[p]):C ByteArray)+E ((da out (E (out.takeWhile λx=>W x p):Int) (E out:Int)):C ByteArray)) 16)).bind λ_=>
  (u (.inl (i',((((((([]:C ByteArray):C ByteArray)++(da out 0 (E (out.takeWhile λx=>W x p):Int))):C ByteArray)++[p]):C ByteArray)++(da out (E (out.takeWhile λx=>W x p):Int) (E out:Int))))):D ((Int×C ByteArray)⊕C ByteArray)))
  ((K out (E (out.takeWhile λx=>W x p):Int)).bind λy4=>
  d (!decide (y4=p))
  ((cf (iq 0 (E (out.takeWhile λx=>W x p):Int) (E out))).bind λ_=>
  (cf (bn (E (([]:C ByteArray):C ByteArray)+E ((da out 0 (E (out.takeWhile λx=>W x p):Int)):C ByteArray)) 16)).bind λ_=>
  (cf (bn (E (((([]:C ByteArray):C ByteArray)++(da out 0 (E (out.takeWhile λx=>W x p):Int))):C ByteArray)+E ([p]:C ByteArray)) 16)).bind λ_=>
  (cf (iq (E (out.takeWhile λx=>W x p):Int) (E out:Int) (E out))).bind λ_=>
  (cf (bn (E (((((([]:C ByteArray):C ByteArray)++(da out 0 (E (out.takeWhile λx=>W x p):Int))):C ByteArray)++[p]):C ByteArray)+E ((da out (E (out.takeWhile λx=>W x p):Int) (E out:Int)):C ByteArray)) 16)).bind λ_=>
  u (.inl (i',((((((([]:C ByteArray):C ByteArray)++(da out 0 (E (out.takeWhile λx=>W x p):Int))):C ByteArray)++[p]):C ByteArray)++(da out (E (out.takeWhile λx=>W x p):Int) (E out:Int))))))
  (u (.inl (i',out)))))=u (.inl (i',vh out p)):=by
 have hk:E (out.takeWhile λx=>W x p)<=E out:=(List.takeWhile_sublist _).length_le
 rw[Ss];generalize LQ:E (out.takeWhile λx=>W x p)=k at *
 have e1:da out 0 (k:Int)=out.take k:=by rfl
 have e2:da out (k:Int) (E out:Int)=out.drop k:=by
  unfold da;rw[WS,WS,List.take_of_length_le YE]
 have c1:cf (iq 0 (k:Int) (E out))=u ():=oB YU;have c2:cf (iq (k:Int) (E out:Int) (E out))=u ():=oB YU;have ap:∀n:R,n<=8388608->cf (bn n 16)=u ():=λn hn=>oB Y9
 simp
 by_cases hke:(k:Int)=E out
 ·grind
 ·rw[Yt hke,aS]
  grind
theorem I4(h:i<E n.aC):(jO n)[2*i]?=u n.aC[i].ar/\(jO n)[2*i+1]?=u n.aC[i].aZ:=by
 unfold jO;have key:∀(l:C bP) (i:R) (h:i<E l),(l.flatMap λx=>[x.ar,x.aZ])[2*i]?=u l[i].ar/\(l.flatMap λx=>[x.ar,x.aZ])[2*i+1]?=u l[i].aZ:=by
  intro l
  induction l with
  |nil=>simp
  |cons a l ih=>
   intro i h
   cases i with
   |zero=>simp
   |succ i=>
    grind
 grind
theorem zz(n:ab):E (jO n)=2*E n.aC:=by
 unfold jO
 induction n.aC with
 |nil=>rfl
 |cons a l ih=>grind
theorem twL(hl:E out<=4194304)(hb:∀i:Int,body i=d (F (i<(E out:Int))) ((K out i).bind λy=>d (W y p) (u (.inl (O (i+1)))) (u (.inr i))) (u (.inr i))):
 T body V 0=u (E (out.takeWhile λx=>W x p):Int):=by
 refine ZeW (λi hi=>?_) ?_ YF
 ·have hw:=bz hi Z
  have hg:K out (i:Int)=u out[i]:=by rw[aS];simp
  grind
 grind
theorem Rz(h:E n.aC<=1048576)(hp:(jO n)[i]?=u p)(ho:E out<=4194304):
 j8 n ((i:Int),out)=u (.inl (((i+1:R):Int),vh out p)):=by
 have hi:i<2*E n.aC:=by rw[<-zz];grind
 have C8:O (2*(E n.aC:Int))=2*E n.aC:=aV Z;have hdiv:IntKind.i64.wrap (Xf (i:Int) 2)=((i / 2:R):Int):=by
  rw[show Xf (i:Int) 2=((i / 2:R):Int)from rfl];exact aV Z
 have Zki:XH (i:Int) 2=((i % 2:R):Int):=rfl;have hw:O ((i:Int)+1)=((i+1:R):Int):=bz hi Z;have bD:i / 2<E n.aC:=Z;have hg:K n.aC ((i / 2:R):Int)=u n.aC[i / 2]:=by rw[aS];simp
 obtain⟨n1,n2⟩:=I4 bD;unfold j8;simp only[C8,hdiv,Zki,hw,hg,Y];rw[Yi (show(i:Int)<2*(E n.aC:Int)by omega)]
 rcases Nat.mod_two_eq_zero_or_one i with hm|hm
 ·rw[hm,Yt (show ¬((0:R):Int)=1 by omega)]
  have hp':p=n.aC[i / 2].ar:=by
   grind
  rw[<-hp'];rw[twL ho (body:=so n ((i:Int),out) n.aC[i / 2]) (p:=p) (λj=>by rw[hp'];rfl)]
  exact OZ ho
 ·rw[hm,Yi (show((1:R):Int)=1 by omega)]
  have hp':p=n.aC[i / 2].aZ:=by
   grind
  rw[<-hp'];rw[twL ho (body:=sn n ((i:Int),out) n.aC[i / 2]) (p:=p) (λj=>by rw[hp'];rfl)]
  exact OZ ho
theorem En(h:E n.aC<=1048576):dm n=u (aj n):=by
 have key:∀(ps:C ByteArray) (i N:R) (out:C ByteArray),(jO n).drop i=ps->i<=E (jO n)->E ps<N->E out<=i->T (j8 n) N ((i:Int),out)=u (ps.foldl vh out):=by
  have E3:=zz n;intro ps
  induction ps with
  |nil=>
   intro i N out hd hi hN ho
   cases N with
   |zero=>omega
   |succ N=>
    have:i=E (jO n):=by grind
    have C8:O (2*(E n.aC:Int))=2*E n.aC:=aV Z;simp only[T,j8]
    grind
  |cons p ps ih=>
   intro i N out hd hi hN ho
   cases N with
   |zero=>omega
   |succ N=>
    have hp:(jO n)[i]?=u p:=by
     have:=Zo (λl=>l[0]?) hd
     grind
    have bD:=(VT.1 hp).1;have Cy:(jO n).drop (i+1)=ps:=by
     have:=Zo (List.drop 1) hd
     simpa using this
    simp only[T,Rz h hp (show (E out)<=4194304 by omega)]
    exact ih (i+1) N (vh out p) Cy bD YD (by have:=Gm (p:=p) (xs:=out);omega)
 have E3:=zz n;unfold dm;rw[show((0:Int))=((0:R):Int)from rfl,key (jO n) 0 V [] rfl (Ws _) YF YE];rfl
theorem cV(h:cD n):di n=dm n/\dm n=u (aj n):=⟨(Ea h).trans (En h.aC).symm,En h.aC⟩
theorem dR(n:ab):E (aj n)<=2*E n.aC:=by
 have:=IH (l:=jO n) (acc:=[]);rw[zz]at this
 simpa[aj]using this
def eU(w:aw)(o:ay):D Bool:=
 d (!decide (o.state=3))
 (G (jc o) λy1=>
 d (F (y1=(E o.aE:Int)))
 (G (jK w o) λy2=>
 u (!decide (y2=o.aZ)))
 (u J))
 (u J)
instance (w:aw)(o:ay):CT prog (eU w o):=⟨56,[.ag (cL w),.ag (bx o)],[],λr=>vb r,λr=>[],cw (eU.eq_1 ..) func56 ntmps56 results56⟩
theorem sr:@bQ=@cy:=rfl
theorem Sj(w:aw)(o:ay):jK w o=eA w.aa o:=rfl
theorem Uf(h:K n.aC t.bq=Zd):bo n t=none:=by
 unfold bo bp;rw[h];rfl
theorem kx{y:bP}(h:K n.aC t.bq=u y):∃v,bo n t=u v:=by
 unfold bo bp;rw[h];exact⟨_,rfl⟩
theorem Zdx(w:aw)(o:ay):qH w o=cA w.aa o w.now:=by
 unfold qH cA;rw[qm,lI]
 cases F (0<o.aH)with
 |false=>
  simp only[Yx]
  cases F (o.state=1)<;>cases F (o.state=2)<;>cases F (o.state=3)<;>try rfl
  all_goals cases F (o.aH=(E o.aE:Int))<;>cases F (o.place=o.aZ)<;>cases F (o.ar=o.aZ)<;>rfl
 |true=>
  simp only[Yw]
  cases hg:K o.aE (O (o.aH-1))with
  |none=>rfl
  |some y1=>
   simp only[Y,hg]
   cases hl:K w.aa.aC y1.bq with
   |none=>rw[Uf hl];rfl
   |some y2=>
    obtain⟨v,hv⟩:=kx hl;simp only[hv,Y]
    cases F (w.now<v)<;>try rfl
    simp only[Yx]
    cases F (o.state=1)<;>cases F (o.state=2)<;>cases F (o.state=3)<;>try rfl
    all_goals cases F (o.aH=(E o.aE:Int))<;>cases F (o.place=o.aZ)<;>cases F (y2.aZ=o.aZ)<;>rfl
theorem Uz{α ο:Type}{xs:C α}{p:α->Bool}{body:Int->D (Int⊕ο)}{f:R->ο}{e:ο}(h1:∀i (hi:i<E xs),body (i:Int)=u (if p xs[i]=S then .inr (f i)else .inl ((i+1:R):Int)))(h2:body (E xs:Int)=u (.inr e))(hN:E xs<V):
 T body V 0=u ((xs.findIdx? p).elim e f):=by
 have key:∀(ys:C α) (i N:R),xs.drop i=ys->i<=E xs->E ys<N->T body N (i:Int)=u ((ys.findIdx? p).elim e λk=>f (i+k)):=by
  intro ys
  induction ys with
  |nil=>
   intro i N hd hi hN
   cases N with
   |zero=>omega
   |succ N=>
    have:i=E xs:=by grind
    subst this;simp only[T,h2];rfl
  |cons y ys ih=>
   intro i N hd hi hN
   cases N with
   |zero=>omega
   |succ N=>
    have hy:xs[i]?=u y:=by
     have:=Zo (λl=>l[0]?) hd
     grind
    have bD:i<E xs:=(VT.1 hy).1;have hyv:xs[i]=y:=(VT.1 hy).2;have Cy:xs.drop (i+1)=ys:=by
     have:=Zo (List.drop 1) hd
     simpa using this
    simp only[T,h1 i bD,hyv];rw[List.findIdx?_cons]
    cases hp:p y with
    |true=>simp
    |false=>
     have:=ih (i+1) N Cy bD YD;refine this.trans ?_
     cases ys.findIdx? p with
     |none=>rfl
     |some k=>grind
 have:=key xs 0 V rfl (Ws _) hN
 grind
def bc(l:C ByteArray)(p:ByteArray):Int:=(l.findIdx? λy=>F (y=p)).elim (-1) λk=>(k:Int)
theorem qW{l:C ByteArray}(h:E l<=4194304)(p:ByteArray):cy l p=u (bc l p):=by
 unfold cy;rw[Uz (xs:=l) (p:=λy=>F (y=p)) (f:=λi=>.inr (i:Int)) (e:=.inl ()) (λi hi=>?_) (by simp[qu]) YF]
 ·unfold bc
  cases l.findIdx? λy=>F (y=p)<;>rfl
 ·have hw:=bz hi Z
  have hg:K l (i:Int)=u l[i]:=by rw[aS];simp
  simp only[qu]
  grind
/-! Zaj: one for a aR and a aN. -/
def ZgG(l:C aq):Prop:=∀x∈l,∀y∈l,x.aR=y.aR->x.aN=y.aN->x=y
theorem Zd7{a b c:aq}(h:rE a b=S)(h':rE b c=S):rE a c=true:=by
 unfold rE at *
 grind
theorem dJ(h:cb n l=S):aX n=u S/\(E l)<=120:=by
 unfold cb at h
 cases hn:aX n with
 |none=>grind
 |some b=>grind
theorem wD(h:cb n l=S)(hi:i<E l):PS n l i=S/\bk2 n l i=true:=by
 unfold cb at h
 grind
theorem u5(h:cb n l=S):∀(j i:R) (hj:j<E l) (AY:i<j),rE (l[i]' Z) l[j]=true:=by
 intro j
 induction j with
 |zero=>omega
 |succ j ih=>
  intro i hj AY;have h1:=(wD h hj).1;unfold PS at h1
  have h2:rE l[j] l[j+1]=true:=by
   grind
  rcases Wu i j with h3|h3
  ·exact Zd7 (ih i Z h3) h2
  grind
theorem FB{a b:aq}(h1:a.aR=b.aR)(h2:a.aN=b.aN):rE a b=false:=by
 unfold rE
 grind
theorem FJ(h:cb n l=S):ZgG l:=by
 intro x hx y hy ht Ey;obtain⟨i,hi,rfl⟩:=V3 hx;obtain⟨j,hj,rfl⟩:=V3 hy
 rcases Nat.lt_trichotomy i j with h1|h1|h1
 ·have:=u5 h j i hj h1
  rw[FB ht Ey]at this;grind
 ·grind
 ·have:=u5 h i j hi h1
  rw[FB ht.symm Ey.symm]at this;grind
def kY(l:C aq)(aR:Int)(t:au)(wt:Int):Bool:=l.any λy=>F (y=(⟨aR,t,wt⟩:aq))
theorem ZaK(h:E l<=1048576)(aR:Int)(t:au)(wt:Int):oT l aR t wt=u (kY l aR t wt):=by
 unfold oT;rw[uS (xs:=l) (p:=λy=>F (y=(⟨aR,t,wt⟩:aq))) (r:=.inr S) (e:=.inl ()) (λi hi=>?_) (by simp[oq]) YF]
 ·unfold kY
  grind
 ·have hw:=bz hi Z
  have hg:K l (i:Int)=u l[i]:=by rw[aS];simp
  simp only[oq]
  grind
theorem Ki{w:aw}(h:E w.av<=1048576)(hu:ZgG w.av){id:Int}{o:ay}(ho:K w.ae (O (id-1))=u o)(t:au):nz w id t=u (kY w.av id t o.ah):=by
 unfold nz;have e:T (ko w id t) V 0=w9 (λ_ (_:M) (x:aq)=>u (if x.aR=id/\x.aN=t then .inr (.inr (F (x.ah=o.ah)))else .inl ())) (λ_=>u (.inl ())) 0 w.av ():=by
  refine tz (A:=M) (λ_ i=>i) _ _ (λ_ i x hx=>?_) (λ_=>?_) YF ()
  ·have hi:=(VT.1 hx).1
   have hw:=bz hi Z;have hg:K w.av (i:Int)=u x:=by rw[aS];omega
   simp only[ko]
   grind
  ·simp[ko]
 have key:∀(l:C aq) (i:R),(∀x∈l,x∈w.av)->w9 (λ_ (_:M) (x:aq)=>u (if x.aR=id/\x.aN=t then(.inr (.inr (F (x.ah=o.ah))):M⊕(M⊕Bool))else .inl ())) (λ_=>u (Sum.inl ():M⊕Bool)) i l ()=u (if l.any (λy=>F (y.aR=id/\y.aN=t))=S then Sum.inr (kY l id t o.ah)else Sum.inl ()):=by
  intro l
  induction l with
  |nil=>intro i _;rfl
  |cons x l ih=>
   intro i hm;simp only[w9]
   by_cases hc:x.aR=id/\x.aN=t
   ·rw[if_pos hc]
    simp only[List.any_cons,Yi hc];show u (Sum.inr (F (x.ah=o.ah)):M⊕Bool)=_
    congr 2
    unfold kY;rw[List.any_cons]
    by_cases hw:x.ah=o.ah
    ·have:x=(⟨id,t,o.ah⟩:aq):=by obtain⟨a,b,c⟩:=x;grind
     grind
    ·rw[Yt hw]
     symm
     rw[Bool.or_eq_false_iff];refine⟨Yt (λe=>hw Zb),?_⟩
     rw[Bool.eq_false_iff];intro h3;obtain⟨y,hy,he⟩:=List.any_eq_true.1 h3;have:=hu x (hm x (Wo ..)) y (hm y (List.mem_cons_of_mem _ hy)) YD YD
     grind
   ·simp only[Y]
    simp;have:kY (x::l) id t o.ah=kY l id t o.ah:=by
     unfold kY
     grind
    grind
 rw[e,key w.av 0 (λx h=>h)]
 cases ha:w.av.any (λy=>F (y.aR=id/\y.aN=t))with
 |true=>rfl
 |false=>
  symm
  unfold kY
  grind
def rZ(n:ab)(aE:C au)(aZ:ByteArray)(s0:Int×ByteArray×Int):D ((Int×ByteArray×Int)⊕(ByteArray⊕Bool)):=
 d (F (s0.2.2<(E aE:Int)))
 (G (K aE s0.2.2) λy5=>
 G (db n y5) λy6=>
 d (!y6)
 (u (.inr (.inr J)))
 (G (K n.aC y5.bq) λy7=>
 d (!decide (y7.ar=s0.2.1))
 (u (.inr (.inr J)))
 (G (ca n y5) λy8=>
 d (F (y8<s0.1))
 (u (.inr (.inr J)))
 (G (K n.aC y5.bq) λy9=>
 G (K aE s0.2.2) λdO=>
 G (cE n dO) λlJ=>
 u (.inl ((O (lJ+n.change)),y9.aZ,(O (s0.2.2+1))))))))
 (u (.inr (.inl s0.2.1)))
instance (n:ab)(aE:C au)(aZ:ByteArray):bm (rZ n aE aZ):=⟨λs0=>(.un::.sl (aE.map bg)::.un::vs aZ::L s0.1::.be 0 0 0::(U 6 (vs s0.2.1::(U 20 (.sl (aE.map bg)::L (E aE:Int)::L s0.2.2::(U 46 [])))))),λs0=>[u ⟨.of 27,3,[aT n]⟩]⟩
def sQ(n:ab)(aE:C au)(dq:ByteArray)(aZ:ByteArray)(mE:Int):D Bool:=
 G (di n) λy1=>
 G (dy n) λy2=>
 d (!y2)
 (u J)
 (G (bQ y1 dq) λy3=>
 d (F (y3<0))
 (u J)
 (G (bQ y1 aZ) λy4=>
 d (F (y4<0))
 (u J)
 ((T (rZ n aE aZ) V (mE,dq,0)).bind (bj (λo0=>
 u (F (o0=aZ))) (λr=>u r)))))
instance (n:ab)(aE:C au)(dq:ByteArray)(aZ:ByteArray)(mE:Int):CT prog (sQ n aE dq aZ mE):=⟨160,[.ag (aT n),.sl (aE.map bg),vs dq,vs aZ,L mE],[],λr=>vb r,λr=>[],cw (sQ.eq_1 ..) func160 ntmps160 results160⟩
def dY(n:ab)(aE:C au)(aZ:ByteArray)(s0:ByteArray×Int×Int):D ((ByteArray×Int×Int)⊕(ByteArray⊕Bool)):=
 d (F (s0.2.2<(E aE:Int)))
 (G (K aE s0.2.2) λy5=>
 G (eI n y5) λy6=>
 d (!y6)
 (u (.inr (.inr J)))
 (G (K aE s0.2.2) λy7=>
 G (K n.aC y7.bq) λy8=>
 d (!decide (y8.ar=s0.1))
 (u (.inr (.inr J)))
 (G (K aE s0.2.2) λy9=>
 G (bp n y9) λdO=>
 d (F (dO<s0.2.1))
 (u (.inr (.inr J)))
 (G (K aE s0.2.2) λlJ=>
 G (K n.aC lJ.bq) λlA=>
 G (K aE s0.2.2) λqi=>
 G (bo n qi) λoY=>
 u (.inl (lA.aZ,(O (oY+n.change)),(O (s0.2.2+1))))))))
 (u (.inr (.inl s0.1)))
instance (n:ab)(aE:C au)(aZ:ByteArray):bm (dY n aE aZ):=⟨λs0=>(.un::.sl (aE.map bg)::.un::vs aZ::.un::.be 0 0 0::(U 6 (vs s0.1::L s0.2.1::L s0.2.2::(U 78 [])))),λs0=>[u ⟨.of 27,3,[aT n]⟩]⟩
def fN(n:ab)(aE:C au)(dq:ByteArray)(aZ:ByteArray)(mE:Int):D Bool:=
 G (dm n) λy1=>
 G (aX n) λy2=>
 d (!y2)
 (u J)
 (G (cy y1 dq) λy3=>
 d (F (y3<0))
 (u J)
 (G (cy y1 aZ) λy4=>
 d (F (y4<0))
 (u J)
 ((T (dY n aE aZ) V (dq,mE,0)).bind (bj (λo0=>
 u (F (o0=aZ))) (λr=>u r)))))
instance (n:ab)(aE:C au)(dq:ByteArray)(aZ:ByteArray)(mE:Int):CT prog (fN n aE dq aZ mE):=⟨250,[.ag (aT n),.sl (aE.map bg),vs dq,vs aZ,L mE],[],λr=>vb r,λr=>[],cw (fN.eq_1 ..) func250 ntmps250 results250⟩
def gI(n:ab)(s:aI):D Bool:=
 G (dy n) λy1=>
 d (!y1)
 (u J)
 (G (ba s.aR 1 9999) λy2=>
 d (!y2)
 (u J)
 (G (ba s.aQ 0 100000) λy3=>
 d (!y3)
 (u J)
 (d (F (s.kind=1))
 (d (F (s.kind=1))
 (G (di n) λy4=>
 G (bQ y4 s.place) λy5=>
 d (F (0<=y5))
 (u (F (s.aN=(⟨0,0⟩:au))))
 (u J))
 (d (F (s.kind=3))
 (d (F (s.place=⟨#[]⟩))
 (G (db n s.aN) λy6=>
 d y6
 (G (ca n s.aN) λy7=>
 u (F (s.aQ<=y7)))
 (u J))
 (u J))
 (d (F (s.kind=2))
 (d (F (s.place=⟨#[]⟩))
 (G (db n s.aN) λy8=>
 d y8
 (G (cE n s.aN) λy9=>
 u (F (y9<=s.aQ)))
 (u J))
 (u J))
 (u J))))
 (d (F (s.kind=4))
 (G (di n) λdO=>
 G (bQ dO s.place) λlJ=>
 d (F (0<=lJ))
 (u (F (s.aN=(⟨0,0⟩:au))))
 (u J))
 (d (F (s.kind=3))
 (d (F (s.place=⟨#[]⟩))
 (G (db n s.aN) λlA=>
 d lA
 (G (ca n s.aN) λqi=>
 u (F (s.aQ<=qi)))
 (u J))
 (u J))
 (d (F (s.kind=2))
 (d (F (s.place=⟨#[]⟩))
 (G (db n s.aN) λoY=>
 d oY
 (G (cE n s.aN) λrT=>
 u (F (rT<=s.aQ)))
 (u J))
 (u J))
 (u J)))))))
instance (n:ab)(s:aI):CT prog (gI n s):=⟨91,[.ag (aT n),.ag (bA s)],[],λr=>vb r,λr=>[],cw (gI.eq_1 ..) func91 ntmps91 results91⟩
def cz(n:ab)(s:aI):D Bool:=
 G (aX n) λy1=>
 d (!y1)
 (u J)
 (G (bh s.aR 1 9999) λy2=>
 d (!y2)
 (u J)
 (G (bh s.aQ 0 100000) λy3=>
 d (!y3)
 (u J)
 (d (F (s.kind=1))
 (d (F (s.kind=1))
 (G (dm n) λy4=>
 G (cy y4 s.place) λy5=>
 d (F (0<=y5))
 (u (F (s.aN=(⟨0,0⟩:au))))
 (u J))
 (d (F (s.kind=3))
 (d (F (s.place=⟨#[]⟩))
 (G (eI n s.aN) λy6=>
 d y6
 (G (bp n s.aN) λy7=>
 u (F (s.aQ<=y7)))
 (u J))
 (u J))
 (d (F (s.kind=2))
 (d (F (s.place=⟨#[]⟩))
 (G (eI n s.aN) λy8=>
 d y8
 (G (bo n s.aN) λy9=>
 u (F (y9<=s.aQ)))
 (u J))
 (u J))
 (u J))))
 (d (F (s.kind=4))
 (G (dm n) λdO=>
 G (cy dO s.place) λlJ=>
 d (F (0<=lJ))
 (u (F (s.aN=(⟨0,0⟩:au))))
 (u J))
 (d (F (s.kind=3))
 (d (F (s.place=⟨#[]⟩))
 (G (eI n s.aN) λlA=>
 d lA
 (G (bp n s.aN) λqi=>
 u (F (s.aQ<=qi)))
 (u J))
 (u J))
 (d (F (s.kind=2))
 (d (F (s.place=⟨#[]⟩))
 (G (eI n s.aN) λoY=>
 d oY
 (G (bo n s.aN) λrT=>
 u (F (rT<=s.aQ)))
 (u J))
 (u J))
 (u J)))))))
instance (n:ab)(s:aI):CT prog (cz n s):=⟨198,[.ag (aT n),.ag (bA s)],[],λr=>vb r,λr=>[],cw (cz.eq_1 ..) func198 ntmps198 results198⟩
theorem NA{σ τ ο:Type}{f:σ->D (σ⊕ο)}{g:τ->D (τ⊕ο)}(φ:σ->τ)(h:∀s,g (φ s)=(f s).bind (bj (λs'=>u (.inl (φ s'))) (λr=>u (.inr r)))):∀(N:R) (s:σ),T g N (φ s)=T f N s
 |0,s=>rfl
 |N+1,s=>by
  simp only[T,h]
  cases f s with
  |none=>rfl
  |some o=>
   cases o with
   |inl s'=>exact NA φ h N s'
   |inr r=>rfl
theorem Pm(h:cD n)(ht:eI n t=u S):∃y,K n.aC t.bq=u y:=by
 unfold eI lx at ht
 obtain⟨_,b,hb⟩:=iu h;obtain⟨_,b2,yb⟩:=sW h t.bq t.day;rw[hb]at ht
 simp only[Y,yb]at ht
 cases b with
 |false=>grind
 |true=>
  simp at ht
  subst ht;exact yQ h yb
theorem o6{y:bP}(h:K n.aC t.bq=u y):∃v,bp n t=u v:=by
 unfold bp;simp_all
theorem Dc(h:cD n)(s:aI):gI n s=cz n s:=by
 unfold gI cz;rw[(iu h).1,gV,(cV h).1,(tx h s.aN).1,lI,qm,sr]
theorem vS(h:cD n)(s:aI):∃b,cz n s=u b:=by
 obtain⟨_,b,hb⟩:=iu h;have hp:=(cV h).2;have uP:=dR n;have hl:=h.aC;obtain⟨_,b2,yb⟩:=tx h s.aN;unfold cz;rw[hb,hp,yb];simp only[Y,cO,qW (show(aj n).length<=4194304 by omega)]
 cases b with
 |false=>simp
 |true=>
  cases F (1<=s.aR)&&F (s.aR<=9999)<;>try exact⟨_,rfl⟩
  cases F (0<=s.aQ)&&F (s.aQ<=100000)<;>try exact⟨_,rfl⟩
  cases F (0<=bc (aj n) s.place)
  all_goals
   cases b2 with
   |false=>cases F (s.kind=1)<;>cases F (s.kind=3)<;>cases F (s.kind=2)<;>cases F (s.kind=4)<;>cases F (s.place=⟨#[]⟩)<;>exact⟨_,rfl⟩
   |true=>
    obtain⟨y,hy⟩:=Pm h yb;obtain⟨v1,hv1⟩:=o6 hy;obtain⟨v2,hv2⟩:=kx hy;rw[hv1,hv2]
    cases F (s.kind=1)<;>cases F (s.kind=3)<;>cases F (s.kind=2)<;>cases F (s.kind=4)<;>cases F (s.place=⟨#[]⟩)<;>exact⟨_,rfl⟩
theorem Zb3(h:cD n)(aE:C au)(a b:ByteArray)(t:Int):sQ n aE a b t=fN n aE a b t:=by
 have e:T (rZ n aE b) V (t,a,0)=T (dY n aE b) V (a,t,0):=by
  refine NA (f:=dY n aE b) (λs:ByteArray×Int×Int=>(s.2.1,s.1,s.2.2)) (λs=>?_) V (a,t,0)
  unfold rZ dY;simp only
  cases F (s.2.2<(E aE:Int))with
  |false=>rfl
  |true=>
   simp only[Yw]
   cases hg:K aE s.2.2 with
   |none=>rfl
   |some y=>
    simp only[Y,(tx h y).1,lI,qm]
    cases eI n y with
    |none=>rfl
    |some c=>
     cases c with
     |false=>rfl
     |true=>
      simp only[Y,VX,Yx]
      cases K n.aC y.bq with
      |none=>rfl
      |some g=>
       simp only[Y]
       grind
 unfold sQ fN;rw[(iu h).1,(cV h).1,sr,e]
theorem AA(h:cD n){aE:C au}(hw:E aE<=1048576)(a b:ByteArray)(t:Int):∃r,fN n aE a b t=u r:=by
 obtain⟨_,b1,hb⟩:=iu h;have hp:=(cV h).2;have uP:=dR n;have hl:=h.aC;have e:∃o,T (dY n aE b) V (a,t,0)=u o:=by
  refine yD (λk s=>∃i:R,i+k=E aE/\s.2.2=(i:Int)) ?_ V (E aE) _ ⟨0,Z,rfl⟩ YF
  rintro k ⟨p,r,s⟩ ⟨i,hi,hs⟩;simp only at hs
  subst hs;unfold dY
  rcases Wu i (E aE) with bD|Cz
  ·have hw:=bz bD Z
   have hg:K aE (i:Int)=u aE[i]:=by rw[aS];simp
   obtain⟨_,c,hc⟩:=tx h aE[i];simp only[Yi (show(i:Int)<E aE by omega),Yw,hg,Y,hc,hw]
   cases c with
   |false=>simp
   |true=>
    obtain⟨y,hy⟩:=Pm h hc;obtain⟨v1,hv1⟩:=o6 hy;obtain⟨v2,hv2⟩:=kx hy;simp only[hy,hv1,hv2,Y,VX,Yx]
    cases F (y.ar=p)with
    |false=>simp
    |true=>
     simp only[VX,Yx]
     cases F (v1<r)with
     |true=>simp
     |false=>exact⟨_,rfl,λs' e=>by cases e;exact⟨k-1,Z,i+1,Z,rfl⟩⟩
  ·simp only[Yt (show ¬(i:Int)<E aE by omega),Yx]
   simp
 obtain⟨o,ho⟩:=e;unfold fN;rw[hp,hb];simp only[Y,qW (show(aj n).length<=4194304 by omega),ho]
 grind
def nA(w:aw)(id:Int)(y1:ay)(s0:ByteArray×Int):D ((ByteArray×Int)⊕(ByteArray⊕Bool)):=
 d (F (s0.2<(E y1.aE:Int)))
 (G (K y1.aE s0.2) λy9=>
 G (db w.aa y9) λdO=>
 d (!dO)
 (u (.inr (.inr J)))
 (G (nz w id y9) λlJ=>
 d (!lJ)
 (u (.inr (.inr J)))
 (G (jc y1) λlA=>
 d (F (lA<=s0.2))
 (G (fT w.ak y9) λqi=>
 d qi
 (u (.inr (.inr J)))
 (G (K w.aa.aC y9.bq) λoY=>
 d (F (oY.aZ=y1.aZ))
 (d (F (s0.2<(O ((E y1.aE:Int)-1))))
 (u (.inr (.inr J)))
 (u (.inl (oY.aZ,(O (s0.2+1))))))
 (u (.inl (oY.aZ,(O (s0.2+1)))))))
 (G (K w.aa.aC y9.bq) λrT=>
 d (F (rT.aZ=y1.aZ))
 (d (F (s0.2<(O ((E y1.aE:Int)-1))))
 (u (.inr (.inr J)))
 (u (.inl (rT.aZ,(O (s0.2+1))))))
 (u (.inl (rT.aZ,(O (s0.2+1)))))))))
 (u (.inr (.inl s0.1)))
instance (w:aw)(id:Int)(y1:ay):bm (nA w id y1):=⟨λs0=>(.un::L id::.un::.be 0 0 0::(U 3 (.be 1 0 0::vs s0.1::(U 65 (.sl (y1.aE.map bg)::L (E y1.aE:Int)::L s0.2::(U 65 [])))))),λs0=>[u ⟨.of 33,10,[cL w]⟩,u ⟨.of 63,11,[[vs y1.ar,vs y1.aZ,L y1.ax,L y1.ah,L y1.aQ,L y1.fc,.sl (y1.aE.map bg),L y1.aH,L y1.state,vs y1.place,L y1.bK]]⟩]⟩
def qG(w:aw)(id:Int)(places:C ByteArray):D Bool:=
 G (K w.ae (O (id-1))) λy1=>
 d (F (y1.ar=y1.aZ))
 (u J)
 (G (bQ places y1.ar) λy2=>
 d (F (y2<0))
 (u J)
 (G (bQ places y1.aZ) λy3=>
 d (F (y3<0))
 (u J)
 (G (ba y1.ax 1 3) λy4=>
 d (!y4)
 (u J)
 (G (ba y1.ah 1 30000) λy5=>
 d (!y5)
 (u J)
 (G (ba y1.aQ 0 w.now) λy6=>
 d (!y6)
 (u J)
 (G (ba y1.fc 0 200000) λy7=>
 d (!y7)
 (u J)
 (G (ba y1.aH 0 (E y1.aE:Int)) λy8=>
 d (!y8)
 (u J)
 ((T (nA w id y1) V (y1.ar,0)).bind (bj (λo0=>
 G (sQ w.aa y1.aE y1.ar o0 (O (y1.aQ+1))) λpI=>
 d pI
 (G (qH w y1) λtE=>
 u tE)
 (u J)) (λr=>u r))))))))))
instance (w:aw)(id:Int)(places:C ByteArray):CT prog (qG w id places):=⟨93,[.ag (cL w),L id,.sl (places.map jQ)],[],λr=>vb r,λr=>[],cw (qG.eq_1 ..) func93 ntmps93 results93⟩
def ml(w:aw)(i:Int)(y1:ay)(s0:ByteArray×Int):D ((ByteArray×Int)⊕(ByteArray⊕Bool)):=
 d (F (s0.2<(E y1.aE:Int)))
 (G (K y1.aE s0.2) λdO=>
 G (K y1.aE s0.2) λlJ=>
 G (cN w.aa dO.bq lJ.day) λlA=>
 d (!lA)
 (u (.inr (.inr J)))
 (G (K y1.aE s0.2) λqi=>
 G (oT w.av (O (i+1)) qi y1.ah) λoY=>
 d (!oY)
 (u (.inr (.inr J)))
 (G (K y1.aE s0.2) λrT=>
 G (K w.aa.aC rT.bq) λpI=>
 d (F (pI.aZ=y1.aZ))
 (d (F ((O (s0.2+1))<(E y1.aE:Int)))
 (u (.inr (.inr J)))
 (u (.inl (pI.aZ,(O (s0.2+1))))))
 (u (.inl (pI.aZ,(O (s0.2+1))))))))
 (u (.inr (.inl s0.1)))
instance (w:aw)(i:Int)(y1:ay):bm (ml w i y1):=⟨λs0=>(.un::L i::.be 0 0 0::.un::.un::.be 1 0 0::.be 2 0 0::.un::vs s0.1::L s0.2::(U 162 [])),λs0=>[u ⟨.of 33,10,[cL w]⟩,u ⟨.of 27,3,[aT w.aa]⟩,u ⟨.of 63,11,[[vs y1.ar,vs y1.aZ,L y1.ax,L y1.ah,L y1.aQ,L y1.fc,.sl (y1.aE.map bg),L y1.aH,L y1.state,vs y1.place,L y1.bK]]⟩]⟩
def ka(w:aw)(y1:ay)(s1:Int):D (Int⊕(M⊕Bool)):=
 d (F (s1<(E y1.aE:Int)))
 (G (K y1.aE s1) λFh=>
 G (dZ w.ak Fh) λIp=>
 d Ip
 (u (.inr (.inr J)))
 (u (.inl (O (s1+1)))))
 (u (.inr (.inl ())))
instance (w:aw)(y1:ay):bm (ka w y1):=⟨λs1=>(.un::.un::.be 0 0 0::(U 3 (.be 1 0 0::(U 3 (L s1::(U 161 [])))))),λs1=>[u ⟨.of 33,10,[cL w]⟩,u ⟨.of 63,11,[[vs y1.ar,vs y1.aZ,L y1.ax,L y1.ah,L y1.aQ,L y1.fc,.sl (y1.aE.map bg),L y1.aH,L y1.state,vs y1.place,L y1.bK]]⟩]⟩
def pY(w:aw)(i:Int):D Bool:=
 G (K w.ae i) λy1=>
 G (dm w.aa) λy2=>
 G (cy y2 y1.ar) λy3=>
 d (F (y3<0))
 (u J)
 (G (cy y2 y1.aZ) λy4=>
 d (F (y4<0))
 (u J)
 (d (F (y1.ar=y1.aZ))
 (u J)
 (G (bh y1.ax 1 3) λy5=>
 d (!y5)
 (u J)
 (G (bh y1.ah 1 30000) λy6=>
 d (!y6)
 (u J)
 (G (bh y1.aQ 0 w.now) λy7=>
 d (!y7)
 (u J)
 (G (bh y1.fc 0 200000) λy8=>
 d (!y8)
 (u J)
 (G (bh y1.aH 0 (E y1.aE:Int)) λy9=>
 d (!y9)
 (u J)
 ((T (ml w i y1) V (y1.ar,0)).bind (bj (λo0=>
 G (fN w.aa y1.aE y1.ar o0 (O (y1.aQ+1))) λtE=>
 d (!tE)
 (u J)
 (G (cA w.aa y1 w.now) λxT=>
 d (!xT)
 (u J)
 (G (ga y1) λzf=>
 (T (ka w y1) V zf).bind (bj (λo1=>
 u S) (λr=>u r))))) (λr=>u r))))))))))
instance (w:aw)(i:Int):CT prog (pY w i):=⟨199,[.ag (cL w),L i],[],λr=>vb r,λr=>[],cw (pY.eq_1 ..) func199 ntmps199 results199⟩
def ni(w:aw)(s0:Int):D (Int⊕(M⊕Bool)):=
 d (F (s0<(E w.ak:Int)))
 (G (K w.ak s0) λy4=>
 G (db w.aa y4) λy5=>
 d (!y5)
 (u (.inr (.inr J)))
 (G (cf (iq 0 s0 (E w.ak))) λ_=>
 G (fT (da w.ak 0 s0) y4) λy6=>
 d y6
 (u (.inr (.inr J)))
 (u (.inl (O (s0+1))))))
 (u (.inr (.inl ())))
instance (w:aw):bm (ni w):=⟨λs0=>(.un::.be 0 0 0::.un::.be 1 0 0::(U 55 (.sl (w.ak.map bg)::L (E w.ak:Int)::L s0::(U 63 [])))),λs0=>[u ⟨.of 33,10,[cL w]⟩,u ⟨.of 27,3,[aT w.aa]⟩]⟩
def nj(w:aw)(s1:Int):D (Int⊕(M⊕Bool)):=
 d (F (s1<(E w.aL:Int)))
 (G (K w.aL s1) λy7=>
 G (gI w.aa y7) λy8=>
 d (!y8)
 (u (.inr (.inr J)))
 (d (F (w.now<y7.aQ))
 (u (.inr (.inr J)))
 (u (.inl (O (s1+1))))))
 (u (.inr (.inl ())))
instance (w:aw):bm (nj w):=⟨λs1=>(.un::.be 0 0 0::.un::.be 1 0 0::(U 76 (.sl (w.aL.map bA)::L (E w.aL:Int)::L s1::(U 42 [])))),λs1=>[u ⟨.of 33,10,[cL w]⟩,u ⟨.of 27,3,[aT w.aa]⟩]⟩
def nk(w:aw)(y9:C ByteArray)(s2:Int×Int):D ((Int×Int)⊕(Int⊕Bool)):=
 d (F (s2.2<(E w.ae:Int)))
 (G (K w.ae s2.2) λdO=>
 G (qG w (O (s2.2+1)) y9) λlJ=>
 d (!lJ)
 (u (.inr (.inr J)))
 (u (.inl ((O (s2.1+(E dO.aE:Int))),(O (s2.2+1))))))
 (u (.inr (.inl s2.1)))
instance (w:aw)(y9:C ByteArray):bm (nk w y9):=⟨λs2=>(.un::.be 0 0 0::(U 6 (.ms 1::L s2.1::(U 91 (.sl (w.ae.map bx)::L (E w.ae:Int)::L s2.2::(U 21 [])))))),λs2=>[u ⟨.of 33,10,[cL w]⟩,u ⟨.of 9,1,y9.map jQ⟩]⟩
def fR(w:aw):D Bool:=
 G (iB w.aa w.av) λy1=>
 d (!y1)
 (u J)
 (G (ba w.now 0 100000) λy2=>
 d (!y2)
 (u J)
 (d (F (30<(E w.ae:Int)))
 (u J)
 (d (F (20<(E w.ak:Int)))
 (u J)
 (d (F (200<(E w.aL:Int)))
 (u J)
 (d (F (50<(E w.skip:Int)))
 (u J)
 (G (ba w.br (E w.aL:Int) 1000000000) λy3=>
 d (!y3)
 (u J)
 ((T (ni w) V 0).bind (bj (λo0=>
 (T (nj w) V 0).bind (bj (λo1=>
 G (di w.aa) λy9=>
 (T (nk w y9) V (0,0)).bind (bj (λo2=>
 u (F (o2=(E w.av:Int)))) (λr=>u r))) (λr=>u r))) (λr=>u r)))))))))
instance (w:aw):CT prog (fR w):=⟨28,[.ag (cL w)],[],λr=>vb r,λr=>[],cw (fR.eq_1 ..) func28 ntmps28 results28⟩
def nJ(w:aw)(s0:Int):D (Int⊕(M⊕Bool)):=
 d (F (s0<(E w.ak:Int)))
 (G (K w.ak s0) λy4=>
 G (K w.ak s0) λy5=>
 G (cN w.aa y4.bq y5.day) λy6=>
 d (!y6)
 (u (.inr (.inr J)))
 (G (cf (iq 0 s0 (E w.ak))) λ_=>
 G (K w.ak s0) λy7=>
 G (dZ (da w.ak 0 s0) y7) λy8=>
 d y8
 (u (.inr (.inr J)))
 (u (.inl (O (s0+1))))))
 (u (.inr (.inl ())))
instance (w:aw):bm (nJ w):=⟨λs0=>(.un::.be 0 0 0::.un::L s0::(U 135 [])),λs0=>[u ⟨.of 33,10,[cL w]⟩]⟩
def nK(w:aw)(s1:Int):D (Int⊕(M⊕Bool)):=
 d (F (s1<(E w.aL:Int)))
 (G (K w.aL s1) λy9=>
 G (cz w.aa y9) λdO=>
 d (!dO)
 (u (.inr (.inr J)))
 (G (K w.aL s1) λlJ=>
 d (F (w.now<lJ.aQ))
 (u (.inr (.inr J)))
 (u (.inl (O (s1+1))))))
 (u (.inr (.inl ())))
instance (w:aw):bm (nK w):=⟨λs1=>(.un::.be 0 0 0::.un::.un::L s1::(U 134 [])),λs1=>[u ⟨.of 33,10,[cL w]⟩]⟩
def nL(w:aw)(s2:Int×Int):D ((Int×Int)⊕(Int⊕Bool)):=
 d (F (s2.2<(E w.ae:Int)))
 (G (pY w s2.2) λlA=>
 d (!lA)
 (u (.inr (.inr J)))
 (G (K w.ae s2.2) λqi=>
 u (.inl ((O (s2.1+(E qi.aE:Int))),(O (s2.2+1))))))
 (u (.inr (.inl s2.1)))
instance (w:aw):bm (nL w):=⟨λs2=>(.un::.be 0 0 0::(U 3 (L s2.1::L s2.2::(U 132 [])))),λs2=>[u ⟨.of 33,10,[cL w]⟩]⟩
def gH(w:aw):D Bool:=
 G (fG w.aa w.av) λy1=>
 d (!y1)
 (u J)
 (G (bh w.now 0 100000) λy2=>
 d (!y2)
 (u J)
 (d (F (30<(E w.ae:Int)))
 (u J)
 (d (F (20<(E w.ak:Int)))
 (u J)
 (d (F (200<(E w.aL:Int)))
 (u J)
 (d (F (50<(E w.skip:Int)))
 (u J)
 (G (bh w.br (E w.aL:Int) 1000000000) λy3=>
 d (!y3)
 (u J)
 ((T (nJ w) V 0).bind (bj (λo0=>
 (T (nK w) V 0).bind (bj (λo1=>
 (T (nL w) V (0,0)).bind (bj (λo2=>
 u (F (o2=(E w.av:Int)))) (λr=>u r))) (λr=>u r))) (λr=>u r)))))))))
instance (w:aw):CT prog (gH w):=⟨137,[.ag (cL w)],[],λr=>vb r,λr=>[],cw (gH.eq_1 ..) func137 ntmps137 results137⟩
def lM(l:C bH)(bb:Int)(s0:Int):D (Int⊕(M⊕Bool)):=
 d (F (s0<(E l:Int)))
 ((jn 3 12 (
 G (K l s0) λy1=>
 d (F (y1.pG<0))
 (u (.inr J))
 (d (F (bb<=y1.pG))
 (u (.inr J))
 (G (ba y1.ax 1 3) λy2=>
 d (!y2)
 (u (.inr J))
 (G (ba y1.qo 1 1000000000) λy3=>
 d (!y3)
 (u (.inr J))
 (G (ba y1.nQ 0 100000) λy4=>
 d (!y4)
 (u (.inr J))
 (d (F (s0=0))
 (u (.inl ()))
 (G (K l (O (s0-1))) λy5=>
 G (cP y5.pG y1.pG) λy6=>
 G (cP y5.ax y1.ax) λy7=>
 G (cP y5.qo y1.qo) λy8=>
 G (ld ([y6,y7,y8])) λy9=>
 d (F (0<=y9))
 (u (.inr J))
 (d (F (y5.pG=y1.pG))
 (d (F (y5.ax=y1.ax))
 (d (F (y1.nQ<y5.nQ))
 (u (.inr J))
 (u (.inl ())))
 (u (.inl ())))
 (u (.inl ()))))))))):D (M⊕Bool)) (λz10=>(.sl (l.map dK)::L bb::(U 6 (.sl (l.map dK)::L (E l:Int)::L s0::(U 79 []))))) (λz10=>[])).bind (bj (λz10=>
 u (.inl (O (s0+1)))) (λr=>u (.inr (.inr r)))))
 (u (.inr (.inl ())))
instance (l:C bH)(bb:Int):bm (lM l bb):=⟨λs0=>(.sl (l.map dK)::L bb::(U 6 (.sl (l.map dK)::L (E l:Int)::L s0::(U 79 [])))),λs0=>[]⟩
def mP(l:C bH)(bb:Int):D Bool:=
 (T (lM l bb) V 0).bind (bj (λo0=>
 u (F ((E l:Int)<=24))) (λr=>u r))
instance (l:C bH)(bb:Int):CT prog (mP l bb):=⟨30,[.sl (l.map dK),L bb],[],λr=>vb r,λr=>[],cw (mP.eq_1 ..) func30 ntmps30 results30⟩
def qp(bd:C bH)(p:aP)(y4:Int)(s0:Int):D (Int⊕(M⊕(Int×Bool))):=
 d (F (s0<(E bd:Int)))
 ((jn 6 9 (
 G (K bd s0) λy5=>
 d (F (y5.pG=y4))
 (d (F (y5.ax=p.label.ax))
 (G (jy p) λy6=>
 d (F (y6<=y5.qo))
 (u (.inr (y5.nQ,S)))
 (u (.inl ())))
 (u (.inl ())))
 (u (.inl ())):D (M⊕(Int×Bool))) (λz7=>(U 5 (.be 0 0 0::.un::.un::L y4::(U 22 (.sl (bd.map dK)::L (E bd:Int)::L s0::(U 25 [])))))) (λz7=>[u ⟨.of 58,7,[[L p.label.ax,L p.label.bU,vs p.label.aZ,vs p.ar,L p.ah,.sl (p.bJ.map aW),L p.value]]⟩])).bind (bj (λz7=>
 u (.inl (O (s0+1)))) (λr=>u (.inr (.inr r)))))
 (u (.inr (.inl ())))
instance (bd:C bH)(p:aP)(y4:Int):bm (qp bd p y4):=⟨λs0=>(U 5 (.be 0 0 0::.un::.un::L y4::(U 22 (.sl (bd.map dK)::L (E bd:Int)::L s0::(U 25 []))))),λs0=>[u ⟨.of 58,7,[[L p.label.ax,L p.label.bU,vs p.label.aZ,vs p.ar,L p.ah,.sl (p.bJ.map aW),L p.value]]⟩]⟩
def lV(bb:C cB)(bd:C bH)(p:aP):D (Int×Bool):=
 G (kI bb) λy1=>
 d (!y1)
 (u (0,J))
 (G (mP bd (E bb:Int)) λy2=>
 d (!y2)
 (u (0,J))
 (G (iv p) λy3=>
 d (!y3)
 (u (0,J))
 (G (rK bb p.label.aZ) λy4=>
 (T (qp bd p y4) V 0).bind (bj (λo0=>
 u (0,J)) (λr=>u r)))))
instance (bb:C cB)(bd:C bH)(p:aP):CT prog (lV bb bd p):=⟨33,[.sl (bb.map dV),.sl (bd.map dK),.ag (cd p)],[],λr=>.tu [L r.1,vb r.2],λr=>[],cw (lV.eq_1 ..) func33 ntmps33 results33⟩
def jE(w:aw)(s0:Int×Int):D ((Int×Int)⊕Int):=
 d (F (s0.1<(E w.ae:Int)))
 (G (K w.ae s0.1) λy2=>
 d (F (y2.aH=(E y2.aE:Int)))
 (u (.inl ((O (s0.1+1)),s0.2)))
 (G (K y2.aE y2.aH) λy3=>
 G (bp w.aa y3) λy4=>
 d (F (y2.state=2))
 (G (K y2.aE y2.aH) λy5=>
 G (bo w.aa y5) λy6=>
 d (F (s0.2<0))
 (u (.inl ((O (s0.1+1)),y6)))
 (d (F (y6<s0.2))
 (u (.inl ((O (s0.1+1)),y6)))
 (u (.inl ((O (s0.1+1)),s0.2)))))
 (d (F (s0.2<0))
 (u (.inl ((O (s0.1+1)),y4)))
 (d (F (y4<s0.2))
 (u (.inl ((O (s0.1+1)),y4)))
 (u (.inl ((O (s0.1+1)),s0.2)))))))
 (u (.inr s0.2))
instance (w:aw):bm (jE w):=⟨λs0=>(.un::.be 0 0 0::.un::L s0.2::L s0.1::(U 54 [])),λs0=>[u ⟨.of 33,10,[cL w]⟩]⟩
def oR(w:aw):D Int:=
 G (gH w) λy1=>
 d (!y1)
 (u (-1))
 ((T (jE w) V (0,(-1))).bind (λo0=>
 u o0))
instance (w:aw):CT prog (oR w):=⟨212,[.ag (cL w)],[],λr=>L r,λr=>[],cw (oR.eq_1 ..) func212 ntmps212 results212⟩
def mA(l:C Int)(s0:Int):D (Int⊕(M⊕Bool)):=
 d (F (s0<(E l:Int)))
 ((jn 3 6 (
 G (K l s0) λy1=>
 G (ba y1 0 100) λy2=>
 d (!y2)
 (u (.inr J))
 (d (F (0<s0))
 (G (K l (O (s0-1))) λy3=>
 d (F (y1<y3))
 (u (.inr J))
 (u (.inl ())))
 (u (.inl ()))):D (M⊕Bool)) (λz4=>(.sl (l.map aW)::(U 4 (.sl (l.map aW)::L (E l:Int)::L s0::(U 24 []))))) (λz4=>[])).bind (bj (λz4=>
 u (.inl (O (s0+1)))) (λr=>u (.inr (.inr r)))))
 (u (.inr (.inl ())))
instance (l:C Int):bm (mA l):=⟨λs0=>(.sl (l.map aW)::(U 4 (.sl (l.map aW)::L (E l:Int)::L s0::(U 24 [])))),λs0=>[]⟩
def fE(l:C Int):D Bool:=
 (T (mA l) V 0).bind (bj (λo0=>
 G (ba (E l:Int) 1 6) λy5=>
 u y5) (λr=>u r))
theorem zN(l:C Int)(H:fE l=u r):eh prog 31 [.sl (l.map aW)] [] (vb r) []:=by
 replace H:=H0 H;unfold fE at H
 refine je func31 rfl ntmps31 results31 λQ hQ Kf=>?_
 exact LA
instance (l:C Int):CT prog (fE l):=⟨31,[.sl (l.map aW)],[],λr=>vb r,λr=>[],zN l⟩
def oF(qy:Int)(fc:Int)(bK:Int)(aU:C Int):D Int:=
 G (fE aU) λy1=>
 d (!y1)
 (u 0)
 (G (ba qy 0 100000) λy2=>
 d (!y2)
 (u 0)
 (G (ba fc 0 200000) λy3=>
 d (!y3)
 (u 0)
 (G (ba bK 0 200000) λy4=>
 d (!y4)
 (u 0)
 (d (F (bK<=fc))
 (u 0)
 (G (K aU (if(O ((E aU:Int)-1))<(IntKind.i64.wrap (Xf (O ((O (bK-fc))-1)) 1440))then(O ((E aU:Int)-1))else(IntKind.i64.wrap (Xf (O ((O (bK-fc))-1)) 1440)))) λy5=>
 u (IntKind.i64.wrap (Xf (O (qy*y5)) 100)))))))
instance (qy:Int)(fc:Int)(bK:Int)(aU:C Int):CT prog (oF qy fc bK aU):=⟨180,[L qy,L fc,L bK,.sl (aU.map aW)],[],λr=>L r,λr=>[],cw (oF.eq_1 ..) func180 ntmps180 results180⟩
def mC(l:C Int)(s0:Int):D (Int⊕(M⊕Bool)):=
 d (F (s0<(E l:Int)))
 ((jn 4 3 (
 G (K l s0) λy1=>
 G (bh y1 0 100) λy2=>
 d (!y2)
 (u (.inr J))
 (d (F (0<s0))
 (G (K l (O (s0-1))) λy3=>
 G (K l s0) λy4=>
 d (F (y4<y3))
 (u (.inr J))
 (u (.inl ())))
 (u (.inl ()))):D (M⊕Bool)) (λz5=>(.sl (l.map aW)::.un::.un::L s0::(U 31 []))) (λz5=>[])).bind (bj (λz5=>
 u (.inl (O (s0+1)))) (λr=>u (.inr (.inr r)))))
 (u (.inr (.inl ())))
instance (l:C Int):bm (mC l):=⟨λs0=>(.sl (l.map aW)::.un::.un::L s0::(U 31 [])),λs0=>[]⟩
def fH(l:C Int):D Bool:=
 (T (mC l) V 0).bind (bj (λo0=>
 G (bh (E l:Int) 1 6) λy6=>
 u y6) (λr=>u r))
theorem zO(l:C Int)(H:fH l=u r):eh prog 140 [.sl (l.map aW)] [] (vb r) []:=by
 replace H:=H0 H;unfold fH at H
 refine je func140 rfl ntmps140 results140 λQ hQ Kf=>?_
 exact LA
instance (l:C Int):CT prog (fH l):=⟨140,[.sl (l.map aW)],[],λr=>vb r,λr=>[],zO l⟩
