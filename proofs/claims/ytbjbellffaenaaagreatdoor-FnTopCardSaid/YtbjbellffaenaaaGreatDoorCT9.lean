/- A part of the proof of this claim's last theorem. No condition. -/
import Derived.Test.YtbjbellffaenaaaGreatDoorCT4
import Derived.Sort.LotA
import Derived.Shelf.SlSortFuncK.RowK2
import Derived.Shelf.GgSortFunc.SmallK
import Derived.Lib.Split
import Derived.Lib.CountLaws
import Derived.Lib.AtoiAll
set_option linter.all false
set_option maxRecDepth 100000
open Go.Value renaming int->Y
open Go.IntKind renaming i64->Z
open Go renaming undef->Zj
open Option renaming some->G,none->J
open Bool renaming true->M,false->S
open Decidable renaming decide->K
open List renaming length->R
open Option renaming bind->V
open _root_ renaming Array->E,ByteArray->N,List->z,Option->O,UInt8->L,cond->F
open Go.Proofs.YtbjbellffaenaaaGreatDoor renaming YA->C
open Go.Proofs.Tryz
set_option maxHeartbeats 40000000
open Bool renaming and_eq_true->V7,not_eq_true'->Ww
open List renaming length_cons->V0,foldl_cons->Wq,getD_eq_getElem?_getD->Yd,mem_of_getElem?->VU,range->Wj,range_succ->X9,map_append->Xv,sum_append->Ya,map_cons->WM,sum_cons->Xo,length_nil->V2,mem_cons_of_mem->Wl,mem_singleton->Wh
open Option renaming getD_some->W9,map_eq_some_iff->Wc
open Nat renaming lt_or_ge->Wu,le_refl->VW,lt_trichotomy->WQ,le_trans->Wd,lt_of_lt_of_le->Wn,zero_add->Wa
open _root_.Array renaming getElem?_eq_none->XE,getElem?_eq_some_iff->V6
namespace Go.Proofs.YtbjbellffaenaaaGreatDoor
open Go.RowKit
variable {i:Nat}
def ca(n:ab)(t:au):O Int:=
 V (az n.aC t.bq) λy1=>
 G (aJ ((aJ (t.day*1440))+y1.start))
instance (n:ab)(t:au):CT prog (ca n t):=⟨50,[.ag (aT n),.ag (bg t)],[],λr=>vi r,λr=>[],cw (ca.eq_1 ..) func50 ntmps50 results50⟩
def cE(n:ab)(t:au):O Int:=
 V (ca n t) λy1=>
 V (az n.aC t.bq) λy2=>
 G (aJ (y1+y2.o8))
instance (n:ab)(t:au):CT prog (cE n t):=⟨57,[.ag (aT n),.ag (bg t)],[],λr=>vi r,λr=>[],cw (cE.eq_1 ..) func57 ntmps57 results57⟩
def se(l:z Int)(x:Int)(s0:Int):O (Int⊕(Unit⊕Bool)):=
 F (K (s0<(R l:Int)))
 (V (az l s0) λy1=>
 F (K (y1=x))
 (G (.inr (.inr M)))
 (G (.inl (aJ (s0+1)))))
 (G (.inr (.inl ())))
instance (l:z Int)(x:Int):bm (se l x):=⟨λs0=>(.sl (l.map aW)::vi x::(U 3 (vi s0::(U 12 [])))),λs0=>[]⟩
def lk(l:z Int)(x:Int):O Bool:=
 (aB (se l x) NN 0).bind (bj (λo0=>
 G S) (λr=>G r))
instance (l:z Int)(x:Int):CT prog (lk l x):=⟨246,[.sl (l.map aW),vi x],[],λr=>vb r,λr=>[],cw (lk.eq_1 ..) func246 ntmps246 results246⟩
def cN(n:ab)(bq:Int)(day:Int):O Bool:=
 V (bh bq 0 (aJ ((R n.aC:Int)-1))) λy1=>
 F y1
 (V (bh day 0 60) λy2=>
 F y2
 (V (az n.aC bq) λy3=>
 V (cf (K (0<=(Int.tmod day 7)))) λ_=>
 F (K ((IntKind.i64.wrap (BitVec.ofInt IntKind.i64.bits (Int.fdiv y3.yr (2 ^ (min (Int.toNat (Int.tmod day 7)) IntKind.i64.bits))) &&& BitVec.ofInt IntKind.i64.bits 1).toNat)=1))
 (V (lk n.off day) λy4=>
 G (!y4))
 (G S))
 (G S))
 (G S)
instance (n:ab)(bq:Int)(day:Int):CT prog (cN n bq day):=⟨196,[.ag (aT n),vi bq,vi day],[],λr=>vb r,λr=>[],cw (cN.eq_1 ..) func196 ntmps196 results196⟩
def eR(l:z aq)(t:au)(s0:Int×Int):O ((Int×Int)⊕Int):=
 F (K (s0.2<(R l:Int)))
 (V (az l s0.2) λy1=>
 F (K (y1.aN=t))
 (V (az l s0.2) λy2=>
 G (.inl ((aJ (s0.1+y2.ah)),(aJ (s0.2+1)))))
 (G (.inl (s0.1,(aJ (s0.2+1))))))
 (G (.inr s0.1))
instance (l:z aq)(t:au):bm (eR l t):=⟨λs0=>(.sl (l.map aG)::.un::.un::.be 0 0 0::.un::vi s0.1::vi s0.2::(U 21 [])),λs0=>[G ⟨.of 48,2,[[vi t.bq,vi t.day]]⟩]⟩
def eJ(l:z aq)(t:au):O Int:=
 (aB (eR l t) NN (0,0)).bind (λo0=>
 G o0)
instance (l:z aq)(t:au):CT prog (eJ l t):=⟨245,[.sl (l.map aG),.ag (bg t)],[],λr=>vi r,λr=>[],cw (eJ.eq_1 ..) func245 ntmps245 results245⟩
def qH(w:aw)(o:ay):O Bool:=
 F (K (0<o.aH))
 (V (az o.aE (aJ (o.aH-1))) λy1=>
 V (cE w.aa y1) λy2=>
 F (K (w.now<y2))
 (G S)
 (V (az w.aa.aC y1.bq) λy3=>
 F (K (o.state=1))
 (F (K (o.place=y3.aZ))
 (F (!decide (y3.aZ=o.aZ))
 (F (K (o.bK=0))
 (F (K (o.aH=(R o.aE:Int)))
 (G M)
 (V (az o.aE o.aH) λy4=>
 V (ca w.aa y4) λy5=>
 G (K (w.now<y5))))
 (G S))
 (G S))
 (G S))
 (F (K (o.state=2))
 (F (K (o.place=⟨#[]⟩))
 (F (K (o.bK=0))
 (F (K (o.aH<(R o.aE:Int)))
 (V (az o.aE o.aH) λy6=>
 V (ca w.aa y6) λy7=>
 F (K (y7<=w.now))
 (V (az o.aE o.aH) λy8=>
 V (cE w.aa y8) λy9=>
 G (K (w.now<y9)))
 (G S))
 (G S))
 (G S))
 (G S))
 (F (K (o.state=3))
 (F (K (o.aH=(R o.aE:Int)))
 (F (K (0<o.aH))
 (F (K (o.place=o.aZ))
 (F (K (y3.aZ=o.aZ))
 (V (az o.aE (aJ (o.aH-1))) λdO=>
 V (cE w.aa dO) λlJ=>
 G (K (o.bK=lJ)))
 (G S))
 (G S))
 (G S))
 (G S))
 (G S)))))
 (F (K (o.state=1))
 (F (K (o.place=o.ar))
 (F (!decide (o.ar=o.aZ))
 (F (K (o.bK=0))
 (F (K (o.aH=(R o.aE:Int)))
 (G M)
 (V (az o.aE o.aH) λlA=>
 V (ca w.aa lA) λqi=>
 G (K (w.now<qi))))
 (G S))
 (G S))
 (G S))
 (F (K (o.state=2))
 (F (K (o.place=⟨#[]⟩))
 (F (K (o.bK=0))
 (F (K (o.aH<(R o.aE:Int)))
 (V (az o.aE o.aH) λoY=>
 V (ca w.aa oY) λrT=>
 F (K (rT<=w.now))
 (V (az o.aE o.aH) λpI=>
 V (cE w.aa pI) λtE=>
 G (K (w.now<tE)))
 (G S))
 (G S))
 (G S))
 (G S))
 (F (K (o.state=3))
 (F (K (o.aH=(R o.aE:Int)))
 (F (K (0<o.aH))
 (F (K (o.place=o.aZ))
 (F (K (o.ar=o.aZ))
 (V (az o.aE (aJ (o.aH-1))) λxT=>
 V (cE w.aa xT) λzf=>
 G (K (o.bK=zf)))
 (G S))
 (G S))
 (G S))
 (G S))
 (G S))))
instance (w:aw)(o:ay):CT prog (qH w o):=⟨161,[.ag (cL w),.ag (bx o)],[],λr=>vb r,λr=>[],cw (qH.eq_1 ..) func161 ntmps161 results161⟩
def qu(l:z N)(p:N)(s0:Int):O (Int⊕(Unit⊕Int)):=
 F (K (s0<(R l:Int)))
 (V (az l s0) λy1=>
 F (K (y1=p))
 (G (.inr (.inr s0)))
 (G (.inl (aJ (s0+1)))))
 (G (.inr (.inl ())))
instance (l:z N)(p:N):bm (qu l p):=⟨λs0=>(.sl (l.map jQ)::vs p::(U 3 (vi s0::(U 13 [])))),λs0=>[]⟩
def cy(l:z N)(p:N):O Int:=
 (aB (qu l p) NN 0).bind (bj (λo0=>
 G (-1)) (λr=>G r))
instance (l:z N)(p:N):CT prog (cy l p):=⟨247,[.sl (l.map jQ),vs p],[],λr=>vi r,λr=>[],cw (cy.eq_1 ..) func247 ntmps247 results247⟩
structure Ln where
 o:Int
 k:Int
 a:Int
 t:Int
variable {b:z Ln}{x:Ln}
instance :eZ Ln where
 cells x:=[I x.o,I x.k,I x.a,I x.t]
 k:=4
 len _:=rfl
 pos:=by decide
 one:=by simp[Value.oneCell',I]
theorem Rd.ln{w:World}{B:Nat}{A:O Addr}{xs:z Ln}(h:Rd w B A xs)(hx:xs[i]?=G x):
 ∃b off,A=G ⟨b,off,J⟩/\b<B/\w.cell? ⟨b,off+i*4,J⟩=G (I x.o)/\w.cell? ⟨b,off+i*4+1,J⟩=G (I x.k)/\w.cell? ⟨b,off+i*4+2,J⟩=G (I x.a)/\w.cell? ⟨b,off+i*4+3,J⟩=G (I x.t):=by
 obtain⟨b,off,e,hb,hc⟩:=h.aQ hx;exact⟨b,off,e,hb,hc 0 _ rfl,hc 1 _ rfl,hc 2 _ rfl,hc 3 _ rfl⟩
instance :Inhabited Ln:=⟨⟨0,0,0,0⟩⟩
def x7(n l h:Int):Bool:=K (l<=n)&&K (n<=h)
def rH(o k a t:Int):Bool:=x7 o 1 9999&&x7 k 1 3&&x7 a 1 100000&&x7 t 0 100000
def ZjM(x y:Ln):Bool:=x.o==y.o&&x.k==y.k&&x.a==y.a&&x.t==y.t
theorem Zbk{x y:Ln}:ZjM x y=M↔x=y:=by
 cases x;cases y;simp[ZjM,and_assoc]
instance :DecidableEq Ln:=λ_ _=>decidable_of_iff _ Zbk
def nS(o k:Int)(s:Int)(x:Ln):Int:=if(x.o==o&&x.k==k)=M then wrap64 (s+x.a)else s
def cC(xs:z Ln)(o k:Int):Int:=xs.foldl (nS o k) 0
def vz(xs:z Int)(j:Nat):Bool:=x7 (xs.getD j 0) 0 100&&(K (j=0) ||K (xs.getD (j-1) 0<=xs.getD j 0))
def qv(xs:z Int):Bool:=Bd (R xs) (vz xs)&&x7 (R xs) 1 6
theorem U4{xs:z Int}{x:Int}(hx:xs[i]?=G x)(h:x7 x 0 100=S):vz xs i=false:=by simp[vz,hx,h]
theorem QY{xs:z Int}{x:Int}(h0:i<=0)(hx:xs[i]?=G x)(h:x7 x 0 100=M):vz xs i=true:=by
 obtain rfl:i=0:=C;simp[vz,hx,h]
theorem QX{xs:z Int}{x y:Int}(hy:xs[i]?=G y)(hx:xs[i+1]?=G x)(h:x<y):vz xs (i+1)=false:=by
 simp[vz,hx,hy];omega
theorem ZcA{xs:z Int}{x y:Int}(hy:xs[i]?=G y)(hx:xs[i+1]?=G x)(hb:x7 x 0 100=M)(h:¬x<y):vz xs (i+1)=true:=by
 simp[vz,hx,hy,hb];omega
theorem qA{n l h:Int}(e:x7 n l h=M):l<=n/\n<=h:=by simpa[x7]using e
theorem GP{xs:z Int}(h:qv xs=M):1<=R xs/\(R xs)<=6/\∀(i:Nat) (x:Int),xs[i]?=G x->0<=x/\x<=100:=by
 simp only[qv,V7]at h
 have h2:=qA h.2;refine⟨C,C,λi x hx=>?_⟩
 have h3:=zi.1 h.1 i (I0 hx);simp[vz,hx]at h3
 exact qA h3.1
def ZcB(c x:Int):Int:=wrap64 ((wrap64 (c*x)).tdiv 100)
def G0(qy fc bK:Int)(ps:z Int):Bool:=qv ps&&x7 qy 0 100000&&x7 fc 0 200000&&x7 bK 0 200000&&!decide (bK<=fc)
def sV(fc bK:Int)(ps:z Int):Nat:=if(bK-fc-1) / 1440<(R ps:Int)then((bK-fc-1) / 1440).toNat else (R ps)-1
def uG(qy fc bK:Int)(ps:z Int):Int:=if G0 qy fc bK ps then ZcB qy (ps.getD (sV fc bK ps) 0)else 0
def uD(o k:Int)(s:Int)(x:Ln):Int:=if(x.o==o&&x.k==k)=M then wrap64 (s+1)else s
def Bs(xs:z Ln)(o k:Int):Int:=xs.foldl (uD o k) 0
theorem yo(o k:Int):∀(b:z Ln) (c s:Int),(∀x∈b,1<=x.a/\x.a<=100000)->0<=c->c+R b<=200->c<=s->s<=100000*c->
 0<=b.foldl (uD o k) c/\b.foldl (uD o k) c<=c+R b/\b.foldl (uD o k) c<=b.foldl (nS o k) s/\b.foldl (nS o k) s<=100000*b.foldl (uD o k) c
 | [],c,s,_,h0,hl,h1,h2=>⟨h0,by simp,h1,h2⟩
 |x::b,c,s,ha,h0,hl,h1,h2=>by
  have hx:=ha x YE;simp only[V0]at hl
  have e1:wrap64 (c+1)=c+1:=IntWalk.wrap64_in _ ⟨C,C⟩;have e2:wrap64 (s+x.a)=s+x.a:=IntWalk.wrap64_in _ ⟨C,C⟩
  by_cases h:(x.o==o&&x.k==k)=M
  ·have r:=yo o k b (c+1) (s+x.a) (λy hy=>ha y YD) C C C C
   simp only[Wq,uD,nS,h,if_true,e1,e2]at r⊢
   grind
  ·have r:=yo o k b c s (λy hy=>ha y YD) h0 C h1 h2
   simp only[Wq,uD,nS,if_neg h]at r⊢
   grind
theorem J4(o k:Int)(ha:∀x∈b,1<=x.a/\x.a<=100000)(hl:R b<=200):0<=Bs b o k/\Bs b o k<=R b/\Bs b o k<=cC b o k/\cC b o k<=100000*Bs b o k:=by
 have r:=yo o k b 0 0 ha C C C C;refine⟨r.1,by have:=r.2.1;unfold Bs;omega,r.2.2.1,r.2.2.2⟩
/-! ### Zi8 -/
def Bi(xs:z Ln)(i:Nat)(x:Ln):Bool:=!(rH x.o x.k x.a x.t) ||(K (0<i)&&K (x.t<(xs.getD (i-1) default).t))
def xV(b:z Ln)(x:Ln):Bool:=
 if x.k=1 then !decide (0<cC b x.o 1)
 else if x.k=2 then !decide (cC b x.o 1<wrap64 (cC b x.o 2+x.a))
 else !decide (0<cC b x.o 3)&&(cC b x.o 2==cC b x.o 1)&&!decide (cC b x.o 1<x.a)
def wm(xs:z Ln)(i:Nat):Bool:=!(Bi xs i (xs.getD i default))&&xV (xs.take i) (xs.getD i default)
def ep(xs:z Ln):Bool:=K (R xs<=200)&&Bd (R xs) (wm xs)
theorem yG{xs:z Ln}(h:¬(R xs)<=200):ep xs=false:=by simp[ep,h]
theorem Ee{xs:z Ln}(h:Bi xs i x=S):rH x.o x.k x.a x.t=true:=by
 simp only[Bi,Bool.or_eq_false_iff,Bool.not_eq_false']at h;grind
theorem ZhH(hk:x.k=1):xV b x=!decide (0<cC b x.o 1):=by simp[xV,hk]
theorem ZhI(hk:x.k=2):xV b x=!decide (cC b x.o 1<wrap64 (cC b x.o 2+x.a)):=by simp[xV,hk]
theorem ZhJ(hk:x.k=3):xV b x=(!decide (0<cC b x.o 3)&&(cC b x.o 2==cC b x.o 1)&&!decide (cC b x.o 1<x.a)):=by simp[xV,hk]
theorem zj(h:rH x.o x.k x.a x.t=M):1<=x.a/\x.a<=100000:=by
 simp only[rH,V7]at h
 exact qA h.1.2
theorem Ct{xs:z Ln}(h:Bd i (wm xs)=M):∀x∈xs.take i,1<=x.a/\x.a<=100000:=by
 intro x hx;obtain⟨j,hj⟩:=List.getElem?_of_mem hx;rw[List.getElem?_take]at hj
 split at hj
 ·rename_i bD
  have h1:=zi.1 h j bD;simp only[wm,Yd,hj,W9,V7,Ww]at h1
  exact zj (Ee h1.1)
 grind
theorem R1{xs:z Ln}(o k:Int)(h:Bd i (wm xs)=M)(hl:i<=200):K (0<Bs (xs.take i) o k)=K (0<cC (xs.take i) o k):=by
 have r:=J4 o k (Ct h) YD
 grind
theorem Ks(h:rH x.o x.k x.a x.t=M):x.k=1\/x.k=2\/x.k=3:=by
 simp only[rH,V7]at h
 have:=qA h.1.1.2;omega
/-! ### RL is Zm1,ZlK,ZjE,Zm5 -/
def kX(xs:z Ln)(o:Int):Int:=if ep xs then wrap64 (cC xs o 1-cC xs o 2)else 0
def wE(s:Int)(x:Ln):Int:=if(x.k==2)=M then wrap64 (s+x.a)else if(x.k==3)=M then wrap64 (s-x.a)else s
def J2(xs:z Ln):Int:=xs.foldl wE 0
def Bn(xs:z Ln):Int:=if ep xs then J2 xs else 0
theorem Zcv{xs:z Ln}{o:Int}(h:ep xs=M):kX xs o=wrap64 (cC xs o 1-cC xs o 2):=by simp[kX,h]
theorem ZaQ{xs:z Ln}(h:ep xs=M):Bn xs=J2 xs:=by simp[Bn,h]
def ZkX(xs:z Ln)(x:Ln):z Ln×Int:=if 200<=R xs then(xs,5)else if ep (xs++[x])=M then(xs++[x],0)else(xs,1)
def ZfR(xs:z Ln)(o du en:Int)(ps:z Int)(t:Int):z Ln×Int:=
 if ep xs=S then(xs,1)else if qv ps=S then(xs,1)else if x7 o 1 9999=S then(xs,1)else if x7 t 0 100000=S then(xs,1)
 else if(cC xs o 1==0)=M then(xs,3)else if K (0<kX xs o)=M then(xs,3)else if K (0<cC xs o 3)=M then(xs,2)
 else if(uG (cC xs o 1) du en ps==0)=M then(xs,4)else ZkX xs ⟨o,3,uG (cC xs o 1) du en ps,t⟩
theorem ZaV{xs:z Ln}(o k:Int)(h:ep xs=M):K (0<Bs xs o k)=K (0<cC xs o k):=by
 simp only[ep,V7,decide_eq_true_eq]at h
 have:=R1 (xs:=xs) (i:=R xs) o k h.2 h.1
 grind
theorem OC{du en:Int}{ps:z Int}(h:qv ps=M)(he:¬en<=du):sV du en ps<R ps:=by
 have:=(GP h).1;unfold sV
 grind
def gf(w:aw)(s0:Int×Int):O ((Int×Int)⊕Int):=
 F (K (s0.2<(R w.ae:Int)))
 (V (az w.ae s0.2) λy1=>
 F (K (y1.state=2))
 (V (az y1.aE y1.aH) λy2=>
 V (cE w.aa y2) λy3=>
 F (K (0<=y3))
 (F (K (s0.1<0))
 (G (.inl (y3,(aJ (s0.2+1)))))
 (F (K (y3<s0.1))
 (G (.inl (y3,(aJ (s0.2+1)))))
 (G (.inl (s0.1,(aJ (s0.2+1)))))))
 (G (.inl (s0.1,(aJ (s0.2+1))))))
 (F (K (y1.state=1))
 (F (K (y1.aH<(R y1.aE:Int)))
 (V (az y1.aE y1.aH) λy4=>
 V (ca w.aa y4) λy5=>
 F (K (0<=y5))
 (F (K (s0.1<0))
 (G (.inl (y5,(aJ (s0.2+1)))))
 (F (K (y5<s0.1))
 (G (.inl (y5,(aJ (s0.2+1)))))
 (G (.inl (s0.1,(aJ (s0.2+1)))))))
 (G (.inl (s0.1,(aJ (s0.2+1))))))
 (F (K (0<=(-1)))
 (F (K (s0.1<0))
 (G (.inl ((-1),(aJ (s0.2+1)))))
 (F (K ((-1)<s0.1))
 (G (.inl ((-1),(aJ (s0.2+1)))))
 (G (.inl (s0.1,(aJ (s0.2+1)))))))
 (G (.inl (s0.1,(aJ (s0.2+1)))))))
 (F (K (0<=(-1)))
 (F (K (s0.1<0))
 (G (.inl ((-1),(aJ (s0.2+1)))))
 (F (K ((-1)<s0.1))
 (G (.inl ((-1),(aJ (s0.2+1)))))
 (G (.inl (s0.1,(aJ (s0.2+1)))))))
 (G (.inl (s0.1,(aJ (s0.2+1))))))))
 (G (.inr s0.1))
instance (w:aw):bm (gf w):=⟨λs0=>(.un::.be 0 0 0::.un::vi s0.1::(U 4 (.sl (w.ae.map bx)::vi (R w.ae:Int)::vi s0.2::(U 51 [])))),λs0=>[G ⟨.of 33,10,[cL w]⟩]⟩
def iL(w:aw):O Int:=
 (aB (gf w) NN ((-1),0)).bind (λo0=>
 G o0)
instance (w:aw):CT prog (iL w):=⟨181,[.ag (cL w)],[],λr=>vi r,λr=>[],cw (iL.eq_1 ..) func181 ntmps181 results181⟩
end Go.Proofs.YtbjbellffaenaaaGreatDoor
namespace Go.Proofs.YtbjbellffaenaaaGreatDoor
open Go.Sort
variable {a b i j m:Nat}
section
variable {α:Type} [Inhabited α]
def yZ(d:E α)(a b:Nat):Nat->E α
 |0=>d
 |n+1=>swp (yZ d a b n) (a+n) (b+n)
theorem ri(d:E α)(a b:Nat):∀n,(yZ d a b n).size=d.size
 |0=>rfl
 |n+1=>by rw[yZ,size_swp,ri d a b n]
theorem zG(d:E α){a b lo hi:Nat}(h1:lo<=a):∀n,a+n<=hi->lo<=b->b+n<=hi->hi<=d.size->PermIn lo hi d (yZ d a b n)
 |0,_,_,_,_=>permIn_refl _ _ _
 |n+1,h2,h3,h4,h5=>permIn_trans _ _ _ _ _ (zG d h1 n C h3 C h5) (swp_permIn _ _ _ _ _ C C C C Y5)
theorem Cs(d:E α){a b:Nat}:∀n,a+n<=b->b+n<=d.size->∀k,(yZ d a b n)[k]! = if a<=k/\k<a+n then d[b+(k-a)]! else if b<=k/\k<b+n then d[a+(k-b)]! else d[k]!
 |0,_,_,k=>by rw[if_neg C,if_neg C];rfl
 |n+1,h1,h2,k=>by
  have ih:=Cs d (a:=a) (b:=b) n C C;rw[yZ,swp_get (yZ d a b n) (i:=a+n) (j:=b+n) Y5 Y5]
  grind
def rC(d:E α)(a m b k:Nat):α:=if a<=k/\k<a+(b-m)then d[m+(k-a)]! else if a+(b-m)<=k/\k<b then d[k-(b-m)]! else d[k]!
theorem ZfY(e:E α)(h:j<i)(hi:i<=m)(hs:m+j<=e.size)(k:Nat):rC (yZ e (m-i) m j) (m-i+j) m (m+j) k=rC e (m-i) m (m+j) k:=by
 unfold rC;simp only[Cs e (a:=m-i) (b:=m) j C C]
 grind
theorem ZfZ(e:E α)(h:i<j)(hi:i<=m)(hs:m+j<=e.size)(k:Nat):rC (yZ e (m-i) (m+j-i) i) (m-i) m (m+j-i) k=rC e (m-i) m (m+j) k:=by
 unfold rC;simp only[Cs e (a:=m-i) (b:=m+j-i) i C C]
 grind
theorem ZfX(e:E α)(hi:i<=m)(hs:m+i<=e.size)(k:Nat):(yZ e (m-i) m i)[k]! = rC e (m-i) m (m+i) k:=by
 unfold rC;rw[Cs e i C C]
 grind
theorem DC(d:E α)(h:m<=a\/b<=m)(C2:a<=m)(hb:m<=b)(k:Nat):d[k]! = rC d a m b k:=by
 unfold rC
 grind
def shU(d:E α)(a:Nat):Nat->E α
 |0=>d
 |n+1=>swp (shU d a n) (a+n) (a+n+1)
theorem vB(d:E α)(a:Nat):∀n,(shU d a n).size=d.size
 |0=>rfl
 |n+1=>by rw[shU,size_swp,vB d a n]
theorem OU(d:E α){a hi:Nat}:∀n,a+n<hi->hi<=d.size->PermIn a hi d (shU d a n)
 |0,_,_=>permIn_refl _ _ _
 |n+1,h2,h5=>permIn_trans _ _ _ _ _ (OU d n C h5) (swp_permIn _ _ _ _ _ C C C C Y6)
theorem S6(d:E α){a:Nat}:∀n,a+n<d.size->∀k,(shU d a n)[k]! = rC d a (a+1) (a+1+n) k
 |0,h,k=>DC d (.inr C) C C k
 |n+1,h,k=>by
  have ih:=S6 d (a:=a) n C;rw[shU,swp_get (shU d a n) (i:=a+n) (j:=a+n+1) Y6 Y6,ih,ih,ih];unfold rC
  grind
def shD(d:E α)(m:Nat):Nat->E α
 |0=>d
 |n+1=>swp (shD d m n) (m-n) (m-n-1)
theorem vA(d:E α)(m:Nat):∀n,(shD d m n).size=d.size
 |0=>rfl
 |n+1=>by rw[shD,size_swp,vA d m n]
theorem OT(d:E α){m lo:Nat}:∀n,lo+n<=m->m<d.size->PermIn lo (m+1) d (shD d m n)
 |0,_,_=>permIn_refl _ _ _
 |n+1,h2,h5=>permIn_trans _ _ _ _ _ (OT d n C h5) (swp_permIn _ _ _ _ _ C C C C Y7)
theorem S5(d:E α){m:Nat}:∀n,n<=m->m<d.size->∀k,(shD d m n)[k]! = rC d (m-n) m (m+1) k
 |0,h,h',k=>DC d (.inl C) C C k
 |n+1,h,h',k=>by
  have ih:=S5 d (m:=m) n C h';rw[shD,swp_get (shD d m n) (i:=m-n) (j:=m-n-1) Y7 Y7,ih,ih,ih];unfold rC
  grind
variable {lt:α->α->Bool}
theorem wv(hO:SWO lt){d:E α}(h:SortedIn lt a b d)(h1:a<=i)(h2:i<=j)(h3:j<b):lt d[j]! d[i]! = false:=by
 rcases Wu i j with h4|h4
 ·exact h i j h1 h4 h3
 ·have:i=j:=C
  subst this;exact hO.irrefl _
theorem zD{a b a' b':Nat}{d:E α}(h:SortedIn lt a b d)(h1:a<=a')(h2:b'<=b):SortedIn lt a' b' d:=λi j hi AY hj=>h i j C AY C
theorem AV{d e:E α}(h:SortedIn lt a b d)(he:∀k,a<=k->k<b->e[k]! = d[k]!):SortedIn lt a b e:=λi j hi AY hj=>by
 rw[he i hi C,he j C hj];exact h i j hi AY hj
theorem S8{d:E α}(h:b<=a+1):SortedIn lt a b d:=λi j hi AY hj=>C
theorem ZhV(hO:SWO lt){a m b s t mid:Nat}{d e:E α}(h1:SortedIn lt a m d)(h2:SortedIn lt m b d)(hs:a<=s/\s<=m)(ht:m<=t/\t<=b)(Qe:s+(t-m)=mid)
 (c1:a<s->t<b->lt d[t]! d[s-1]! = S) (c2:s<m->m<t->lt d[t-1]! d[s]! = M) (hr:∀k,e[k]! = rC d s m t k):
 SortedIn lt a s e/\SortedIn lt s mid e/\SortedIn lt mid t e/\SortedIn lt t b e/\∀i j,a<=i->i<mid->mid<=j->j<b->lt e[j]! e[i]! = false:=by
 have g1:∀k,k<s->e[k]! = d[k]!:=λk h=>by rw[hr];unfold rC;grind
 have g2:∀k,s<=k->k<mid->e[k]! = d[m+(k-s)]!:=λk h h'=>by rw[hr];unfold rC;grind
 have g3:∀k,mid<=k->k<t->e[k]! = d[k-(t-m)]!:=λk h h'=>by rw[hr];unfold rC;grind
 have g4:∀k,t<=k->e[k]! = d[k]!:=λk h=>by rw[hr];unfold rC;rw[if_neg C,if_neg C]
 refine⟨λi j hi AY hj=>?_,λi j hi AY hj=>?_,λi j hi AY hj=>?_,λi j hi AY hj=>?_,λi j hi od hj H7=>?_⟩
 ·rw[g1 i C,g1 j hj];exact h1 i j hi AY C
 ·rw[g2 i hi C,g2 j C hj];exact h2 _ _ C C C
 ·rw[g3 i hi C,g3 j C hj];exact h1 _ _ C C C
 ·rw[g4 i hi,g4 j C];exact h2 i j C AY hj
 ·rcases Wu i s with x|x<;>rcases Wu j t with y|y
  ·rw[g1 i x,g3 j hj y];exact h1 _ _ hi C C
  ·rw[g1 i x,g4 j y]
   have a1:=wv hO h2 (i:=t) (j:=j) ht.1 y H7;have a2:=c1 C C;have a3:=wv hO h1 (i:=i) (j:=s-1) hi C C;exact hO.ntrans _ _ _ (hO.ntrans _ _ _ a1 a2) a3
  ·rw[g2 i x od,g3 j hj y]
   have a1:=wv hO h2 (i:=m+(i-s)) (j:=t-1) C C C;have a2:=c2 C C;have a3:=wv hO h1 (i:=s) (j:=j-(t-m)) hs.1 C C
   cases hv:lt d[j-(t-m)]! d[m+(i-s)]! with
   |false=>rfl
   |true=>
    cases hw:lt d[j-(t-m)]! d[t-1]! with
    |false=>rw[hO.ntrans _ _ _ hw a1]at hv;grind
    |true=>rw[hO.trans _ _ _ hw a2]at a3;omega
  ·rw[g2 i x od,g4 j y];exact h2 _ _ C C H7
theorem glue(hO:SWO lt){a mid b:Nat}{e e1 e2:E α}(hb:b<=e.size)(ha:a<=mid)(hm:mid<=b)(p1:PermIn a mid e e1)(p2:PermIn mid b e1 e2)(s1:SortedIn lt a mid e1)(s2:SortedIn lt mid b e2)
 (hc:∀i j,a<=i->i<mid->mid<=j->j<b->lt e[j]! e[i]! = S):PermIn a b e e2/\SortedIn lt a b e2:=by
 have z1:=p1.1;refine⟨permIn_trans _ _ _ _ _ (permIn_mono _ _ _ _ _ _ (VW _) hm hb p1) (permIn_mono _ _ _ _ _ _ ha (VW _) C p2),λi j hi AY hj=>?_⟩
 have k1:∀i j,a<=i->i<mid->mid<=j->j<b->lt e1[j]! e1[i]! = false:=λi j hi od hj H7=>by
  rw[p1.2.1 j (.inr hj)];exact permIn_all e e1 a mid (λx=>lt e[j]! x=S) C p1 (λi h h'=>hc i j h h' hj H7) i hi od
 have k2:∀i j,a<=i->i<mid->mid<=j->j<b->lt e2[j]! e2[i]! = false:=λi j hi od hj H7=>by
  rw[p2.2.1 i (.inl od)];exact permIn_all e1 e2 mid b (λy=>lt y e1[i]! = S) C p2 (λj h h'=>k1 i j hi od h h') j hj H7
 rcases Wu i mid with x|x
 ·rcases Wu j mid with y|y
  ·rw[p2.2.1 i (.inl x),p2.2.1 j (.inl y)];exact s1 i j hi AY y
  grind
 ·exact s2 i j x AY hj
theorem ZbY(hO:SWO lt){d e:E α}(h:SortedIn lt (a+1) b d)(h1:a+1<=i)(h2:i<=b)(c1:i=a+1\/lt d[i-1]! d[a]! = M)(c2:i=b\/lt d[i]! d[a]! = S)(hr:∀k,e[k]! = rC d a (a+1) i k):SortedIn lt a b e:=by
 have g1:∀k,a<=k->k<i-1->e[k]! = d[k+1]!:=λk h h'=>by rw[hr];unfold rC;grind
 have g2:e[i-1]! = d[a]!:=by rw[hr];unfold rC;grind
 have g3:∀k,i<=k->e[k]! = d[k]!:=λk h=>by rw[hr];unfold rC;grind
 have lo:∀p,a<=p->p<i-1->lt d[a]! d[p+1]! = false:=λp h5 h6=>by
  rcases c1 with c1|c1
  ·omega
  ·exact hO.ntrans _ _ _ (hO.asymmA c1) (wv hO h (i:=p+1) (j:=i-1) C C C)
 have hi:∀q,i<=q->q<b->lt d[q]! d[a]! = false:=λq h5 h6=>by
  rcases c2 with c2|c2
  ·omega
  ·exact hO.ntrans _ _ _ (wv hO h (i:=i) (j:=q) h1 h5 h6) c2
 intro p q hp hpq hq
 rcases WQ p (i-1)with x|x|x
 ·rcases WQ q (i-1)with y|y|y
  ·rw[g1 p hp x,g1 q C y];exact h _ _ C C C
  ·grind
  ·rw[g1 p hp x,g3 q C];exact h _ _ C C hq
 ·grind
 ·rw[g3 p C,g3 q C];exact h _ _ C hpq hq
theorem Uw(hO:SWO lt){d e:E α}(h:SortedIn lt a m d)(h1:a<=i)(h2:i<=m)(c1:i=a\/lt d[m]! d[i-1]! = S)(c2:i=m\/lt d[m]! d[i]! = M)(hr:∀k,e[k]! = rC d i m (m+1) k):SortedIn lt a (m+1) e:=by
 have g1:∀k,k<i->e[k]! = d[k]!:=λk h=>by rw[hr];unfold rC;grind
 have g2:e[i]! = d[m]!:=by rw[hr];unfold rC;simp
 have g3:∀k,i<k->k<=m->e[k]! = d[k-1]!:=λk h h'=>by rw[hr];unfold rC;grind
 have lo:∀p,a<=p->p<i->lt d[m]! d[p]! = false:=λp h5 h6=>by
  rcases c1 with c1|c1
  ·omega
  ·exact hO.ntrans _ _ _ c1 (wv hO h (i:=p) (j:=i-1) h5 C C)
 have hi:∀q,i<q->q<=m->lt d[q-1]! d[m]! = false:=λq h5 h6=>by
  rcases c2 with c2|c2
  ·omega
  ·exact hO.ntrans _ _ _ (wv hO h (i:=i) (j:=q-1) h1 C C) (hO.asymmA c2)
 intro p q hp hpq hq
 rcases WQ p i with x|x|x
 ·rcases WQ q i with y|y|y
  ·rw[g1 p x,g1 q y];exact h _ _ hp hpq C
  ·grind
  ·rw[g1 p x,g3 q y C];exact wv hO h C C C
 ·grind
 ·rw[g3 p x C,g3 q C C];exact wv hO h C C C
def Zaq(lt:α->α->Bool)(bs n:Nat)(d:E α):Prop:=∀q,SortedIn lt (q*bs) (min (q*bs+bs) n) d
end
end Go.Proofs.YtbjbellffaenaaaGreatDoor
namespace Go.Proofs.YtbjbellffaenaaaGreatDoor
open Go.RowKit Go.Lib Go.Sort
variable {W w0:World}
section
variable {α:Type} [Inhabited α] {enc:α->z Value} {k:Nat} {g:Nat} {T:TypeId} {cs:Nat}
structure SU(enc:α->z Value)(k:Nat)(g:Nat)(T:TypeId)(cs:Nat)(w0:World)(d:E α)(W:World):Prop where
 up:Fs (λb=>b=g) w0 W
 hold:HoldsK enc k W g 0 d
 row:∃cells,W.heap[g]?=G (.cells cells T (0,0))/\cells.size=cs
theorem SU.lt{d:E α}(h:SU enc k g T cs w0 d W):g<W.heap.size:=by
 obtain⟨c,h1,_⟩:=h.row
 grind
theorem SU.more{w0 W W':World}{d:E α}(h:SU enc k g T cs w0 d W)(u:Up W W'):SU enc k g T cs w0 d W':=by
 have hl:=h.lt;refine⟨⟨u.os.trans h.up.os,u.tape.trans h.up.tape,u.output.trans h.up.output,Wd h.up.size u.size,λb hb hn=>(u.block b (Wn hb h.up.size)).trans (h.up.block b hb hn)⟩,λj hj=>⟨(u.cell (p:=⟨g,0+j,J⟩) hl).trans (h.hold j hj).1,(u.frozen (p:=⟨g,0+j,J⟩) hl).trans (h.hold j hj).2⟩,?_⟩
 obtain⟨c,h1,h2⟩:=h.row;exact⟨c,(u.block g hl).trans h1,h2⟩
theorem SU.trans{w0 W W':World}{d d':E α}(h:SU enc k g T cs w0 d W)(h':SU enc k g T cs W d' W'):SU enc k g T cs w0 d' W':=⟨h.up.trans h'.up λ_ _ h=>h,h'.hold,h'.row⟩
theorem SU.self{d:E α}(h:SU enc k g T cs w0 d W):SU enc k g T cs W d W:=⟨Fs.refl _ _,h.hold,h.row⟩
theorem SU.Dr{d:E α}(h:SU enc k g T cs w0 d W){b o:Nat}(hb:b<w0.heap.size)(hn:b≠g):W.cell? ⟨b,o,J⟩=w0.cell? ⟨b,o,J⟩:=cell_of_heap (h.up.block b hb hn)
theorem SU.swap(hk:∀x,R (enc x)=k){d:E α}(h:SU enc k g T cs w0 d W){i j:Nat}(hi:i<d.size)(hj:j<d.size):SU enc k g T cs w0 (swp d i j) ((W.setCells g (i*k) (enc d[j]!)).setCells g (j*k) (enc d[i]!)):=by
 have e:=putRowK_swp enc k hk W g 0 d i j hi hj;rw[putRowK_self enc k W g 0 d h.hold,Wa,Wa]at e
 rw[e];have hl:=h.lt;refine⟨h.up.trans (O':=λb=>b=g) ⟨rfl,rfl,rfl,by rw[size_putRowK];omega,λb hb hn=>?_⟩ λ_ _ h=>h,holdsK_putRowK enc k W g 0 d _ h.hold (size_swp _ _ _),?_⟩
 ·show(W.heap.modify g _)[b]?=_
  grind
 ·obtain⟨c,h1,h2⟩:=h.row
  refine⟨putCells id 0 (flatK enc k (swp d i j)) c,?_,?_⟩
  ·show(W.heap.modify g _)[g]?=_
   rw[Array.getElem?_modify,if_pos rfl,h1];rfl
  ·simp[putCells,h2]
def uZ(f:Nat)(lb:E Value)(enc:α->z Value)(k:Nat)(lt:α->α->Bool)(g:Nat)(T:TypeId)(cs n:Nat)(w0:World):Prop:=
 ∀(d:E α) (W:World),SU enc k g T cs w0 d W->d.size=n->∀i j:Nat,i<n->j<n->Calls prog f (#[Y Z i,Y Z j]++lb) W λe w'=>e=.returned (.bool (lt d[i]! d[j]!))/\Up W w'
theorem uZ.on{f:Nat}{lb:E Value}{lt:α->α->Bool}{n:Nat}{d:E α}(h:uZ f lb enc k lt g T cs n w0)(hW:SU enc k g T cs w0 d W):uZ f lb enc k lt g T cs n W:=λd' W' h'=>h d' W' (hW.trans h')
abbrev LS(f:Nat)(lb:E Value)(sf:Nat)(sb:E Value):Value:=.agg #[.func (.func f) #[] lb,.func (.func sf) #[] sb]
abbrev uL(f:Nat)(lb:E Value)(sf:Nat)(sb:E Value):Obj:=.cells #[.func (.func f) #[] lb,.func (.func sf) #[] sb] 295
variable (hk:∀x,(enc x).length=k) (f:Nat) (lb:E Value) (sf:Nat) (sb:E Value) (n:Nat) (hn:n<1152921504606846976) (rG:SwapSwapsK prog sf sb enc k g 0 n)
include hk hn rG
theorem Zgq{d:E α}(hd:d.size=n)(h0:SU enc k g T cs W d W)(a b m:Nat)(h1:a+m<=b)(h2:b+m<=n):
 Calls prog 392 #[LS f lb sf sb,Y Z a,Y Z b,Y Z m] W λe w'=>e=.returned (.tuple #[])/\SU enc k g T cs W (yZ d a b m) w':=by
 have hg:=h0.lt;have hB:SU enc k g T cs W d (W.alloc (uL f lb sf sb)):=h0.more (Up.al _ (Up.rfl' W))
 go_enter func392,ntmps392
 go_wp2
 go_loopw [8] (λvi wr=>∃i:Nat,vi=Y Z i/\i<=m/\SU enc k g T cs (W.alloc (uL f lb sf sb)) (yZ d a b i) wr) (λvi _=>m-(intOf vi).toNat)
 case atStart=>exact⟨0,by rfl,C,hB.self⟩
 case round=>
  obtain⟨i,rfl,him,hS⟩:=hrel;have c1:wr.cell? ⟨W.heap.size,1,J⟩=G (.func (.func sf) #[] sb):=by rw[hS.Dr YE C];simp
  have HS:Hid (SU enc k g T cs (W.alloc (uL f lb sf sb)) (yZ d a b i) wr):=hS;clear hS
  by_cases hi:i<m
  ·have hs:=rG wr (yZ d a b i) HS.out.hold Y5 (a+i) (b+i) C C
   rw[show((a+i:Nat):Int)=(a:Int)+(i:Int)by omega,show((b+i:Nat):Int)=(b:Int)+(i:Int)by omega]at hs
   go_wp2
   exact⟨⟨i+1,by rfl,C,HS.out.swap hk Y5 Y5⟩,by simp[intOf];omega⟩
  ·go_wp2
   go_end0
   have:i=m:=C;subst this;exact⟨rfl,hB.trans HS.out⟩
theorem Zc8{d:E α}(hd:d.size=n)(h0:SU enc k g T cs W d W)(a m b:Nat)(h1:a<=m)(h2:m<=b)(h3:b<=n)(h4:a<m/\m<b):
 Calls prog 374 #[LS f lb sf sb,Y Z a,Y Z m,Y Z b] W λe w'=>e=.returned (.tuple #[])/\∃e,SU enc k g T cs W e w'/\PermIn a b d e/\∀k,e[k]! = rC d a m b k:=by
 have hg:=h0.lt;have hB:SU enc k g T cs W d (W.alloc (uL f lb sf sb)):=h0.more (Up.al _ (Up.rfl' W));have hsw:=fun(d':E α) (W':World) (Cy:d'.size=n) (h':SU enc k g T cs W' d' W') (a b m:Nat) (h1:a+m<=b) (h2:b+m<=n)=>Zgq hk f lb sf sb n hn rG (T:=T) (cs:=cs) Cy h' a b m h1 h2
 go_enter func374,ntmps374
 go_wp2
 go_loopw [8,9] (λvi vj wr=>∃(i j:Nat) (e:E α),vi=Y Z i/\vj=Y Z j/\0<i/\0<j/\i<=m-a/\j<=b-m/\e.size=n/\PermIn a b d e/\(∀k,rC e (m-i) m (m+j) k=rC d a m b k)/\SU enc k g T cs (W.alloc (uL f lb sf sb)) e wr) (λvi vj _=>(intOf vi).toNat+(intOf vj).toNat)
 case atStart=>exact⟨m-a,b-m,d,by go_num,by go_num,C,C,VW _,VW _,hd,permIn_refl _ _ _,λk=>by grind,hB.self⟩
 case round=>
  obtain⟨i,j,e,rfl,rfl,hi,hj,hia,hjb,he,hP,hR,hS⟩:=hrel;have c0:wr.cell? ⟨W.heap.size,0,J⟩=G (.func (.func f) #[] lb):=by rw[hS.Dr YE C];simp
  have c1:wr.cell? ⟨W.heap.size,1,J⟩=G (.func (.func sf) #[] sb):=by rw[hS.Dr YE C];simp
  have HS:Hid (SU enc k g T cs (W.alloc (uL f lb sf sb)) e wr):=hS;have HR:Hid (∀k,rC e (m-i) m (m+j) k=rC d a m b k):=hR;have HB:Hid (SU enc k g T cs W d (W.alloc (uL f lb sf sb))):=hB;clear hS hR hB h0
  by_cases AY:i=j
  ·subst AY
   have q:=hsw e wr he HS.out.self (m-i) m i C C;rw[show((m-i:Nat):Int)=(m:Int)-(i:Int)by omega]at q
   go_wp2_with (go_at_call 392;refine q.mono ?_;rintro e w' ⟨rfl,hw⟩)
   go_end0
   exact⟨rfl,yZ e (m-i) m i,(HB.out.trans HS.out).trans hw,permIn_trans _ _ _ _ _ hP (zG e C i C C C C),λk=>(ZfX e C C k).trans (HR.out k)⟩
  ·by_cases EY:j<i
   ·have q:=hsw e wr he HS.out.self (m-i) m j C C
    rw[show((m-i:Nat):Int)=(m:Int)-(i:Int)by omega]at q
    go_wp2_with (go_at_call 392;refine q.mono ?_;rintro e w' ⟨rfl,hw⟩)
    refine⟨⟨i-j,j,yZ e (m-i) m j,by go_num,rfl,C,hj,C,hjb,by rw[ri];omega,permIn_trans _ _ _ _ _ hP (zG e C j C C C C),λk=>?_,HS.out.trans hw⟩,by simp[intOf];omega⟩
    rw[show m-(i-j)=m-i+j by omega]
    exact(ZfY e EY C C k).trans (HR.out k)
   ·have q:=hsw e wr he HS.out.self (m-i) (m+j-i) i C C
    rw[show((m-i:Nat):Int)=(m:Int)-(i:Int)by omega,show((m+j-i:Nat):Int)=(m:Int)+(j:Int)-(i:Int)by omega]at q
    go_wp2_with (go_at_call 392;refine q.mono ?_;rintro e w' ⟨rfl,hw⟩)
    refine⟨⟨i,j-i,yZ e (m-i) (m+j-i) i,rfl,by go_num,hi,C,hia,C,by rw[ri];omega,permIn_trans _ _ _ _ _ hP (zG e C i C C C C),λk=>?_,HS.out.trans hw⟩,by simp[intOf];omega⟩
    rw[show m+(j-i)=m+j-i by omega]
    exact(ZfZ e C C C k).trans (HR.out k)
omit hk hn rG in
theorem E5{lt:α->α->Bool}{d0:E α}(hL:uZ f lb enc k lt g T cs n W)(h0:SU enc k g T cs W d0 W){dj:E α}{wr:World}(hS:SU enc k g T cs (W.alloc (uL f lb sf sb)) dj wr)(hd:dj.size=n)(hsw:SwapSwapsK prog sf sb enc k g 0 n)(i j:Nat)(hi:i<n)(hj:j<n):
 Calls prog f (#[Y Z i,Y Z j]++lb) wr λe w'=>e=.returned (.bool (lt dj[i]! dj[j]!))/\SU enc k g T cs (W.alloc (uL f lb sf sb)) dj w'/\w'.cell? ⟨W.heap.size,0,J⟩=G (.func (.func f) #[] lb)/\w'.cell? ⟨W.heap.size,1,J⟩=G (.func (.func sf) #[] sb)/\
  (callFunc sf (#[Y Z i,Y Z j]++sb)).run prog w'=.ok (.value (.tuple #[])) ((w'.setCells g (i*k) (enc dj[j]!)).setCells g (j*k) (enc dj[i]!)):=by
 have hg:=h0.lt;refine(hL.on (h0.more (Up.al _ (Up.rfl' W))) dj wr hS hd i j hi hj).mono ?_;rintro e w' ⟨he,hu⟩;have hS':=hS.more hu;have hs:=hsw w' dj hS'.hold hd i j hi hj;rw[Wa,Wa]at hs
 exact⟨he,hS',by rw[hS'.Dr YE C];simp,by rw[hS'.Dr YE C];simp,hs⟩
theorem Uv{lt:α->α->Bool}(eg:∀args w,(callFunc f args).run prog w=.ok (.enter f args) w){d:E α}(hd:d.size=n)(h0:SU enc k g T cs W d W)(hL:uZ f lb enc k lt g T cs n W)(a b:Nat)(C2:a<=b)(hb:b<=n):
 Calls prog 337 #[LS f lb sf sb,Y Z a,Y Z b] W λe w'=>e=.returned (.tuple #[])/\SU enc k g T cs W (Sort.insertionSort lt d a b) w':=by
 have hB:SU enc k g T cs W d (W.alloc (uL f lb sf sb)):=h0.more (Up.al _ (Up.rfl' W));have vf:=λdj wr hS Cy i j hi hj=>E5 (dj:=dj) (wr:=wr) f lb sf sb n hL h0 hS Cy rG i j hi hj
 have HB:Hid (SU enc k g T cs W d (W.alloc (uL f lb sf sb))):=hB;have hg:=h0.lt;clear h0 hL
 go_enter func337,ntmps337
 go_wp2
 go_loopw [6] (λvi wr=>∃(i:Nat) (dk:E α),vi=Y Z i/\a<i/\i<=b+1/\dk.size=n/\SU enc k g T cs (W.alloc (uL f lb sf sb)) dk wr/\
  insOuter lt a b i dk=insOuter lt a b (a+1) d) (λvi _=>b+1-(intOf vi).toNat)
 case atStart=>exact⟨a+1,d,by go_num,C,C,hd,hB.self,rfl⟩
 case round=>
  obtain⟨i,dk,rfl,hai,hib,hsk,BM,hO⟩:=hrel;have HO:Hid (insOuter lt a b i dk=insOuter lt a b (a+1) d):=hO;clear hO
  go_wp2
  ·go_loopw [7] (λvj wr2=>∃(j:Nat) (dj:E α),vj=Y Z j/\a<=j/\j<=i/\dj.size=n/\SU enc k g T cs (W.alloc (uL f lb sf sb)) dj wr2/\
    insInner lt a j dj=insInner lt a i dk) (λvj _=>(intOf vj).toNat)
   case atStart=>exact⟨i,dk,rfl,C,VW _,hsk,BM,rfl⟩
   case round=>
    obtain⟨j,dj,rfl,haj,H8,hsj,C8,hI⟩:=hrel;have bD:i<b:=by assumption
    have c0:wr.cell? ⟨W.heap.size,0,J⟩=G (.func (.func f) #[] lb):=by rw[C8.Dr YE C];simp
    have c1:wr.cell? ⟨W.heap.size,1,J⟩=G (.func (.func sf) #[] sb):=by rw[C8.Dr YE C];simp
    have HW:Hid (SU enc k g T cs (W.alloc (uL f lb sf sb)) dj wr):=C8;have HI:Hid (insInner lt a j dj=insInner lt a i dk):=hI;clear C8 hI BM hB;have out:(j<=a\/lt dj[j]! dj[j-1]! = S)->∀W',SU enc k g T cs (W.alloc (uL f lb sf sb)) dj W'->∃(i':Nat) (dk':E α),Value.int .i64 ((i:Int)+1)=Y Z (i':Nat)/\a<i'/\i'<=b+1/\dk'.size=n/\
     SU enc k g T cs (W.alloc (uL f lb sf sb)) dk' W'/\insOuter lt a b i' dk'=insOuter lt a b (a+1) d:=λhs W' hW=>
     ⟨i+1,dj,by go_num,C,C,hsj,hW,
      by rw[<-HO.out,insOuter_go _ _ _ _ _ bD,<-HI.out,insInner_stop _ _ _ _ hs]⟩
    have OUT:Hid _:=out;clear out
    by_cases hja:a<j
    ·have hl:=vf dj wr HW.out hsj j (j-1) C C
     rw[show(((j-1:Nat):Int))=(j:Int)-1 by omega]at hl
     clear vf
     cases vE:lt dj[j]! dj[j-1]! with
     |true=>
      rw[vE]at hl
      go_wp2_with (go_at_fn f;refine hl.mono ?_;rintro e w' ⟨rfl,hS,c0',c1',hs⟩)
      refine⟨?_,by simp[intOf];omega⟩
      (repeat apply Exists.intro)
      refine⟨⟨j-1,swp dj j (j-1),by congr 1<;>omega,C,C,by rw[size_swp];exact hsj,hS.swap hk C C,?_⟩,by rw[Yi bD,show((j-1:Nat):Int)=(j:Int)-1 by omega]⟩
      rw[<-HI.out,insInner_go lt a j dj hja vE]
     |false=>
      rw[vE]at hl
      go_wp2_with (go_at_fn f;refine hl.mono ?_;rintro e w' ⟨rfl,hS,c0',c1',hs⟩)
      exact⟨OUT.out (.inr vE) _ hS,by simp[intOf];omega⟩
    ·go_wp2
     exact⟨OUT.out (.inl C) _ HW.out,by simp[intOf];omega⟩
  ·have Cz:¬i<b:=by assumption
   go_end0
   exact⟨rfl,by unfold Sort.insertionSort;rw[<-HO.out,insOuter_stop _ _ _ _ _ Cz];exact HB.out.trans BM⟩
end
section
variable {α:Type} [Inhabited α] {enc:α->z Value} {k:Nat} {g:Nat} {T:TypeId} {cs:Nat}
variable (hk:∀x,(enc x).length=k) (f:Nat) (lb:E Value) (sf:Nat) (sb:E Value) (n:Nat) (hn:n<1152921504606846976) (rG:SwapSwapsK prog sf sb enc k g 0 n)
include hk hn rG
theorem ZiS{lt:α->α->Bool}(hO:SWO lt)(eg:∀args w,(callFunc f args).run prog w=.ok (.enter f args) w){d:E α}(hd:d.size=n)(h0:SU enc k g T cs W d W)(hL:uZ f lb enc k lt g T cs n W)(a m b:Nat)(h1:m=a+1)(h2:m<b)(hb:b<=n)(hs:SortedIn lt m b d):
 Calls prog 338 #[LS f lb sf sb,Y Z a,Y Z m,Y Z b] W λe w'=>e=.returned (.tuple #[])/\∃e,SU enc k g T cs W e w'/\PermIn a b d e/\SortedIn lt a b e:=by
 have hB:SU enc k g T cs W d (W.alloc (uL f lb sf sb)):=h0.more (Up.al _ (Up.rfl' W));have vf:=λdj wr hS Cy i j hi hj=>E5 (dj:=dj) (wr:=wr) f lb sf sb n hL h0 hS Cy rG i j hi hj
 have HB:Hid (SU enc k g T cs W d (W.alloc (uL f lb sf sb))):=hB;have HSs:Hid (SortedIn lt m b d):=hs;have hg:=h0.lt;clear h0 hL hs;have hma:(m:Int)-(a:Int)=1:=C;have H1:Hid (m=a+1):=h1;clear h1
 go_enter func338,ntmps338
 go_wp2
 go_loopw [8,9] (λvi vj wr=>∃(i j:Nat),vi=Y Z i/\vj=Y Z j/\m<=i/\i<=j/\j<=b/\(i=m\/lt d[i-1]! d[a]! = M)/\(j=b\/lt d[j]! d[a]! = S)/\SU enc k g T cs (W.alloc (uL f lb sf sb)) d wr) (λvi vj _=>(intOf vj).toNat-(intOf vi).toNat)
 case atStart=>exact⟨m,b,rfl,rfl,C,C,C,.inl rfl,.inl rfl,hB.self⟩
 case round=>
  obtain⟨i,j,rfl,rfl,hi,AY,hj,Ge,LM,hS⟩:=hrel;have c0:wr.cell? ⟨W.heap.size,0,J⟩=G (.func (.func f) #[] lb):=by rw[hS.Dr YE C];simp
  have c1:wr.cell? ⟨W.heap.size,1,J⟩=G (.func (.func sf) #[] sb):=by rw[hS.Dr YE C];simp
  have HS:Hid (SU enc k g T cs (W.alloc (uL f lb sf sb)) d wr):=hS;have HC1:Hid (i=m\/lt d[i-1]! d[a]! = M):=Ge;have HC2:Hid (j=b\/lt d[j]! d[a]! = S):=LM;clear hS hB Ge LM
  by_cases bD:i<j
  ·have hl:=vf d wr HS.out hd ((i+j) / 2) a C C
   rw[show(((i+j) / 2:Nat):Int)=((i:Int)+(j:Int)) / 2 by omega]at hl
   clear vf
   cases vE:lt d[(i+j) / 2]! d[a]! with
   |true=>
    rw[vE]at hl
    go_wp2_with (go_at_fn f;refine hl.mono ?_;rintro e w' ⟨rfl,hS,c0',c1',_⟩)
    refine⟨?_,by simp[intOf];omega⟩
    exact⟨(i+j) / 2+1,j,by rfl,rfl,C,C,C,.inr YG,HC2.out,hS⟩
   |false=>
    rw[vE]at hl
    go_wp2_with (go_at_fn f;refine hl.mono ?_;rintro e w' ⟨rfl,hS,c0',c1',_⟩)
    refine⟨?_,by simp[intOf];omega⟩
    exact⟨i,(i+j) / 2,rfl,by rfl,C,C,C,HC1.out,.inr vE,hS⟩
  ·have Zh3:i=j:=C
   subst Zh3
   go_wp2
   go_loopw [11] (λvq wr2=>∃q:Nat,vq=Y Z ((a:Int)+(q:Int))/\a+q+1<=i/\SU enc k g T cs (W.alloc (uL f lb sf sb)) (shU d a q) wr2) (λvq _=>i-(intOf vq).toNat)
   case atStart=>exact⟨0,by rfl,C,HS.out⟩
   case round=>
    obtain⟨q,rfl,hq,LJ⟩:=hrel;have c0:wr.cell? ⟨W.heap.size,0,J⟩=G (.func (.func f) #[] lb):=by rw[LJ.Dr YE C];simp
    have c1:wr.cell? ⟨W.heap.size,1,J⟩=G (.func (.func sf) #[] sb):=by rw[LJ.Dr YE C];simp
    have Pu:Hid (SU enc k g T cs (W.alloc (uL f lb sf sb)) (shU d a q) wr):=LJ;clear LJ
    by_cases hqi:a+q+1<i
    ·have hs:=rG wr (shU d a q) Pu.out.hold Y6 (a+q) (a+q+1) C C
     rw[Wa,Wa,show((a+q+1:Nat):Int)=(a:Int)+(q:Int)+1 by omega,show((a+q:Nat):Int)=(a:Int)+(q:Int)by omega]at hs
     have Kj:(a:Int)+(q:Int)<(i:Int)-1:=C
     go_wp2
     exact⟨⟨q+1,by rfl,C,Pu.out.swap hk Y6 Y6⟩,by simp[intOf];omega⟩
    ·have Zj9:¬(a:Int)+(q:Int)<(i:Int)-1:=C
     go_wp2
     (try simp only[Exit.inBlock,Exit.then])
     refine bodyPost_ret (results_none rfl _ _ _) rfl ?_;refine⟨rfl,shU d a q,HB.out.trans Pu.out,OU d q C C,?_⟩;obtain rfl:=H1.out;exact ZbY hO HSs.out C hj HC1.out HC2.out (λk=>by rw[show i=a+1+q by omega];exact S6 d q C k)
theorem ZiT{lt:α->α->Bool}(hO:SWO lt)(eg:∀args w,(callFunc f args).run prog w=.ok (.enter f args) w){d:E α}(hd:d.size=n)(h0:SU enc k g T cs W d W)(hL:uZ f lb enc k lt g T cs n W)(a m b:Nat)(h1:b=m+1)(h2:a+1<m)(hb:b<=n)(hs:SortedIn lt a m d):
 Calls prog 338 #[LS f lb sf sb,Y Z a,Y Z m,Y Z b] W λe w'=>e=.returned (.tuple #[])/\∃e,SU enc k g T cs W e w'/\PermIn a b d e/\SortedIn lt a b e:=by
 have hB:SU enc k g T cs W d (W.alloc (uL f lb sf sb)):=h0.more (Up.al _ (Up.rfl' W));have vf:=λdj wr hS Cy i j hi hj=>E5 (dj:=dj) (wr:=wr) f lb sf sb n hL h0 hS Cy rG i j hi hj
 have HB:Hid (SU enc k g T cs W d (W.alloc (uL f lb sf sb))):=hB;have HSs:Hid (SortedIn lt a m d):=hs;have hg:=h0.lt;clear h0 hL hs;have hna:((m:Int)-(a:Int)==1)=false:=by grind
 have hmb:(b:Int)-(m:Int)=1:=C;have H1:Hid (b=m+1):=h1;have Zob:m<b:=C;clear h1
 go_enter func338,ntmps338
 go_wp2
 clear hna hmb
 go_loopw [12,13] (λvi vj wr=>∃(i j:Nat),vi=Y Z i/\vj=Y Z j/\a<=i/\i<=j/\j<=m/\(i=a\/lt d[m]! d[i-1]! = S)/\(j=m\/lt d[m]! d[j]! = M)/\SU enc k g T cs (W.alloc (uL f lb sf sb)) d wr) (λvi vj _=>(intOf vj).toNat-(intOf vi).toNat)
 case atStart=>exact⟨a,m,rfl,rfl,C,C,C,.inl rfl,.inl rfl,hB.self⟩
 case round=>
  obtain⟨i,j,rfl,rfl,hi,AY,hj,Ge,LM,hS⟩:=hrel;have c0:wr.cell? ⟨W.heap.size,0,J⟩=G (.func (.func f) #[] lb):=by rw[hS.Dr YE C];simp
  have c1:wr.cell? ⟨W.heap.size,1,J⟩=G (.func (.func sf) #[] sb):=by rw[hS.Dr YE C];simp
  have HS:Hid (SU enc k g T cs (W.alloc (uL f lb sf sb)) d wr):=hS;have HC1:Hid (i=a\/lt d[m]! d[i-1]! = S):=Ge;have HC2:Hid (j=m\/lt d[m]! d[j]! = M):=LM;clear hS hB Ge LM
  by_cases bD:i<j
  ·have hl:=vf d wr HS.out hd m ((i+j) / 2) C C
   rw[show(((i+j) / 2:Nat):Int)=((i:Int)+(j:Int)) / 2 by omega]at hl
   clear vf
   cases vE:lt d[m]! d[(i+j) / 2]! with
   |true=>
    rw[vE]at hl
    go_wp2_with (go_at_fn f;refine hl.mono ?_;rintro e w' ⟨rfl,hS,c0',c1',_⟩)
    refine⟨?_,by simp[intOf];omega⟩
    exact⟨i,(i+j) / 2,rfl,by rfl,C,C,C,HC1.out,.inr vE,hS⟩
   |false=>
    rw[vE]at hl
    go_wp2_with (go_at_fn f;refine hl.mono ?_;rintro e w' ⟨rfl,hS,c0',c1',_⟩)
    refine⟨?_,by simp[intOf];omega⟩
    exact⟨(i+j) / 2+1,j,by rfl,rfl,C,C,C,.inr YG,HC2.out,hS⟩
  ·have Zh3:i=j:=C
   subst Zh3
   go_wp2
   go_loopw [15] (λvq wr2=>∃q:Nat,vq=Y Z ((m:Int)-(q:Int))/\q+i<=m/\SU enc k g T cs (W.alloc (uL f lb sf sb)) (shD d m q) wr2) (λvq _=>(intOf vq).toNat)
   case atStart=>exact⟨0,by rfl,C,HS.out⟩
   case round=>
    obtain⟨q,rfl,hq,LJ⟩:=hrel;have c0:wr.cell? ⟨W.heap.size,0,J⟩=G (.func (.func f) #[] lb):=by rw[LJ.Dr YE C];simp
    have c1:wr.cell? ⟨W.heap.size,1,J⟩=G (.func (.func sf) #[] sb):=by rw[LJ.Dr YE C];simp
    have Pu:Hid (SU enc k g T cs (W.alloc (uL f lb sf sb)) (shD d m q) wr):=LJ;clear LJ
    by_cases hqi:q+i<m
    ·have hs:=rG wr (shD d m q) Pu.out.hold Y7 (m-q) (m-q-1) C C
     rw[Wa,Wa,show((m-q-1:Nat):Int)=(m:Int)-(q:Int)-1 by omega,show((m-q:Nat):Int)=(m:Int)-(q:Int)by omega]at hs
     have Kj:(i:Int)<(m:Int)-(q:Int):=C
     go_wp2
     exact⟨⟨q+1,by grind,C,Pu.out.swap hk Y7 Y7⟩,by simp[intOf];omega⟩
    ·have Zj9:¬(i:Int)<(m:Int)-(q:Int):=C
     go_wp2
     (try simp only[Exit.inBlock,Exit.then])
     refine bodyPost_ret (results_none rfl _ _ _) rfl ?_;obtain rfl:=H1.out;refine⟨rfl,shD d m q,HB.out.trans Pu.out,OT d q C C,?_⟩;exact Uw hO HSs.out hi hj HC1.out HC2.out (λk=>by rw[show i=m-q by omega];exact S5 d q C C k)
end
end Go.Proofs.YtbjbellffaenaaaGreatDoor
namespace Go.Proofs.YtbjbellffaenaaaGreatDoor
open Go.RowKit
variable {i:Nat}{k o:Int}{l m:z Ln}{x:Ln}
theorem Hw(xs:z Ln)(x:Ln)(o k:Int):cC (xs++[x]) o k=nS o k (cC xs o k) x:=by simp[cC,List.foldl_append]
theorem wo{xs:z Ln}(h:ep xs=M):(∀x∈xs,1<=x.a/\x.a<=100000)/\(R xs)<=200:=by
 simp only[ep,V7,decide_eq_true_eq]at h
 have:=Ct h.2
 simp_all
theorem RH{xs:z Ln}(h:ep xs=M)(o k:Int):0<=cC xs o k/\cC xs o k<=20000000:=by
 obtain⟨h1,h2⟩:=wo h;have:=J4 o k h1 h2;omega
structure Zno(xs:z Ln)(o du en:Int)(ps:z Int)(t n:Int)(ys:z Ln):Prop where
 again:(ZfR ys o du en ps t).2=2
 pos:0<n
 ZlK:Bn ys=wrap64 (Bn xs-n)
 Zm1:kX ys o=0
 Zm4:n<=cC ys o 2
 lines:ep ys=M
theorem BY{xs:z Ln}(h:ep xs=M)(hx:xs[i]?=G x):rH x.o x.k x.a x.t=M/\xV (xs.take i) x=true:=by
 simp only[ep,V7]at h
 have h2:=zi.1 h.2 i (I0 hx);simp only[wm,Yd,hx,W9,V7,Ww]at h2
 exact⟨Ee h2.1,h2.2⟩
theorem kH{xs:z Ln}(h:¬(x.o=o/\x.k=k)):cC (xs++[x]) o k=cC xs o k:=by
 rw[Hw];simp only[nS,V7,beq_iff_eq];omega
theorem yY{xs:z Ln}(h1:x.o=o)(h2:x.k=k):cC (xs++[x]) o k=wrap64 (cC xs o k+x.a):=by
 rw[Hw];simp[nS,h1,h2]
theorem um{xs:z Ln}(h:ep xs=M)(i:Nat)(o k:Int):0<=cC (xs.take i) o k:=by
 obtain⟨h1,h2⟩:=wo h;have h3:R (xs.take i)<=200:=by grind
 have:=J4 o k (λx hx=>h1 x (List.mem_of_mem_take hx)) h3
 omega
theorem Cr{xs:z Ln}(h:ep xs=M)(o:Int):∀i,i<=R xs->cC (xs.take i) o 2<=cC (xs.take i) o 1/\cC (xs.take i) o 1<=100000/\(cC (xs.take i) o 1≠0->(1<=o/\o<=9999)/\∃x∈xs,x.o=o)
 |0,_=>by simp[cC]
 |i+1,hi=>by
  obtain⟨x,hx⟩:=C0 (show i<R xs by omega)
  have ih:=Cr h o i C;obtain⟨hl,hf⟩:=BY h hx;have ha:=zj hl;have p1:=um h i o 1;rw[JD hx]
  by_cases ho:x.o=o
  ·have Ib:1<=o/\o<=9999:=by
    simp only[rH,V7]at hl
    have:=qA hl.1.1.1;omega
   have Gi:∃y∈xs,y.o=o:=⟨x,VU hx,ho⟩
   rcases Ks hl with hk|hk|hk
   ·rw[ZhH hk,ho]at hf
    have h0:cC (xs.take i) o 1=0:=by
     grind
    rw[yY ho hk,kH (k:=2) C,h0,IntWalk.wrap64_in _ ⟨C,C⟩]
    grind
   ·rw[ZhI hk,ho]at hf
    have h0:¬cC (xs.take i) o 1<wrap64 (cC (xs.take i) o 2+x.a):=by simp_all
    rw[yY ho hk,kH (k:=1) C]
    simp_all
   ·rw[kH (k:=1) C,kH (k:=2) C]
    omega
  ·rw[kH (k:=1) C,kH (k:=2) C]
   omega
def pS(m:z Ln)(o k:Int):Int:=(m.map λx=>if(x.o==o&&x.k==k)=M then x.a else 0).sum
def pC(m:z Ln):Int:=(m.map λx=>if(x.k==2)=M then x.a else if(x.k==3)=M then -x.a else 0).sum
theorem RI(o k:Int):∀(m:z Ln) (s:Int),(∀x∈m,1<=x.a/\x.a<=100000)->0<=s->s+100000*(R m:Int)<=100000000->m.foldl (nS o k) s=s+pS m o k/\0<=pS m o k/\pS m o k<=100000*(R m:Int)
 | [],s,_,_,_=>by simp[pS]
 |x::m,s,ha,h0,h1=>by
  have hx:=ha x YE;simp only[V0]at h1
  have hc:pS (x::m) o k=(if(x.o==o&&x.k==k)=M then x.a else 0)+pS m o k:=by simp[pS]
  rw[Wq,hc]
  by_cases h:(x.o==o&&x.k==k)=M
  ·have e:nS o k s x=s+x.a:=by rw[nS,if_pos h];exact IntWalk.wrap64_in _ ⟨C,C⟩
   have r:=RI o k m (s+x.a) (λy hy=>ha y (by simp[hy])) C (by push_cast at h1;omega)
   rw[e,if_pos h,r.1,V0];refine⟨C,C,?_⟩
   push_cast;omega
  ·have e:nS o k s x=s:=by rw[nS,if_neg h]
   have r:=RI o k m s (λy hy=>ha y (by simp[hy])) h0 (by push_cast at h1;omega)
   rw[e,if_neg h,r.1,V0];refine⟨C,C,?_⟩
   push_cast;omega
theorem Pc(ha:∀x∈m,1<=x.a/\x.a<=100000)(hl:R m<=200)(o k:Int):cC m o k=pS m o k/\0<=pS m o k/\pS m o k<=20000000:=by
 have r:=RI o k m 0 ha C C;exact⟨by unfold cC;rw[r.1];omega,r.2.1,C⟩
theorem Zec(m:z Ln):∀s:Int,(∀x∈m,1<=x.a/\x.a<=100000)->100000*(R m:Int)<=s+100000000->s+100000*(R m:Int)<=100000000->m.foldl wE s=s+pC m:=by
 induction m with
 |nil=>intro s _ _ _;simp[pC]
 |cons x m ih=>
  intro s ha h0 h1;have hx:=ha x YE;simp only[V0]at h0 h1
  push_cast at h0 h1
  have hc:pC (x::m)=(if(x.k==2)=M then x.a else if(x.k==3)=M then -x.a else 0)+pC m:=by simp[pC]
  have e:wE s x=s+(if(x.k==2)=M then x.a else if(x.k==3)=M then -x.a else 0):=by
   unfold wE
   split
   ·exact IntWalk.wrap64_in _ ⟨C,C⟩
   ·split
    ·rw[IntWalk.wrap64_in _ ⟨C,C⟩];omega
    ·omega
  have hv:-100000<=(if(x.k==2)=M then x.a else if(x.k==3)=M then -x.a else 0)/\(if(x.k==2)=M then x.a else if(x.k==3)=M then -x.a else 0)<=100000:=by
   repeat' split
   all_goals omega
  rw[Wq,hc,e,ih _ (λy hy=>ha y (by simp[hy])) C C]
  omega
theorem TU(ha:∀x∈m,1<=x.a/\x.a<=100000)(hl:R m<=200):J2 m=pC m:=by
 unfold J2;rw[Zec m 0 ha C C];omega
theorem GI(c o:Int):∀n:Nat,((Wj n).map λi:Nat=>if((o==((i:Int)+1))=M)then c else 0).sum=if 1<=o/\o<=(n:Int)then c else 0
 |0=>by rw[if_neg C];rfl
 |n+1=>by
  rw[X9,Xv,Ya,GI c o n];simp only[WM,List.map_nil,Xo,List.sum_nil,beq_iff_eq]
  by_cases h:o=(n:Int)+1
  ·rw[if_neg C,if_pos h,if_pos (by push_cast;omega)];omega
  ·rw[if_neg h]
   by_cases h2:1<=o/\o<=(n:Int)
   ·rw[if_pos h2,if_pos (by push_cast;omega)];omega
   ·rw[if_neg h2,if_neg (by push_cast;omega)];omega
theorem Pd{α:Type}(f g:α->Int):∀l:z α,(l.map λi=>f i+g i).sum=(l.map f).sum+(l.map g).sum
 | []=>by simp
 |a::l=>by simp only[WM,Xo,Pd f g l];omega
theorem FN(n:Nat):∀m:z Ln,(∀x∈m,1<=x.o/\x.o<=(n:Int))->pC m=((Wj n).map λi:Nat=>pS m ((i:Int)+1) 2-pS m ((i:Int)+1) 3).sum
 | [],_=>by
  have:∀l:z Nat,(l.map λi:Nat=>pS [] ((i:Int)+1) 2-pS [] ((i:Int)+1) 3).sum=0:=λl=>by
   induction l with
   |nil=>rfl
   |cons a l ih=>simp only[WM,Xo,ih];simp[pS]
  rw[this];rfl
 |x::m,h=>by
  have hx:=h x YE;have hc:pC (x::m)=(if(x.k==2)=M then x.a else if(x.k==3)=M then -x.a else 0)+pC m:=by simp[pC]
  have e:(λi:Nat=>pS (x::m) ((i:Int)+1) 2-pS (x::m) ((i:Int)+1) 3)=λi:Nat=>(if((x.o==((i:Int)+1))=M)then(if(x.k==2)=M then x.a else if(x.k==3)=M then -x.a else 0)else 0)+(pS m ((i:Int)+1) 2-pS m ((i:Int)+1) 3):=by
   funext i
   simp only[pS,WM,Xo,V7,beq_iff_eq]
   by_cases h1:x.o=(i:Int)+1<;>by_cases h2:x.k=2<;>by_cases h3:x.k=3<;>simp[h1,h2,h3]<;>omega
  rw[e,Pd,GI,if_pos hx,hc,FN n m λy hy=>h y (by simp[hy])]
theorem Lu{f:Nat->Int}:∀{n:Nat},(∀i,i<n->0<=f i)->0<=((Wj n).map f).sum/\(((Wj n).map f).sum=0↔∀i,i<n->f i=0)
 |0,_=>by simp
 |n+1,h=>by
  obtain⟨h1,h2⟩:=Lu (n:=n) λi hi=>h i C
  have h3:=h n C;rw[X9,Xv,Ya];simp only[WM,List.map_nil,Xo,List.sum_nil];refine⟨C,λhs i hi=>?_,λhs=>?_⟩
  ·by_cases hn:i=n
   ·subst hn;omega
   ·exact(h2.1 C) i C
  ·have:=h2.2 λi hi=>hs i C
   have:=hs n C;omega
def H5(xs:z Int)(o:Int):Bool:=xs.any (λx=>x==o)
theorem Zbx{xs:z Int}:H5 xs o=M↔o∈xs:=by
 simp only[H5,List.any_eq_true,beq_iff_eq];exact⟨λ⟨x,h1,h2⟩=>h2▸h1,λh=>⟨o,h,rfl⟩⟩
def vu(l:z Ln)(out:z Int)(x:Ln):z Int:=if K (0<kX l x.o)=M then(if H5 out x.o=M then out else out++[x.o])else out
def A1(l:z Ln)(i:Nat):z Int:=(l.take i).foldl (vu l) []
theorem QJ(l:z Ln)(out:z Int)(x:Ln):R (vu l out x)<=R out+1:=by
 unfold vu
 repeat' split
 all_goals simp
theorem KG(l:z Ln)(i:Nat):R (A1 l i)<=i:=by
 have h:∀(b:z Ln) (out:z Int),R (b.foldl (vu l) out)<=R out+R b:=by
  intro b
  induction b with
  |nil=>intro out;simp
  |cons x b ih=>
   intro out;have h1:=ih (vu l out x);have h2:=QJ l out x;simp only[Wq,V0];omega
 have h1:=h (l.take i) [];have h2:R (l.take i)<=i:=List.length_take_le _ _;simp only[V2]at h1
 unfold A1;omega
theorem Ziv(hx:l[i]?=G x)(h:K (0<kX l x.o)=S):A1 l (i+1)=A1 l i:=by
 unfold A1;rw[xw hx];simp[vu,h]
theorem Zfr(hx:l[i]?=G x)(h2:H5 (A1 l i) x.o=M):A1 l (i+1)=A1 l i:=by
 unfold A1 at *
 rw[xw hx];simp[vu,h2]
theorem Zfs(hx:l[i]?=G x)(h:K (0<kX l x.o)=M)(h2:H5 (A1 l i) x.o=S):A1 l (i+1)=A1 l i++[x.o]:=by
 unfold A1 at *
 rw[xw hx];simp only[vu,h,h2,if_true];simp
def VO(zs:z Int):z Int:=zs.mergeSort λx y=>K (x<=y)
theorem Fc(zs:z Int):R (VO zs)=R zs:=by simp[VO]
theorem QE(l:z Ln)(o:Int)(u:z Int)(x:Ln):o∈vu l u x↔o∈u\/(0<kX l o/\x.o=o):=by
 unfold vu
 by_cases h1:0<kX l x.o
 ·rw[if_pos (Yi h1)]
  by_cases h2:H5 u x.o=M
  ·rw[if_pos h2]
   have:=Zbx.1 h2
   grind
  ·rw[if_neg h2]
   grind
 ·rw[if_neg (by simpa using h1)]
  grind
theorem Sz(l:z Ln)(o:Int):∀(b:z Ln) (u:z Int),o∈b.foldl (vu l) u↔o∈u\/(0<kX l o/\∃x∈b,x.o=o)
 | [],u=>by simp
 |x::b,u=>by
  rw[Wq,Sz l o b,QE];simp only[List.mem_cons,exists_eq_or_imp]
  grind
theorem Zck(l:z Ln)(o:Int):o∈VO (A1 l (R l))↔0<kX l o/\∃x∈l,x.o=o:=by
 rw[VO,(List.mergeSort_perm _ _).mem_iff];unfold A1;rw[Sz,List.take_length];simp
end Go.Proofs.YtbjbellffaenaaaGreatDoor
namespace Go.Proofs.YtbjbellffaenaaaGreatDoor
open Go.RowKit Go.Shelf
abbrev TB:Nat:=114
def ZaI(b:Nat)(w:World)(h0:w.cell? ⟨b,0,J⟩=G (.pointer (G ⟨b,0,J⟩))):
 Calls prog 125 #[.pointer (G ⟨b,0,J⟩)] w λe w'=>e=.returned (.tuple #[])/\w'=w:=by
 have X:=Tryz.nb;obtain⟨j,hj,_⟩:=Wc.1 X.sizeBuilder
 go_enter func125,ntmps125
 go_wp2
 rw[Lib.run_neq_ptr_same w _ Tryz.underlying112 hj]
 go_wp2
 go_end0
 exact⟨rfl,rfl⟩
def TR(b:Nat)(w:World)(h0:w.cell? ⟨b,0,J⟩=G (.pointer J))(hsh:w.shape? b=G (TB,2))(hfz:w.frozen? ⟨b,0,J⟩=S):
 Calls prog 125 #[.pointer (G ⟨b,0,J⟩)] w λe w'=>e=.returned (.tuple #[])/\w'=w.setCell ⟨b,0,J⟩ (.pointer (G ⟨b,0,J⟩)):=by
 have X:=Tryz.nb;obtain⟨j,hj,hjs⟩:=Wc.1 X.sizeBuilder
 go_enter func125,ntmps125
 go_wp2
 rw[Lib.run_to_unsafe w ⟨b,0,J⟩ Tryz.underlying112 Tryz.underlying234 hj (by rw[hjs];decide) hsh (Nat.zero_lt_succ 1)]
 simp only[Result.andThen];rw[Oper.upon_value]
 go_wp2
 rw[run_callFunc_extern func192 YC YC YC (e:=Extern.AbiNoEscape.same) YC];rw[Lib.run_noEscape];simp only[Result.andThen];rw[Oper.upon_value]
 go_wp2
 rw[Lib.run_from_unsafe w ⟨b,0,J⟩ Tryz.underlying234 Tryz.underlying112 hj hsh X.toX72.liesBuilder];simp only[Result.andThen];rw[Oper.upon_value]
 go_wp2
 go_end0
 exact⟨rfl,rfl⟩
def Mn(B b:Nat)(bs:z Value)(w:World)(h:Lib.IsBuilder TB 5 B b bs w):
 Calls prog 125 #[.pointer (G ⟨b,0,J⟩)] w λe w'=>e=.returned (.tuple #[])/\(Lib.BuilderAt TB 5 B b (.pointer (G ⟨b,0,J⟩)) bs w'/\Below B w w'):=by
 rcases h with h|h
 ·refine(TR b w h.cell0 h.shape h.frozen0).mono ?_
  rintro e w' ⟨rfl,rfl⟩;exact⟨rfl,h.used _,(Below.refl B w).setCell (p:=⟨b,0,J⟩) h.1 _⟩
 ·refine(ZaI b w h.cell0).mono ?_
  rintro e w' ⟨rfl,rfl⟩;exact⟨rfl,h,Below.refl B _⟩
def ZaG(B b:Nat)(bs:z Value)(c:Int)(w:World)(h:Lib.IsBuilder TB 5 B b bs w)(hlen:R bs+1<=140737488355328)(hBw:B<=w.heap.size):
 Calls prog 352 #[.pointer (G ⟨b,0,J⟩),.int .u8 c] w λe w'=>e=.returned .nilIface/\(Lib.BuilderAt TB 5 B b (.pointer (G ⟨b,0,J⟩)) (bs++[.int .u8 c]) w'/\Below B w w'):=by
 have X:=Tryz.nb;obtain⟨i0,hi,hz0,PC,IQ⟩:=info_parts X.infoByte
 go_enter func352,ntmps352
 go_wp2_with (go_at_call 125;refine(Mn B b bs _ h).mono ?_)
 rintro e w1 ⟨rfl,h1,qV⟩;obtain⟨hB,v,yw,pj,gL⟩:=h1;have c0:w1.cell? ⟨b,0,J⟩=G (.pointer (G ⟨b,0,J⟩)):=by rw[Lib.cell_of_heap yw];rfl
 have c1:w1.cell? ⟨b,1,J⟩=G v:=by rw[Lib.cell_of_heap yw];rfl
 go_wp2_with (at_builtin;refine wpList_append_own _ rfl _ _ 22 rfl B 5 i0 (.int .u8 0) 1 1 Tryz.underlying22 hi hz0 PC IQ rfl YJ _ _ _ rfl (pj.alloc _) ⟨w1.heap.size,0,J⟩ 1 1 [.int .u8 c] rfl rfl ?c1 ?c2 ?c3 ?c4 ?c5 ?_)
 case c1=>
  intro j u hj
  match j,hj with
  |0,hj=>simp at hj;subst hj;simp[Addr.add]
 case c2=>intro u hu;simp at hu;subst hu;rfl
 case c3=>unfold maxLen;omega
 case c4=>omega
 case c5=>have:=qV.size;simp;omega
 intro v' w2 BH Nb _;have bD:b<w1.heap.size:=by
  rcases Wu b w1.heap.size with h'|h'
  ·exact h'
  ·simp[XE h']at yw
 have yb:w2.heap[b]?=G (.cells #[.pointer (G ⟨b,0,J⟩),v] TB (0,0)):=by
  rw[Nb.block b YL (λe=>gL e.symm),Lib.alloc_old w1 _ b bD]
  exact yw
 have d0:w2.cell? ⟨b,0,J⟩=G (.pointer (G ⟨b,0,J⟩)):=by rw[Lib.cell_of_heap yb];rfl
 have d1:w2.cell? ⟨b,1,J⟩=G v:=by rw[Lib.cell_of_heap yb];rfl
 have f1:w2.frozen? ⟨b,1,J⟩=false:=Lib.frozen_of_heap yb 1;obtain⟨g,cap,rfl⟩:∃g cap,v'=.slice (G ⟨g,0,J⟩) (R bs+1) cap:=by
  rcases BH.2 with⟨_,h0⟩ |⟨g,cap,cur,hv,_⟩
  ·omega
  ·exact⟨g,cap,hv⟩
 go_wp2
 go_ret
 refine⟨rfl,?_,?_⟩
 ·exact Lib.BuilderAt.put (T:=TB) (e:=5) hB yb (bs':=bs++[.int .u8 c]) (by simpa using BH) X.neB5
 ·exact((qV.alloc (by have:=qV.size;omega) _).grown Nb (by have:=qV.size;simp;omega) (λk hk=>(pj.lt k hk).1)).setCell (p:=⟨b,1,J⟩) hB _
def RZ(B b:Nat)(bs:z Value)(s:N)(w:World)(h:Lib.IsBuilder TB 5 B b bs w)(hlen:R bs+s.size<=140737488355328)(hBw:B<=w.heap.size):
 Calls prog 60 #[.pointer (G ⟨b,0,J⟩),.string s] w λe w'=>e=.returned (.tuple #[Y Z s.size,.nilIface])/\(Lib.BuilderAt TB 5 B b (.pointer (G ⟨b,0,J⟩)) (bs++Lib.strCells s) w'/\Below B w w'):=by
 have X:=Tryz.nb;obtain⟨i0,hi,hz0,PC,IQ⟩:=info_parts X.infoByte
 go_enter func60,ntmps60
 go_wp2_with (go_at_call 125;refine(Mn B b bs _ h).mono ?_)
 rintro e w1 ⟨rfl,h1,qV⟩;obtain⟨hB,v,yw,pj,gL⟩:=h1;have c0:w1.cell? ⟨b,0,J⟩=G (.pointer (G ⟨b,0,J⟩)):=by rw[Lib.cell_of_heap yw];rfl
 have c1:w1.cell? ⟨b,1,J⟩=G v:=by rw[Lib.cell_of_heap yw];rfl
 go_wp2_with (at_builtin;refine Lib.wpList_append_own_string _ rfl _ _ 22 9 rfl B 5 i0 Tryz.underlying22 Tryz.underlying9 hi hz0 PC IQ _ _ _ rfl pj s rfl ?c3 ?c4 ?c5 ?_)
 case c3=>unfold maxLen;omega
 case c4=>omega
 case c5=>have:=qV.size;omega
 intro v' w2 BH Nb _;have bD:b<w1.heap.size:=by
  rcases Wu b w1.heap.size with h'|h'
  ·exact h'
  ·simp[XE h']at yw
 have yb:w2.heap[b]?=G (.cells #[.pointer (G ⟨b,0,J⟩),v] TB (0,0)):=by
  rw[Nb.block b bD (λe=>gL e.symm)]
  exact yw
 have d0:w2.cell? ⟨b,0,J⟩=G (.pointer (G ⟨b,0,J⟩)):=by rw[Lib.cell_of_heap yb];rfl
 have d1:w2.cell? ⟨b,1,J⟩=G v:=by rw[Lib.cell_of_heap yb];rfl
 have f1:w2.frozen? ⟨b,1,J⟩=false:=Lib.frozen_of_heap yb 1;obtain⟨ao,n',cap,rfl⟩:∃ao n' cap,v'=.slice ao n' cap:=by
  rcases BH.2 with⟨hv,_⟩ |⟨g,cap,cur,hv,_⟩
  ·exact⟨_,_,_,hv⟩
  ·exact⟨_,_,_,hv⟩
 go_wp2
 go_ret2
 refine⟨rfl,?_,?_⟩
 ·exact Lib.BuilderAt.put (T:=TB) (e:=5) hB yb (bs':=bs++Lib.strCells s) (by simpa[Lib.strCells_length]using BH) X.neB5
 ·exact(qV.grown Nb (by have:=qV.size;omega) (λk hk=>(pj.lt k hk).1)).setCell (p:=⟨b,1,J⟩) hB _
end Go.Proofs.YtbjbellffaenaaaGreatDoor
namespace Go.Proofs.YtbjbellffaenaaaGreatDoor
open Go
variable {a b l:z L}{i:Nat}{n:Int}
def ll(c:L):z L->z (z L)
 | []=>[[]]
 |x::xs=>if x=c then []::ll c xs else match ll c xs with
  | []=>[[x]]
  |p::ps=>(x::p)::ps
theorem ua{c:L}:∀{l:z L},c ∉ l->ll c l=[l]
 | [],_=>rfl
 |x::xs,h=>by
  have h1:¬x=c:=λe=>h (by simp[e])
  have h2:c ∉ xs:=λe=>h (Wl _ e)
  simp[ll,h1,ua h2]
theorem pF{c:L}{b:z L}:∀{a:z L},c ∉ a->ll c (a++c::b)=a::ll c b
 | [],_=>by simp[ll]
 |x::xs,h=>by
  have h1:¬x=c:=λe=>h (by simp[e])
  have h2:c ∉ xs:=λe=>h (Wl _ e)
  simp[ll,h1,pF h2]
theorem Nt(c:L):∀l:z L,c ∉ l\/∃a b,l=a++c::b/\c ∉ a
 | []=>.inl YE
 |x::xs=>by
  by_cases hx:x=c
  ·exact .inr ⟨[],xs,by simp[hx],by simp⟩
  ·rcases Nt c xs with h|⟨a,b,rfl,h⟩
   ·exact .inl (by simp[h,Ne.symm hx])
   ·exact .inr ⟨x::a,b,rfl,by simp[h,Ne.symm hx]⟩
theorem Zcu{c:L}:Lib.occAt l [c] i=M↔l[i]?=G c:=by
 unfold Lib.occAt;rw[<-List.head?_drop]
 cases l.drop i with
 |nil=>simp
 |cons x xs=>
  simp only[List.head?_cons,Option.some.injEq];constructor
  ·intro h;simp[List.isPrefixOf]at h;exact h.symm
  ·rintro rfl;simp[List.isPrefixOf]
theorem occ_no{c:L}(h:l[i]?≠G c):Lib.occAt l [c] i=false:=by
 cases e:Lib.occAt l [c] i with
 |false=>rfl
 |true=>exact absurd (Zcu.1 e) h
theorem IS{c:L}(h:c ∉ a):Lib.index (a++c::b) [c]=R a:=by
 refine Lib.index_first YE (Zcu.2 YE) λj hj=>occ_no λe=>h ?_
 rw[List.getElem?_append_left hj]at e
 exact VU e
theorem Nu{c:L}(h:c ∉ l):Lib.index l [c]=-1:=
 Lib.index_none λj _=>occ_no λe=>h (VU e)
theorem Jx(c:L):∀(n:Nat) (l:z L),R l<=n->Lib.splitK [c] 0 (Lib.count l [c]) l=ll c l
 |n,l,hn=>by
  rcases Nt c l with h|⟨a,b,rfl,h⟩
  ·rw[Lib.count_miss (Nu h),ua h];rfl
  ·have hi:=IS (b:=b) h
   have hd:(a++c::b).drop (R a+1)=b:=by simp
   rw[Lib.count_hit YE hi,pF h,Nat.add_comm 1];simp only[V0,V2,Wa,hd];unfold Lib.splitK;have hm:¬(Lib.index (a++c::b) [c]==-1)=true:=λe=>by have:=beq_iff_eq.1 e;omega
   rw[if_neg hm,hi];simp only[Int.toNat_natCast,Nat.add_zero,V0,V2,Wa,List.take_left',hd]
   match n,hn with
   |0,hn=>simp at hn
   |n+1,hn=>
    rw[Jx c n b (by simp at hn;omega)]
theorem Zeo{c:L}(h:c ∉ a):Lib.cut (a++c::b) [c]=(a,b,M):=by
 have hi:=IS (b:=b) h;unfold Lib.cut;simp[hi]
theorem ZhD{c:L}(h:c ∉ l):Lib.cut l [c]=(l,[],S):=by
 have hi:=Nu h;unfold Lib.cut;simp[hi]
theorem Ly{k:Nat}(h:k<10):(UInt8.ofNat (48+k)).toNat=48+k:=by simp;omega
theorem Jd:∀(a b:z L) (acc:Nat),Lib.parseUint10 acc (a++b)=(match Lib.parseUint10 acc a with|.ok u=>Lib.parseUint10 u b|Lib.NumEnd.syntax=>Lib.NumEnd.syntax|.range=>.range)
 | [],b,acc=>rfl
 |c::a,b,acc=>by
  simp only[List.cons_append,Lib.parseUint10]
  split
  ·split
   ·rfl
   ·split
    ·rfl
    ·exact Jd a b _
  ·rfl
theorem Dx:∀(n u:Nat),u<=n->u<1844674407370955161->Lib.parseUint10 0 (Lib.decDigits u)=.ok u
 |n,u,hn,hu=>by
  rw[Lib.decDigits]
  split
  ·rename_i h
   have e:=Ly h;simp only[Lib.parseUint10,e];rw[if_pos C,if_neg C,if_neg C]
   congr 1;omega
  ·rename_i h
   have e:=Ly (k:=u % 10) C
   match n,hn with
   |0,hn=>omega
   |n+1,hn=>
    rw[Jd,Dx n (u / 10) C C];simp only[Lib.parseUint10,e];rw[if_pos C,if_neg C,if_neg C]
    congr 1;omega
theorem ZhE(u:Nat):Lib.decDigits u≠[]:=by
 rw[Lib.decDigits];split<;>simp
theorem J8:∀(n u:Nat),u<=n->∀c∈Lib.decDigits u,48<=c.toNat/\c.toNat<=57
 |n,u,hn,c,hc=>by
  rw[Lib.decDigits]at hc
  split at hc
  ·rename_i h
   rw[Wh.1 hc,Ly h];omega
  ·rename_i h
   rcases List.mem_append.1 hc with h1|h1
   ·match n,hn with
    |0,hn=>omega
    |n+1,hn=>exact J8 n (u / 10) C c h1
   ·rw[Wh.1 h1,Ly C];omega
theorem NB(u:Nat):Lib.itoa (u:Int)=Lib.decDigits u:=by unfold Lib.itoa;rw[if_neg C];simp
theorem NC(h:0<=n):∀c∈Lib.itoa n,48<=c.toNat/\c.toNat<=57:=by
 obtain⟨u,rfl⟩:=Int.eq_ofNat_of_zero_le h;rw[NB];exact J8 u u (VW _)
theorem Zfm(h:∀c∈l,48<=c.toNat/\c.toNat<=57){c:L}(hc:c.toNat<48\/57<c.toNat):c ∉ l:=λhm=>by have:=h c hm;omega
theorem Iw(h0:0<=n)(h1:n<=1000000000000):Lib.atoiAll (Lib.itoa n)=.ok n:=by
 obtain⟨u,rfl⟩:=Int.eq_ofNat_of_zero_le h0;have hp:=Dx u u (VW _) C;have hd:=J8 u u (VW _);have gL:=ZhE u;rw[NB]
 revert hp hd gL
 generalize Lib.decDigits u=l;intro hp hd gL
 cases l with
 |nil=>exact absurd rfl gL
 |cons c r=>
  have:=hd c List.mem_cons_self;have e1:¬c.toNat=43:=C;have e2:¬c.toNat=45:=C;have e3:¬(9223372036854775808:Nat)<=u:=C;unfold Lib.atoiAll Lib.parseMag;simp[e1,e2,hp,e3]
theorem Zd5{v:Int}(h:Lib.atoiAll l=.ok v):-9223372036854775808<=v/\v<=9223372036854775807:=by
 cases l with
 |nil=>cases h
 |cons c r=>
  unfold Lib.atoiAll at h
  simp only at h
  split at h
  ·cases h
  ·cases h
  ·split at h
   ·cases h
   ·split at h
    ·cases h
    ·injection h with h
     subst h
     split<;>omega
end Go.Proofs.YtbjbellffaenaaaGreatDoor
namespace Go.Proofs.YtbjbellffaenaaaGreatDoor
open Go.RowKit
variable {B' g j k m n:Nat}{D':Nat->Prop}{T:TypeId}{v:Value}
structure Mk(TO:TypeId->Nat->Prop)(D:Nat->Prop)(w w':World):Prop where
 os:w'.os=w.os
 tape:w'.tape=w.tape
 output:w'.output=w.output
 size:w.heap.size<=w'.heap.size
 low:∀b,b<w.heap.size->¬D b->w'.heap[b]?=w.heap[b]?
 row:∀(b:Nat) (cs:E Value) (T:TypeId),w.heap[b]?=G (.cells cs T (0,0))->∃rW:E Value,w'.heap[b]?=G (.cells rW T (0,0))/\rW.size=cs.size/\∀j,TO T j->rW[j]?=cs[j]?
section
variable {TO:TypeId->Nat->Prop} {D:Nat->Prop} {B:Nat} {w a b:World}
theorem Mk.rfl':Mk TO D w w:=⟨rfl,rfl,rfl,VW _,λ_ _ _=>rfl,λb cs T h=>⟨cs,h,rfl,λ_ _=>rfl⟩⟩
theorem Mk.trans(h:Mk TO D w a)(k:Mk TO D a b):Mk TO D w b:=
 ⟨k.os.trans h.os,k.tape.trans h.tape,k.output.trans h.output,Wd h.size k.size,λx hx hd=>(k.low x (Wn hx h.size) hd).trans (h.low x hx hd),λx cs T hx=>by
  obtain⟨c1,h1,h2,h3⟩:=h.row x cs T hx;obtain⟨c2,k1,k2,k3⟩:=k.row x c1 T h1
  simp_all⟩
theorem Mk.up(h:Mk TO D w a)(k:Up a b):Mk TO D w b:=
 ⟨k.os.trans h.os,k.tape.trans h.tape,k.output.trans h.output,Wd h.size k.size,λx hx hd=>(k.block x (Wn hx h.size)).trans (h.low x hx hd),λx cs T hx=>by
  obtain⟨c1,h1,h2,h3⟩:=h.row x cs T hx;exact⟨c1,(k.block x (V6.1 h1).1).trans h1,h2,h3⟩⟩
theorem Mk.set(h:Mk TO D w a){cs:E Value}(hg:a.heap[g]?=G (.cells cs T (0,0)))(hBg:D g)(hT:¬TO T j)(v:Value):Mk TO D w (a.setCell ⟨g,j,J⟩ v):=by
 have hs:(a.setCell ⟨g,j,J⟩ v).heap[g]?=G (.cells (cs.setIfInBounds j v) T (0,0)):=heap_setCell_same a g j cs T v hg;have ho:∀x,x≠g->(a.setCell ⟨g,j,J⟩ v).heap[x]?=a.heap[x]?:=λx hx=>heap_setCell_other a ⟨g,j,J⟩ x v hx
 have hz:(a.setCell ⟨g,j,J⟩ v).heap.size=a.heap.size:=by simp
 refine⟨h.os,h.tape,h.output,by rw[hz];exact h.size,λx hx hd=>(ho x YD).trans (h.low x hx hd),λx c T' hx=>?_⟩
 obtain⟨c1,h1,h2,h3⟩:=h.row x c T' hx
 grind
def xk(w:World)(B:Nat)(T:TypeId)(k:Nat)(v:Value)(n:Nat):Prop:=
 (∃c,v=.slice J 0 c/\n=0)\/∃(g c:Nat) (cs:E Value),v=.slice (G ⟨g,0,J⟩) n c/\B<=g/\w.heap[g]?=G (.cells cs T (0,0))/\n*k<=cs.size
theorem xk.mk(h:xk w B' T k v n)(m:Mk TO D w a):xk a B' T k v n:=by
 rcases h with h|⟨g,c,cs,h1,h2,h3,h4⟩
 ·exact .inl h
 ·obtain⟨c1,k1,k2,_⟩:=m.row g cs T h3
  exact .inr ⟨g,c,c1,h1,h2,k1,C⟩
theorem xk.more(h:xk w B' T k v n)(hB:B<=B'):xk w B T k v n:=by
 rcases h with h|⟨g,c,cs,h1,h2,h3,h4⟩
 ·exact .inl h
 ·exact .inr ⟨g,c,cs,h1,Wd hB h2,h3,h4⟩
theorem xk.up(h:xk w B' T k v n)(m:Up w a):xk a B' T k v n:=by
 rcases h with h|⟨g,c,cs,h1,h2,h3,h4⟩
 ·exact .inl h
 ·exact .inr ⟨g,c,cs,h1,h2,(m.block g (V6.1 h3).1).trans h3,h4⟩
def CE(w:World)(D:Nat->Prop)(T:TypeId)(k:Nat)(v:Value)(n:Nat):Prop:=
 (∃c,v=.slice J 0 c/\n=0)\/∃(g c:Nat) (cs:E Value),v=.slice (G ⟨g,0,J⟩) n c/\D g/\w.heap[g]?=G (.cells cs T (0,0))/\n*k<=cs.size
theorem CE.mk(h:CE w D' T k v n)(m:Mk TO D w a):CE a D' T k v n:=by
 rcases h with h|⟨g,c,cs,h1,h2,h3,h4⟩
 ·exact .inl h
 ·obtain⟨c1,k1,k2,_⟩:=m.row g cs T h3
  exact .inr ⟨g,c,c1,h1,h2,k1,C⟩
theorem CE.up(h:CE w D' T k v n)(m:Up w a):CE a D' T k v n:=by
 rcases h with h|⟨g,c,cs,h1,h2,h3,h4⟩
 ·exact .inl h
 ·exact .inr ⟨g,c,cs,h1,h2,(m.block g (V6.1 h3).1).trans h3,h4⟩
def zH(w:World)(g m:Nat)(T:TypeId):Prop:=∃cs:E Value,w.heap[g]?=G (.cells cs T (0,0))/\m<=cs.size
theorem zH.mk(h:zH w g m T)(k:Mk TO D w a):zH a g m T:=by
 obtain⟨cs,h1,h2⟩:=h;obtain⟨c1,k1,k2,_⟩:=k.row g cs T h1;exact⟨c1,k1,C⟩
theorem zH.up(h:zH w g m T)(k:Up w a):zH a g m T:=by
 obtain⟨cs,h1,h2⟩:=h;exact⟨cs,(k.block g (V6.1 h1).1).trans h1,h2⟩
theorem zH.cell(h:zH w g m T)(hj:j<m):(∃u,w.cell? ⟨g,j,J⟩=G u)/\w.frozen? ⟨g,j,J⟩=false:=by
 obtain⟨cs,h1,h2⟩:=h;exact⟨⟨cs[j]' C,by rw[cell_of_row w g j cs T (0,0) h1];simp⟩,frozen_of_row w g j cs T h1⟩
theorem zH.set{g':Nat}(h:zH w g m T)(hg:zH w g' 0 T)(v:Value):zH (w.setCell ⟨g',j,J⟩ v) g m T:=by
 obtain⟨cs,h1,h2⟩:=h;obtain⟨rW,LH,_⟩:=hg
 by_cases e:g=g'
 ·subst e
  exact⟨_,heap_setCell_same w g j cs T v h1,by simp_all⟩
 ·exact⟨cs,(heap_setCell_other w ⟨g',j,J⟩ g v e).trans h1,h2⟩
theorem Mk.zV(h:Mk TO D w a)(hg:zH a g m T)(hBg:D g)(hT:¬TO T j)(v:Value):Mk TO D w (a.setCell ⟨g,j,J⟩ v):=by
 obtain⟨cs,h1,_⟩:=hg;exact h.set h1 hBg hT v
theorem zH.Zky(h:zH w g m T)(v:Value):zH (w.setCell ⟨g,j,J⟩ v) g m T:=h.set (by obtain⟨cs,h1,_⟩:=h;exact⟨cs,h1,Nat.zero_le _⟩) v
end
