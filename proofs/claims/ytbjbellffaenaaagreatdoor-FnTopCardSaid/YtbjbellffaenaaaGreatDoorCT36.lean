/- A part of the proof of this claim's last theorem. No condition. -/
import Derived.Test.YtbjbellffaenaaaGreatDoorCT33
import Derived.Test.YtbjbellffaenaaaGreatDoorCT34
set_option linter.all false
set_option maxRecDepth 10000
open Option renaming some->d,none->Zd
open Bool renaming true->X,false->E
open Decidable renaming decide->O
open List renaming length->z
open Option renaming bind->D
open _root_ renaming ByteArray->G,Int->g,List->j,Nat->C,Option->J,cond->y
open Go.Proofs.Tryz
set_option maxHeartbeats 40000000
namespace Go.Proofs.YtbjbellffaenaaaGreatDoor
open List renaming mem_singleton->Wh,getElem_of_mem->V3,getElem?_eq_getElem->VS,getElem_mem->Wk,all_eq_true->VZ
open Go.RowKit
variable {K:C}{L p:j UInt8}{l:j bk}{ο σ:Type}{body:σ->J (σ⊕ο)}
def JQ(K:C)(w:aw):Prop:=∃u s:C,z w.ae+u+s<=K/\∀o∈w.ae,z o.aE<=6*(1+min u s)/\aY o<=((6*min u (s+1):C):g)
structure L6(n:ab)(K:C)(w:aw):Prop where
 ok:oc w
 dp:w.aa=n
 cnt:JQ K w
theorem K1{n:ab}(h:uA n):z (aj n)<=7:=by
 have:=uW (xs:=aj n) (ys:=ur) (Cd n) λp hp=>by
  have hp':p∈(jO n).foldl vh []:=hp
  rcases uO.1 hp' with hp|hp
  ·unfold jO at hp
   obtain⟨l,hl,uP⟩:=List.mem_flatMap.1 hp;have:=h.bq l hl
   rcases List.mem_cons.1 uP with rfl|uP
   ·exact this.ar
   ·rw[Wh.1 uP];exact this.aZ
  simp_all
 exact this
theorem JQ.mono{w:aw}(h:JQ K w):JQ (K+1) w:=by
 obtain⟨u,s,h1,h2⟩:=h;exact⟨u,s,YA,h2⟩
theorem L6.mono{n:ab}{K:C}{w:aw}(h:L6 n K w):L6 n (K+1) w:=⟨h.ok,h.dp,h.cnt.mono⟩
theorem Iz{n:ab}(h7:z (aj n)<=7){w x:aw}(hw:oc w)(hn:w.aa=n)(h:JQ K w)(hl:z x.ae=z w.ae)(hr:∀(i:C) (o:ay),w.ae[i]?=d o->∃o',x.ae[i]?=d o'/\rU w.aa o o'):JQ (K+1) x:=by
 obtain⟨hP,_⟩:=jN hw;obtain⟨u,s,h1,h2⟩:=h;refine⟨u,s+1,YA,λo' zK=>?_⟩
 obtain⟨i,hi,rfl⟩:=V3 zK;have hiw:i<z w.ae:=YA;have ho:=VS hiw;obtain⟨o2,e,hR⟩:=hr i _ ho;rw[VS hi]at e
 have e:=Option.some.inj e;obtain⟨b1,b2⟩:=h2 _ (Wk hiw);have hc:=nY hP ho;rw[e]
 rcases hR with rfl|⟨more,hm,rfl⟩
 ·omega
 ·rw[hn]at hm
  refine⟨?_,?_⟩
  ·show(bW w.ae[i]++more).length<=_
   grind
  ·show aY w.ae[i]<=_
   omega
theorem Zee{w:aw}(hw:oc w)(h:JQ K w){t:g}(hu:w.now<=t)(hm:t<=100000):JQ (K+1) (vG w t):=by
 obtain⟨a,b,_⟩:=CF hw hu hm;obtain⟨hP,_⟩:=jN a;obtain⟨u,s,h1,h2⟩:=h;refine⟨u+1,s,by have:=b.len;omega,λo' zK=>?_⟩
 obtain⟨i,hi,rfl⟩:=V3 zK;have od:=VS hi;have hiw:i<z w.ae:=by rw[<-b.len];omega
 have hs:=b.ord i _ _ (VS hiw) od;obtain⟨b1,b2⟩:=h2 _ (Wk hiw);have hc:=nY hP od;rw[hs.aE]at *
 omega
/-! Zjl a change of a world can not be. -/
section
variable {n:ab} (hn:uA n)
include hn
theorem L8{w:aw}(hw:L6 n K w)(ar aZ:G)(ax ah:g):aO (dQ w ar aZ ax ah) λr=>L6 n (K+1) r.1:=by
 obtain⟨r,_,e,hr⟩:=DN hw.ok ar aZ ax ah;refine aO.of e ?_
 rcases hr with⟨rfl,_⟩ |⟨aE,ys,fc,hT⟩
 ·exact hw.mono
 ·rw[hT.res]
  have uf:=hw.dp;have h7:=K1 hn;have hR:=sB hw.ok.fit.dp hw.ok.fit.av hw.ok.fit.ak hT.jb;have Zmm:=Tv hw.ok.fit.dp hR;rw[uf]at Zmm
  refine⟨hT.ok,hw.dp,?_⟩;obtain⟨u,s,h1,h2⟩:=hw.cnt;refine⟨u,s,?_,λo ho=>?_⟩
  ·show(w.ae++[mO w ar aZ ax ah fc aE]).length+u+s<=K+1
   grind
  ·have zK:o∈w.ae++[mO w ar aZ ax ah fc aE]:=ho
   rcases List.mem_append.1 zK with zK|zK
   ·simp_all
   ·obtain rfl:=Wh.1 zK
    refine⟨?_,?_⟩
    ·show (z aE)<=_;omega
    ·show(if(1:g)=2 then(0:g)+1 else 0)<=_
     omega
theorem VI{w:aw}(hw:L6 n K w)(t:au):aO (dB w t) λr=>L6 n (K+1) r.1:=by
 obtain⟨r,_,e,hr⟩:=Js hw.ok t;refine aO.of e ?_
 rcases hr with rfl|⟨x,rfl,hS⟩
 ·exact hw.mono
 ·have hr:∀(i:C) (o:ay),w.ae[i]?=d o->∃o',x.ae[i]?=d o'/\rU w.aa o o':=λi o ho=>by
   obtain⟨o',a,_,c⟩:=hS.ord i o ho
   simp_all
  exact⟨hS.ok,hS.same.aa.trans hw.dp,Iz (K1 hn) hw.ok hw.dp hw.cnt hS.same.len hr⟩
theorem Rl{w:aw}(hw:L6 n K w):aO (dv w) λr=>L6 n (K+1) r.1:=by
 obtain⟨x,m,_,e,hR⟩:=G8 hw.ok;refine aO.of e ?_;have hr:∀(i:C) (o:ay),w.ae[i]?=d o->∃o',x.ae[i]?=d o'/\rU w.aa o o':=λi o ho=>by
  obtain⟨o',a,c,_⟩:=hR.ord i o ho
  simp_all
 exact⟨hR.ok,hR.same.aa.trans hw.dp,Iz (K1 hn) hw.ok hw.dp hw.cnt hR.same.len hr⟩
theorem Zaz{w:aw}(hw:L6 n K w)(u:g):aO (gG w u) (L6 n (K+1)):=by
 refine aO.of (CG hw.ok.fit u) ?_
 split
 ·rename_i h
  obtain⟨a,b,_⟩:=CF hw.ok h.2.1 h.2.2;exact⟨a,b.aa.trans hw.dp,Zee hw.ok hw.cnt h.2.1 h.2.2⟩
 ·exact hw.mono
theorem ZmX{skip:j g}(hs:z skip<=50)(K:C):L6 n K (⟨n,[],[],[],0,[],skip,0⟩:aw):=by
 have hf:sE (⟨n,[],[],[],0,[],skip,0⟩:aw):=⟨hn.fit,by simp,by simp,by simp,by simp,by grind,λo ho=>by grind⟩
 have hv:eY (⟨n,[],[],[],0,[],skip,0⟩:aw)=true:=by
  unfold eY cb xP;simp only[hn.ok,Option.getD_some];simp[allI];omega
 exact⟨⟨hf,hv⟩,rfl,0,0,by simp,λo ho=>by grind⟩
end
theorem AU(c:UInt8):∀l:j UInt8,z (ll c l)<=z l+1/\0<z (ll c l)
 | []=>by simp[ll]
 |x::xs=>by
  have:=AU c xs;unfold ll
  grind
theorem O0(c:UInt8)(L:j UInt8):ll c L≠[]:=λh=>by have:=(AU c L).2;simp_all
def rY(L:j UInt8):j (j UInt8):=(ll 10 L).dropLast
def LX(a:bk):j UInt8:=((bN a).getD ⟨#[]⟩).data.toList
structure Ln1(a:bk):Prop where
 isa:bS a=d X
 fi:bN a=d (de (LX a))
 fs:dC a=d (de (LX a))
 nl:(10:UInt8) ∉ LX a
 len:(LX a).length<=1100
 pa:eV (de (LX a))=d (a,X)
theorem Zg1{a:bk}(hp:PF a.aM)(h:bS a=d X):Ln1 a:=by
 have hF:=ZdR hp.fit.1 hp.fit.2.1 hp.fit.2.2 h;obtain⟨v,v1,v2⟩:=Ft hp.fit.1 hp.fit.2.1 hp.fit.2.2;obtain rfl:v=true:=Option.some.inj (v1.symm.trans h);obtain⟨s,r⟩:=ZdS hF v1 v2;have e:LX a=s.data.toList:=by unfold LX;rw[r.fi];rfl
 have es:de (LX a)=s:=by rw[e];rfl
 have el:z s.data.toList=s.size:=by rfl
 exact⟨h,by rw[es];exact r.fi,by rw[es];exact r.fs,by rw[e];exact r.nl,by rw[e,el];exact r.len,by rw[es];exact r.pi⟩
theorem NF:∀{l:j bk},(∀a∈l,Ln1 a)->z (l.flatMap rk)<=1101*z l
 | [],_=>by simp
 |a::l,h=>by
  have h1:=(h a YE).len;have h2:=NF (l:=l) λb hb=>h b YD
  have h3:z (rk a)=z (LX a)+1:=by show(LX a++[10]).length=_;simp
  grind
theorem NG(hl:z l<=150)(h:∀a∈l,Ln1 a):iK l=d (de (l.flatMap rk)):=by
 have h1:l.all okJ=true:=by
  rw[VZ];intro a ha;have r:=h a ha;unfold okJ;rw[r.isa,r.fi];exact Yi (by rw[bM];have:=r.len;omega)
 have h2:l.all PD=true:=by
  rw[VZ];intro a ha;unfold PD;rw[(h a ha).isa];rfl
 unfold iK
 grind
theorem Qv(a:bk)(l:j bk):(a::l).flatMap rk=LX a++10::l.flatMap rk:=by
 rw[List.flatMap_cons];show(LX a++[10])++_=_;simp
theorem QA(h:(10:UInt8) ∉ p):rY (p++10::L)=p::rY L:=by
 unfold rY;rw[pF h,List.dropLast_cons_of_ne_nil (O0 _ _)]
theorem QB(h:(10:UInt8) ∉ p):rY p=[]:=by
 unfold rY;rw[ua h];rfl
theorem ZmT{n:C}{s:σ}{o:ο}(h:body s=d (.inr o)):aB body (n+1) s=d o:=by rw[aB,h];rfl
theorem ZmS{n:C}{s s':σ}(h:body s=d (.inl s')):aB body (n+1) s=aB body n s':=by rw[aB,h];rfl
theorem ZgY{M:j bk}(hg:∀a∈M,Ln1 a){y1:j G}(hM:da y1 0 (aJ ((z y1:g)-1))=M.map λa=>de (LX a))(hn:((Int.toNat (aJ ((z y1:g)-1))-Int.toNat 0:C):g)=z M)(ZhU:z M<=150):
 ∀(rest:j bk) (k:C) (out:j bk) (N:C),M.drop k=rest->z rest<N->z out=k->aB (jo y1) N ((k:g),out)=d (out++rest)
 | [],k,out,N,hr,hN,ho=>by
  obtain⟨N,rfl⟩:∃K,N=K+1:=⟨N-1,YA⟩;have hk:z M<=k:=List.drop_eq_nil_iff.1 hr;rw[ZmT (o:=out),List.append_nil];unfold jo
  grind
 |a::rest,k,out,N,hr,hN,ho=>by
  obtain⟨N,rfl⟩:∃K,N=K+1:=⟨N-1,YA⟩;have hk:k<z M:=by
   grind
  have hx:M[k]?=d a:=by rw[<-List.head?_drop,hr];rfl
  have hd:M.drop (k+1)=rest:=by rw[<-List.tail_drop,hr];rfl
  have EY:az (da y1 0 (aJ ((z y1:g)-1))) (k:g)=d (de (LX a)):=by rw[hM,aS,List.getElem?_map,hx];rfl
  have hw:aJ ((k:g)+1)=((k+1:C):g):=by rw[aV YA];omega
  rw[ZmS (s':=(((k+1:C):g),out++[a])),ZgY hg hM hn ZhU rest (k+1) (out++[a]) N hd YG YG,List.append_assoc]
  ·rfl
  ·unfold jo
   rw[hn];simp only[Yi (show(k:g)<(z M:g)by omega),Yw,EY,Option.bind_some,(hg a (List.mem_of_getElem? hx)).pa,hw,Bool.not_true,Yx,Yt (show ¬(150:g)<=(z out:g)by omega),
    show cf (bn (z out+z ([a]:j bk)) 136)=d ()from oB (Yi ⟨by grind,by grind⟩)]
theorem Zkz(hL:z L<=1048576){M:j bk}(hg:∀a∈M,Ln1 a)(ZhU:z M<=150)(hl:rY L=M.map LX):jB (de L)=d M:=by
 have hs:=Hl (c:=10) (L:=L) YA;have hlen:=AU 10 L;have hML:z (rY L)=z M:=by simp_all
 unfold jB;rw[show(⟨#[10]⟩:G)=de [10]from rfl,hs,Option.bind_some];have hw:aJ ((z ((ll 10 L).map de):g)-1)=(z M:g):=by
  rw[<-hML];unfold rY;rw[List.length_map,List.length_dropLast,aV YA];omega
 have Ax:cf (iq 0 (aJ ((z ((ll 10 L).map de):g)-1)) (z ((ll 10 L).map de):g))=d ():=by
  rw[hw,<-hML];refine oB (Yi ⟨YA,YA,?_⟩);unfold rY;simp
 have yy:da ((ll 10 L).map de) 0 (aJ ((z ((ll 10 L).map de):g)-1))=M.map λa=>de (LX a):=by
  have e:(M.map λa=>de (LX a))=(rY L).map de:=by simp_all
  rw[e,hw,<-hML];unfold da rY;simp[List.dropLast_eq_take]
 have hk:=ZgY hg yy YA ZhU M 0 [] NN rfl YF rfl
 simp_all
theorem Gx:∀{l:j bk},(∀a∈l,Ln1 a)->rY (l.flatMap rk)=l.map LX
 | [],_=>QB YE
 |a::l,h=>by rw[Qv,QA (h a YE).nl,Gx λb hb=>h b YD];rfl
theorem ZcV(hl:z l<=150)(h:∀a∈l,Ln1 a):jB (de (l.flatMap rk))=d l:=by
 have hle:=NF h;exact Zkz YA h hl (Gx h)
def oI(y2:aD×(j bk))(y3:aD×g)(s0:g):J (g⊕(Unit⊕Bool)):=
 y (O (s0<(z y3.1.world.av:g)))
 (D (az y3.1.world.av s0) λy8=>
 D (qF y3.1.world.aa y3.1.world.av y8.aN) λy9=>
 y (O (y9<0))
 (d (.inr (.inr E)))
 (D (re y3.1.world.ak y8.aN) λdO=>
 y dO
 (D (pO y3.1.world.aa y8.aN) λlJ=>
 y (O (y3.1.world.now<lJ))
 (d (.inr (.inr E)))
 (d (.inl (aJ (s0+1)))))
 (d (.inl (aJ (s0+1))))))
 (d (.inr (.inl ())))
instance (y2:aD×(j bk))(y3:aD×g):bm (oI y2 y3):=⟨λs0=>(U 3 (.be 0 0 0::.un::.be 1 0 0::.un::vi s0::(U 182 []))),λs0=>[d ⟨.of 40,16,[eD y2.1]⟩,d ⟨.of 40,16,[[.ms 2,.ms 3,vi y3.1.world.aa.change,.ms 4,.ms 5,.ms 6,vi y3.1.world.now,.ms 7,.ms 8,vi y3.1.world.br,.ms 9,.ms 10,.ms 11,.ms 12,.ms 13,.ms 14]]⟩,d ⟨.of 101,6,y3.1.world.aa.aC.map cY⟩,d ⟨.of 3,1,y3.1.world.aa.off.map aW⟩,d ⟨⟨63,d 48⟩,11,y3.1.world.ae.map bx⟩,d ⟨.of 50,4,y3.1.world.av.map aG⟩,d ⟨.of 48,2,y3.1.world.ak.map bg⟩,d ⟨.of 89,6,y3.1.world.aL.map bA⟩,d ⟨.of 3,1,y3.1.world.skip.map aW⟩,d ⟨.of 124,2,y3.1.bb.map dV⟩,d ⟨.of 127,4,y3.1.bd.map dK⟩,d ⟨.of 3,1,y3.1.aU.map aW⟩,d ⟨⟨58,d 3⟩,7,y3.1.aK.map cd⟩,d ⟨.of 82,4,y3.1.lines.map bV⟩,d ⟨⟨60,d 3⟩,13,y3.1.aF.map fQ⟩]⟩
def oJ(y2:aD×(j bk))(y3:aD×g)(lA:aD×g)(s1:g):J (g⊕(Unit⊕Bool)):=
 y (O (s1<(z y3.1.aK:g)))
 (D (nn y3.1.world (aJ (s1+1))) λqi=>
 D (az lA.1.world.ae s1) λoY=>
 y (!((O (qi=(-1)))==(!decide (oY.state=3))))
 (d (.inr (.inr E)))
 (y (!decide (qi=(-1)))
 (y (!decide (oY.bK=qi))
 (d (.inr (.inr E)))
 (D (az y3.1.aK s1) λrT=>
 y (!decide (oY.place=rT.label.aZ))
 (d (.inr (.inr E)))
 (d (.inl (aJ (s1+1))))))
 (d (.inl (aJ (s1+1))))))
 (d (.inr (.inl ())))
instance (y2:aD×(j bk))(y3:aD×g)(lA:aD×g):bm (oJ y2 y3 lA):=⟨λs1=>(U 3 (.be 0 0 0::.un::.be 1 0 0::(U 3 (.be 15 0 0::.un::vi s1::(U 178 []))))),λs1=>[d ⟨.of 40,16,[eD y2.1]⟩,d ⟨.of 40,16,[[.ms 2,.ms 3,vi y3.1.world.aa.change,.ms 4,.ms 5,.ms 6,vi y3.1.world.now,.ms 7,.ms 8,vi y3.1.world.br,.ms 9,.ms 10,.ms 11,.ms 12,.ms 13,.ms 14]]⟩,d ⟨.of 101,6,y3.1.world.aa.aC.map cY⟩,d ⟨.of 3,1,y3.1.world.aa.off.map aW⟩,d ⟨⟨63,d 48⟩,11,y3.1.world.ae.map bx⟩,d ⟨.of 50,4,y3.1.world.av.map aG⟩,d ⟨.of 48,2,y3.1.world.ak.map bg⟩,d ⟨.of 89,6,y3.1.world.aL.map bA⟩,d ⟨.of 3,1,y3.1.world.skip.map aW⟩,d ⟨.of 124,2,y3.1.bb.map dV⟩,d ⟨.of 127,4,y3.1.bd.map dK⟩,d ⟨.of 3,1,y3.1.aU.map aW⟩,d ⟨⟨58,d 3⟩,7,y3.1.aK.map cd⟩,d ⟨.of 82,4,y3.1.lines.map bV⟩,d ⟨⟨60,d 3⟩,13,y3.1.aF.map fQ⟩,d ⟨.of 40,16,[[.ms 16,.ms 17,vi lA.1.world.aa.change,.ms 18,.ms 19,.ms 20,vi lA.1.world.now,.ms 21,.ms 22,vi lA.1.world.br,.ms 23,.ms 24,.ms 25,.ms 26,.ms 27,.ms 28]]⟩,d ⟨.of 101,6,lA.1.world.aa.aC.map cY⟩,d ⟨.of 3,1,lA.1.world.aa.off.map aW⟩,d ⟨⟨63,d 48⟩,11,lA.1.world.ae.map bx⟩,d ⟨.of 50,4,lA.1.world.av.map aG⟩,d ⟨.of 48,2,lA.1.world.ak.map bg⟩,d ⟨.of 89,6,lA.1.world.aL.map bA⟩,d ⟨.of 3,1,lA.1.world.skip.map aW⟩,d ⟨.of 124,2,lA.1.bb.map dV⟩,d ⟨.of 127,4,lA.1.bd.map dK⟩,d ⟨.of 3,1,lA.1.aU.map aW⟩,d ⟨⟨58,d 3⟩,7,lA.1.aK.map cd⟩,d ⟨.of 82,4,lA.1.lines.map bV⟩,d ⟨⟨60,d 3⟩,13,lA.1.aF.map fQ⟩]⟩
def rM(code:j YB8):J Bool:=
 D (xF code) λy1=>
 y y1
 (d X)
 (D (nI code) λy2=>
 D (Ev (U 3 (.be 0 0 0::.sl (y2.2.map fQ)::(U 185 []))) [d ⟨.of 40,16,[eD y2.1]⟩]) λ_=>
 D (iM y2.1 y2.2) λy3=>
 D (kJ y3.1) λy4=>
 y (!y4)
 (d E)
 (y (!decide ((z y3.1.aF:g)=y3.2))
 (d E)
 (D (oK y3.1.world) λy5=>
 y (!y5)
 (d E)
 (D (mT y3.1.world) λy6=>
 y (!y6)
 (d E)
 (D (qf y3.1) λy7=>
 y (!y7)
 (d E)
 ((aB (oI y2 y3) NN 0).bind (bj (λo0=>
 D (fh y3.1 (⟨3,(⟨(⟨0,0,⟨#[]⟩⟩:bt),⟨#[]⟩,0,[],0⟩:aP),0,0,100000,(⟨0,0⟩:au)⟩:bk)) λlA=>
 y (!decide (lA.2=0))
 (y (O ((z y3.1.aF:g)=150))
 (d X)
 (d (O (y3.1.world.now=100000))))
 ((aB (oJ y2 y3 lA) NN 0).bind (bj (λo1=>
 D (rF 16 []) λ_=>
 D (iK lA.1.aF) λpI=>
 D (jB pI) λtE=>
 D (iM y2.1 tE) λxT=>
 y (O (xT.2=(z lA.1.aF:g)))
 (D (lX xT.1 lA.1) λzf=>
 y zf
 (D (mT lA.1.world) λFh=>
 y Fh
 (D (qf lA.1) λIp=>
 d Ip)
 (d E))
 (d E))
 (d E)) (λr=>d r)))) (λr=>d r))))))))
theorem ok_klaws_FnTop(code:j YB8){r:Bool}(H:rM code=d r):eh prog 3 [.sl (code.map Zl)] [] (vb r) []:=
 ck (rM.eq_1 ..) func3 ntmps3 results3 (H:=H)
instance (code:j YB8):CT prog (rM code):=⟨3,[.sl (code.map Zl)],[],λr=>vb r,λr=>[],ok_klaws_FnTop code⟩
