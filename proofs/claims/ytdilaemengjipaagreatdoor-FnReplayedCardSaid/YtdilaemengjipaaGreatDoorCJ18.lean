/- A part of the proof of the statement in the last file of this claim: texts on the language of the program and on its functions. No condition. -/
import Derived.Test.YtdilaemengjipaaGreatDoorCJ4
import Derived.Test.YtdilaemengjipaaGreatDoorCJ8
import Derived.Test.YtdilaemengjipaaGreatDoorCJ7
import Derived.Test.YtdilaemengjipaaGreatDoorCJ6
import Derived.Test.YtdilaemengjipaaGreatDoorCJ10
import Derived.Test.YtdilaemengjipaaGreatDoorCJ9
import Derived.Test.YtdilaemengjipaaGreatDoorCJ5
import Derived.Sort.Walk0
import Derived.Test.YtdilaemengjipaaGreatDoorCJ1
set_option linter.unusedVariables false
set_option linter.unusedSimpArgs false
set_option linter.unusedSectionVars false
open Option renaming some->YW,none->YX
open Bool renaming true->YY,false->YZ
open Decidable renaming decide->Y0
open Go.Proofs.Tryz
set_option maxHeartbeats 40000000
namespace Go.Proofs.YtdilaemengjipaaGreatDoor
open Option renaming bind_some->VT
open Bool renaming not_true->V3,not_false->WD
open BitVec renaming ofInt->V9
open List renaming range->Ws,getElem?_eq_getElem->VV,all_eq_true->V2,mem_cons_self->Wo,pairwise_cons->W4,mem_cons->V5,foldl_cons->Wq,mem_map->WI,pairwise_map->W9,getElem?_eq_some_iff->VU,takeWhile_cons_of_pos->X5,getElem_of_mem->Wf
set_option maxRecDepth 10000
open Go.RowKit
variable {a b p:ByteArray}{body:Int->Option (Int⊕Int)}{i:Nat}{l:List aq}{n:ah}{out:List ByteArray}{t:av}{α:Type}
theorem ql:@dq=@bt:=rfl
theorem r8:@di=@bm:=rfl
def C5(l:bP):Prop:=l.ar.size<=sy/\l.aY.size<=sy
theorem yr{l:bP}(h:C5 l):qF l=fE l/\∃b,fE l=YW b:=by
 obtain⟨e1,b1,s1⟩:=np (s:=l.ar) h.1;obtain⟨e2,b2,s2⟩:=np (s:=l.aY) h.2;constructor
 ·unfold qF fE;rw[e1,e2,gY]
 ·unfold fE
  rw[s1,s2];simp only[VT,cN]
  grind
structure cU(n:ah):Prop where
 aA:n.aA.length<=1048576
 off:n.off.length<=1048576
 bH:∀l∈n.aA,C5 l
theorem sE{xs:List α}{i:Int}{x:α}(h:aB xs i=YW x):x∈xs:=List.mem_of_getElem? (nY h).2
theorem Ti(h:cU n):my n=bY n:=by
 funext i
 unfold my bY
 cases hg:aB n.aA i with
 |none=>rfl
 |some y=>simp only[VT,(yr (h.bH y (sE hg))).1]
theorem Tj:mz n=bZ n:=by
 funext i
 unfold mz bZ;rw[gY]
 cases hg:aB n.off i with
 |none=>rfl
 |some y=>rfl
theorem ZfI(h:cU n):∃o,aE (bY n) NN 0=YW o:=by
 refine yy (n:=n.aA.length) (by have:=h.aA;unfold NN;omega) (λi hi=>?_) ⟨_,by simp[bY];rfl⟩
 have hw:=bG hi (by have:=h.aA;omega)
 have hg:aB n.aA (i:Int)=YW n.aA[i]:=by rw[aP];simp
 obtain⟨b,hb⟩:=(yr (h.bH _ (List.getElem_mem hi))).2
 cases b with
 |true=>exact Od (by simp only[bY,Ya (show(i:Int)<n.aA.length by omega),Yj,hg,VT,hb,hw,V3,Yk])
 |false=>exact MP (by simp only[bY,Ya (show(i:Int)<n.aA.length by omega),Yj,hg,VT,hb,WD,Yj];rfl)
theorem ZfJ(h:cU n):∃o,aE (bZ n) NN 0=YW o:=by
 refine yy (n:=n.off.length) (by have:=h.off;unfold NN;omega) (λi hi=>?_) ⟨_,by simp[bZ];rfl⟩
 have hw:=bG hi (by have:=h.off;omega)
 have hg:aB n.off (i:Int)=YW n.off[i]:=by rw[aP];simp
 have hd:=Ya (show(i:Int)<n.off.length by omega)
 cases hb:Y0 (0<=n.off[i])&&Y0 (n.off[i]<=60)with
 |false=>exact MP (by simp only[bZ,hd,Yj,hg,VT,cN,hb,WD];rfl)
 |true=>
  by_cases h0:0<(i:Int)
  ·have Bd:aM ((i:Int)-1)=((i-1:Nat):Int):=by rw[aR (by have:=h.off;omega)];omega
   have VS:aB n.off ((i-1:Nat):Int)=YW n.off[i-1]:=by rw[aP];simp
   cases hc:Y0 (n.off[i]<=n.off[i-1])with
   |true=>exact MP (by simp only[bZ,hd,Yj,hg,VT,cN,hb,V3,Yk,Ya h0,Bd,VS,hc];rfl)
   |false=>exact Od (by simp only[bZ,hd,Yj,hg,VT,cN,hb,V3,Yk,Ya h0,Bd,VS,hc,hw])
  ·exact Od (by simp only[bZ,hd,Yj,hg,VT,cN,hb,V3,Yk,Yg h0,hw])
theorem j4(h:cU n):fg n=aW n/\∃b,aW n=YW b:=by
 constructor
 ·unfold fg aW;rw[Ti h,Tj,gY]
 ·obtain⟨o0,h0⟩:=ZfI h
  obtain⟨o1,h1⟩:=ZfJ h;unfold aW;rw[h0,h1];simp only[VT,cN]
  rcases o0 with o0|o0
  ·rcases o1 with o1|o1
   ·simp only[bh]
    cases Y0 ((n.aA.length:Int)<=20)<;>cases Y0 ((n.off.length:Int)<=10)<;>exact⟨_,rfl⟩
   simp
  simp
def pD(n:ah)(bH:Int)(day:Int):Option Bool:=
 (fg n).bind λy1=>
 cond y1
 ((oL n bH day).bind λy2=>
 YW y2)
 (YW YZ)
instance (n:ah)(bH:Int)(day:Int):CT prog (pD n bH day):=⟨153,[.ag (bB n),vi bH,vi day],[],λr=>vb r,λr=>[],cw (pD.eq_1 ..) func153 ntmps153 results153⟩
def dY(n:ah)(t:av):Option Bool:=
 (pD n t.bH t.day).bind λy1=>
 YW y1
instance (n:ah)(t:av):CT prog (dY n t):=⟨86,[.ag (bB n),.ag (aU t)],[],λr=>vb r,λr=>[],cw (dY.eq_1 ..) func86 ntmps86 results86⟩
theorem Gk{l:List Int}(h:l.length<=1048576)(x:Int):mc l x=YW (l.any λy=>Y0 (y=x)):=by
 unfold mc;rw[tS (xs:=l) (p:=λy=>Y0 (y=x)) (r:=.inr YY) (e:=.inl ()) (λi hi=>?_) (by simp[pV]) Ys]
 ·grind
 ·have hw:=bG hi Yn
  have hg:aB l (i:Int)=YW l[i]:=by rw[aP];simp
  simp only[pV,Ya (show(i:Int)<l.length by omega),Yj,hg,VT,hw]
  grind
theorem jE{l:List av}(h:l.length<=1048576)(x:av):fb l x=YW (l.any λy=>Y0 (y=x)):=by
 unfold fb;rw[tS (xs:=l) (p:=λy=>Y0 (y=x)) (r:=.inr YY) (e:=.inl ()) (λi hi=>?_) (by simp[oq]) Ys]
 ·grind
 ·have hw:=bG hi Yn
  have hg:aB l (i:Int)=YW l[i]:=by rw[aP];simp
  simp only[oq,Ya (show(i:Int)<l.length by omega),Yj,hg,VT,hw]
  grind
theorem kh:@dB=@fb:=rfl
theorem LG(h:n.off.length<=1048576)(x:Int):(aE (oM n x) NN 0).bind (bh (λ_=>YW YY) (λr=>YW r))=YW (!(n.off.any λy=>Y0 (y=x))):=by
 rw[tS (xs:=n.off) (p:=λy=>Y0 (y=x)) (r:=.inr YZ) (e:=.inl ()) (λi hi=>?_) (by simp[oM]) Ys]
 ·grind
 ·have hw:=bG hi Yn
  have hg:aB n.off (i:Int)=YW n.off[i]:=by rw[aP];simp
  simp only[oM,Ya (show(i:Int)<n.off.length by omega),Yj,hg,VT,hw]
  grind
def Gq(x:Int):Int:=IntKind.i64.wrap (V9 IntKind.i64.bits x &&& V9 IntKind.i64.bits 1).toNat
theorem PH(x:Int):Gq x=0\/Gq x=1:=by
 unfold Gq;have h:(V9 IntKind.i64.bits x &&& V9 IntKind.i64.bits 1).toNat<=1:=by
  rw[BitVec.toNat_and];refine Nat.le_trans Nat.and_le_right ?_
  decide
 rw[show IntKind.i64.wrap ((V9 IntKind.i64.bits x &&& V9 IntKind.i64.bits 1).toNat:Int)=((V9 IntKind.i64.bits x &&& V9 IntKind.i64.bits 1).toNat:Int)from aR Yn];omega
theorem rC(h:cU n)(bH day:Int):oL n bH day=cJ n bH day/\∃b,cJ n bH day=YW b:=by
 have hl:=h.aA;have hw:aM ((n.aA.length:Int)-1)=n.aA.length-1:=aR Yn;unfold oL cJ;rw[gY,hw,cN,cN];simp only[VT]
 by_cases h1:bH<0
 ·grind
 by_cases h2:(n.aA.length:Int)<=bH
 ·grind
 simp only[Yg h1,Yg h2,Ya (show 0<=bH by omega),Ya (show bH<=(n.aA.length:Int)-1 by omega),Yj,Bool.and_true,Yk]
 by_cases h3:0<=day/\day<=60
 ·simp only[Ya h3.1,Ya h3.2,Bool.and_true,V3,Yk,Yj]
  have hg:aB n.aA bH=YW (n.aA[bH.toNat]' Yn):=by
   unfold aB;grind
  rw[hg];simp only[VT];have hm:0<=Int.tmod day 7:=Int.tmod_nonneg 7 h3.1;rw[ku (Ya hm)];simp only[VT];rw[LG h.off,Gk h.off];generalize Int.fdiv _ _=q;have hb:=PH q;unfold Gq at hb
  grind
 grind
theorem Qw(h:cU n)(bH day:Int):pD n bH day=kl n bH day/\∃b,kl n bH day=YW b:=by
 obtain⟨e,b,s⟩:=j4 h;obtain⟨e2,b2,s2⟩:=rC h bH day;unfold pD kl
 grind
theorem re(h:cU n)(t:av):dY n t=dN n t/\∃b,dN n t=YW b:=by
 obtain⟨e,b,s⟩:=Qw h t.bH t.day;unfold dY dN
 simp_all
theorem zR:@kj=@dO:=by
 funext l t
 unfold kj dO;have:o7 l t=dR l t:=by
  funext s
  unfold o7 dR
  cases hg:aB l s.2 with
  |none=>rfl
  |some y=>rfl
 grind
def gA(n:ah)(l:List aq)(s0:Int):Option (Int⊕(Unit⊕Bool)):=
 cond (Y0 (s0<(l.length:Int)))
 ((aB l s0).bind λy2=>
 cond (Y0 (0<s0))
 ((aB l (aM (s0-1))).bind λy3=>
 (fY y3 y2).bind λy4=>
 cond (Y0 (0<=y4))
 (YW (.inr (.inr YZ)))
 ((dY n y2.bk).bind λy5=>
 cond (!y5)
 (YW (.inr (.inr YZ)))
 ((aX y2.bz 1 9999).bind λy6=>
 cond (!y6)
 (YW (.inr (.inr YZ)))
 ((aX y2.ab 1 1000000).bind λy7=>
 cond (!y7)
 (YW (.inr (.inr YZ)))
 ((kj l y2.bk).bind λy8=>
 (aB n.aA y2.bk.bH).bind λy9=>
 cond (Y0 (y9.jk<y8))
 (YW (.inr (.inr YZ)))
 (YW (.inl (aM (s0+1)))))))))
 ((dY n y2.bk).bind λeh=>
 cond (!eh)
 (YW (.inr (.inr YZ)))
 ((aX y2.bz 1 9999).bind λlr=>
 cond (!lr)
 (YW (.inr (.inr YZ)))
 ((aX y2.ab 1 1000000).bind λoV=>
 cond (!oV)
 (YW (.inr (.inr YZ)))
 ((kj l y2.bk).bind λoD=>
 (aB n.aA y2.bk.bH).bind λnF=>
 cond (Y0 (nF.jk<oD))
 (YW (.inr (.inr YZ)))
 (YW (.inl (aM (s0+1)))))))))
 (YW (.inr (.inl ())))
instance (n:ah)(l:List aq):bp (gA n l):=⟨λs0=>(.un::.sl (l.map aC)::.be 0 0 0::(U 12 (.sl (l.map aC)::vi (l.length:Int)::vi s0::(U 51 [])))),λs0=>[YW ⟨.of 27,3,[[.sl (n.aA.map bo),.sl (n.off.map aG),vi n.change]]⟩]⟩
def iW(n:ah)(l:List aq):Option Bool:=
 (fg n).bind λy1=>
 cond (!y1)
 (YW YZ)
 (cond (Y0 (120<(l.length:Int)))
 (YW YZ)
 ((aE (gA n l) NN 0).bind (bh (λo0=>
 YW YY) (λr=>YW r))))
instance (n:ah)(l:List aq):CT prog (iW n l):=⟨85,[.ag (bB n),.sl (l.map aC)],[],λr=>vb r,λr=>[],cw (iW.eq_1 ..) func85 ntmps85 results85⟩
def iS(n:ah)(l:List aq)(s0:Int):Option (Int⊕(Unit⊕Bool)):=
 cond (Y0 (s0<(l.length:Int)))
 ((aB l s0).bind λy2=>
 (cJ n y2.bk.bH y2.bk.day).bind λy3=>
 cond (!y3)
 (YW (.inr (.inr YZ)))
 ((bb y2.bz 1 9999).bind λy4=>
 cond (!y4)
 (YW (.inr (.inr YZ)))
 ((bb y2.ab 1 1000000).bind λy5=>
 cond (!y5)
 (YW (.inr (.inr YZ)))
 (cond (Y0 (0<s0))
 ((aB l (aM (s0-1))).bind λy6=>
 (lJ y6 y2).bind λy7=>
 cond (!y7)
 (YW (.inr (.inr YZ)))
 (YW (.inl (aM (s0+1)))))
 (YW (.inl (aM (s0+1))))))))
 (YW (.inr (.inl ())))
instance (n:ah)(l:List aq):bp (iS n l):=⟨λs0=>(.un::.sl (l.map aC)::.be 0 0 0::.un::.un::vi s0::(U 80 [])),λs0=>[YW ⟨.of 27,3,[[.sl (n.aA.map bo),.sl (n.off.map aG),vi n.change]]⟩]⟩
def iT(n:ah)(l:List aq)(s1:Int):Option (Int⊕(Unit⊕Bool)):=
 cond (Y0 (s1<(l.length:Int)))
 ((aB l s1).bind λy8=>
 (dO l y8.bk).bind λy9=>
 (aB l s1).bind λeh=>
 (aB n.aA eh.bk.bH).bind λlr=>
 cond (Y0 (lr.jk<y9))
 (YW (.inr (.inr YZ)))
 (YW (.inl (aM (s1+1)))))
 (YW (.inr (.inl ())))
instance (n:ah)(l:List aq):bp (iT n l):=⟨λs1=>(.un::.sl (l.map aC)::.be 0 0 0::(U 4 (vi s1::(U 78 [])))),λs1=>[YW ⟨.of 27,3,[[.sl (n.aA.map bo),.sl (n.off.map aG),vi n.change]]⟩]⟩
def eT(n:ah)(l:List aq):Option Bool:=
 (aW n).bind λy1=>
 cond (!y1)
 (YW YZ)
 (cond (Y0 (120<(l.length:Int)))
 (YW YZ)
 ((aE (iS n l) NN 0).bind (bh (λo0=>
 (aE (iT n l) NN 0).bind (bh (λo1=>
 YW YY) (λr=>YW r))) (λr=>YW r))))
instance (n:ah)(l:List aq):CT prog (eT n l):=⟨213,[.ag (bB n),.sl (l.map aC)],[],λr=>vb r,λr=>[],cw (eT.eq_1 ..) func213 ntmps213 results213⟩
def tG(a b:Int):Int:=if a<b then -1 else if b<a then 1 else 0
theorem RE(a b:Int):dZ a b=YW (tG a b):=by
 unfold dZ tG
 grind
theorem R5(x y z:Int):o9 [x,y,z]=YW (if x≠0 then x else if y≠0 then y else z):=by
 obtain⟨k,hk⟩:∃k,NN=k+1+1+1+1:=⟨1152921504606846972,by rfl⟩
 unfold o9;rw[hk];have w0:aM 1=1:=aR Yn;have w1:aM 2=2:=aR Yn;have w2:aM 3=3:=aR Yn
 by_cases hx:x=0
 ·by_cases hy:y=0
  ·by_cases hz:z=0
   ·simp[aE,bh,lx,aB,hx,hy,hz,w0,w1,w2]
   ·simp[aE,bh,lx,aB,hx,hy,hz,w0,w1]
  ·simp[aE,bh,lx,aB,hx,hy,w0]
 ·simp[aE,lx,aB,hx]
def pA(a b:aq):Bool:=if a.bk.day≠b.bk.day then Y0 (a.bk.day<b.bk.day)else if a.bk.bH≠b.bk.bH then Y0 (a.bk.bH<b.bk.bH)else Y0 (a.bz<b.bz)
theorem Cd(a b:aq):lJ a b=YW (pA a b):=by
 unfold lJ pA
 grind
theorem EB(a b:aq):∃v,fY a b=YW v/\Y0 (0<=v)=!pA a b:=by
 unfold fY;simp only[RE,VT,R5];unfold pA tG
 grind
theorem tf(h:l.length<=1048576)(t:av):∃v,dO l t=YW v:=by
 have hh:∃o,aE (dR l t) NN (0,0)=YW o:=by
  refine vF (λk s=>∃i:Nat,i+k=l.length/\s.2=(i:Int)) ?_ NN l.length (0,0) ⟨0,Yn,rfl⟩ Ys
  rintro k ⟨a,s⟩ ⟨i,hi,hs⟩;subst hs
  rcases Nat.lt_or_ge i l.length with bX|ze
  ·have hw:=bG bX Yn
   have hg:aB l (i:Int)=YW l[i]:=by rw[aP];simp
   cases hc:Y0 (l[i].bk=t)with
   |true=>
    refine⟨_,by simp only[dR,Ya (show(i:Int)<l.length by omega),Yj,hg,VT,hc,hw];rfl,?_⟩
    rintro s' e;cases e;exact⟨k-1,Yn,i+1,Yn,rfl⟩
   |false=>
    refine⟨_,by simp only[dR,Ya (show(i:Int)<l.length by omega),Yj,Yk,hg,VT,hc,hw];rfl,?_⟩
    rintro s' e;cases e;exact⟨k-1,Yn,i+1,Yn,rfl⟩
  ·have:i=l.length:=Yn
   subst this;refine⟨_,by simp only[dR,Yg (show ¬((l.length:Int)<l.length)by omega),Yk];rfl,?_⟩
   simp
 obtain⟨o,ho⟩:=hh;exact⟨o,by unfold dO;grind⟩
theorem vQ(h:cU n){bH day:Int}(hr:cJ n bH day=YW YY):∃y,aB n.aA bH=YW y:=by
 have hl:=h.aA;have hw:aM ((n.aA.length:Int)-1)=n.aA.length-1:=aR Yn;unfold cJ at hr
 rw[cN]at hr
 simp at hr
 by_cases h1:0<=bH/\bH<=(n.aA.length:Int)-1
 ·exact⟨n.aA[bH.toNat]' Yn,by unfold aB;grind⟩
 grind
def M7(n:ah)(l:List aq)(i:Nat):Bool:=match l[i]? with
 |none=>YY
 |some y=>(cJ n y.bk.bH y.bk.day).getD YZ&&(Y0 (1<=y.bz)&&Y0 (y.bz<=9999))&&(Y0 (1<=y.ab)&&Y0 (y.ab<=1000000))&&(Y0 (i=0) ||match l[i-1]? with
  |none=>YY
  |some x=>pA x y)
def Vd(n:ah)(l:List aq)(i:Nat):Bool:=match l[i]? with
 |none=>YY
 |some y=>match aB n.aA y.bk.bH,dO l y.bk with
  |some g,YW v=>!decide (g.jk<v)
  |_,_=>YZ
def cu(n:ah)(l:List aq):Bool:=(aW n).getD YZ&&Y0 ((l.length:Int)<=120)&&(Ws l.length).all λi=>M7 n l i&&Vd n l i
theorem iJ(h:cU n)(hl:l.length<=1048576):eT n l=YW (cu n l):=by
 obtain⟨_,b,hb⟩:=j4 h;unfold eT cu;rw[hb]
 cases b with
 |false=>rfl
 |true=>
  by_cases Zg1:120<(l.length:Int)
  ·grind
  have e0:aE (iS n l) NN 0=YW (if(Ws l.length).all (M7 n l)=YY then .inl ()else .inr YZ):=by
   refine oG (λi hi _=>?_) (λ_=>by simp[iS]) Ys
   have hw:=bG hi Yn;have hg:aB l (i:Int)=YW l[i]:=by rw[aP];simp
   obtain⟨_,rb,hrb⟩:=rC h l[i].bk.bH l[i].bk.day;simp only[iS,Ya (show(i:Int)<l.length by omega),hg,VT,hrb,cN,M7,VV hi]
   cases rb with
   |false=>simp
   |true=>
    cases Y0 (1<=l[i].bz)&&Y0 (l[i].bz<=9999)with
    |false=>simp
    |true=>
     cases Y0 (1<=l[i].ab)&&Y0 (l[i].ab<=1000000)with
     |false=>simp
     |true=>
      by_cases hi0:i=0
      ·grind
      ·have Bd:aM ((i:Int)-1)=((i-1:Nat):Int):=by rw[aR Yn];omega
       have VS:aB l ((i-1:Nat):Int)=YW l[i-1]:=by rw[aP];simp
       simp only[Cd]
       grind
  rw[e0]
  by_cases tr:(Ws l.length).all (M7 n l)=YY
  ·rw[if_pos tr]
   have e1:aE (iT n l) NN 0=YW (if(Ws l.length).all (Vd n l)=YY then .inl ()else .inr YZ):=by
    refine oG (λi hi _=>?_) (λ_=>by simp[iT]) Ys
    have hw:=bG hi Yn;have hg:aB l (i:Int)=YW l[i]:=by rw[aP];simp
    obtain⟨v,hv⟩:=tf hl l[i].bk;have qZ:=V2.1 tr i (List.mem_range.2 hi);obtain⟨_,rb,hrb⟩:=rC h l[i].bk.bH l[i].bk.day;have hrt:rb=true:=by
     simp only[M7]at qZ
     grind
    subst hrt;obtain⟨g,u9⟩:=vQ h hrb;simp only[iT,Vd]
    grind
   grind
  grind
theorem yv(h:cU n)(hn:aW n=YW YY)(t:av):dY n t=cJ n t.bH t.day:=by
 rw[(re h t).1];unfold dN kl
 grind
theorem vB(h:cU n)(hl:l.length<=1048576):iW n l=YW (cu n l):=by
 obtain⟨en,b,hb⟩:=j4 h;unfold iW cu;rw[en,hb]
 cases b with
 |false=>rfl
 |true=>
  by_cases Zg1:120<(l.length:Int)
  ·grind
  have e0:aE (gA n l) NN 0=YW (if(Ws l.length).all (λi=>M7 n l i&&Vd n l i)=YY then .inl ()else .inr YZ):=by
   refine oG (λi hi _=>?_) (λ_=>by simp[gA]) Ys
   have hw:=bG hi Yn;have hg:aB l (i:Int)=YW l[i]:=by rw[aP];simp
   obtain⟨_,rb,hrb⟩:=rC h l[i].bk.bH l[i].bk.day;have ht:=yv h hb l[i].bk;rw[hrb]at ht
   obtain⟨v,hv⟩:=tf hl l[i].bk;have uU:∀{X:Option (Int⊕(Unit⊕Bool))} {pre:Bool},pre=(Y0 (i=0) ||match l[i-1]? with
    |none=>YY
    |some x=>pA x l[i])->
    X=(cond (!pre) (YW (.inr (.inr YZ))) ((YW rb).bind λeh=>cond (!eh) (YW (.inr (.inr YZ))) ((bb l[i].bz 1 9999).bind λlr=>cond (!lr) (YW (.inr (.inr YZ))) ((bb l[i].ab 1 1000000).bind λoV=>cond (!oV) (YW (.inr (.inr YZ))) ((YW v).bind λoD=>(aB n.aA l[i].bk.bH).bind λnF=>cond (Y0 (nF.jk<oD)) (YW (.inr (.inr YZ))) (YW (.inl ((i+1:Nat):Int))))))))->
    X=YW (if(M7 n l i&&Vd n l i)=YY then .inl ((i+1:Nat):Int)else .inr (.inr YZ)):=by
    rintro X pre hpre rfl;simp only[M7,Vd,VV hi,hrb,cN,<-hpre]
    cases pre with
    |false=>simp
    |true=>
     cases rb with
     |false=>simp
     |true=>
      obtain⟨g,u9⟩:=vQ h hrb
      grind
   by_cases hi0:i=0
   ·refine uU (pre:=YY) Yr ?_
    simp only[gA,Ya (show(i:Int)<l.length by omega),Yg (show ¬0<(i:Int)by omega),Yj,Yk,hg,VT,ht,gY,zR,hv,hw,V3]
   ·have Bd:aM ((i:Int)-1)=((i-1:Nat):Int):=by rw[aR Yn];omega
    have VS:aB l ((i-1:Nat):Int)=YW l[i-1]:=by rw[aP];simp
    obtain⟨cv,zJ,IV⟩:=EB l[i-1] l[i];refine uU (pre:=pA l[i-1] l[i]) Yr ?_;simp only[gA,Ya (show(i:Int)<l.length by omega),Ya (show 0<(i:Int)by omega),Yj,hg,Bd,VS,zJ,IV,VT,ht,gY,zR,hv,hw]
  grind
theorem Fv{α:Type}{r:α->α->Prop}(irr:∀a,¬r a a)(asy:∀a b,r a b->¬r b a):∀{l1 l2:List α},l1.Pairwise r->l2.Pairwise r->(∀x,x∈l1↔x∈l2)->l1=l2
 | [],[],_,_,_=>rfl
 | [],b::l2,_,_,h=>absurd ((h b).2 (Wo ..)) Yq
 |a::l1,[],_,_,h=>absurd ((h a).1 (Wo ..)) Yq
 |a::l1,b::l2,h1,h2,h=>by
  rw[W4]at h1 h2
  have CK:a=b:=by
   rcases V5.1 ((h a).1 (Wo ..))with e|e
   ·exact e
   ·rcases V5.1 ((h b).2 (Wo ..))with e'|e'
    all_goals grind
  congr 1
  refine Fv irr asy h1.2 h2.2 λx=>⟨λhx=>?_,λhx=>?_⟩
  all_goals grind
theorem yS(a b:ByteArray):qU a b=YY↔a.data.toList<b.data.toList:=by
 unfold qU;rw[Go.Proofs.bytesLess_eq,ByteArray.toList_eq,ByteArray.toList_eq,Yl]
theorem FU(h:a.data.toList=b.data.toList):a=b:=by
 obtain⟨⟨x⟩⟩:=a;simp_all
theorem GY(a:ByteArray):¬qU a a=true:=by rw[yS];simp
theorem Uf(a b:ByteArray)(h:qU a b=YY):¬qU b a=true:=by rw[yS]at *;grind
theorem ZdH{a b c:ByteArray}(h:qU a b=YY)(h':qU b c=YY):qU a c=true:=by rw[yS]at *;grind
theorem N4(h:¬qU a b=YY)(hn:a≠b):qU b a=true:=by
 rw[yS]at *
 rcases List.le_total a.data.toList b.data.toList with e|e
 ·rcases(List.le_iff_lt_or_eq.1 e)with e'|e'
  ·grind
  ·exact absurd (FU e') hn
 ·rcases(List.le_iff_lt_or_eq.1 e)with e'|e'
  ·omega
  ·exact absurd (FU e'.symm) hn
def sI:List ByteArray->ByteArray->List ByteArray
 | [],p=>[p]
 |x::xs,p=>if qU x p=YY then x::sI xs p else if x=p then x::xs else p::x::xs
theorem CV{p y:ByteArray}:∀{xs:List ByteArray},y∈sI xs p↔y=p\/y∈xs
 | []=>by simp[sI]
 |x::xs=>by
  unfold sI
  split
  ·rw[V5,CV];grind
  grind
theorem AH{p:ByteArray}:∀{xs:List ByteArray},xs.Pairwise (λa b=>qU a b=YY)->(sI xs p).Pairwise (λa b=>qU a b=YY)
 | [],_=>by simp[sI]
 |x::xs,h=>by
  rw[W4]at h
  unfold sI
  split
  ·rw[W4]
   refine⟨λy hy=>?_,AH h.2⟩
   rcases CV.1 hy with e|e
   all_goals grind
  ·rename_i h1
   split
   ·simp_all
   ·rename_i h2
    have h3:=N4 h1 h2;rw[W4,W4];refine⟨λy hy=>?_,h⟩
    rcases V5.1 hy with e|e
    ·grind
    ·exact ZdH h3 (h.1 y e)
theorem CU{p:ByteArray}:∀{xs:List ByteArray},(sI xs p).length<=xs.length+1
 | []=>by simp[sI]
 |x::xs=>by
  unfold sI
  split
  ·have:=CU (p:=p) (xs:=xs);grind
  grind
theorem sn{y:ByteArray}:∀{l acc:List ByteArray},y∈l.foldl sI acc↔y∈l\/y∈acc
 | [],acc=>by simp
 |p::l,acc=>by rw[Wq,sn,CV];grind
theorem uA:∀{l acc:List ByteArray},acc.Pairwise (λa b=>qU a b=YY)->(l.foldl sI acc).Pairwise (λa b=>qU a b=YY)
 | [],acc,h=>h
 |p::l,acc,h=>uA (l:=l) (AH h)
theorem EK:∀{l acc:List ByteArray},(l.foldl sI acc).length<=l.length+acc.length
 | [],acc=>by simp
 |p::l,acc=>by
  have h1:=EK (l:=l) (acc:=sI acc p);have h2:=CU (p:=p) (xs:=acc)
  grind
/-! The Zd6: a list Zgr Zgq,sorted. -/
theorem RY{y:ByteArray}:∀{l acc:List ByteArray},y∈l.foldl dd acc↔y∈l\/y∈acc
 | [],acc=>by simp
 |p::l,acc=>by
  rw[Wq,RY];unfold dd
  split
  ·rename_i h
   have h:=NA.1 h
   grind
  grind
theorem Iq:∀{l acc:List ByteArray},acc.Nodup->(l.foldl dd acc).Nodup
 | [],acc,h=>h
 |p::l,acc,h=>by
  rw[Wq];refine Iq ?_;unfold dd
  split
  ·exact h
  ·rename_i h1
   rw[List.nodup_append];refine⟨h,by simp,?_⟩
   intro a ha b hb;simp at hb
   rintro rfl;subst hb;exact h1 (NA.2 ha)
theorem Uo{y:ByteArray}{xs:List ByteArray}:y∈DM xs↔y∈xs:=by
 unfold DM;rw[WI];constructor
 ·rintro⟨l,hl,rfl⟩
  rw[List.mem_mergeSort,WI]at hl
  obtain⟨b,hb,rfl⟩:=hl;omega
 ·intro h
  exact⟨y.data.toList,by rw[List.mem_mergeSort];grind,FU Yq⟩
theorem Kw{xs:List ByteArray}(h:xs.Nodup):(DM xs).Pairwise (λa b=>qU a b=YY):=by
 unfold DM;rw[W9];have h1:((xs.map λb:ByteArray=>b.data.toList).mergeSort λx y=>Y0 (x<=y)).Pairwise (λa b=>Y0 (a<=b)=YY):=
  List.pairwise_mergeSort (λa b c=>by grind) (λa b=>by grind) _
 have h2:((xs.map λb:ByteArray=>b.data.toList).mergeSort λx y=>Y0 (x<=y)).Nodup:=by
  rw[(List.mergeSort_perm _ _).nodup_iff];unfold List.Nodup;rw[W9];exact h.imp λgZ e=>gZ (FU e)
 refine(h1.and h2).imp ?_;rintro a b ⟨h3,h4⟩;rw[yS]
 grind
def ak(n:ah):List ByteArray:=(iL n).foldl sI []
theorem AG(h:cU n):dx n=YW (ak n):=by
 unfold dx;rw[if_pos ⟨h.aA,V2.2 λl hl=>Ya (by have:=h.bH l hl;unfold C5 sy at this;unfold maxLen;omega)⟩]
 congr 1
 exact Fv (r:=λa b=>qU a b=YY) GY Uf (Kw (Iq List.nodup_nil)) (uA List.Pairwise.nil) λx=>by
  rw[Uo,RY];unfold ak;rw[sn]
theorem Zan{xs:List α}{p:α->Bool}(h1:∀i (hi:i<xs.length),body (i:Int)=YW (if p xs[i]=YY then .inl ((i+1:Nat):Int)else .inr (i:Int)))(h2:body (xs.length:Int)=YW (.inr (xs.length:Int)))(hN:xs.length<NN):
 aE body NN 0=YW ((xs.takeWhile p).length:Int):=by
 have key:∀(ys:List α) (i N:Nat),xs.drop i=ys->i<=xs.length->ys.length<N->aE body N (i:Int)=YW ((i+(ys.takeWhile p).length:Nat):Int):=by
  intro ys
  induction ys with
  |nil=>
   intro i N hd hi hN
   cases N with
   |zero=>omega
   |succ N=>
    have:i=xs.length:=by grind
    subst this;simp only[aE,h2];rfl
  |cons y ys ih=>
   intro i N hd hi hN
   cases N with
   |zero=>omega
   |succ N=>
    have hy:xs[i]?=YW y:=by
     have:=congrArg (λl=>l[0]?) hd
     grind
    have bX:i<xs.length:=(VU.1 hy).1;have hyv:xs[i]=y:=(VU.1 hy).2;have xg:xs.drop (i+1)=ys:=by
     have:=congrArg (List.drop 1) hd
     simpa using this
    simp only[aE,h1 i bX,hyv]
    cases hp:p y with
    |true=>
     have:=ih (i+1) N xg bX Yv;rw[X5 hp]
     grind
    |false=>
     simp_all
 grind
theorem NB(p:ByteArray):∀(xs:List ByteArray),sI xs p=
 if xs[(xs.takeWhile λx=>qU x p).length]?=YW p then xs else xs.take (xs.takeWhile λx=>qU x p).length++[p]++xs.drop (xs.takeWhile λx=>qU x p).length
 | []=>by rfl
 |x::xs=>by
  unfold sI
  cases h:qU x p with
  |true=>
   rw[X5 (by exact h),NB p xs]
   grind
  |false=>
   simp_all
theorem Kr{i':Int}(hl:out.length<=4194304):
 (cond (Y0 (((out.takeWhile λx=>qU x p).length:Int)=(out.length:Int)))
  ((cr (fJ 0 ((out.takeWhile λx=>qU x p).length:Int) out.length)).bind λ_=>
  (cr (bn ((([]:List ByteArray):List ByteArray).length+((cM out 0 ((out.takeWhile λx=>qU x p).length:Int)):List ByteArray).length) 16)).bind λ_=>
  (cr (bn ((((([]:List ByteArray):List ByteArray)++(cM out 0 ((out.takeWhile λx=>qU x p).length:Int))):List ByteArray).length+([p]:List ByteArray).length) 16)).bind λ_=>
  (cr (fJ ((out.takeWhile λx=>qU x p).length:Int) (out.length:Int) out.length)).bind λ_=>
  (cr (bn ((((((([]:List ByteArray):List ByteArray)++(cM out 0 ((out.takeWhile λx=>qU x p).length:Int))):List ByteArray)++[p]):List ByteArray).length+((cM out ((out.takeWhile λx=>qU x p).length:Int) (out.length:Int)):List ByteArray).length) 16)).bind λ_=>
  (YW (.inl (i',((((((([]:List ByteArray):List ByteArray)++(cM out 0 ((out.takeWhile λx=>qU x p).length:Int))):List ByteArray)++[p]):List ByteArray)++(cM out ((out.takeWhile λx=>qU x p).length:Int) (out.length:Int))))):Option ((Int×List ByteArray)⊕List ByteArray)))
  ((aB out ((out.takeWhile λx=>qU x p).length:Int)).bind λy4=>
  cond (!decide (y4=p))
  ((cr (fJ 0 ((out.takeWhile λx=>qU x p).length:Int) out.length)).bind λ_=>
  (cr (bn ((([]:List ByteArray):List ByteArray).length+((cM out 0 ((out.takeWhile λx=>qU x p).length:Int)):List ByteArray).length) 16)).bind λ_=>
  (cr (bn ((((([]:List ByteArray):List ByteArray)++(cM out 0 ((out.takeWhile λx=>qU x p).length:Int))):List ByteArray).length+([p]:List ByteArray).length) 16)).bind λ_=>
  (cr (fJ ((out.takeWhile λx=>qU x p).length:Int) (out.length:Int) out.length)).bind λ_=>
  (cr (bn ((((((([]:List ByteArray):List ByteArray)++(cM out 0 ((out.takeWhile λx=>qU x p).length:Int))):List ByteArray)++[p]):List ByteArray).length+((cM out ((out.takeWhile λx=>qU x p).length:Int) (out.length:Int)):List ByteArray).length) 16)).bind λ_=>
  YW (.inl (i',((((((([]:List ByteArray):List ByteArray)++(cM out 0 ((out.takeWhile λx=>qU x p).length:Int))):List ByteArray)++[p]):List ByteArray)++(cM out ((out.takeWhile λx=>qU x p).length:Int) (out.length:Int))))))
  (YW (.inl (i',out)))))=YW (.inl (i',sI out p)):=by
 have hk:(out.takeWhile λx=>qU x p).length<=out.length:=(List.takeWhile_sublist _).length_le
 rw[NB];generalize Ph:(out.takeWhile λx=>qU x p).length=k at *
 have e1:cM out 0 (k:Int)=out.take k:=by rfl
 have e2:cM out (k:Int) (out.length:Int)=out.drop k:=by
  unfold cM;rw[Int.toNat_natCast,Int.toNat_natCast,List.take_of_length_le Yq]
 have c1:cr (fJ 0 (k:Int) out.length)=YW ():=ku YJ;have c2:cr (fJ (k:Int) (out.length:Int) out.length)=YW ():=ku YJ;have ap:∀n:Nat,n<=8388608->cr (bn n 16)=YW ():=λn hn=>ku (by unfold bn;grind)
 simp
 by_cases hke:(k:Int)=out.length
 ·grind
 ·rw[Yg hke,aP]
  grind
theorem E5(h:i<n.aA.length):(iL n)[2*i]?=YW n.aA[i].ar/\(iL n)[2*i+1]?=YW n.aA[i].aY:=by
 unfold iL;have key:∀(l:List bP) (i:Nat) (h:i<l.length),(l.flatMap λx=>[x.ar,x.aY])[2*i]?=YW l[i].ar/\(l.flatMap λx=>[x.ar,x.aY])[2*i+1]?=YW l[i].aY:=by
  intro l
  induction l with
  |nil=>simp
  |cons a l ih=>
   intro i h
   cases i with
   |zero=>simp
   |succ i=>
    grind
 grind
theorem wB(n:ah):(iL n).length=2*n.aA.length:=by
 unfold iL
 induction n.aA with
 |nil=>rfl
 |cons a l ih=>grind
theorem twL(hl:out.length<=4194304)(hb:∀i:Int,body i=cond (Y0 (i<(out.length:Int))) ((aB out i).bind λy=>cond (qU y p) (YW (.inl (aM (i+1)))) (YW (.inr i))) (YW (.inr i))):
 aE body NN 0=YW ((out.takeWhile λx=>qU x p).length:Int):=by
 refine Zan (λi hi=>?_) ?_ Ys
 ·have hw:=bG hi Yn
  have hg:aB out (i:Int)=YW out[i]:=by rw[aP];simp
  grind
 grind
theorem MM(h:n.aA.length<=1048576)(hp:(iL n)[i]?=YW p)(ho:out.length<=4194304):
 jf n ((i:Int),out)=YW (.inl (((i+1:Nat):Int),sI out p)):=by
 have hi:i<2*n.aA.length:=by rw[<-wB];grind
 have Bd:aM (2*(n.aA.length:Int))=2*n.aA.length:=aR Yn;have hdiv:IntKind.i64.wrap (Int.tdiv (i:Int) 2)=((i / 2:Nat):Int):=by
  rw[show Int.tdiv (i:Int) 2=((i / 2:Nat):Int)from rfl];exact aR Yn
 have Zfj:Int.tmod (i:Int) 2=((i % 2:Nat):Int):=rfl;have hw:aM ((i:Int)+1)=((i+1:Nat):Int):=bG hi Yn;have bX:i / 2<n.aA.length:=Yn;have hg:aB n.aA ((i / 2:Nat):Int)=YW n.aA[i / 2]:=by rw[aP];simp
 obtain⟨n1,n2⟩:=E5 bX;unfold jf;simp only[Bd,hdiv,Zfj,hw,hg,VT];rw[Ya (show(i:Int)<2*(n.aA.length:Int)by omega)]
 rcases Nat.mod_two_eq_zero_or_one i with hm|hm
 ·rw[hm,Yg (show ¬((0:Nat):Int)=1 by omega)]
  have SE:p=n.aA[i / 2].ar:=by
   grind
  rw[<-SE];rw[twL ho (body:=qc n ((i:Int),out) n.aA[i / 2]) (p:=p) (λj=>by rw[SE];rfl)]
  exact Kr ho
 ·rw[hm,Ya (show((1:Nat):Int)=1 by omega)]
  have SE:p=n.aA[i / 2].aY:=by
   grind
  rw[<-SE];rw[twL ho (body:=qb n ((i:Int),out) n.aA[i / 2]) (p:=p) (λj=>by rw[SE];rfl)]
  exact Kr ho
theorem AW(h:n.aA.length<=1048576):dh n=YW (ak n):=by
 have key:∀(ps:List ByteArray) (i N:Nat) (out:List ByteArray),(iL n).drop i=ps->i<=(iL n).length->ps.length<N->out.length<=i->aE (jf n) N ((i:Int),out)=YW (ps.foldl sI out):=by
  have BD:=wB n;intro ps
  induction ps with
  |nil=>
   intro i N out hd hi hN ho
   cases N with
   |zero=>omega
   |succ N=>
    have:i=(iL n).length:=by grind
    have Bd:aM (2*(n.aA.length:Int))=2*n.aA.length:=aR Yn;simp only[aE,jf]
    grind
  |cons p ps ih=>
   intro i N out hd hi hN ho
   cases N with
   |zero=>omega
   |succ N=>
    have hp:(iL n)[i]?=YW p:=by
     have:=congrArg (λl=>l[0]?) hd
     grind
    have bX:=(VU.1 hp).1;have xg:(iL n).drop (i+1)=ps:=by
     have:=congrArg (List.drop 1) hd
     simpa using this
    simp only[aE,MM h hp (show out.length<=4194304 by omega)]
    exact ih (i+1) N (sI out p) xg bX Yr (by have:=CU (p:=p) (xs:=out);omega)
 have BD:=wB n;unfold dh;rw[show((0:Int))=((0:Nat):Int)from rfl,key (iL n) 0 NN [] rfl (Nat.zero_le _) Ys Yq];rfl
theorem dH(h:cU n):dx n=dh n/\dh n=YW (ak n):=⟨(AG h).trans (AW h.aA).symm,AW h.aA⟩
theorem fv(n:ah):(ak n).length<=2*n.aA.length:=by
 have:=EK (l:=iL n) (acc:=[]);rw[wB]at this
 simpa[ak]using this
def gw(w:ax)(o:az):Option Bool:=
 cond (!decide (o.state=3))
 ((ic o).bind λy1=>
 cond (Y0 (y1=(o.aK.length:Int)))
 ((mZ w o).bind λy2=>
 YW (!decide (y2=o.aY)))
 (YW YZ))
 (YW YZ)
instance (w:ax)(o:az):CT prog (gw w o):=⟨149,[.ag (gK w),.ag (aZ o)],[],λr=>vb r,λr=>[],cw (gw.eq_1 ..) func149 ntmps149 results149⟩
def kT(w:ax)(i:Int):Option Bool:=
 (aB w.aj i).bind λy1=>
 cond (!decide (y1.state=3))
 ((fo y1).bind λy2=>
 cond (Y0 (y2=(y1.aK.length:Int)))
 ((fe w.aa y1).bind λy3=>
 YW (!decide (y3=y1.aY)))
 (YW YZ))
 (YW YZ)
instance (w:ax)(i:Int):CT prog (kT w i):=⟨296,[.ag (gK w),vi i],[],λr=>vb r,λr=>[],cw (kT.eq_1 ..) func296 ntmps296 results296⟩
theorem rj:@bU=@cb:=rfl
theorem Nu(w:ax)(o:az):mZ w o=fe w.aa o:=rfl
theorem O3(h:aB n.aA t.bH=YX):bm n t=none:=by
 unfold bm bt;rw[h];rfl
theorem oZ{y:bP}(h:aB n.aA t.bH=YW y):∃v,bm n t=YW v:=by
 unfold bm bt;rw[h];exact⟨_,rfl⟩
theorem Us(w:ax)(o:az):oK w o=cd w.aa o w.now:=by
 unfold oK cd;rw[r8,ql]
 cases Y0 (0<o.aO)with
 |false=>
  simp only[Yk]
  cases Y0 (o.state=1)<;>cases Y0 (o.state=2)<;>cases Y0 (o.state=3)<;>try rfl
  all_goals cases Y0 (o.aO=(o.aK.length:Int))<;>cases Y0 (o.place=o.aY)<;>cases Y0 (o.ar=o.aY)<;>rfl
 |true=>
  simp only[Yj]
  cases hg:aB o.aK (aM (o.aO-1))with
  |none=>rfl
  |some y1=>
   simp only[VT,hg]
   cases hl:aB w.aa.aA y1.bH with
   |none=>rw[O3 hl];rfl
   |some y2=>
    obtain⟨v,hv⟩:=oZ hl;simp only[hv,VT]
    cases Y0 (w.now<v)<;>try rfl
    simp only[Yk]
    cases Y0 (o.state=1)<;>cases Y0 (o.state=2)<;>cases Y0 (o.state=3)<;>try rfl
    all_goals cases Y0 (o.aO=(o.aK.length:Int))<;>cases Y0 (o.place=o.aY)<;>cases Y0 (y2.aY=o.aY)<;>rfl
theorem Px{α ο:Type}{xs:List α}{p:α->Bool}{body:Int->Option (Int⊕ο)}{f:Nat->ο}{e:ο}(h1:∀i (hi:i<xs.length),body (i:Int)=YW (if p xs[i]=YY then .inr (f i)else .inl ((i+1:Nat):Int)))(h2:body (xs.length:Int)=YW (.inr e))(hN:xs.length<NN):
 aE body NN 0=YW ((xs.findIdx? p).elim e f):=by
 have key:∀(ys:List α) (i N:Nat),xs.drop i=ys->i<=xs.length->ys.length<N->aE body N (i:Int)=YW ((ys.findIdx? p).elim e λk=>f (i+k)):=by
  intro ys
  induction ys with
  |nil=>
   intro i N hd hi hN
   cases N with
   |zero=>omega
   |succ N=>
    have:i=xs.length:=by grind
    subst this;simp only[aE,h2];rfl
  |cons y ys ih=>
   intro i N hd hi hN
   cases N with
   |zero=>omega
   |succ N=>
    have hy:xs[i]?=YW y:=by
     have:=congrArg (λl=>l[0]?) hd
     grind
    have bX:i<xs.length:=(VU.1 hy).1;have hyv:xs[i]=y:=(VU.1 hy).2;have xg:xs.drop (i+1)=ys:=by
     have:=congrArg (List.drop 1) hd
     simpa using this
    simp only[aE,h1 i bX,hyv];rw[List.findIdx?_cons]
    cases hp:p y with
    |true=>simp
    |false=>
     have:=ih (i+1) N xg bX Yr;refine this.trans ?_
     cases ys.findIdx? p with
     |none=>rfl
     |some k=>grind
 have:=key xs 0 NN rfl (Nat.zero_le _) hN
 grind
def bf(l:List ByteArray)(p:ByteArray):Int:=(l.findIdx? λy=>Y0 (y=p)).elim (-1) λk=>(k:Int)
theorem o4{l:List ByteArray}(h:l.length<=4194304)(p:ByteArray):cb l p=YW (bf l p):=by
 unfold cb;rw[Px (xs:=l) (p:=λy=>Y0 (y=p)) (f:=λi=>.inr (i:Int)) (e:=.inl ()) (λi hi=>?_) (by simp[oz]) Ys]
 ·unfold bf
  cases l.findIdx? λy=>Y0 (y=p)<;>rfl
 ·have hw:=bG hi Yn
  have hg:aB l (i:Int)=YW l[i]:=by rw[aP];simp
  simp only[oz]
  grind
/-! Q1: one for a bz and a bk. -/
def ZbU(l:List aq):Prop:=∀x∈l,∀y∈l,x.bz=y.bz->x.bk=y.bk->x=y
theorem Vb{a b c:aq}(h:pA a b=YY)(h':pA b c=YY):pA a c=true:=by
 unfold pA at *
 grind
theorem dQ(h:cu n l=YY):aW n=YW YY/\l.length<=120:=by
 unfold cu at h
 cases hn:aW n with
 |none=>grind
 |some b=>grind
theorem xY(h:cu n l=YY)(hi:i<l.length):M7 n l i=YY/\Vd n l i=true:=by
 unfold cu at h
 grind
theorem sB(h:cu n l=YY):∀(j i:Nat) (hj:j<l.length) (zf:i<j),pA (l[i]' Yn) l[j]=true:=by
 intro j
 induction j with
 |zero=>omega
 |succ j ih=>
  intro i hj zf;have h1:=(xY h hj).1;unfold M7 at h1
  have h2:pA l[j] l[j+1]=true:=by
   grind
  rcases Nat.lt_or_ge i j with h3|h3
  ·exact Vb (ih i Yn h3) h2
  grind
theorem Cc{a b:aq}(h1:a.bz=b.bz)(h2:a.bk=b.bk):pA a b=false:=by
 unfold pA
 grind
theorem Ci(h:cu n l=YY):ZbU l:=by
 intro x hx y hy ht Ny;obtain⟨i,hi,rfl⟩:=Wf hx;obtain⟨j,hj,rfl⟩:=Wf hy
 rcases Nat.lt_trichotomy i j with h1|h1|h1
 ·have:=sB h j i hj h1
  rw[Cc ht Ny]at this;grind
 ·grind
 ·have:=sB h i j hi h1
  rw[Cc ht.symm Ny.symm]at this;grind
def j3(l:List aq)(bz:Int)(t:av)(wt:Int):Bool:=l.any λy=>Y0 (y=(⟨bz,t,wt⟩:aq))
theorem Rv(h:l.length<=1048576)(bz:Int)(t:av)(wt:Int):mV l bz t wt=YW (j3 l bz t wt):=by
 unfold mV;rw[tS (xs:=l) (p:=λy=>Y0 (y=(⟨bz,t,wt⟩:aq))) (r:=.inr YY) (e:=.inl ()) (λi hi=>?_) (by simp[mB]) Ys]
 ·unfold j3
  grind
 ·have hw:=bG hi Yn
  have hg:aB l (i:Int)=YW l[i]:=by rw[aP];simp
  simp only[mB]
  grind
theorem F9{w:ax}(h:w.au.length<=1048576)(hu:ZbU w.au){id:Int}{o:az}(ho:aB w.aj (aM (id-1))=YW o)(t:av):lT w id t=YW (j3 w.au id t o.ab):=by
 unfold lT;have e:aE (jw w id t) NN 0=uf (λ_ (_:Unit) (x:aq)=>YW (if x.bz=id/\x.bk=t then .inr (.inr (Y0 (x.ab=o.ab)))else .inl ())) (λ_=>YW (.inl ())) 0 w.au ():=by
  refine rf (A:=Unit) (λ_ i=>i) _ _ (λ_ i x hx=>?_) (λ_=>?_) Ys ()
  ·have hi:=(VU.1 hx).1
   have hw:=bG hi Yn;have hg:aB w.au (i:Int)=YW x:=by rw[aP];omega
   simp only[jw]
   grind
  ·simp[jw]
 have key:∀(l:List aq) (i:Nat),(∀x∈l,x∈w.au)->uf (λ_ (_:Unit) (x:aq)=>YW (if x.bz=id/\x.bk=t then(.inr (.inr (Y0 (x.ab=o.ab))):Unit⊕(Unit⊕Bool))else .inl ())) (λ_=>YW (Sum.inl ():Unit⊕Bool)) i l ()=YW (if l.any (λy=>Y0 (y.bz=id/\y.bk=t))=YY then Sum.inr (j3 l id t o.ab)else Sum.inl ()):=by
  intro l
  induction l with
  |nil=>intro i _;rfl
  |cons x l ih=>
   intro i hm;simp only[uf]
   by_cases hc:x.bz=id/\x.bk=t
   ·rw[if_pos hc]
    simp only[List.any_cons,Ya hc];show YW (Sum.inr (Y0 (x.ab=o.ab)):Unit⊕Bool)=_
    congr 2
    unfold j3;rw[List.any_cons]
    by_cases hw:x.ab=o.ab
    ·have:x=(⟨id,t,o.ab⟩:aq):=by obtain⟨a,b,c⟩:=x;grind
     grind
    ·rw[Yg hw]
     symm
     rw[Bool.or_eq_false_iff];refine⟨Yg (λe=>hw (by rw[e])),?_⟩
     rw[Bool.eq_false_iff];intro h3;obtain⟨y,hy,he⟩:=List.any_eq_true.1 h3;have:=hu x (hm x (Wo ..)) y (hm y (List.mem_cons_of_mem _ hy)) Yr Yr
     grind
   ·simp only[VT]
    simp;have:j3 (x::l) id t o.ab=j3 l id t o.ab:=by
     unfold j3
     grind
    grind
 rw[e,key w.au 0 (λx h=>h)]
 cases ha:w.au.any (λy=>Y0 (y.bz=id/\y.bk=t))with
 |true=>rfl
 |false=>
  symm
  unfold j3
  grind
def pR(n:ah)(aK:List av)(aY:ByteArray)(s0:Int×ByteArray×Int):Option ((Int×ByteArray×Int)⊕(ByteArray⊕Bool)):=
 cond (Y0 (s0.2.2<(aK.length:Int)))
 ((aB aK s0.2.2).bind λy5=>
 (dY n y5).bind λy6=>
 cond (!y6)
 (YW (.inr (.inr YZ)))
 ((aB n.aA y5.bH).bind λy7=>
 cond (!decide (y7.ar=s0.2.1))
 (YW (.inr (.inr YZ)))
 ((dq n y5).bind λy8=>
 cond (Y0 (y8<s0.1))
 (YW (.inr (.inr YZ)))
 ((aB n.aA y5.bH).bind λy9=>
 (aB aK s0.2.2).bind λeh=>
 (di n eh).bind λlr=>
 YW (.inl ((aM (lr+n.change)),y9.aY,(aM (s0.2.2+1))))))))
 (YW (.inr (.inl s0.2.1)))
instance (n:ah)(aK:List av)(aY:ByteArray):bp (pR n aK aY):=⟨λs0=>(.un::.sl (aK.map aU)::.un::vs aY::vi s0.1::.be 0 0 0::(U 6 (vs s0.2.1::(U 20 (.sl (aK.map aU)::vi (aK.length:Int)::vi s0.2.2::(U 46 [])))))),λs0=>[YW ⟨.of 27,3,[[.sl (n.aA.map bo),.sl (n.off.map aG),vi n.change]]⟩]⟩
def qG(n:ah)(aK:List av)(cV:ByteArray)(aY:ByteArray)(lj:Int):Option Bool:=
 (dx n).bind λy1=>
 (fg n).bind λy2=>
 cond (!y2)
 (YW YZ)
 ((bU y1 cV).bind λy3=>
 cond (Y0 (y3<0))
 (YW YZ)
 ((bU y1 aY).bind λy4=>
 cond (Y0 (y4<0))
 (YW YZ)
 ((aE (pR n aK aY) NN (lj,cV,0)).bind (bh (λo0=>
 YW (Y0 (o0=aY))) (λr=>YW r)))))
instance (n:ah)(aK:List av)(cV:ByteArray)(aY:ByteArray)(lj:Int):CT prog (qG n aK cV aY lj):=⟨158,[.ag (bB n),.sl (aK.map aU),vs cV,vs aY,vi lj],[],λr=>vb r,λr=>[],cw (qG.eq_1 ..) func158 ntmps158 results158⟩
def pC(n:ah)(s:br):Option Bool:=
 (fg n).bind λy1=>
 cond (!y1)
 (YW YZ)
 ((aX s.bz 1 9999).bind λy2=>
 cond (!y2)
 (YW YZ)
 ((aX s.aQ 0 100000).bind λy3=>
 cond (!y3)
 (YW YZ)
 (cond (Y0 (s.kind=1))
 (cond (Y0 (s.kind=1))
 ((dx n).bind λy4=>
 (bU y4 s.place).bind λy5=>
 cond (Y0 (0<=y5))
 (YW (Y0 (s.bk=(⟨0,0⟩:av))))
 (YW YZ))
 (cond (Y0 (s.kind=3))
 (cond (Y0 (s.place=⟨#[]⟩))
 ((dY n s.bk).bind λy6=>
 cond y6
 ((dq n s.bk).bind λy7=>
 YW (Y0 (s.aQ<=y7)))
 (YW YZ))
 (YW YZ))
 (cond (Y0 (s.kind=2))
 (cond (Y0 (s.place=⟨#[]⟩))
 ((dY n s.bk).bind λy8=>
 cond y8
 ((di n s.bk).bind λy9=>
 YW (Y0 (y9<=s.aQ)))
 (YW YZ))
 (YW YZ))
 (YW YZ))))
 (cond (Y0 (s.kind=4))
 ((dx n).bind λeh=>
 (bU eh s.place).bind λlr=>
 cond (Y0 (0<=lr))
 (YW (Y0 (s.bk=(⟨0,0⟩:av))))
 (YW YZ))
 (cond (Y0 (s.kind=3))
 (cond (Y0 (s.place=⟨#[]⟩))
 ((dY n s.bk).bind λoV=>
 cond oV
 ((dq n s.bk).bind λoD=>
 YW (Y0 (s.aQ<=oD)))
 (YW YZ))
 (YW YZ))
 (cond (Y0 (s.kind=2))
 (cond (Y0 (s.place=⟨#[]⟩))
 ((dY n s.bk).bind λnF=>
 cond nF
 ((di n s.bk).bind λpZ=>
 YW (Y0 (pZ<=s.aQ)))
 (YW YZ))
 (YW YZ))
 (YW YZ)))))))
instance (n:ah)(s:br):CT prog (pC n s):=⟨88,[.ag (bB n),.ag (bw s)],[],λr=>vb r,λr=>[],cw (pC.eq_1 ..) func88 ntmps88 results88⟩
def lU(w:ax)(id:Int)(y1:az)(s0:ByteArray×Int):Option ((ByteArray×Int)⊕(ByteArray⊕Bool)):=
 cond (Y0 (s0.2<(y1.aK.length:Int)))
 ((aB y1.aK s0.2).bind λy9=>
 (dY w.aa y9).bind λeh=>
 cond (!eh)
 (YW (.inr (.inr YZ)))
 ((lT w id y9).bind λlr=>
 cond (!lr)
 (YW (.inr (.inr YZ)))
 ((ic y1).bind λoV=>
 cond (Y0 (oV<=s0.2))
 ((fb w.ae y9).bind λoD=>
 cond oD
 (YW (.inr (.inr YZ)))
 ((aB w.aa.aA y9.bH).bind λnF=>
 cond (Y0 (nF.aY=y1.aY))
 (cond (Y0 (s0.2<(aM ((y1.aK.length:Int)-1))))
 (YW (.inr (.inr YZ)))
 (YW (.inl (nF.aY,(aM (s0.2+1))))))
 (YW (.inl (nF.aY,(aM (s0.2+1)))))))
 ((aB w.aa.aA y9.bH).bind λpZ=>
 cond (Y0 (pZ.aY=y1.aY))
 (cond (Y0 (s0.2<(aM ((y1.aK.length:Int)-1))))
 (YW (.inr (.inr YZ)))
 (YW (.inl (pZ.aY,(aM (s0.2+1))))))
 (YW (.inl (pZ.aY,(aM (s0.2+1)))))))))
 (YW (.inr (.inl s0.1)))
instance (w:ax)(id:Int)(y1:az):bp (lU w id y1):=⟨λs0=>(.un::vi id::.un::.be 0 0 0::(U 3 (.be 1 0 0::vs s0.1::(U 65 (.sl (y1.aK.map aU)::vi (y1.aK.length:Int)::vi s0.2::(U 65 [])))))),λs0=>[YW ⟨.of 33,10,[[.sl (w.aa.aA.map bo),.sl (w.aa.off.map aG),vi w.aa.change,.sl (w.aj.map aZ),.sl (w.au.map aC),.sl (w.ae.map aU),vi w.now,.sl (w.aN.map bw),.sl (w.skip.map aG),vi w.bg]]⟩,YW ⟨.of 94,11,[[vs y1.ar,vs y1.aY,vi y1.aw,vi y1.ab,vi y1.aQ,vi y1.eJ,.sl (y1.aK.map aU),vi y1.aO,vi y1.state,vs y1.place,vi y1.bQ]]⟩]⟩
def oJ(w:ax)(id:Int)(places:List ByteArray):Option Bool:=
 (aB w.aj (aM (id-1))).bind λy1=>
 cond (Y0 (y1.ar=y1.aY))
 (YW YZ)
 ((bU places y1.ar).bind λy2=>
 cond (Y0 (y2<0))
 (YW YZ)
 ((bU places y1.aY).bind λy3=>
 cond (Y0 (y3<0))
 (YW YZ)
 ((aX y1.aw 1 3).bind λy4=>
 cond (!y4)
 (YW YZ)
 ((aX y1.ab 1 30000).bind λy5=>
 cond (!y5)
 (YW YZ)
 ((aX y1.aQ 0 w.now).bind λy6=>
 cond (!y6)
 (YW YZ)
 ((aX y1.eJ 0 200000).bind λy7=>
 cond (!y7)
 (YW YZ)
 ((aX y1.aO 0 (y1.aK.length:Int)).bind λy8=>
 cond (!y8)
 (YW YZ)
 ((aE (lU w id y1) NN (y1.ar,0)).bind (bh (λo0=>
 (qG w.aa y1.aK y1.ar o0 (aM (y1.aQ+1))).bind λod=>
 cond od
 ((oK w y1).bind λrP=>
 YW rP)
 (YW YZ)) (λr=>YW r))))))))))
instance (w:ax)(id:Int)(places:List ByteArray):CT prog (oJ w id places):=⟨90,[.ag (gK w),vi id,.sl (places.map iU)],[],λr=>vb r,λr=>[],cw (oJ.eq_1 ..) func90 ntmps90 results90⟩
def lN(w:ax)(s0:Int):Option (Int⊕(Unit⊕Bool)):=
 cond (Y0 (s0<(w.ae.length:Int)))
 ((aB w.ae s0).bind λy4=>
 (dY w.aa y4).bind λy5=>
 cond (!y5)
 (YW (.inr (.inr YZ)))
 ((cr (fJ 0 s0 w.ae.length)).bind λ_=>
 (fb (cM w.ae 0 s0) y4).bind λy6=>
 cond y6
 (YW (.inr (.inr YZ)))
 (YW (.inl (aM (s0+1))))))
 (YW (.inr (.inl ())))
instance (w:ax):bp (lN w):=⟨λs0=>(.un::.be 0 0 0::.un::.be 1 0 0::(U 55 (.sl (w.ae.map aU)::vi (w.ae.length:Int)::vi s0::(U 63 [])))),λs0=>[YW ⟨.of 33,10,[[.sl (w.aa.aA.map bo),.sl (w.aa.off.map aG),vi w.aa.change,.sl (w.aj.map aZ),.sl (w.au.map aC),.sl (w.ae.map aU),vi w.now,.sl (w.aN.map bw),.sl (w.skip.map aG),vi w.bg]]⟩,YW ⟨.of 27,3,[[.sl (w.aa.aA.map bo),.sl (w.aa.off.map aG),vi w.aa.change]]⟩]⟩
def lO(w:ax)(s1:Int):Option (Int⊕(Unit⊕Bool)):=
 cond (Y0 (s1<(w.aN.length:Int)))
 ((aB w.aN s1).bind λy7=>
 (pC w.aa y7).bind λy8=>
 cond (!y8)
 (YW (.inr (.inr YZ)))
 (cond (Y0 (w.now<y7.aQ))
 (YW (.inr (.inr YZ)))
 (YW (.inl (aM (s1+1))))))
 (YW (.inr (.inl ())))
instance (w:ax):bp (lO w):=⟨λs1=>(.un::.be 0 0 0::.un::.be 1 0 0::(U 76 (.sl (w.aN.map bw)::vi (w.aN.length:Int)::vi s1::(U 42 [])))),λs1=>[YW ⟨.of 33,10,[[.sl (w.aa.aA.map bo),.sl (w.aa.off.map aG),vi w.aa.change,.sl (w.aj.map aZ),.sl (w.au.map aC),.sl (w.ae.map aU),vi w.now,.sl (w.aN.map bw),.sl (w.skip.map aG),vi w.bg]]⟩,YW ⟨.of 27,3,[[.sl (w.aa.aA.map bo),.sl (w.aa.off.map aG),vi w.aa.change]]⟩]⟩
def lP(w:ax)(y9:List ByteArray)(s2:Int×Int):Option ((Int×Int)⊕(Int⊕Bool)):=
 cond (Y0 (s2.2<(w.aj.length:Int)))
 ((aB w.aj s2.2).bind λeh=>
 (oJ w (aM (s2.2+1)) y9).bind λlr=>
 cond (!lr)
 (YW (.inr (.inr YZ)))
 (YW (.inl ((aM (s2.1+(eh.aK.length:Int))),(aM (s2.2+1))))))
 (YW (.inr (.inl s2.1)))
instance (w:ax)(y9:List ByteArray):bp (lP w y9):=⟨λs2=>(.un::.be 0 0 0::(U 6 (.ms 1::vi s2.1::(U 91 (.sl (w.aj.map aZ)::vi (w.aj.length:Int)::vi s2.2::(U 21 [])))))),λs2=>[YW ⟨.of 33,10,[[.sl (w.aa.aA.map bo),.sl (w.aa.off.map aG),vi w.aa.change,.sl (w.aj.map aZ),.sl (w.au.map aC),.sl (w.ae.map aU),vi w.now,.sl (w.aN.map bw),.sl (w.skip.map aG),vi w.bg]]⟩,YW ⟨.of 9,1,y9.map iU⟩]⟩
def ig(w:ax):Option Bool:=
 (iW w.aa w.au).bind λy1=>
 cond (!y1)
 (YW YZ)
 ((aX w.now 0 100000).bind λy2=>
 cond (!y2)
 (YW YZ)
 (cond (Y0 (30<(w.aj.length:Int)))
 (YW YZ)
 (cond (Y0 (20<(w.ae.length:Int)))
 (YW YZ)
 (cond (Y0 (200<(w.aN.length:Int)))
 (YW YZ)
 (cond (Y0 (50<(w.skip.length:Int)))
 (YW YZ)
 ((aX w.bg (w.aN.length:Int) 1000000000).bind λy3=>
 cond (!y3)
 (YW YZ)
 ((aE (lN w) NN 0).bind (bh (λo0=>
 (aE (lO w) NN 0).bind (bh (λo1=>
 (dx w.aa).bind λy9=>
 (aE (lP w y9) NN (0,0)).bind (bh (λo2=>
 YW (Y0 (o2=(w.au.length:Int)))) (λr=>YW r))) (λr=>YW r))) (λr=>YW r)))))))))
instance (w:ax):CT prog (ig w):=⟨38,[.ag (gK w)],[],λr=>vb r,λr=>[],cw (ig.eq_1 ..) func38 ntmps38 results38⟩
def ft(w:ax)(s:br):Option ax:=
 (rz w.skip (if 1000000000<(aM (w.bg+1))then 1000000000 else(aM (w.bg+1)))).bind λy1=>
 cond (!y1)
 (cond (Y0 ((w.aN.length:Int)<200))
 ((cr (bn ((w.aN:List br).length+([s]:List br).length) 56)).bind λ_=>
 YW (⟨w.aa,w.aj,w.au,w.ae,w.now,((w.aN:List br)++[s]),w.skip,(if 1000000000<(aM (w.bg+1))then 1000000000 else(aM (w.bg+1)))⟩:ax))
 (YW (⟨w.aa,w.aj,w.au,w.ae,w.now,w.aN,w.skip,(if 1000000000<(aM (w.bg+1))then 1000000000 else(aM (w.bg+1)))⟩:ax)))
 (YW (⟨w.aa,w.aj,w.au,w.ae,w.now,w.aN,w.skip,(if 1000000000<(aM (w.bg+1))then 1000000000 else(aM (w.bg+1)))⟩:ax))
instance (w:ax)(s:br):CT prog (ft w s):=⟨140,[.be 0 0 0,.ag (bw s)],[YW ⟨.of 33,10,[[.ms 1,.ms 2,vi w.aa.change,.ms 3,.ms 4,.ms 5,vi w.now,.ms 6,.ms 7,vi w.bg]]⟩,YW ⟨.of 144,6,w.aa.aA.map bo⟩,YW ⟨.of 3,1,w.aa.off.map aG⟩,YW ⟨⟨94,YW 46⟩,11,w.aj.map aZ⟩,YW ⟨.of 147,4,w.au.map aC⟩,YW ⟨.of 46,2,w.ae.map aU⟩,YW ⟨.of 151,6,w.aN.map bw⟩,YW ⟨.of 3,1,w.skip.map aG⟩],λr=>.tu [],λr=>[YW ⟨.of 33,10,[[.ms 1,.ms 2,vi r.aa.change,.ms 3,.ms 4,.ms 5,vi r.now,.ms 8,.ms 7,vi r.bg]]⟩,YW ⟨.of 144,6,r.aa.aA.map bo⟩,YW ⟨.of 3,1,r.aa.off.map aG⟩,YW ⟨⟨94,YW 46⟩,11,r.aj.map aZ⟩,YW ⟨.of 147,4,r.au.map aC⟩,YW ⟨.of 46,2,r.ae.map aU⟩,YX,YW ⟨.of 3,1,r.skip.map aG⟩,YW ⟨.of 151,6,r.aN.map bw⟩],ck (ft.eq_1 ..) func140 ntmps140 results140⟩
def ca(l:List bc):Option (List bc):=
 (cr (bn ((([]:List bc):List bc).length+(l:List bc).length) 32)).bind λ_=>
 YW ((([]:List bc):List bc)++l)
instance (l:List bc):CT prog (ca l):=⟨106,[.sl (l.map bK)],[],λr=>.ms 0,λr=>[YW ⟨.of 85,4,r.map bK⟩],cw (ca.eq_1 ..) func106 ntmps106 results106⟩
def jd(n:ah)(l:List aq)(bz:Int)(gn:Int)(y1:Bool)(s0:Int×(List aq)):Option ((Int×(List aq))⊕(List aq)):=
 cond (Y0 (s0.1<(l.length:Int)))
 (cond (!y1)
 ((aB l s0.1).bind λy2=>
 (cr (bn ((s0.2:List aq).length+([y2]:List aq).length) 32)).bind λ_=>
 YW (.inl ((aM (s0.1+1)),((s0.2:List aq)++[y2]))))
 ((aB l s0.1).bind λy3=>
 cond (!decide (y3.bz=bz))
 ((aB l s0.1).bind λy4=>
 (cr (bn ((s0.2:List aq).length+([y4]:List aq).length) 32)).bind λ_=>
 YW (.inl ((aM (s0.1+1)),((s0.2:List aq)++[y4]))))
 ((aB l s0.1).bind λy5=>
 (bt n y5.bk).bind λy6=>
 cond (Y0 (y6<gn))
 ((aB l s0.1).bind λy7=>
 (cr (bn ((s0.2:List aq).length+([y7]:List aq).length) 32)).bind λ_=>
 YW (.inl ((aM (s0.1+1)),((s0.2:List aq)++[y7]))))
 (YW (.inl ((aM (s0.1+1)),s0.2))))))
 (YW (.inr s0.2))
instance (n:ah)(l:List aq)(bz:Int)(gn:Int)(y1:Bool):bp (jd n l bz gn y1):=⟨λs0=>(.un::.sl (l.map aC)::vi bz::vi gn::.be 0 0 0::(U 4 (.ms 1::vb y1::vi s0.1::(U 40 [])))),λs0=>[YW ⟨.of 27,3,[[.sl (n.aA.map bo),.sl (n.off.map aG),vi n.change]]⟩,YW ⟨.of 147,4,s0.2.map aC⟩]⟩
def lE(n:ah)(l:List aq)(bz:Int)(gn:Int):Option (List aq):=
 (eT n l).bind λy1=>
 (aE (jd n l bz gn y1) NN (0,([]:List aq))).bind (λo0=>
 YW o0)
instance (n:ah)(l:List aq)(bz:Int)(gn:Int):CT prog (lE n l bz gn):=⟨294,[.ag (bB n),.sl (l.map aC),vi bz,vi gn],[],λr=>.ms 0,λr=>[YW ⟨.of 147,4,r.map aC⟩],cw (lE.eq_1 ..) func294 ntmps294 results294⟩
def kG(n:ah)(fG:Int)(start:Bool):Option Int:=
 cond start
 (YW fG)
 (YW (aM (fG+n.change)))
instance (n:ah)(fG:Int)(start:Bool):CT prog (kG n fG start):=⟨310,[.ag (bB n),vi fG,vb start],[],λr=>vi r,λr=>[],cw (kG.eq_1 ..) func310 ntmps310 results310⟩
def ry(n:ah)(l:List aq)(ae:List av)(ab:Int):Option (ah×(List av)×(List aq)×Int):=
 YW (n,ae,l,ab)
instance (n:ah)(l:List aq)(ae:List av)(ab:Int):CT prog (ry n l ae ab):=⟨199,[.ag (bB n),.sl (l.map aC),.sl (ae.map aU),vi ab],[],λr=>.fn 250 [.rp [.sl (r.1.aA.map bo),.sl (r.1.off.map aG),vi r.1.change],.rp [.sl (r.2.1.map aU)],.rp [.sl (r.2.2.1.map aC)],.rp [vi r.2.2.2]],λr=>[],cw (ry.eq_1 ..) func199 ntmps199 results199⟩
end Go.Proofs.YtdilaemengjipaaGreatDoor
