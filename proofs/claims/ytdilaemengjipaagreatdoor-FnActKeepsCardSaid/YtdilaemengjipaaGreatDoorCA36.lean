/- A part of the proof of the statement in the last file of this claim: texts on the language of the program and on its functions. No condition. -/
import Derived.Test.YtdilaemengjipaaGreatDoorCA4
import Derived.Test.YtdilaemengjipaaGreatDoorCA8
import Derived.Test.YtdilaemengjipaaGreatDoorCA33
import Derived.Test.YtdilaemengjipaaGreatDoorCA10
import Derived.Test.YtdilaemengjipaaGreatDoorCA12
import Derived.Test.YtdilaemengjipaaGreatDoorCA26
import Derived.Test.YtdilaemengjipaaGreatDoorCA29
import Derived.Test.YtdilaemengjipaaGreatDoorCA7
import Derived.Test.YtdilaemengjipaaGreatDoorCA11
import Derived.Test.YtdilaemengjipaaGreatDoorCA19
import Derived.Test.YtdilaemengjipaaGreatDoorCA13
import Derived.Test.YtdilaemengjipaaGreatDoorCA1
set_option linter.unusedVariables false
set_option linter.unusedSimpArgs false
set_option linter.unusedSectionVars false
open Option renaming some->YH,none->YI
open Bool renaming true->YJ,false->YK
open Decidable renaming decide->YL
open Go.Proofs.Tryz
set_option maxHeartbeats 40000000
namespace Go.Proofs.YtdilaemengjipaaGreatDoor
open Option renaming bind_some->VS,map_some->WB,getD_some->Xe
set_option maxRecDepth 10000
open Go.RowKit
def lE(w:ax)(s0:Int×(List Int)):Option ((Int×(List Int))⊕(List Int)):=
 cond (YL (s0.1<(w.ae.length:Int)))
 ((aB w.ae s0.1).bind λy2=>
 (fT w y2).bind λy3=>
 cond y3
 ((bW (bm ((s0.2:List Int).length+([(aI (s0.1+1))]:List Int).length) 8)).bind λ_=>
 YH (.inl ((aI (s0.1+1)),((s0.2:List Int)++[(aI (s0.1+1))]))))
 (YH (.inl ((aI (s0.1+1)),s0.2))))
 (YH (.inr s0.2))
instance (w:ax):bo (lE w):=⟨λs0=>(.un::.be 0 0 0::.un::.ms 1::(U 8 (.sl (w.ae.map ba)::vi (w.ae.length:Int)::vi s0.1::(U 14 [])))),λs0=>[YH ⟨.of 33,10,[[.sl (w.aa.aA.map bn),.sl (w.aa.off.map aE),vi w.aa.change,.sl (w.ae.map ba),.sl (w.ar.map aC),.sl (w.ah.map aW),vi w.now,.sl (w.aH.map bt),.sl (w.skip.map aE),vi w.bd]]⟩,YH ⟨.of 3,1,s0.2.map aE⟩]⟩
def lD(w:ax):Option (List Int):=
 (gK w).bind λy1=>
 cond (!y1)
 (YH ([]:List Int))
 ((aD (lE w) NN (0,([]:List Int))).bind (λo0=>
 YH o0))
instance (w:ax):CT prog (lD w):=⟨148,[.ag (fY w)],[],λr=>.ms 0,λr=>[YH ⟨.of 3,1,r.map aE⟩],cw (lD.eq_1 ..) func148 ntmps148 results148⟩
def qd(p:az->Bool):Nat->List az->List Int
 |_,[]=>[]
 |i,o::os=>(if p o=YJ then [((i+1:Nat):Int)]else [])++qd p (i+1) os
theorem tU(p:az->Bool):∀(os:List az) (i:Nat),(qd p i os).length=os.countP p
 | [],_=>rfl
 |o::os,i=>by
  unfold qd;rw[List.length_append,tU p os,List.countP_cons]
  grind
theorem vZ{p:az->Bool}{x:Int}:∀{os:List az} {i:Nat},x∈qd p i os↔∃(j:Nat) (o:az),os[j]?=YH o/\p o=YJ/\x=((i+j+1:Nat):Int)
 | [],i=>by simp[qd]
 |o::os,i=>by
  unfold qd;rw[List.mem_append,vZ (os:=os) (i:=i+1)];constructor
  ·rintro(h|⟨j,o',h1,h2,h3⟩)
   ·grind
   ·exact⟨j+1,o',by simp_all,h2,X9⟩
  grind
theorem CD(p:az->Bool):∀(os:List az) (o:az) (i:Nat),qd p i (os++[o])=qd p i os++(if p o=YJ then [((i+os.length+1:Nat):Int)]else [])
 | [],o,i=>by simp[qd]
 |x::os,o,i=>by
  simp only[List.cons_append,qd,CD p os o (i+1),List.append_assoc,List.length_cons]
  grind
theorem Hn{w:ax}(hl:w.ae.length<=1048576){body:Int×List Int->Option ((Int×List Int)⊕List Int)}{p:az->Bool}
 (h1:∀(i:Nat) (out:List Int) (o:az),w.ae[i]?=YH o->out.length<=i->body ((i:Int),out)=YH (.inl (((i+1:Nat):Int),out++(if p o=YJ then [((i+1:Nat):Int)]else []))))
 (h2:∀out,body ((w.ae.length:Int),out)=YH (.inr out)):aD body NN (0,([]:List Int))=YH (qd p 0 w.ae):=by
 refine my (body:=body) (λi:Nat=>((i:Int),qd p 0 (w.ae.take i))) (n:=w.ae.length) (λi hi=>?_) Yg NN Yc
 have ho:=List.getElem?_eq_getElem hi;have wq:(qd p 0 (w.ae.take i)).length<=i:=by
  rw[tU];exact Nat.le_trans List.countP_le_length Yd
 rw[h1 i _ _ ho wq,List.take_succ_eq_append_getElem hi,CD,List.length_take,Nat.min_eq_left X9,Nat.zero_add]
theorem Me{n:Nat}(h:n<=1048576):bW (bm (n+1) 8)=YH ():=od (by unfold bm;grind)
def eP(n:aj)(o:az):Bool:=!decide (o.state=3)&&YL (bb o=o.aG.length)&&!decide (fZ n o=o.a8)
section
variable {w:ax} (h:ql w)
include h
theorem C7{i:Nat}{o:az}(ho:w.ae[i]?=YH o):fT w o=YH (eP w.aa o):=by
 have hok:=mQ h.fit h.ok ho;have hl:=h.fit.aG o (List.mem_of_getElem? ho);obtain⟨_,_,c3⟩:=sR hok.aN hl;have yM:=hok.aN;unfold fT eP
 rcases hok.cases with⟨k1,k2⟩ |⟨k1,k2⟩ |⟨k1,k2,k3⟩
 ·have zj:bb o=o.aN:=by unfold bb;omega
  have hp:mT w o=YH (fZ w.aa o):=by
   unfold mT fZ
   simp_all
  grind
 ·have zj:bb o=o.aN+1:=by unfold bb;omega
  obtain⟨t,htg,yP⟩:=Dg h.fit h.ok ho hok.aN.1 k2;obtain⟨y,hy,_⟩:=fa h.fit.eO yP;have hp:mT w o=YH (fZ w.aa o):=by
   unfold mT fZ;rw[X1 k1,if_pos k1,htg,(mw htg).2];simp only[X5,VS,hy,WB,Xe];unfold cg
   simp_all
  grind
 simp_all
theorem Gz:lD w=YH (qd (eP w.aa) 0 w.ae):=by
 have Oj:=h.fit.ae;unfold lD;rw[sx h.fit,h.ok,VS];simp only[Bool.not_true,X6];rw[Hn Oj (p:=eP w.aa) (λi out o ho hlen=>?_) (λout=>by unfold lE;simp)]
 ·rfl
 ·have bU:=(List.getElem?_eq_some_iff.1 ho).1
  have hg:aB w.ae (i:Int)=YH o:=by rw[aS];omega
  have hi:aI ((i:Int)+1)=((i+1:Nat):Int):=bE bU X9;unfold lE;simp only[X1 (show(i:Int)<w.ae.length by omega),X5,hg,VS,hi,C7 h ho,List.length_cons,List.length_nil,Me (show out.length<=1048576 by omega)]
  grind
end
theorem Gj(n:aj):(ak n).Nodup:=by
 unfold ak List.Nodup;have hs:((ir n).foldl sA []).Pairwise λa b=>qM a b=true:=uh List.Pairwise.nil
 exact hs.imp λ{a b} (bU:qM a b=YJ) (e:a=b)=>Gr b Yg
def dS(y2:(List Int))(s0:Int×Int×Int×Int×Int×(List bK)×(List Int)×(List az)×(List aq)×(List av)×(List bq)×(List Int)):Option ((Int×Int×Int×Int×Int×(List bK)×(List Int)×(List az)×(List aq)×(List av)×(List bq)×(List Int))⊕(Int×Int×Int×Int×(List bK)×(List Int)×(List az)×(List aq)×(List av)×(List bq)×(List Int))):=
 cond (YL (s0.2.1<(y2.length:Int)))
 ((aB y2 s0.2.1).bind λy3=>
 (bh [1,2,3,4,5,6,7,8]).bind λ_=>
 (eZ (⟨(⟨s0.2.2.2.2.2.1,s0.2.2.2.2.2.2.1,s0.2.2.1⟩:aj),s0.2.2.2.2.2.2.2.1,s0.2.2.2.2.2.2.2.2.1,s0.2.2.2.2.2.2.2.2.2.1,s0.2.2.2.1,s0.2.2.2.2.2.2.2.2.2.2.1,s0.2.2.2.2.2.2.2.2.2.2.2,s0.2.2.2.2.1⟩:ax) y3).bind λy4=>
 (aB y4.ae (aI (y3-1))).bind λy5=>
 (fT y4 y5).bind λy6=>
 cond (!y6)
 (YH (.inl ((aI (s0.1+1)),(aI (s0.2.1+1)),y4.aa.change,y4.now,y4.bd,y4.aa.aA,y4.aa.off,y4.ae,y4.ar,y4.ah,y4.aH,y4.skip)))
 (YH (.inl (s0.1,(aI (s0.2.1+1)),y4.aa.change,y4.now,y4.bd,y4.aa.aA,y4.aa.off,y4.ae,y4.ar,y4.ah,y4.aH,y4.skip))))
 (YH (.inr (s0.1,s0.2.2.1,s0.2.2.2.1,s0.2.2.2.2.1,s0.2.2.2.2.2.1,s0.2.2.2.2.2.2.1,s0.2.2.2.2.2.2.2.1,s0.2.2.2.2.2.2.2.2.1,s0.2.2.2.2.2.2.2.2.2.1,s0.2.2.2.2.2.2.2.2.2.2.1,s0.2.2.2.2.2.2.2.2.2.2.2)))
instance (y2:(List Int)):bo (dS y2):=⟨λs0=>(.un::.un::.be 0 0 0::.un::.be 1 0 0::vi s0.1::(U 5 (.ms 9::vi (y2.length:Int)::vi s0.2.1::(U 19 [])))),λs0=>[YH ⟨.of 33,10,[[.v (.slice YI 0 0),.v (.slice YI 0 0),vi 0,.v (.slice YI 0 0),.v (.slice YI 0 0),.v (.slice YI 0 0),vi 0,.v (.slice YI 0 0),.v (.slice YI 0 0),vi 0]]⟩,YH ⟨.of 33,10,[[.ms 2,.ms 3,vi s0.2.2.1,.ms 4,.ms 5,.ms 6,vi s0.2.2.2.1,.ms 7,.ms 8,vi s0.2.2.2.2.1]]⟩,YH ⟨.of 144,6,s0.2.2.2.2.2.1.map bn⟩,YH ⟨.of 3,1,s0.2.2.2.2.2.2.1.map aE⟩,YH ⟨⟨94,YH 46⟩,11,s0.2.2.2.2.2.2.2.1.map ba⟩,YH ⟨.of 147,4,s0.2.2.2.2.2.2.2.2.1.map aC⟩,YH ⟨.of 46,2,s0.2.2.2.2.2.2.2.2.2.1.map aW⟩,YH ⟨.of 151,6,s0.2.2.2.2.2.2.2.2.2.2.1.map bt⟩,YH ⟨.of 3,1,s0.2.2.2.2.2.2.2.2.2.2.2.map aE⟩,YH ⟨.of 3,1,y2.map aE⟩]⟩
def iz(w:ax):Option (ax×Int):=
 (dA w).bind λy1=>
 (lD w).bind λy2=>
 (aD (dS y2) NN (0,0,y1.aa.change,y1.now,y1.bd,y1.aa.aA,y1.aa.off,y1.ae,y1.ar,y1.ah,y1.aH,y1.skip)).bind (λo0=>
 YH ((⟨(⟨o0.2.2.2.2.1,o0.2.2.2.2.2.1,o0.2.1⟩:aj),o0.2.2.2.2.2.2.1,o0.2.2.2.2.2.2.2.1,o0.2.2.2.2.2.2.2.2.1,o0.2.2.1,o0.2.2.2.2.2.2.2.2.2.1,o0.2.2.2.2.2.2.2.2.2.2,o0.2.2.2.1⟩:ax),o0.1))
instance (w:ax):CT prog (iz w):=⟨79,[.ag (fY w)],[],λr=>.tu [.ag [.ms 0,.ms 1,vi r.1.aa.change,.ms 2,.ms 3,.ms 4,vi r.1.now,.ms 5,.ms 6,vi r.1.bd],vi r.2],λr=>[YH ⟨.of 144,6,r.1.aa.aA.map bn⟩,YH ⟨.of 3,1,r.1.aa.off.map aE⟩,YH ⟨⟨94,YH 46⟩,11,r.1.ae.map ba⟩,YH ⟨.of 147,4,r.1.ar.map aC⟩,YH ⟨.of 46,2,r.1.ah.map aW⟩,YH ⟨.of 151,6,r.1.aH.map bt⟩,YH ⟨.of 3,1,r.1.skip.map aE⟩],ck (iz.eq_1 ..) func79 ntmps79 results79⟩
def j5(o:aL)(a:bV):Option (Int×aL):=
 cond (YL ((o.world.ae.length:Int)<a.order))
 (YH (4,o))
 ((aB o.world.ae (aI (a.order-1))).bind λy1=>
 (nC o.lines a.order a.bz o.world.now).bind λy2=>
 cond (YL (a.kind=6))
 (cond (!decide (y1.state=3))
 (YH (4,o))
 ((ks o.lines a.order y1.dW y1.bB o.aM o.world.now).bind λy3=>
 cond (!decide (y3.2=0))
 (YH (4,o))
 (YH (0,(⟨o.world,o.aY,o.aX,o.aM,o.aK,y3.1,o.aF⟩:aL)))))
 (cond (!decide (y2.2=0))
 (YH (4,o))
 (YH (0,(⟨o.world,o.aY,o.aX,o.aM,o.aK,y2.1,o.aF⟩:aL)))))
instance (o:aL)(a:bV):CT prog (j5 o a):=⟨28,[.be 0 0 0,.ag (gF a)],[YH ⟨.of 40,16,[[.ms 1,.ms 2,vi o.world.aa.change,.ms 3,.ms 4,.ms 5,vi o.world.now,.ms 6,.ms 7,vi o.world.bd,.ms 8,.ms 9,.ms 10,.ms 11,.ms 12,.ms 13]]⟩,YH ⟨.of 144,6,o.world.aa.aA.map bn⟩,YH ⟨.of 3,1,o.world.aa.off.map aE⟩,YH ⟨⟨94,YH 46⟩,11,o.world.ae.map ba⟩,YH ⟨.of 147,4,o.world.ar.map aC⟩,YH ⟨.of 46,2,o.world.ah.map aW⟩,YH ⟨.of 151,6,o.world.aH.map bt⟩,YH ⟨.of 3,1,o.world.skip.map aE⟩,YH ⟨.of 78,2,o.aY.map cG⟩,YH ⟨.of 81,4,o.aX.map cI⟩,YH ⟨.of 3,1,o.aM.map aE⟩,YH ⟨⟨44,YH 3⟩,7,o.aK.map bJ⟩,YH ⟨.of 85,4,o.lines.map bC⟩,YH ⟨⟨48,YH 3⟩,13,o.aF.map gF⟩],λr=>vi r.1,λr=>[YH ⟨.of 40,16,[[.ms 1,.ms 2,vi r.2.world.aa.change,.ms 3,.ms 4,.ms 5,vi r.2.world.now,.ms 6,.ms 7,vi r.2.world.bd,.ms 8,.ms 9,.ms 10,.ms 11,.ms 14,.ms 13]]⟩,YH ⟨.of 144,6,r.2.world.aa.aA.map bn⟩,YH ⟨.of 3,1,r.2.world.aa.off.map aE⟩,YH ⟨⟨94,YH 46⟩,11,r.2.world.ae.map ba⟩,YH ⟨.of 147,4,r.2.world.ar.map aC⟩,YH ⟨.of 46,2,r.2.world.ah.map aW⟩,YH ⟨.of 151,6,r.2.world.aH.map bt⟩,YH ⟨.of 3,1,r.2.world.skip.map aE⟩,YH ⟨.of 78,2,r.2.aY.map cG⟩,YH ⟨.of 81,4,r.2.aX.map cI⟩,YH ⟨.of 3,1,r.2.aM.map aE⟩,YH ⟨⟨44,YH 3⟩,7,r.2.aK.map bJ⟩,YI,YH ⟨⟨48,YH 3⟩,13,r.2.aF.map gF⟩,YH ⟨.of 85,4,r.2.lines.map bC⟩],ck (j5.eq_1 ..) func28 ntmps28 results28⟩
def lf(o:aL)(a:bV):Option (Int×aL):=
 cond (YL (a.kind=3))
 (cond (YL (a.bM<=o.world.now))
 (YH (6,o))
 ((kR 8 []).bind λ_=>
 (jB o.world a.bM).bind λy1=>
 YH (0,(⟨y1,o.aY,o.aX,o.aM,o.aK,o.lines,o.aF⟩:aL))))
 (cond (YL (a.kind=4))
 ((kR 8 []).bind λ_=>
 (kx o.world a.bj).bind λy2=>
 cond (!y2.2)
 (YH (6,o))
 (YH (0,(⟨y2.1,o.aY,o.aX,o.aM,o.aK,o.lines,o.aF⟩:aL))))
 (cond (YL (a.kind=5))
 ((iz o.world).bind λy3=>
 cond (YL (y3.2=0))
 (YH (6,o))
 (YH (0,(⟨y3.1,o.aY,o.aX,o.aM,o.aK,o.lines,o.aF⟩:aL))))
 (YH (0,o))))
instance (o:aL)(a:bV):CT prog (lf o a):=⟨29,[.be 0 0 0,.ag (gF a)],[YH ⟨.of 40,16,[[.ms 1,.ms 2,vi o.world.aa.change,.ms 3,.ms 4,.ms 5,vi o.world.now,.ms 6,.ms 7,vi o.world.bd,.ms 8,.ms 9,.ms 10,.ms 11,.ms 12,.ms 13]]⟩,YH ⟨.of 144,6,o.world.aa.aA.map bn⟩,YH ⟨.of 3,1,o.world.aa.off.map aE⟩,YH ⟨⟨94,YH 46⟩,11,o.world.ae.map ba⟩,YH ⟨.of 147,4,o.world.ar.map aC⟩,YH ⟨.of 46,2,o.world.ah.map aW⟩,YH ⟨.of 151,6,o.world.aH.map bt⟩,YH ⟨.of 3,1,o.world.skip.map aE⟩,YH ⟨.of 78,2,o.aY.map cG⟩,YH ⟨.of 81,4,o.aX.map cI⟩,YH ⟨.of 3,1,o.aM.map aE⟩,YH ⟨⟨44,YH 3⟩,7,o.aK.map bJ⟩,YH ⟨.of 85,4,o.lines.map bC⟩,YH ⟨⟨48,YH 3⟩,13,o.aF.map gF⟩],λr=>vi r.1,λr=>[YH ⟨.of 40,16,[[.ms 14,.ms 15,vi r.2.world.aa.change,.ms 16,.ms 17,.ms 18,vi r.2.world.now,.ms 19,.ms 20,vi r.2.world.bd,.ms 8,.ms 9,.ms 10,.ms 11,.ms 12,.ms 13]]⟩,YI,YI,YI,YI,YI,YI,YI,YH ⟨.of 78,2,r.2.aY.map cG⟩,YH ⟨.of 81,4,r.2.aX.map cI⟩,YH ⟨.of 3,1,r.2.aM.map aE⟩,YH ⟨⟨44,YH 3⟩,7,r.2.aK.map bJ⟩,YH ⟨.of 85,4,r.2.lines.map bC⟩,YH ⟨⟨48,YH 3⟩,13,r.2.aF.map gF⟩,YH ⟨.of 144,6,r.2.world.aa.aA.map bn⟩,YH ⟨.of 3,1,r.2.world.aa.off.map aE⟩,YH ⟨⟨94,YH 46⟩,11,r.2.world.ae.map ba⟩,YH ⟨.of 147,4,r.2.world.ar.map aC⟩,YH ⟨.of 46,2,r.2.world.ah.map aW⟩,YH ⟨.of 151,6,r.2.world.aH.map bt⟩,YH ⟨.of 3,1,r.2.world.skip.map aE⟩],ck (lf.eq_1 ..) func29 ntmps29 results29⟩
def gx(o:aL)(y1:ax)(y2:(List aU))(s0:Int×(List aT)):Option ((Int×(List aT))⊕(List aT)):=
 cond (YL (s0.1<(o.aK.length:Int)))
 ((aB o.aK s0.1).bind λy3=>
 (fv y3).bind λy4=>
 (bW (bm ((s0.2:List aT).length+([y4]:List aT).length) 88)).bind λ_=>
 YH (.inl ((aI (s0.1+1)),((s0.2:List aT)++[y4]))))
 (YH (.inr s0.2))
instance (o:aL)(y1:ax)(y2:(List aU)):bo (gx o y1 y2):=⟨λs0=>(.un::.be 0 0 0::.be 1 0 0::.be 2 0 0::(U 24 (.sl (o.aK.map bJ)::vi (o.aK.length:Int)::vi s0.1::(U 27 [])))),λs0=>[YH ⟨.of 40,16,[[.sl (o.world.aa.aA.map bn),.sl (o.world.aa.off.map aE),vi o.world.aa.change,.sl (o.world.ae.map ba),.sl (o.world.ar.map aC),.sl (o.world.ah.map aW),vi o.world.now,.sl (o.world.aH.map bt),.sl (o.world.skip.map aE),vi o.world.bd,.sl (o.aY.map cG),.sl (o.aX.map cI),.sl (o.aM.map aE),.sl (o.aK.map bJ),.sl (o.lines.map bC),.sl (o.aF.map gF)]]⟩,YH ⟨.of 40,16,[[.v (.slice YI 0 0),.v (.slice YI 0 0),vi 0,.v (.slice YI 0 0),.v (.slice YI 0 0),.v (.slice YI 0 0),vi 0,.v (.slice YI 0 0),.v (.slice YI 0 0),vi 0,.v (.slice YI 0 0),.v (.slice YI 0 0),.v (.slice YI 0 0),.v (.slice YI 0 0),.v (.slice YI 0 0),.v (.slice YI 0 0)]]⟩,YH ⟨.of 40,16,[[.ms 3,.ms 4,vi y1.aa.change,.ms 5,.ms 6,.ms 7,vi y1.now,.ms 8,.ms 9,vi y1.bd,.ms 10,.ms 11,.ms 12,.ms 13,.ms 14,.v (.slice YI 0 0)]]⟩,YH ⟨.of 144,6,y1.aa.aA.map bn⟩,YH ⟨.of 3,1,y1.aa.off.map aE⟩,YH ⟨⟨94,YH 46⟩,11,y1.ae.map ba⟩,YH ⟨.of 147,4,y1.ar.map aC⟩,YH ⟨.of 46,2,y1.ah.map aW⟩,YH ⟨.of 151,6,y1.aH.map bt⟩,YH ⟨.of 3,1,y1.skip.map aE⟩,YH ⟨.of 78,2,((([]:List bI):List bI)++o.aY).map cG⟩,YH ⟨.of 81,4,((([]:List bL):List bL)++o.aX).map cI⟩,YH ⟨.of 3,1,((([]:List Int):List Int)++o.aM).map aE⟩,YH ⟨⟨44,YH 3⟩,7,s0.2.map bJ⟩,YH ⟨.of 85,4,y2.map bC⟩]⟩
def gy(o:aL)(y1:ax)(y2:(List aU))(o0:(List aT))(s1:Int×(List bV)):Option ((Int×(List bV))⊕(List bV)):=
 cond (YL (s1.1<(o.aF.length:Int)))
 ((aB o.aF s1.1).bind λy5=>
 (ey y5).bind λy6=>
 (bW (bm ((s1.2:List bV).length+([y6]:List bV).length) 136)).bind λ_=>
 YH (.inl ((aI (s1.1+1)),((s1.2:List bV)++[y6]))))
 (YH (.inr s1.2))
instance (o:aL)(y1:ax)(y2:(List aU))(o0:(List aT)):bo (gy o y1 y2 o0):=⟨λs1=>(.un::.un::.be 0 0 0::.be 1 0 0::(U 39 (.sl (o.aF.map gF)::vi (o.aF.length:Int)::vi s1.1::(U 12 [])))),λs1=>[YH ⟨.of 40,16,[[.v (.slice YI 0 0),.v (.slice YI 0 0),vi 0,.v (.slice YI 0 0),.v (.slice YI 0 0),.v (.slice YI 0 0),vi 0,.v (.slice YI 0 0),.v (.slice YI 0 0),vi 0,.v (.slice YI 0 0),.v (.slice YI 0 0),.v (.slice YI 0 0),.v (.slice YI 0 0),.v (.slice YI 0 0),.v (.slice YI 0 0)]]⟩,YH ⟨.of 40,16,[[.ms 2,.ms 3,vi y1.aa.change,.ms 4,.ms 5,.ms 6,vi y1.now,.ms 7,.ms 8,vi y1.bd,.ms 9,.ms 10,.ms 11,.ms 12,.ms 13,.ms 14]]⟩,YH ⟨.of 144,6,y1.aa.aA.map bn⟩,YH ⟨.of 3,1,y1.aa.off.map aE⟩,YH ⟨⟨94,YH 46⟩,11,y1.ae.map ba⟩,YH ⟨.of 147,4,y1.ar.map aC⟩,YH ⟨.of 46,2,y1.ah.map aW⟩,YH ⟨.of 151,6,y1.aH.map bt⟩,YH ⟨.of 3,1,y1.skip.map aE⟩,YH ⟨.of 78,2,((([]:List bI):List bI)++o.aY).map cG⟩,YH ⟨.of 81,4,((([]:List bL):List bL)++o.aX).map cI⟩,YH ⟨.of 3,1,((([]:List Int):List Int)++o.aM).map aE⟩,YH ⟨⟨44,YH 3⟩,7,o0.map bJ⟩,YH ⟨.of 85,4,y2.map bC⟩,YH ⟨⟨48,YH 3⟩,13,s1.2.map gF⟩]⟩
def dN(o:aL):Option aL:=
 (kR 8 []).bind λ_=>
 (dA o.world).bind λy1=>
 (bW (bm ((([]:List bI):List bI).length+(o.aY:List bI).length) 32)).bind λ_=>
 (bW (bm ((([]:List bL):List bL).length+(o.aX:List bL).length) 32)).bind λ_=>
 (bW (bm ((([]:List Int):List Int).length+(o.aM:List Int).length) 8)).bind λ_=>
 (bF o.lines).bind λy2=>
 (aD (gx o y1 y2) NN (0,[])).bind (λo0=>
 (aD (gy o y1 y2 o0) NN (0,[])).bind (λo1=>
 YH (⟨y1,((([]:List bI):List bI)++o.aY),((([]:List bL):List bL)++o.aX),((([]:List Int):List Int)++o.aM),o0,y2,o1⟩:aL)))
instance (o:aL):CT prog (dN o):=⟨25,[.ag (lx o)],[],λr=>.ag [.ms 0,.ms 1,vi r.world.aa.change,.ms 2,.ms 3,.ms 4,vi r.world.now,.ms 5,.ms 6,vi r.world.bd,.ms 7,.ms 8,.ms 9,.ms 10,.ms 11,.ms 12],λr=>[YH ⟨.of 144,6,r.world.aa.aA.map bn⟩,YH ⟨.of 3,1,r.world.aa.off.map aE⟩,YH ⟨⟨94,YH 46⟩,11,r.world.ae.map ba⟩,YH ⟨.of 147,4,r.world.ar.map aC⟩,YH ⟨.of 46,2,r.world.ah.map aW⟩,YH ⟨.of 151,6,r.world.aH.map bt⟩,YH ⟨.of 3,1,r.world.skip.map aE⟩,YH ⟨.of 78,2,r.aY.map cG⟩,YH ⟨.of 81,4,r.aX.map cI⟩,YH ⟨.of 3,1,r.aM.map aE⟩,YH ⟨⟨44,YH 3⟩,7,r.aK.map bJ⟩,YH ⟨.of 85,4,r.lines.map bC⟩,YH ⟨⟨48,YH 3⟩,13,r.aF.map gF⟩],ck (dN.eq_1 ..) func25 ntmps25 results25⟩
def kT(a:List bL)(b:List bL)(s0:Int):Option (Int⊕(Unit⊕Bool)):=
 cond (YL (s0<(a.length:Int)))
 ((aB a s0).bind λy1=>
 (aB b s0).bind λy2=>
 cond (!decide (y1=y2))
 (YH (.inr (.inr YK)))
 (YH (.inl (aI (s0+1)))))
 (YH (.inr (.inl ())))
instance (a:List bL)(b:List bL):bo (kT a b):=⟨λs0=>(.sl (a.map cI)::.sl (b.map cI)::(U 10 (vi (a.length:Int)::vi s0::(U 12 [])))),λs0=>[]⟩
def gN(a:List bL)(b:List bL):Option Bool:=
 cond (!decide ((a.length:Int)=(b.length:Int)))
 (YH YK)
 ((aD (kT a b) NN 0).bind (bk (λo0=>
 YH YJ) (λr=>YH r)))
instance (a:List bL)(b:List bL):CT prog (gN a b):=⟨33,[.sl (a.map cI),.sl (b.map cI)],[],λr=>vb r,λr=>[],λH=>by replace H:=H0 H;unfold gN at H;exact ja func33 rfl ntmps33 results33 λQ hQ Ia=>JU⟩
end Go.Proofs.YtdilaemengjipaaGreatDoor
