/- A part of the proof of the statement in the last file of this claim: texts on the language of the program and on its functions. No condition. -/
import Derived.Test.YtbalgkakkoocjaaGreatCFnTwice18
import Derived.Test.YtbalgkakkoocjaaGreatCFnTwice17
import Derived.Test.YtbalgkakkoocjaaGreatCFnTwice19
import Derived.Test.YtbalgkakkoocjaaGreatCFnTwice16
import Derived.Test.YtbalgkakkoocjaaGreatCFnTwice6
import Derived.Test.YtbalgkakkoocjaaGreatCFnTwice5
import Derived.Test.YtbalgkakkoocjaaGreatCFnTwice11
set_option linter.unusedVariables false
set_option linter.unusedSimpArgs false
set_option linter.unusedSectionVars false
namespace Go.Proofs.YtbalgkakkoocjaaGreat
open List renaming mem_flatMap→W9,mem_cons→V4,mem_singleton→Wc,getElem_of_mem→Wf,getElem?_eq_getElem→VT,getElem_mem→Wm,length_append→V2,getElem?_eq_some_iff→VU,length_set→WL,mem_or_eq_of_mem_set→XK,mem_of_getElem?→VW,length_cons→VX,length_nil→VY,mem_append→WC,length_take→V8,length_drop→WK,not_mem_nil→V7
open Option.some renaming inj→VV
open Option renaming getD_some→Ws,bind_some→VS
open _root_.Int renaming toNat→Wo
open Bool renaming and_eq_true→VZ,not_eq_true'→Wa,not_true→V0,not_false→Wz
open _root_.ByteArray renaming size_append→W7
set_option maxRecDepth 10000
open Go.RowKit
variable {K k:Nat}{ba l:List bN}{c:aP}{now:Int}{o x:az}{p:List Int}{w:av}
def uU(K:Nat)(w:av):Prop:=∃u s:Nat,w.ah.length+u+s≤K∧∀o∈w.ah,o.aE.length≤6*(1+min u s)∧aX o≤((6*min u (s+1):Nat):Int)
structure DS(n:aj)(K:Nat)(w:av):Prop where
 ok:pL w
 ey:w.aa=n
 TL:uU K w
theorem BB{n:aj}(h:qI n):(ak n).length≤7:=by
 have:=qT (xs:=ak n) (ys:=rP) (GY n) fun p hp=>by
  have Rv:p∈(ix n).foldl rZ []:=hp
  rcases sm.1 Rv with hp|hp
  ·unfold ix at hp
   obtain⟨l,hl,xC⟩:=W9.1 hp
   have:=h.bx l hl
   rcases V4.1 xC with rfl|xC
   ·exact this.ar
   ·rw[Wc.1 xC];exact this.aV
  ·cases hp
 exact this
theorem uU.mono(h:uU K w):uU (K+1) w:=by
 obtain⟨u,s,h1,h2⟩:=h
 exact⟨u,s,by omega,h2⟩
theorem DS.mono{n:aj}{K:Nat}{w:av}(h:DS n K w):DS n (K+1) w:=⟨h.ok,h.ey,h.TL.mono⟩
theorem zy{n:aj}(h7:(ak n).length≤7){w x:av}(hw:pL w)(hn:w.aa=n)(h:uU K w)(hl:x.ah.length=w.ah.length)(hr:∀(i:Nat) (o:az),w.ah[i]?=some o→∃o',x.ah[i]?=some o'∧qW w.aa o o'):uU (K+1) x:=by
 obtain⟨hP,_⟩:=pX hw
 obtain⟨u,s,h1,h2⟩:=h
 refine⟨u,s+1,by omega,fun o' zn=>?_⟩
 obtain⟨i,hi,rfl⟩:=Wf zn
 have hiw:i<w.ah.length:=by omega
 have ho:=VT hiw
 obtain⟨o2,e,hR⟩:=hr i _ ho
 rw[VT hi]at e
 have e:=VV e
 obtain⟨b1,b2⟩:=h2 _ (Wm hiw)
 have hc:=kB hP ho
 rw[e]
 rcases hR with rfl|⟨more,hm,rfl⟩
 ·exact⟨by omega,by omega⟩
 ·rw[hn]at hm
  refine⟨?_,?_⟩
  ·show(bQ w.ah[i]++more).length≤_
   rw[V2,hc.2.2.1];omega
  ·show aX w.ah[i]≤_
   omega
theorem TM(hw:pL w)(h:uU K w){t:Int}(hu:w.now≤t)(hm:t≤100000):uU (K+1) (D0 w t):=by
 obtain⟨a,b,_⟩:=KF hw hu hm
 obtain⟨hP,_⟩:=pX a
 obtain⟨u,s,h1,h2⟩:=h
 refine⟨u+1,s,by have:=b.len;omega,fun o' zn=>?_⟩
 obtain⟨i,hi,rfl⟩:=Wf zn
 have lV:=VT hi
 have hiw:i<w.ah.length:=by rw[←b.len];exact hi
 have hs:=b.ord i _ _ (VT hiw) lV
 obtain⟨b1,b2⟩:=h2 _ (Wm hiw)
 have hc:=kB hP lV
 rw[hs.aE]at *
 exact⟨by omega,by omega⟩
/-! Zcl a change of a world can not be. -/
theorem Oo{n:aj}(h1:x.aE=o.aE)(h2:x.aJ=o.aJ)(h3:x.ar=o.ar):oW n x=oW n o:=by unfold oW;rw[h1,h2,h3]
theorem OQ{n:aj}(ho:mW n o now)(hx:mW n x now)(h1:x.aE=o.aE)(h2:x.aJ=o.aJ)(h3:x.ar=o.ar)(h4:x.aV=o.aV):x.state=o.state:=by
 have hh:=Oo (n:=n) h1 h2 h3
 rcases ho.cases with⟨a1,_,a3,_,a5⟩ |⟨a1,_,_,t,b1,b2,b3⟩ |⟨a1,_,a3,a4,_,_⟩<;>rcases hx.cases with⟨c1,_,c3,_,c5⟩ |⟨c1,_,_,t',d1,d2,d3⟩ |⟨c1,_,c3,c4,_,_⟩
 ·rw[a1,c1]
 ·rw[h1,h2]at d1;have:=a5 t' d1;omega
 ·rw[hh,h4]at c3;exact absurd c3 a3
 ·have:=c5 t (by rw[h1,h2];exact b1);omega
 ·rw[a1,c1]
 ·have:=(VU.1 b1).1;rw[h1,h2]at c4;omega
 ·rw[hh,h4]at c3;exact absurd a3 c3
 ·rw[h1,h2]at d1;have:=(VU.1 d1).1;omega
 ·rw[a1,c1]
theorem R1{n:aj}(hw:tC n o)(ho:mW n o now)(hx:mW n x now)(h1:x.aE=o.aE)(h2:x.aJ=aL (o.aJ+1))(h3:x.aJ≤x.aE.length):False:=by
 have hg:=hw.aJ
 have hl:=FN hw
 rw[h2,h1,aQ (by omega)]at h3
 have bF:o.aJ.toNat<o.aE.length:=by omega
 have Tf:=VT bF
 have hp:=hx.El _ (by rw[h2,aQ (by omega)];omega) (by rw[h2,aQ (by omega),h1,show(o.aJ+1-1).toNat=o.aJ.toNat by omega];exact Tf)
 have ht:=hw.bf _ (Wm bF)
 rcases ho.cases with⟨_,_,_,_,a5⟩ |⟨_,_,_,t,b1,_,b3⟩ |⟨_,_,_,a4,_,_⟩
 ·have:=a5 _ Tf;omega
 ·rw[Tf]at b1;rw[VV b1]at hp;omega
 ·omega
theorem OP{n:aj}(hw:tC n o)(ho:mW n o now)(hx:mW n x now)(h1:x.aE=o.aE)(h2:x.aJ=o.aJ)(h3:x.state=o.state)(h4:x.bD=aL (o.bD+1)):False:=by
 have hg:=hw.aJ
 rcases ho.cases with⟨a1,_,_,a4,_⟩ |⟨a1,_,a4,_⟩ |⟨a1,_,_,a4,a5,a6⟩
 ·rcases hx.cases with⟨_,_,_,c4,_⟩ |⟨c1,_⟩ |⟨c1,_⟩
  ·rw[h4,a4,aQ (by omega)]at c4;omega
  ·omega
  ·omega
 ·rcases hx.cases with⟨c1,_⟩ |⟨_,_,c4,_⟩ |⟨c1,_⟩
  ·omega
  ·rw[h4,a4,aQ (by omega)]at c4;omega
  ·omega
 ·rcases hx.cases with⟨c1,_⟩ |⟨c1,_⟩ |⟨_,_,_,_,c5,c6⟩
  ·omega
  ·omega
  ·have bF:(o.aJ-1).toNat<o.aE.length:=by omega
   have Tf:=VT bF
   have e1:=a6 _ Tf
   have e2:=c6 _ (by rw[h1,h2];exact Tf)
   have ht:=hw.bf _ (Wm bF)
   rw[h4,aQ (by omega)]at e2
   omega
theorem VG(hc:uU K w)(ho:w.ah[k]?=some o)(h1:x.aE=o.aE)(h3:x.state=o.state∧x.aJ=o.aJ∧x.bD=o.bD):uU K (⟨w.aa,w.ah.set k x,w.aq,w.ae,w.now,w.aH,w.skip,w.bd⟩:av):=by
 obtain⟨u,s,c1,c2⟩:=hc
 refine⟨u,s,by simp only[WL];exact c1,fun y hy=>?_⟩
 rcases XK hy with hy|rfl
 ·exact c2 y hy
 ·have:=c2 o (VW ho)
  have e:aX y=aX o:=by unfold aX;rw[h3.1,h3.2.1]
  rw[h1,e];exact this
section
variable {n:aj} (hn:qI n)
include hn
theorem An(hw:DS n K w)(ar aV:ByteArray)(ax ab:Int):aI (cV w ar aV ax ab) fun r=>DS n (K+1) r.1:=by
 obtain⟨r,_,e,hr⟩:=Ao hw.ok ar aV ax ab
 refine aI.of e ?_
 rcases hr with⟨rfl,_⟩ |⟨aE,ys,dX,hT⟩
 ·exact hw.mono
 ·rw[hT.res]
  have nU:=hw.ey
  have h7:=BB hn
  have hR:=nI hw.ok.fit.ey hw.ok.fit.aq hw.ok.fit.ae hT.fy
  have Uo:=NJ hw.ok.fit.ey hR
  rw[nU]at Uo
  refine⟨hT.ok,hw.ey,?_⟩
  obtain⟨u,s,h1,h2⟩:=hw.TL
  refine⟨u,s,?_,fun o ho=>?_⟩
  ·show(w.ah++[mI w ar aV ax ab dX aE]).length+u+s≤K+1
   rw[V2];simp only[VX,VY];omega
  ·have zn:o∈w.ah++[mI w ar aV ax ab dX aE]:=ho
   rcases WC.1 zn with zn|zn
   ·exact h2 o zn
   ·obtain rfl:=Wc.1 zn
    refine⟨?_,?_⟩
    ·show aE.length≤_;omega
    ·show(if(1:Int)=2 then(0:Int)+1 else 0)≤_
     rw[if_neg (by omega)];omega
theorem Fw(hw:DS n K w)(t:au):aI (cP w t) fun r=>DS n (K+1) r.1:=by
 obtain⟨r,_,e,hr⟩:=Ah hw.ok t
 refine aI.of e ?_
 rcases hr with rfl|⟨x,rfl,hS⟩
 ·exact hw.mono
 ·have hr:∀(i:Nat) (o:az),w.ah[i]?=some o→∃o',x.ah[i]?=some o'∧qW w.aa o o':=fun i o ho=>by
   obtain⟨o',a,_,c⟩:=hS.ord i o ho
   exact⟨o',a,c⟩
  exact⟨hS.ok,hS.same.aa.trans hw.ey,zy (BB hn) hw.ok hw.ey hw.TL hS.same.len hr⟩
theorem Dm(hw:DS n K w):aI (cF w) fun r=>DS n (K+1) r.1:=by
 obtain⟨x,m,_,e,hR⟩:=Dn hw.ok
 refine aI.of e ?_
 have hr:∀(i:Nat) (o:az),w.ah[i]?=some o→∃o',x.ah[i]?=some o'∧qW w.aa o o':=fun i o ho=>by
  obtain⟨o',a,c,_⟩:=hR.ord i o ho
  exact⟨o',a,c⟩
 exact⟨hR.ok,hR.same.aa.trans hw.ey,zy (BB hn) hw.ok hw.ey hw.TL hR.same.len hr⟩
theorem H3(hw:DS n K w)(u:Int):aI (db w u) (DS n (K+1)):=by
 refine aI.of (zp hw.ok.fit u) ?_
 split
 ·rename_i h
  obtain⟨a,b,_⟩:=KF hw.ok h.2.1 h.2.2
  exact⟨a,b.aa.trans hw.ey,TM hw.ok hw.TL h.2.1 h.2.2⟩
 ·exact hw.mono
theorem Qh(h:bX c)(hw:DS n K w):aI (mv c w) fun r=>DS n (K+1) r.1∧bX r.2:=by
 have nU:=hw.ey
 unfold mv
 refine aI.cT (aI.bind (bj h 6) fun y1 h1=>?_)
 rw[nU]
 have hc:=h1.2
 refine aI.cond (fun _=>aI.cond (fun _=>?_) fun _=>aI.cond (fun _=>?_) fun _=>aI.cond (fun _=>?_) fun _=>?_) fun _=>aI.cond (fun _=>aI.cond (fun _=>?_) fun _=>aI.cond (fun _=>?_) fun _=>aI.cond (fun _=>?_) fun _=>?_) fun _=>aI.cond (fun _=>?_) fun _=>aI.cond (fun _=>?_) fun _=>aI.cond (fun _=>?_) fun _=>?_
 any_goals exact aI.EL (aI.cT (aI.bind (R8 hn hc) fun y2 h2=>aI.cT (aI.bind (R8 hn h2) fun y3 h3=>aI.cT (aI.bind (bj h3 3) fun y4 h4=>aI.cT (aI.bind (bj h4.2 4000) fun y5 h5=>aI.bind (An hn hw _ _ _ _) fun y6 h6=>aI.ret ⟨h6,h5.2⟩)))))
 any_goals exact aI.EL (aI.cT (aI.bind (FQ hn hc nU) fun y7 h7=>aI.bind (Fw hn hw _) fun y8 h8=>aI.ret ⟨h8,h7⟩))
 any_goals exact aI.bind (Dm hn hw) fun y9 h9=>aI.ret ⟨h9,hc⟩
 all_goals exact aI.EL (aI.cT (aI.bind (bj hc 40) fun dM xZ=>aI.bind (H3 hn hw _) fun jx Cz=>aI.ret ⟨Cz,xZ.2⟩))
theorem ZdA{skip:List Int}(hs:skip.length≤50)(K:Nat):DS n K (⟨n,[],[],[],0,[],skip,0⟩:av):=by
 have hf:pY (⟨n,[],[],[],0,[],skip,0⟩:av):=⟨hn.fit,by simp,by simp,by simp,by simp,by simp only;omega,fun o ho=>by cases ho⟩
 have hv:eu (⟨n,[],[],[],0,[],skip,0⟩:av)=true:=by
  unfold eu bJ uM
  simp only[hn.ok,Ws]
  simp[allI]
  omega
 exact⟨⟨hf,hv⟩,rfl,0,0,by simp,fun o ho=>by cases ho⟩
end
theorem N7(h:bX c)(iE:Int)(hm:iE≤9):aI (lE c iE) fun r=>∃n,qI n∧DS n 8 r.1∧bX r.2:=by
 unfold lE
 refine aI.cT (aI.bind (M1 h) fun y1 h1=>?_)
 obtain⟨h1,u4⟩:=h1
 refine aI.bind (P:=fun o=>bX ⟨o.1,o.2.1,o.2.2.1⟩∧qI ⟨o.2.2.2,y1.1.off,y1.1.change⟩) ?_ fun o0 DW=>?_
 ·have hlen:=h1.len
  refine aI.loop (fun(k:Nat) (s:Int×(List YB8)×Int×Int×(List bM))=>∃i:Nat,s.1=(i:Int)∧i+k=s.2.2.2.2.length∧bX ⟨s.2.1,s.2.2.1,s.2.2.2.1⟩∧qI ⟨s.2.2.2.2,y1.1.off,y1.1.change⟩) (fun k s hs=>?_) NN y1.1.ay.length _ ⟨0,rfl,by simp,u4,h1⟩ (by unfold NN;omega)
  obtain⟨i,hi,hk,hc,hd⟩:=hs
  have Bt:=hd.len
  simp only at Bt
  unfold ot
  rw[hi]
  refine aI.cond (fun bF=>?_) fun _=>aI.ret ⟨hc,hd⟩
  have bF:=of_decide_eq_true bF
  have wB:aL ((i:Int)+1)=((i+1:Nat):Int):=by rw[aQ (by omega)];omega
  rw[wB]
  refine aI.cT (aI.bind (iF hc 2) fun y2 h2=>aI.cond (fun _=>aI.EL (aI.cT (aI.bind (bj h2 9) fun y3 h3=>?_))) fun _=>aI.ret ⟨k-1,by omega,i+1,rfl,by simp only;omega,h2,hd⟩)
  refine aI.get (by omega) bF fun x hx _=>aI.ret ⟨k-1,by omega,i+1,rfl,by simp only[WL];omega,h3.2,?_⟩
  have b3:=h3.1.2.1 (by omega)
  have b0:=h3.1.1
  have hr:aL (2000+aL (1000*y3.1))=2000+1000*y3.1:=by rw[aQ (n:=1000*y3.1) (by omega),aQ (by omega)]
  refine⟨by simp only[WL];exact Bt,fun l hl=>?_,hd.off,hd.change⟩
  rcases XK hl with hl|rfl
  ·exact hd.bx l hl
  ·obtain⟨a1,a2,a3,a4,a5,a6,a7⟩:=hd.bx x hx
   exact⟨a1,a2,a3,a4,a5,a6,by simp only[hr];omega⟩
 ·refine aI.cT (aI.bind (bj DW.1 6) fun y5 h5=>?_)
  have b5:=h5.1.2.1 (by omega)
  have b5':=h5.1.1
  refine aI.bind (P:=fun o=>bX ⟨o.1,o.2.1,o.2.2.1⟩∧o.2.2.2.length≤50) ?_ fun o1 x6=>?_
  ·refine aI.loop (fun(k:Nat) (s:Int×(List YB8)×Int×Int×(List Int))=>s.1=(k:Int)∧s.2.2.2.2.length+k≤6∧bX ⟨s.2.1,s.2.2.1,s.2.2.2.1⟩) (fun k s hs=>?_) NN y5.1.toNat _ ⟨by simp only;omega,by simp only[VY];omega,h5.2⟩ (by unfold NN;omega)
   obtain⟨hk,hl,hc⟩:=hs
   unfold ou
   refine aI.cond (fun hd=>?_) fun _=>aI.ret ⟨hc,by simp only;omega⟩
   have hd:=of_decide_eq_true hd
   have wB:aL (s.1-1)=((k-1:Nat):Int):=by rw[aQ (by omega)];omega
   exact aI.cT (aI.bind (bj hc 25) fun y6 h6=>aI.cL (jt (by simp only[VX,VY];omega) (by omega)) (aI.ret ⟨k-1,by omega,wB,by simp only[V2,VX,VY];omega,h6.2⟩))
  ·refine aI.A8 ?_
   rw[Fg DW.2 x6.2,VS]
   refine aI.cT (aI.bind (bj x6.1 iE) fun y8 h8=>?_)
   have b8:=h8.1
   have b8':y8.1≤8:=by
    rcases Int.lt_or_le 0 iE with hp|hp
    ·have:=b8.2.1 hp;omega
    ·have:=b8.2.2 hp;omega
   refine aI.bind (P:=fun o=>bX ⟨o.1,o.2.1,o.2.2.1⟩∧DS ⟨o0.2.2.2,y1.1.off,y1.1.change⟩ 8 (⟨(⟨o.2.2.2.2.2.2.1,o.2.2.2.2.2.2.2.1,o.2.2.2.1⟩:aj),o.2.2.2.2.2.2.2.2.1,o.2.2.2.2.2.2.2.2.2.1,o.2.2.2.2.2.2.2.2.2.2.1,o.2.2.2.2.1,o.2.2.2.2.2.2.2.2.2.2.2.1,o.2.2.2.2.2.2.2.2.2.2.2.2,o.2.2.2.2.2.1⟩:av)) ?_ fun o2 u5=>aI.ret ⟨_,DW.2,u5.2,u5.1⟩
   refine aI.loop (fun(k:Nat) (s2:Int×(List YB8)×Int×Int×Int×Int×Int×(List bM)×(List Int)×(List az)×(List ao)×(List au)×(List br)×(List Int))=>s2.1=(k:Int)∧k≤8∧bX ⟨s2.2.1,s2.2.2.1,s2.2.2.2.1⟩∧DS ⟨o0.2.2.2,y1.1.off,y1.1.change⟩ (8-k) (⟨(⟨s2.2.2.2.2.2.2.2.1,s2.2.2.2.2.2.2.2.2.1,s2.2.2.2.2.1⟩:aj),s2.2.2.2.2.2.2.2.2.2.1,s2.2.2.2.2.2.2.2.2.2.2.1,s2.2.2.2.2.2.2.2.2.2.2.2.1,s2.2.2.2.2.2.1,s2.2.2.2.2.2.2.2.2.2.2.2.2.1,s2.2.2.2.2.2.2.2.2.2.2.2.2.2,s2.2.2.2.2.2.2.1⟩:av)) (fun k s hs=>?_) NN y8.1.toNat _ ⟨by simp only;omega,?_,h8.2,?_⟩ (by unfold NN;omega)
   ·obtain⟨hk,hkl,hc,hw⟩:=hs
    unfold oz
    refine aI.cond (fun hd=>?_) fun hd=>aI.ret ⟨hc,?_⟩
    ·have hd:=of_decide_eq_true hd
     have wB:aL (s.1-1)=((k-1:Nat):Int):=by rw[aQ (by omega)];omega
     refine aI.A8 (aI.cT (aI.bind (Qh DW.2 hc hw) fun y9 h9=>aI.ret ⟨k-1,by omega,wB,by omega,h9.2,?_⟩))
     have:=h9.1
     rw[show 8-k+1=8-(k-1)by omega]at this
     exact this
    ·have hd:=of_decide_eq_false hd
     have xz:k=0:=by omega
     rw[xz]at hw
     exact hw
   ·omega
   ·exact ZdA DW.2 x6.2 _
theorem Qm(h:bX c):aI (mw c) fun r=>(qI r.1.aa∧pY r.1∧(eu r.1=true→True∧uU 8 r.1))∧bX r.2:=by
 unfold mw
 refine aI.cT (aI.bind (N7 h 9 (by omega)) fun y1 h1=>?_)
 obtain⟨n,hn,hw,hc⟩:=h1
 have hf:=hw.ok.fit
 have qD:=hw.ok.parts.2.2.1
 have hnd:qI y1.1.aa:=by rw[hw.ey];exact hn
 have Te:True∧uU 8 y1.1:=⟨trivial,hw.TL⟩
 refine aI.cT (aI.bind (iF hc 2) fun y2 h2=>aI.cond (fun _=>aI.ret ⟨⟨hnd,hf,fun _=>⟨trivial,Te.2⟩⟩,h2⟩) fun _=>aI.cond (fun _=>aI.ret ⟨⟨hnd,hf,fun _=>⟨trivial,Te.2⟩⟩,h2⟩) fun hz=>?_)
 have hz:=of_decide_eq_false hz
 refine aI.cT (aI.bind (bj h2 _) fun y3 h3=>aI.cT (aI.bind (bj h3.2 13) fun y4 h4=>?_))
 have b3:=h3.1.2.1 (by omega)
 obtain⟨o,ho,hm⟩:=kc (xs:=y1.1.ah) (i:=y3.1) ⟨h3.1.1,b3⟩
 have On:=h4.2
 rw[ho]
 simp only[VS]
 have MQ:=(iH ho).2
 have set:∀(x:az),x.aE=o.aE→pY (⟨y1.1.aa,(y1.1.ah.set (Wo y3.1) x),y1.1.aq,y1.1.ae,y1.1.now,y1.1.aH,y1.1.skip,y1.1.bd⟩:av):=fun x hx=>⟨hf.ey,by simp only[WL];exact hf.ah,hf.aq,hf.ae,hf.aH,hf.skip,hf.set hm hx⟩
 have Zgs:aC y1.1.ah y3.1=some o:=ho
 have hSt:=hw.ok.state MQ
 have hWy:=hw.ok.aE MQ
 have Pu:∀(x:az),x.aE=o.aE→(x.ar=o.ar∧x.aV=o.aV∧x.aO=o.aO)→(mW y1.1.aa x y1.1.now→0≤x.aJ→x.aJ≤x.aE.length→x.state=o.state∧x.aJ=o.aJ∧x.bD=o.bD)→(eu (⟨y1.1.aa,(y1.1.ah.set (Wo y3.1) x),y1.1.aq,y1.1.ae,y1.1.now,y1.1.aH,y1.1.skip,y1.1.bd⟩:av)=true→True∧uU 8 (⟨y1.1.aa,(y1.1.ah.set (Wo y3.1) x),y1.1.aq,y1.1.ae,y1.1.now,y1.1.aH,y1.1.skip,y1.1.bd⟩:av)):=fun x hx hx2 hk hv=>by
  have ik:pL (⟨y1.1.aa,(y1.1.ah.set (Wo y3.1) x),y1.1.aq,y1.1.ae,y1.1.now,y1.1.aH,y1.1.skip,y1.1.bd⟩:av):=⟨set x hx,hv⟩
  have hzi:(y1.1.ah.set (Wo y3.1) x)[(Wo y3.1)]?=some x:=by
   rw[List.getElem?_set_self (VU.1 MQ).1]
  obtain⟨k1,k2,k3⟩:=hk (ik.state hzi) (ik.aE hzi).aJ.1 (ik.aE hzi).aJ.2
  exact⟨trivial,VG Te.2 MQ hx ⟨k1,k2,k3⟩⟩
 have UL:∀(a b:Int),pY (⟨y1.1.aa,y1.1.ah,y1.1.aq,y1.1.ae,a,y1.1.aH,y1.1.skip,b⟩:av):=fun a b=>⟨hf.ey,hf.ah,hf.aq,hf.ae,hf.aH,hf.skip,hf.aE⟩
 refine aI.cond (fun _=>aI.EL (aI.cT (aI.bind (bj On 5) fun y5 h5=>aI.ret ⟨⟨hnd,set _ rfl,Pu _ rfl ⟨rfl,rfl,rfl⟩ (fun h1 _ _=>⟨OQ hSt h1 rfl rfl rfl rfl,rfl,rfl⟩)⟩,h5.2⟩))) fun _=>?_
 refine aI.cond (fun _=>aI.ret ⟨⟨hnd,set _ rfl,Pu _ rfl ⟨rfl,rfl,rfl⟩ (fun h1 h2 h3=>(R1 hWy hSt h1 rfl rfl h3).elim)⟩,On⟩) fun _=>?_
 refine aI.cond (fun _=>aI.EL (aI.cT (aI.bind (BE On (by simp)) fun dM xZ=>aI.ret ⟨⟨hnd,set _ rfl,Pu _ rfl ⟨rfl,rfl,rfl⟩ (fun _ _ _=>⟨rfl,rfl,rfl⟩)⟩,xZ.2⟩))) fun _=>?_
 refine aI.cond (fun _=>aI.ret ⟨⟨hnd,set _ rfl,Pu _ rfl ⟨rfl,rfl,rfl⟩ (fun _ _ _=>⟨rfl,rfl,rfl⟩)⟩,On⟩) fun _=>?_
 refine aI.cond (fun _=>aI.EL (aI.cT (aI.bind (jO On (by simp)) fun kS h14=>aI.ret ⟨⟨hnd,UL _ _,fun _=>⟨trivial,Te.2⟩⟩,h14.2⟩))) fun _=>?_
 refine aI.cond (fun _=>aI.EL (aI.cT (aI.bind (bj On _) fun o9 h15=>?_))) fun _=>?_
 ·have hb:=hf.aq
  have wA:aL ((y1.1.aq.length:Int)+1)=(y1.1.aq.length:Int)+1:=aQ (by omega)
  have b15:=h15.1.2.1 (by rw[wA];omega)
  rw[wA]at b15
  have b0:=h15.1.1
  refine aI.cL (by unfold gA;exact decide_eq_true (by omega)) (aI.ret ⟨⟨hnd,⟨hf.ey,hf.ah,?_,hf.ae,hf.aH,hf.skip,hf.aE⟩,fun _=>⟨trivial,Te.2⟩⟩,h15.2⟩)
  simp only[cD,V8,WK];omega
 refine aI.cond (fun _=>aI.EL (aI.cT (aI.bind (Mc hn On hw.ey) fun ma Uh=>?_))) fun _=>?_
 ·have e:=Uh.2
  rw[e]
  refine aI.cL (jt (by simp only[VX,VY];omega) (by omega)) (aI.ret ⟨⟨hnd,⟨hf.ey,hf.ah,hf.aq,?_,hf.aH,hf.skip,hf.aE⟩,fun _=>⟨trivial,Te.2⟩⟩,Uh.1⟩)
  simp only[V2,VX,VY];omega
 refine aI.cond (fun _=>aI.ret ⟨⟨hnd,set _ rfl,Pu _ rfl ⟨rfl,rfl,rfl⟩ (fun h1 _ _=>(OP hWy hSt h1 rfl rfl rfl rfl).elim)⟩,On⟩) fun _=>?_
 refine aI.cond (fun _=>aI.cT (aI.bind (jO On (by simp)) fun vW h19=>aI.ret ⟨⟨hnd,UL _ _,fun _=>⟨trivial,Te.2⟩⟩,h19.2⟩)) fun _=>?_
 exact aI.cond (fun _=>aI.EL (aI.cT (aI.bind (jO On (by simp)) fun Bj h20=>aI.ret ⟨⟨hnd,set _ rfl,Pu _ rfl ⟨rfl,rfl,rfl⟩ (fun _ _ _=>⟨rfl,rfl,rfl⟩)⟩,h20.2⟩))) fun _=>aI.ret ⟨⟨hnd,hf,fun _=>⟨trivial,Te.2⟩⟩,On⟩
structure AZ(p:a8):Prop where
 aV:p.label.aV.size≤100
 ar:p.ar.size≤100
 cq:p.cq.length≤1000
theorem b60(h:k≤100):k≤xl:=by unfold xl;omega
theorem AZ.pf{p:a8}(h:AZ p):PF p:=⟨b60 h.aV,b60 h.ar,by have:=h.cq;omega⟩
structure OD(n:aj)(K:Nat)(o:aM):Prop where
 of:OF o
 w:DS n K o.world
 pl:o.aK.length≤K
 jl:o.aF.length≤K
 rl:1≤o.ba.length
theorem OD.mono{n:aj}{K:Nat}{o:aM}(h:OD n K o):OD n (K+1) o:=⟨h.of,h.w.mono,by have:=h.pl;omega,by have:=h.jl;omega,h.rl⟩
theorem Hp{α:Type}{x:Option α}{r:α}{P:α→Prop}(h:aI x P)(e:x=some r):P r:=by
 obtain⟨y,e',h⟩:=h
 rw[e]at e';rw[VV e'];exact h
theorem T5{n:aj}(hn:qI n){o:aM}(h:OD n K o){a:cg}(ha:PF a.aT):aI (mr o a) fun r=>OD n (K+1) r.1:=by
 obtain⟨x,c,_,e,hx⟩:=MF h.of ha
 refine aI.of e ?_
 rcases hx with⟨_,rfl⟩ |⟨_,hD⟩
 ·exact h.mono
 have hx:=(MG h.of ha hD).1
 obtain⟨y,rfl,hy⟩:=hD.how
 have hu:a.kind=3→a.bH≤100000:=fun hk=>by
  have:=BP ha.fit.1 ha.fit.2.1 ha.fit.2.2 hD.act
  omega
 have xC:=h.pl
 have xy:(o.aF++[a]).length≤K+1:=by rw[V2];have:=h.jl;simp only[VX,VY];omega
 rcases hy with⟨_,hy⟩ |⟨_,hy⟩ |⟨_,w,rfl,hy⟩
 ·obtain⟨v,aE,ys,dX,_,_,_,_,q⟩:=hy.kJ
  have hw:DS n (K+1) y.world:=Hp (P:=fun r:av×Int×Bool=>DS n (K+1) r.1) (An hn h.w _ _ _ _) q
  refine⟨hx,hw,?_,xy,by show 1≤y.ba.length;rw[hy.ba];exact h.rl⟩
  show y.aK.length≤K+1
  rw[hy.aK,V2];simp only[VX,VY];omega
 ·obtain⟨l,z,rfl,_⟩:=hy
  exact⟨hx,h.w.mono,Nat.le_succ_of_le xC,xy,h.rl⟩
 ·refine⟨hx,?_,Nat.le_succ_of_le xC,xy,h.rl⟩
  rcases hy with⟨hk,bF,rfl⟩ |⟨_,q,_⟩ |⟨_,m,_,q,_⟩
  ·have:=Hp (H3 hn h.w a.bH) (zp h.w.ok.fit _)
   rwa[if_pos ⟨h.w.ok.ok,Int.le_of_lt bF,hu hk⟩]at this
  ·exact Hp (P:=fun r:av×Bool=>DS n (K+1) r.1) (Fw hn h.w _) q
  ·exact Hp (P:=fun r:av×Int=>DS n (K+1) r.1) (Dm hn h.w) q
theorem LD{n:aj}(hd:qI n){p:ByteArray}(h:p∈ak n):p.size≤100:=by
 have key:p∈ix n:=by unfold ak at h;rw[sm]at h;simpa using h
 unfold ix at key
 obtain⟨l,hl,hp⟩:=W9.1 key
 simp only[V4,V7,or_false]at hp
 rcases hp with rfl|rfl
 ·have:=(qi _ (hd.bx l hl).ar).2;omega
 ·have:=(qi _ (hd.bx l hl).aV).2;omega
theorem M5{n:aj}(hn:qI n)(h:bX c):aI (cA c n) fun r=>r.1.size≤100∧bX r.2:=by
 have hl:=hn.len
 have hp:0<(ak n).length:=by
  have:=(pD (n:=n) (Wm (show 0<n.ay.length by omega))).1
  exact List.length_pos_of_mem this
 unfold cA
 rw[(di hn.fit).2,VS]
 refine aI.cT (aI.bind (iF h 9) fun y2 h2=>aI.cond (fun _=>aI.cT (aI.bind (sr h2) fun y3 h3=>aI.ret ⟨le_of_eq_of_le (qi _ h3.1).2 (by decide),h3.2⟩)) fun _=>aI.cT (aI.bind (bj h2 _) fun y4 h4=>aI.get h4.1.1 (h4.1.2.1 (by omega)) fun x hx _=>aI.ret ⟨LD hn hx,h4.2⟩))
theorem JB{l:List Int}(h:l=[25,50,100]∨l=[10]∨l=[0,100]∨l=[0]∨l=[1,1,2,3,50,100]):mT l=true∧l.length≤6:=by
 rcases h with rfl|rfl|rfl|rfl|rfl<;>exact⟨by decide,by decide⟩
theorem yW(h:bX c):aI (dW c) fun r=>(mT r.1=true∧r.1.length≤6)∧bX r.2:=by
 unfold dW
 refine aI.cT (aI.bind (bj h 5) fun y hy=>aI.cond (fun _=>aI.ret ⟨JB (by simp),hy.2⟩) fun h0=>aI.cond (fun _=>aI.ret ⟨JB (by simp),hy.2⟩) fun h1=>aI.cond (fun _=>aI.ret ⟨JB (by simp),hy.2⟩) fun h2=>aI.cond (fun _=>aI.ret ⟨JB (by simp),hy.2⟩) fun h3=>aI.cond (fun _=>aI.ret ⟨JB (by simp),hy.2⟩) fun h4=>?_)
 have:=of_decide_eq_false h0
 have:=of_decide_eq_false h1
 have:=of_decide_eq_false h2
 have:=of_decide_eq_false h3
 have:=of_decide_eq_false h4
 have:=hy.1.1
 have:=hy.1.2.1 (by omega)
 omega
theorem OE(h:bX c):aI (lI c) fun r=>r.1.aV.size≤100∧bX r.2:=by
 unfold lI
 have sz:∀p∈rP,p.size≤100:=fun p hp=>by have:=(qi p hp).2;omega
 exact aI.cT (aI.bind (bj h 3) fun y1 h1=>aI.cT (aI.bind (bj h1.2 1000) fun y2 h2=>aI.cT (aI.bind (sr h2.2) fun y3 h3=>aI.cT (aI.bind (iF h3.2 3) fun y4 h4=>aI.cond (fun _=>aI.cT (aI.bind (jO h4 (by simp)) fun y5 h5=>aI.ret ⟨sz _ h3.1,h5.2⟩)) fun _=>aI.ret ⟨sz _ h3.1,h4⟩))))
theorem Pw(h:bX c):aI (lJ c) fun r=>r.1.length≤3∧bX r.2:=by
 unfold lJ
 exact aI.cT (aI.bind (bj h _) fun y1 h1=>aI.cT (aI.bind (bj h1.2 _) fun y2 h2=>aI.cT (aI.bind (bj h2.2 _) fun y3 h3=>aI.ret ⟨by simp,h3.2⟩)))
theorem C0(h:bX c):aI (eF c) fun r=>AZ r.1∧bX r.2:=by
 unfold eF
 have sz:∀p∈rP,p.size≤100:=fun p hp=>by have:=(qi p hp).2;omega
 have osl:(⟨#[79,83,76]⟩:ByteArray).size≤100:=by decide
 refine aI.cT (aI.bind (OE h) fun y1 h1=>aI.cT (aI.bind (sr h1.2) fun y2 h2=>aI.cT (aI.bind (bj h2.2 _) fun y3 h3=>aI.cT (aI.bind (Pw h3.2) fun y4 h4=>aI.cT (aI.bind (bj h4.2 _) fun y5 h5=>?_)))))
 have hs:y4.1.length≤1000:=by omega
 exact aI.cond (fun _=>aI.cT (aI.bind (iF h5.2 3) fun y6 h6=>aI.cond (fun _=>aI.cT (aI.bind (jO h6 (by simp)) fun y7 h7=>aI.ret ⟨⟨h1.1,osl,hs⟩,h7.2⟩)) fun _=>aI.ret ⟨⟨h1.1,osl,hs⟩,h6⟩)) fun _=>aI.cT (aI.bind (iF h5.2 3) fun y6 h6=>aI.cond (fun _=>aI.cT (aI.bind (jO h6 (by simp)) fun y7 h7=>aI.ret ⟨⟨h1.1,sz _ h2.1,hs⟩,h7.2⟩)) fun _=>aI.ret ⟨⟨h1.1,sz _ h2.1,hs⟩,h6⟩)
theorem Ew{n:aj}(hn:qI n)(h:bX c){o:aM}(hl:o.lines.length≤1048576)(hw:o.world.aa=n):aI (j6 c o) fun r=>AZ r.1.aT∧bX r.2:=by
 have osl:(⟨#[79,83,76]⟩:ByteArray).size≤100:=by decide
 have pz:AZ (⟨⟨0,0,⟨#[]⟩⟩,⟨#[]⟩,0,[],0⟩:a8):=⟨by decide,by decide,by simp⟩
 unfold j6
 rw[hw]
 refine aI.cT (aI.bind (bj h 9) fun y1 h1=>?_)
 have take:aI ((bh [0]).bind fun _=>(eF y1.2).bind fun y2=>(bh [0]).bind fun _=>(aw y2.2 6000).bind fun y3=>(bh [0]).bind fun _=>(aw y3.2 300).bind fun y4=>(bh [0]).bind fun _=>(aw y4.2 200).bind fun y5=>(bh [0]).bind fun _=>(aw y5.2 200).bind fun y6=>(bh [0]).bind fun _=>(cA y6.2 n).bind fun y7=>(bh [0]).bind fun _=>(cA y7.2 n).bind fun y8=>
  cond (decide (y7.1=y8.1)) (some ((⟨1,(⟨(⟨y2.1.label.ax,y2.1.label.fz,y8.1⟩:dh),⟨#[79,83,76]⟩,(aL (200+y3.1)),[(aL (100+y4.1)),(aL (100+y5.1)),(aL (50+y6.1))],y2.1.value⟩:a8),0,0,0,(⟨0,0⟩:au)⟩:cg),y8.2))
  (some ((⟨1,(⟨(⟨y2.1.label.ax,y2.1.label.fz,y8.1⟩:dh),y7.1,(aL (200+y3.1)),[(aL (100+y4.1)),(aL (100+y5.1)),(aL (50+y6.1))],y2.1.value⟩:a8),0,0,0,(⟨0,0⟩:au)⟩:cg),y8.2))) fun r:cg×aP=>AZ r.1.aT∧bX r.2:=
  aI.cT (aI.bind (C0 h1.2) fun y2 h2=>aI.cT (aI.bind (bj h2.2 _) fun y3 h3=>aI.cT (aI.bind (bj h3.2 _) fun y4 h4=>aI.cT (aI.bind (bj h4.2 _) fun y5 h5=>aI.cT (aI.bind (bj h5.2 _) fun y6 h6=>aI.cT (aI.bind (M5 hn h6.2) fun y7 h7=>aI.cT (aI.bind (M5 hn h7.2) fun y8 h8=>aI.cond (fun _=>aI.ret ⟨⟨h8.1,osl,by simp⟩,h8.2⟩) fun _=>aI.ret ⟨⟨h8.1,h7.1,by simp⟩,h8.2⟩)))))))
 have g:∀{b:Bool} {x y:Option (cg×aP)},(aI x fun r=>AZ r.1.aT∧bX r.2)→(aI y fun r=>AZ r.1.aT∧bX r.2)→aI (cond b x y) fun r=>AZ r.1.aT∧bX r.2:=fun h k=>aI.cond (fun _=>h) fun _=>k
 have rest:aI (cond (decide (y1.1=3))
      ((bh [0]).bind fun _=>(aw y1.2 (aL ((o.aK.length:Int)+1))).bind fun y9=>(er o.lines (aL (1+y9.1))).bind fun dM=>(bh [0,3]).bind fun _=>(bB y9.2 ([0,0,0,100])).bind fun jx=>(fv 1 (aL (dM-jx.1))).bind fun oV=>some ((⟨2,(⟨(⟨0,0,⟨#[]⟩⟩:dh),⟨#[]⟩,0,[],0⟩:a8),(aL (1+y9.1)),oV,0,(⟨0,0⟩:au)⟩:cg),jx.2.1))
      (cond (decide (y1.1=4)) ((bh [0]).bind fun _=>(dJ y1.2 o.world).bind fun lZ=>some ((⟨4,(⟨(⟨0,0,⟨#[]⟩⟩:dh),⟨#[]⟩,0,[],0⟩:a8),0,0,0,lZ.1⟩:cg),lZ.2))
      (cond (decide (y1.1=5)) (some ((⟨5,(⟨(⟨0,0,⟨#[]⟩⟩:dh),⟨#[]⟩,0,[],0⟩:a8),0,0,0,(⟨0,0⟩:au)⟩:cg),y1.2))
      (cond (decide (y1.1=6)) ((bh [0]).bind fun _=>(aw y1.2 (aL ((o.aK.length:Int)+1))).bind fun kS=>some ((⟨6,(⟨(⟨0,0,⟨#[]⟩⟩:dh),⟨#[]⟩,0,[],0⟩:a8),(aL (1+kS.1)),0,0,(⟨0,0⟩:au)⟩:cg),kS.2))
      ((ll 8 [4]).bind fun _=>(bh [0]).bind fun _=>(aw y1.2 90).bind fun o9=>some ((⟨3,(⟨(⟨0,0,⟨#[]⟩⟩:dh),⟨#[]⟩,0,[],0⟩:a8),0,0,(aL (o.world.now+(aL (30*o9.1)))),(⟨0,0⟩:au)⟩:cg),o9.2)))))) fun r:cg×aP=>AZ r.1.aT∧bX r.2:=
  g (aI.cT (aI.bind (bj h1.2 _) fun y9 h9=>aI.bind (aI.of (Q:=fun _=>True) (GI hl _) trivial) fun dM _=>aI.cT (aI.bind (jO h9.2 (by simp)) fun jx Cz=>aI.bind (GC _ _) fun oV _=>aI.ret ⟨pz,Cz.2⟩)))
   (g (aI.cT (aI.bind (FQ hn h1.2 hw) fun lZ h13=>aI.ret ⟨pz,h13⟩)) (g (aI.ret ⟨pz,h1.2⟩) (g (aI.cT (aI.bind (bj h1.2 _) fun kS h14=>aI.ret ⟨pz,h14.2⟩)) (aI.EL (aI.cT (aI.bind (bj h1.2 _) fun o9 h15=>aI.ret ⟨pz,h15.2⟩))))))
 exact g (g take rest) (g (g take rest) (g take rest))
theorem KH{n:aj}(hn:qI n)(h:bX c){o:aM}(hl:o.lines.length≤1048576)(hw:o.world.aa=n):aI (jL c o) fun r=>AZ r.1.aT:=by
 unfold jL
 exact aI.cT (aI.bind (Ew hn h hl hw) fun y1 h1=>aI.cT (aI.bind (bj h1.2 12) fun y2 h2=>aI.cond (fun _=>aI.cT (aI.bind (bj h2.2 9) fun y3 _=>aI.ret h1.1)) fun _=>aI.cond (fun _=>aI.cT (aI.bind (jO h2.2 (by simp)) fun y3 _=>aI.ret h1.1)) fun _=>aI.cond (fun _=>aI.cT (aI.bind (jO h2.2 (by simp)) fun y3 _=>aI.ret h1.1)) fun _=>aI.cond (fun _=>aI.cT (aI.bind (jO h2.2 (by simp)) fun y3 _=>aI.ret h1.1)) fun _=>aI.cond (fun _=>aI.cT (aI.bind (jO h2.2 (by simp)) fun y3 h3=>aI.cT (aI.bind (jO h3.2 (by simp)) fun y4 _=>aI.ret h1.1))) fun _=>aI.cond (fun _=>aI.ret ⟨h1.1.aV,h1.1.ar,h1.1.cq⟩) fun _=>aI.ret h1.1))
abbrev ZZ:List bL:=[(⟨⟨#[65,65,65]⟩,⟨#[67,90,90]⟩⟩:bL),(⟨⟨#[68,65,65]⟩,⟨#[90,90,90]⟩⟩:bL)]
theorem Zb0:rC ZZ:=⟨by simp,fun z hz=>by
 simp only[V4,V7,or_false]at hz
 rcases hz with rfl|rfl<;>exact⟨b60 (by decide),b60 (by decide)⟩⟩
theorem ZdT:rM ZZ=true:=by decide +kernel
def Zad(i:Nat)(r:bN):Prop:=r.iY=((i / 6:Nat):Int)∧r.ax=((1+i % 6 / 2:Nat):Int)∧(i % 2=0→r.kI=5000∧500≤r.kJ∧r.kJ≤900)∧(i % 2=1→r.kI=40000∧1000≤r.kJ∧r.kJ≤1800)
def tn(l:List bN):Prop:=∀(i:Nat) r,l[i]?=some r→Zad i r
theorem tn.snoc{r:bN}(h:tn l)(hr:Zad l.length r):tn (l++[r]):=fun i x hx=>by
 rw[List.getElem?_append]at hx
 split at hx
 ·exact h i x hx
 ·rename_i hn
  have hi:i-l.length=0:=by
   have:=(VU.1 hx).1
   simp only[VX,VY]at this
   omega
  rw[hi]at hx
  have:i=l.length:=by omega
  subst this
  simp at hx
  rw[←hx];exact hr
theorem St(h:tn l)(hl:l.length=12):rL l 2=true:=by
 unfold rL
 rw[VZ]
 refine⟨cJ.2 fun j x hx=>?_,decide_eq_true (by omega)⟩
 have hj:=(VU.1 hx).1
 rw[hl]at hj
 obtain⟨a,b,c,d⟩:=h j x hx
 unfold AN
 have z0:x.iY=0∨x.iY=1:=by omega
 have hs:1≤x.ax∧x.ax≤3:=by omega
 have Ze3:1≤x.kI∧x.kI≤1000000000:=by omega
 have hp:0≤x.kJ∧x.kJ≤100000:=by omega
 have Zdj:(decide (0+j=0) ||SD l[0+j-1]? x)=true:=by
  by_cases h0:j=0
  ·subst h0;rfl
  ·obtain⟨y,hy⟩:∃y,l[j-1]?=some y:=⟨_,VT (by omega)⟩
   obtain⟨a',b',c',d'⟩:=h (j-1) y hy
   rw[show 0+j-1=j-1 by omega,hy,Hf]
   unfold tp
   simp only[Bool.or_eq_true,VZ,decide_eq_true_eq]
   omega
 simp only[VZ,Wa,decide_eq_true_eq,decide_eq_false_iff_not]
 exact⟨by omega,by omega,hs,Ze3,hp,Zdj⟩
section
variable {n:aj} (hd:qI n) {skip:List Int} (hs:skip.length≤50)
include hd hs
theorem UX:pY (⟨n,[],[],[],0,[],skip,0⟩:av):=⟨hd.fit,by simp,by simp,by simp,by simp,by simp only;omega,fun o ho=>by cases ho⟩
theorem ZdB:eu (⟨n,[],[],[],0,[],skip,0⟩:av)=true:=by
 unfold eu bJ uM
 simp only[hd.ok,Ws]
 simp[allI]
 omega
theorem R4(hl:ba.length=12)(hp:p.length≤6)(K:Nat):OD n K (⟨⟨n,[],[],[],0,[],skip,0⟩,ZZ,ba,p,[],[],[]⟩:aM):=
 ⟨⟨UX hd hs,Zb0,by simp only;omega,by simp only;omega,by simp,by simp,by simp,fun p hp=>(by cases hp),fun a ha=>(by cases ha)⟩,ZdA hd hs K,Nat.zero_le _,Nat.zero_le _,by simp only;omega⟩
theorem Zbz(hr:tn ba)(hl:ba.length=12)(hp:mT p=true):jw (⟨⟨n,[],[],[],0,[],skip,0⟩,ZZ,ba,p,[],[],[]⟩:aM)=true:=
 ub (ZdB hd hs) ZdT (by rw[show((ZZ.length:Nat):Int)=2 from rfl];exact St hr hl) hp rfl rfl (by simp) rfl rfl rfl
theorem Ll(hr:tn ba)(hl:ba.length=12)(hp:mT p=true∧p.length≤6):
 kp n skip ZZ ba p=some ((⟨⟨n,[],[],[],0,[],skip,0⟩,ZZ,ba,p,[],[],[]⟩:aM),true):=by
 have ho:=R4 hd hs hl hp.2 0
 unfold kp
 rw[Fg hd hs,VS]
 show(gu _).bind _=_
 rw[Mq ho.of,VS,AU ho.of.fit,Zbz hd hs hr hl hp.1]
 rfl
end
theorem OR(h:bX c):aI (mA c) fun r=>(∃n,qI n∧OD n 0 r.1)∧bX r.2:=by
 unfold mA
 refine aI.cT (aI.bind (M1 h) fun y1 h1=>?_)
 obtain⟨h1,u4⟩:=h1
 refine aI.bind (P:=fun o=>bX ⟨o.1,o.2.1,o.2.2.1⟩∧qI ⟨o.2.2.2,y1.1.off,y1.1.change⟩) ?_ fun o0 DW=>?_
 ·have hlen:=h1.len
  refine aI.loop (fun(k:Nat) (s:Int×(List YB8)×Int×Int×(List bM))=>∃i:Nat,s.1=(i:Int)∧i+k=s.2.2.2.2.length∧bX ⟨s.2.1,s.2.2.1,s.2.2.2.1⟩∧qI ⟨s.2.2.2.2,y1.1.off,y1.1.change⟩) (fun k s hs=>?_) NN y1.1.ay.length _ ⟨0,rfl,by simp,u4,h1⟩ (by unfold NN;omega)
  obtain⟨i,hi,hk,hc,hd⟩:=hs
  have Bt:=hd.len
  simp only at Bt
  unfold o4
  rw[hi]
  refine aI.cond (fun bF=>?_) fun _=>aI.ret ⟨hc,hd⟩
  have bF:=of_decide_eq_true bF
  have wB:aL ((i:Int)+1)=((i+1:Nat):Int):=by rw[aQ (by omega)];omega
  rw[wB]
  refine aI.cT (aI.bind (iF hc 3) fun y2 h2=>aI.cond (fun _=>aI.EL (aI.cT (aI.bind (bj h2 20) fun y3 h3=>?_))) fun _=>aI.ret ⟨k-1,by omega,i+1,rfl,by simp only;omega,h2,hd⟩)
  refine aI.get (by omega) bF fun x hx _=>aI.ret ⟨k-1,by omega,i+1,rfl,by simp only[WL];omega,h3.2,?_⟩
  have b3:=h3.1.2.1 (by omega)
  have b0:=h3.1.1
  have hr:aL (3000+aL (1000*y3.1))=3000+1000*y3.1:=by rw[aQ (n:=1000*y3.1) (by omega),aQ (by omega)]
  refine⟨by simp only[WL];exact Bt,fun l hl=>?_,hd.off,hd.change⟩
  rcases XK hl with hl|rfl
  ·exact hd.bx l hl
  ·obtain⟨a1,a2,a3,a4,a5,a6,a7⟩:=hd.bx x hx
   exact⟨a1,a2,a3,a4,a5,a6,by simp only[hr];omega⟩
 refine aI.cT (aI.bind (bj DW.1 5) fun y5 h5=>?_)
 have b5:=h5.1.2.1 (by omega)
 have b5':=h5.1.1
 refine aI.bind (P:=fun o=>bX ⟨o.1,o.2.1,o.2.2.1⟩∧o.2.2.2.length≤50) ?_ fun o1 x6=>?_
 ·refine aI.loop (fun(k:Nat) (s:Int×(List YB8)×Int×Int×(List Int))=>s.1=(k:Int)∧s.2.2.2.2.length+k≤5∧bX ⟨s.2.1,s.2.2.1,s.2.2.2.1⟩) (fun k s hs=>?_) NN y5.1.toNat _ ⟨by simp only;omega,by simp only[VY];omega,h5.2⟩ (by unfold NN;omega)
  obtain⟨hk,hl,hc⟩:=hs
  unfold o5
  refine aI.cond (fun hd=>?_) fun _=>aI.ret ⟨hc,by simp only;omega⟩
  have hd:=of_decide_eq_true hd
  have wB:aL (s.1-1)=((k-1:Nat):Int):=by rw[aQ (by omega)];omega
  exact aI.cT (aI.bind (bj hc 20) fun y6 h6=>aI.cL (jt (by simp only[VX,VY];omega) (by omega)) (aI.ret ⟨k-1,by omega,wB,by simp only[V2,VX,VY];omega,h6.2⟩))
 refine aI.bind (P:=fun o=>bX ⟨o.1,o.2.1,o.2.2.1⟩∧tn o.2.2.2∧o.2.2.2.length=12) ?_ fun o2 u5=>?_
 ·refine aI.loop (fun(k:Nat) (s:Int×(List YB8)×Int×Int×(List bN))=>∃z:Nat,s.1=(z:Int)∧z+k=2∧bX ⟨s.2.1,s.2.2.1,s.2.2.2.1⟩∧tn s.2.2.2.2∧s.2.2.2.2.length=6*z) (fun k s hs=>?_) NN 2 _ ⟨0,rfl,rfl,x6.1,fun i r hr=>(by simp at hr),rfl⟩ (by unfold NN;omega)
  obtain⟨z,hz,hk,hc,hR,hL⟩:=hs
  unfold o6
  rw[hz]
  refine aI.cond (fun bF=>?_) fun yz=>aI.ret ⟨hc,hR,by have:=of_decide_eq_false yz;rw[hL];omega⟩
  have bF:=of_decide_eq_true bF
  have hwz:aL ((z:Int)+1)=((z+1:Nat):Int):=by rw[aQ (by omega)];omega
  rw[hwz]
  refine aI.bind (P:=fun o=>bX ⟨o.1,o.2.1,o.2.2.1⟩∧tn o.2.2.2∧o.2.2.2.length=6*(z+1)) ?_ fun o3 Rs=>aI.ret ⟨k-1,by omega,z+1,rfl,by omega,Rs.1,Rs.2.1,Rs.2.2⟩
  refine aI.loop (fun(k:Nat) (s3:Int×(List YB8)×Int×Int×(List bN))=>∃t:Nat,s3.1=((t+1:Nat):Int)∧t+k=3∧bX ⟨s3.2.1,s3.2.2.1,s3.2.2.2.1⟩∧tn s3.2.2.2.2∧s3.2.2.2.2.length=6*z+2*t) (fun k s3 hs3=>?_) NN 3 _ ⟨0,rfl,rfl,hc,hR,hL⟩ (by unfold NN;omega)
  obtain⟨t,ht,hk3,hc3,hR3,hL3⟩:=hs3
  unfold o7
  rw[ht]
  refine aI.cond (fun hle=>?_) fun zm=>aI.ret ⟨hc3,hR3,by have:=of_decide_eq_false zm;rw[hL3];omega⟩
  have hle:=of_decide_eq_true hle
  have hwt:aL (((t+1:Nat):Int)+1)=((t+1+1:Nat):Int):=by rw[aQ (by omega)];omega
  rw[hwt]
  refine aI.cT (aI.bind (bj hc3 5) fun y7 h7=>aI.cL (jt (by simp only[VX,VY];omega) (by omega)) (aI.cT (aI.bind (bj h7.2 9) fun y8 h8=>aI.cL (jt (by simp only[V2,VX,VY];omega) (by omega)) (aI.ret ⟨k-1,by omega,t+1,rfl,by omega,h8.2,?_,by simp only[V2,VX,VY];omega⟩))))
  have b7:=h7.1.2.1 (by omega)
  have b7':=h7.1.1
  have b8:=h8.1.2.1 (by omega)
  have b8':=h8.1.1
  have e7:aL (500+aL (100*y7.1))=500+100*y7.1:=by rw[aQ (n:=100*y7.1) (by omega),aQ (by omega)]
  have e8:aL (1000+aL (100*y8.1))=1000+100*y8.1:=by rw[aQ (n:=100*y8.1) (by omega),aQ (by omega)]
  refine(hR3.snoc ?_).snoc ?_
  ·rw[hL3]
   refine⟨?_,?_,fun _=>⟨rfl,?_,?_⟩,fun _=>?_⟩<;>simp only[e7,hz]<;>omega
  ·simp only[V2,VX,VY,hL3]
   refine⟨?_,?_,fun _=>?_,fun _=>⟨rfl,?_,?_⟩⟩<;>simp only[e8,hz]<;>omega
 refine aI.A8 (aI.EL (aI.cT (aI.bind (yW u5.1) fun y9 h9=>?_)))
 rw[Ll DW.2 x6.2 u5.2.1 u5.2.2 h9.1,VS]
 exact aI.ret ⟨⟨_,DW.2,R4 DW.2 x6.2 u5.2.2 h9.1.2 0⟩,h9.2⟩
theorem OD.le{n:aj}{o:aM}{K:Nat}(h:OD n K o):∀j,OD n (K+j) o
 |0=>h
 |j+1=>(OD.le h j).mono
abbrev tO(o:aM):(List bM)×(List Int)×Int×(List az)×(List ao)×(List au)×Int×(List br)×(List Int)×Int×(List bL)×(List bN)×(List Int)×(List aW)×(List a8)×(List cg):=
 (o.world.aa.ay,o.world.aa.off,o.world.aa.change,o.world.ah,o.world.aq,o.world.ae,o.world.now,o.world.aH,o.world.skip,o.world.bd,o.aY,o.ba,o.aN,o.lines,o.aK,o.aF)
theorem KS(h:bX c)(iE:Int)(hm:iE≤9):aI (lG c iE) fun r=>(∃n,qI n∧OD n 8 r.1)∧bX r.2:=by
 unfold lG
 refine aI.cT (aI.bind (OR h) fun y1 h1=>aI.cT (aI.bind (bj h1.2 iE) fun y2 h2=>?_))
 obtain⟨⟨n,hn,ho⟩,hc⟩:=h1
 have b8:=h2.1
 have b8':y2.1≤8:=by
  rcases Int.lt_or_le 0 iE with hp|hp
  ·have:=b8.2.1 hp;omega
  ·have:=b8.2.2 hp;omega
 refine aI.bind (P:=fun o=>∃(c:aP) (x:aM),o=(c.b,c.i,c.h,tO x)∧bX c∧OD n 8 x) ?_ fun o0 DW=>?_
 ·have hk:(((y2.1.toNat:Nat):Int))=y2.1:=by omega
  refine aI.loop (fun(k:Nat) s=>∃(c:aP) (x:aM),s=((k:Int),c.b,c.i,c.h,tO x)∧k≤8∧bX c∧OD n (8-k) x) (fun k s hs=>?_) NN y2.1.toNat _ ⟨y2.2,y1.1,by rw[hk],by omega,h2.2,by have:=ho.le (8-y2.1.toNat);rwa[Nat.zero_add]at this⟩ (by unfold NN;omega)
  obtain⟨c,x,rfl,hk,hc,hO⟩:=hs
  unfold oB
  refine aI.cond (fun hd=>?_) fun hd=>aI.ret ⟨c,x,rfl,hc,?_⟩
  ·have hd:=of_decide_eq_true hd
   have wB:aL ((k:Int)-1)=((k-1:Nat):Int):=by rw[aQ (by omega)];omega
   refine aI.A8 (aI.EL (aI.cT (aI.bind (Ew hn hc (o:=x) hO.of.lines hO.w.ey) fun y3 h3=>aI.bind (T5 hn hO h3.1.pf) fun y4 h4=>aI.ret ⟨k-1,by omega,y3.2,y4.1,?_,by omega,h3.2,?_⟩)))
   ·rw[←wB]
   ·rwa[show 8-k+1=8-(k-1)by omega]at h4
  ·have hd:=of_decide_eq_false hd
   have xz:k=0:=by omega
   subst xz
   exact hO
 ·obtain⟨c,x,rfl,hc,hO⟩:=DW
  exact aI.ret ⟨⟨n,hn,hO⟩,hc⟩
/-! ZfL and lines that fit,or do not. -/
def ZS(l:List bL):Prop:=∀z∈l,z.first.size≤100∧z.last.size≤100
theorem ZS.fit{l:List bL}(h:ZS l)(hl:l.length≤1000):rC l:=⟨by omega,fun z hz=>⟨b60 (h z hz).1,b60 (h z hz).2⟩⟩
theorem ZS.snoc{l:List bL}{z:bL}(h:ZS l)(h1:z.first.size≤100)(h2:z.last.size≤100):ZS (l++[z]):=fun y hy=>by
 rcases WC.1 hy with hy|hy
 ·exact h y hy
 ·rw[Wc.1 hy];exact⟨h1,h2⟩
theorem PK(h:bX c):aI (lK c) fun r=>(ZS r.1∧r.1.length≤4)∧bX r.2:=by
 unfold lK
 refine aI.cT (aI.bind (bj h 4) fun y hy=>aI.cond (fun _=>aI.ret ⟨⟨?_,by simp⟩,hy.2⟩) fun h0=>aI.cond (fun _=>aI.ret ⟨⟨?_,by simp⟩,hy.2⟩) fun h1=>aI.cond (fun _=>aI.ret ⟨⟨?_,by simp⟩,hy.2⟩) fun h2=>aI.cond (fun _=>aI.ret ⟨⟨?_,by simp⟩,hy.2⟩) fun h3=>?_)
 ·intro z hz
  simp only[V4,V7,or_false]at hz
  rcases hz with rfl|rfl<;>exact⟨by decide,by decide⟩
 ·intro z hz
  simp only[V4,V7,or_false]at hz
  rw[hz];exact⟨by decide,by decide⟩
 ·intro z hz
  simp only[V4,V7,or_false]at hz
  rcases hz with rfl|rfl|rfl<;>exact⟨by decide,by decide⟩
 ·intro z hz;cases hz
 ·have:=of_decide_eq_false h0
  have:=of_decide_eq_false h1
  have:=of_decide_eq_false h2
  have:=of_decide_eq_false h3
  have:=hy.1.1
  have:=hy.1.2.1 (by omega)
  omega
theorem F0(h:bX c):aI (jq c) fun r=>(ZS r.1∧r.1.length≤20)∧bX r.2:=by
 unfold jq
 refine aI.cT (aI.bind (PK h) fun y1 h1=>aI.cT (aI.bind (bj h1.2 5) fun y2 h2=>aI.cond (fun _=>?_) fun _=>aI.cond (fun _=>?_) fun _=>aI.ret ⟨⟨h1.1.1,by have:=h1.1.2;simp only;omega⟩,h2.2⟩))
 ·refine aI.cT (aI.bind (BE h2.2 (by simp)) fun y3 h3=>aI.cL (jt (by simp only[VX,VY];omega) (by omega)) (aI.ret ⟨⟨h1.1.1.snoc (by show ByteArray.size ⟨#[71,79,84]⟩≤100;decide) ?_,by simp only[V2,VX,VY];omega⟩,h3.2⟩))
  have:=h3.1
  simp only[V4,V7,or_false]at this
  rcases this with e|e|e|e<;>(show y3.1.size≤100;rw[e];decide)
 ·refine aI.bind (P:=fun o=>ZS o∧8<o.length∧o.length≤9) ?_ fun o0 DW=>aI.cT (aI.bind (jO h2.2 (by simp)) fun y4 h4=>aI.cL ?_ (aI.ret ⟨⟨fun z hz=>?_,?_⟩,h4.2⟩))
  ·refine aI.loop (fun(k:Nat) (s:List bL)=>ZS s∧s.length+k=9) (fun k s hs=>?_) NN (9-y1.1.length) _ ⟨h1.1.1,by omega⟩ (by unfold NN;omega)
   obtain⟨hz,hk⟩:=hs
   unfold mB
   have e1:(⟨#[90]⟩:ByteArray).size=1:=rfl
   have e2:(⟨#[65]⟩:ByteArray).size=1:=rfl
   have e3:(⟨#[66]⟩:ByteArray).size=1:=rfl
   have st:∀{a b:ByteArray},a.size+b.size≤1000→FD a b=true:=fun h=>decide_eq_true (by omega)
   refine aI.cond (fun hd=>?_) fun hd=>aI.ret ⟨hz,by have:=of_decide_eq_false hd;omega,by omega⟩
   have hd:=of_decide_eq_true hd
   refine aI.cL (st (by rw[strOfNums_size,e1];simp)) (aI.cL (st (by rw[W7,strOfNums_size,e1,e2];simp)) (aI.cL (st (by rw[strOfNums_size,e1];simp)) (aI.cL (st (by rw[W7,strOfNums_size,e1,e3];simp)) (aI.cL (jt (by simp only[VX,VY];omega) (by omega)) (aI.ret ⟨k-1,by omega,hz.snoc ?_ ?_,by simp only[V2,VX,VY];omega⟩)))))
   ·rw[W7,W7,strOfNums_size,e1,e2];simp
   ·rw[W7,W7,strOfNums_size,e1,e3];simp
  ·have:=h4.1
   simp only[V4,V7,or_false]at this
   unfold gA
   exact decide_eq_true (by omega)
  ·exact DW.1 z (List.mem_of_mem_drop (List.mem_of_mem_take hz))
  ·simp only[cD,V8,WK];omega
theorem C8(l:List aW)(x:aW):(tk l x).1.length≤l.length+1:=by
 unfold tk
 split
 ·simp
 ·split<;>simp
theorem KM(l:List aW)(o a t:Int):(qh l o a t).1.length≤l.length+1:=by
 unfold qh
 repeat' split
 all_goals first|exact C8 _ _|simp
theorem M8(l:List aW)(o a t:Int):(Em l o a t).1.length≤l.length+1:=by
 unfold Em
 repeat' split
 all_goals first|exact C8 _ _|simp
theorem LU(l:List aW)(o du en:Int)(ps:List Int)(t:Int):(oS l o du en ps t).1.length≤l.length+1:=by
 unfold oS
 repeat' split
 all_goals first|exact C8 _ _|simp
theorem Lf(h:bX c)(iE:Int)(hm:iE≤1000):aI (lF c iE) fun r=>r.1.length≤4000∧bX r.2:=by
 unfold lF
 refine aI.cT (aI.bind (bj h iE) fun y1 h1=>?_)
 have b:=h1.1
 have b':y1.1≤1000:=by
  rcases Int.lt_or_le 0 iE with hp|hp
  ·have:=b.2.1 hp;omega
  ·have:=b.2.2 hp;omega
 refine aI.bind (P:=fun o=>∃(c:aP) (l:List aW),o=(c.b,c.i,c.h,l)∧bX c∧l.length≤4000) ?_ fun o0 DW=>?_
 ·have hk:(((y1.1.toNat:Nat):Int))=y1.1:=by omega
  refine aI.loop (fun(k:Nat) s=>∃(a:Int) (c:aP) (l:List aW),s=(a,(k:Int),c.b,c.i,c.h,l)∧k≤1000∧bX c∧l.length+2*k≤4000) (fun k s hs=>?_) NN y1.1.toNat _ ⟨0,y1.2,[],by rw[hk],by omega,h1.2,by simp only[VY];omega⟩ (by unfold NN;omega)
  obtain⟨a,c,l,rfl,hk,hc,hl⟩:=hs
  unfold oA
  refine aI.cond (fun hd=>?_) fun hd=>aI.ret ⟨c,l,rfl,hc,by omega⟩
  have hd:(0:Int)<(k:Int):=of_decide_eq_true hd
  have wB:aL ((k:Int)-1)=((k-1:Nat):Int):=by rw[aQ (by omega)];omega
  have fin:∀(a':Int) (c':aP) (l':List aW),bX c'→l'.length≤l.length+2→rO (fun(k:Nat) s=>∃(a:Int) (c:aP) (l:List aW),s=(a,(k:Int),c.b,c.i,c.h,l)∧k≤1000∧bX c∧l.length+2*k≤4000) (fun o=>∃(c:aP) (l:List aW),o=(c.b,c.i,c.h,l)∧bX c∧l.length≤4000) k (.inl (a',aL ((k:Int)-1),c'.b,c'.i,c'.h,l')):=fun a' c' l' h1 h2=>
   ⟨k-1,by omega,a',c',l',by rw[wB],by omega,h1,by omega⟩
  have AA:l.length≤1048576:=by omega
  refine aI.cT (aI.bind (bj hc 30) fun y2 h2=>aI.cT (aI.bind (bj h2.2 4) fun y3 h3=>aI.cT (aI.bind (bj h3.2 4) fun y4 h4=>?_)))
  have ch:∀t:Int,aI ((bh [0]).bind fun _=>(aw y4.2 2000).bind fun y5=>(fr l (aL (1+y3.1)) (aL (100+y5.1)) t).bind fun y6=>(bh [0]).bind fun _=>(aw y5.2 30).bind fun y7=>(eP y6.1 (aL (1+y3.1)) (aL (100+(aL (50*y7.1)))) t).bind fun y8=>
   some (.inl (t,(aL ((k:Int)-1)),y7.2.b,y7.2.i,y7.2.h,y8.1))) (rO (fun(k:Nat) s=>∃(a:Int) (c:aP) (l:List aW),s=(a,(k:Int),c.b,c.i,c.h,l)∧k≤1000∧bX c∧l.length+2*k≤4000) (fun o=>∃(c:aP) (l:List aW),o=(c.b,c.i,c.h,l)∧bX c∧l.length≤4000) k):=fun t=>by
   refine aI.cT (aI.bind (bj h4.2 2000) fun y5 h5=>?_)
   have q:=KM l (aL (1+y3.1)) (aL (100+y5.1)) t
   rw[Ij AA,VS]
   refine aI.cT (aI.bind (bj h5.2 30) fun y7 h7=>?_)
   have q2:=M8 (qh l (aL (1+y3.1)) (aL (100+y5.1)) t).1 (aL (1+y3.1)) (aL (100+(aL (50*y7.1)))) t
   rw[Sc (by omega),VS]
   exact aI.ret (fin _ _ _ h7.2 (by omega))
  have py:∀t:Int,aI ((er l (aL (1+y3.1))).bind fun y9=>(bh [0,2]).bind fun _=>(bB y4.2 ([0,0,1])).bind fun dM=>(fv 1 (aL (y9-dM.1))).bind fun jx=>(eP l (aL (1+y3.1)) jx t).bind fun oV=>
   some (.inl (t,(aL ((k:Int)-1)),dM.2.1.b,dM.2.1.i,dM.2.1.h,oV.1))) (rO (fun(k:Nat) s=>∃(a:Int) (c:aP) (l:List aW),s=(a,(k:Int),c.b,c.i,c.h,l)∧k≤1000∧bX c∧l.length+2*k≤4000) (fun o=>∃(c:aP) (l:List aW),o=(c.b,c.i,c.h,l)∧bX c∧l.length≤4000) k):=fun t=>by
   rw[GI AA,VS]
   refine aI.cT (aI.bind (jO h4.2 (by simp)) fun dM xZ=>aI.bind (GC _ _) fun jx _=>?_)
   have q:=M8 l (aL (1+y3.1)) jx t
   rw[Sc AA,VS]
   exact aI.ret (fin _ _ _ xZ.2 (by omega))
  have rf:∀t:Int,aI ((bh [0]).bind fun _=>(aw y4.2 4).bind fun lZ=>(bh [0]).bind fun _=>(dW lZ.2).bind fun kS=>(fw l (aL (1+y3.1)) 0 (aL (1440*lZ.1)) kS.1 t).bind fun o9=>
   some (.inl (t,(aL ((k:Int)-1)),kS.2.b,kS.2.i,kS.2.h,o9.1))) (rO (fun(k:Nat) s=>∃(a:Int) (c:aP) (l:List aW),s=(a,(k:Int),c.b,c.i,c.h,l)∧k≤1000∧bX c∧l.length+2*k≤4000) (fun o=>∃(c:aP) (l:List aW),o=(c.b,c.i,c.h,l)∧bX c∧l.length≤4000) k):=fun t=>by
   refine aI.cT (aI.bind (bj h4.2 4) fun lZ h13=>aI.cT (aI.bind (yW h13.2) fun kS h14=>?_))
   have q:=LU l (aL (1+y3.1)) 0 (aL (1440*lZ.1)) kS.1 t
   rw[JQ AA (by have:=h14.1.2;omega),VS]
   exact aI.ret (fin _ _ _ h14.2 (by omega))
  exact aI.cond (fun _=>aI.cond (fun _=>ch _) fun _=>aI.cond (fun _=>py _) fun _=>rf _) fun _=>aI.cond (fun _=>ch _) fun _=>aI.cond (fun _=>py _) fun _=>rf _
 ·obtain⟨c,l,rfl,hc,hl⟩:=DW
  exact aI.ret ⟨hl,hc⟩
theorem Le(h:bX c):aI (my c) fun r=>r.1.length≤9000∧bX r.2:=by
 unfold my
 refine aI.cT (aI.bind (Lf h 12 (by omega)) fun y1 h1=>aI.cond (fun _=>aI.ret ⟨by have:=h1.1;simp only;omega,h1.2⟩) fun hz=>?_)
 have hz:=of_decide_eq_false hz
 refine aI.cT (aI.bind (iF h1.2 2) fun y2 h2=>aI.cond (fun _=>aI.ret ⟨by have:=h1.1;simp only;omega,h2⟩) fun _=>aI.cT (aI.bind (bj h2 _) fun y3 h3=>aI.cT (aI.bind (bj h3.2 6) fun y4 h4=>?_)))
 have b0:=h3.1.1
 have b1:=h3.1.2.1 (by omega)
 have hc:=h4.2
 have st:∀{z:aW},(y1.1.set (Wo y3.1) z).length≤9000:=fun {z}=>by rw[WL];omega
 refine aI.cond (fun _=>aI.get b0 b1 fun y5 _ _=>aI.cT (aI.bind (jO hc (by simp)) fun y6 h6=>aI.get b0 b1 fun y7 _ _=>aI.ret ⟨st,h6.2⟩)) fun _=>?_
 refine aI.cond (fun _=>aI.cT (aI.bind (jO hc (by simp)) fun y6 h6=>aI.get b0 b1 fun y7 _ _=>aI.ret ⟨st,h6.2⟩)) fun _=>?_
 refine aI.cond (fun _=>aI.cT (aI.bind (bj hc 5) fun y6 h6=>aI.get b0 b1 fun y7 _ _=>aI.ret ⟨st,h6.2⟩)) fun _=>?_
 refine aI.cond (fun _=>aI.cT (aI.bind (jO hc (by simp)) fun y6 h6=>aI.get b0 b1 fun y7 _ _=>aI.ret ⟨st,h6.2⟩)) fun _=>?_
 refine aI.cond (fun _=>aI.get b0 b1 fun y7 _ _=>aI.cL (jt (by simp only[VX,VY];omega) (by omega)) (aI.ret ⟨by simp only[V2,VX,VY];omega,hc⟩)) fun _=>?_
 have hw:aL (y3.1+1)=y3.1+1:=aQ (by omega)
 rw[hw]
 have tS:(cD y1.1 (y3.1+1) (y1.1.length:Int)).length≤y1.1.length:=by unfold cD;simp only[V8,WK];omega
 have ZfO:(cD y1.1 0 y3.1).length≤y1.1.length:=by unfold cD;simp only[V8,WK];omega
 refine aI.cL (decide_eq_true ⟨by omega,by omega,by omega⟩) (aI.cL (decide_eq_true ⟨by omega,by omega,by omega⟩) (aI.cL ?_ (aI.ret ⟨?_,hc⟩)))
 ·unfold Mj
  rw[decide_eq_true (show 0≤y3.1∧y3.1≤(y1.1.length:Int)∧0<y1.1.length by omega),jt (by omega) (by omega)];rfl
 ·rw[V2];omega
structure OA(o:aM):Prop where
 of:OF o
 ey:qI o.world.aa
 TL:eu o.world=true→uU 8 o.world
theorem NU(h:bX c):aI (mz c) fun r=>OA r.1∧bX r.2:=by
 unfold mz
 refine aI.cT (aI.bind (KS h 9 (by omega)) fun y1 h1=>aI.cT (aI.bind (bj h1.2 16) fun y2 h2=>?_))
 obtain⟨⟨n,hn,hO⟩,_⟩:=h1
 have hc:=h2.2
 have nU:qI y1.1.world.aa:=by rw[hO.w.ey];exact hn
 have hf:=hO.of
 have D7:eu y1.1.world=true→uU 8 y1.1.world:=fun _=>hO.w.TL
 have xC:=hO.pl
 have xy:=hO.jl
 have hrl:=hf.ba
 refine aI.cond (fun _=>aI.cT (aI.bind (Qm hc) fun y3 h3=>aI.ret ⟨⟨⟨h3.1.2.1,hf.aY,hf.ba,hf.sL,hf.lines,hf.aK,hf.aF,hf.pf,hf.af⟩,h3.1.1,fun hv=>(h3.1.2.2 hv).2⟩,h3.2⟩)) fun _=>?_
 refine aI.cond (fun _=>aI.cT (aI.bind (F0 hc) fun y4 h4=>aI.ret ⟨⟨⟨hf.world,h4.1.1.fit (by omega),hf.ba,hf.sL,hf.lines,hf.aK,hf.aF,hf.pf,hf.af⟩,nU,D7⟩,h4.2⟩)) fun _=>?_
 refine aI.cond (fun _=>aI.cT (aI.bind (Le hc) fun y5 h5=>aI.ret ⟨⟨⟨hf.world,hf.aY,hf.ba,hf.sL,by have:=h5.1;simp only;omega,hf.aK,hf.aF,hf.pf,hf.af⟩,nU,D7⟩,h5.2⟩)) fun _=>?_
 refine aI.cond (fun _=>aI.ret ⟨⟨⟨hf.world,hf.aY,hf.ba,by simp,hf.lines,hf.aK,hf.aF,hf.pf,hf.af⟩,nU,D7⟩,hc⟩) fun _=>?_
 refine aI.cond (fun _=>aI.EL (aI.cT (aI.bind (C0 hc) fun y6 h6=>aI.cL (jt (by simp only[VX,VY];omega) (by omega)) (aI.ret ⟨⟨⟨hf.world,hf.aY,hf.ba,hf.sL,hf.lines,?_,hf.aF,fun p hp=>?_,hf.af⟩,nU,D7⟩,h6.2⟩)))) fun _=>?_
 ·simp only[V2,VX,VY];omega
 ·rcases WC.1 hp with hp|hp
  ·exact hf.pf p hp
  ·rw[Wc.1 hp];exact h6.1.pf
 refine aI.cond (fun _=>aI.EL (aI.cT (aI.bind (bj hc 8) fun y7 h7=>aI.cL ?_ (aI.ret ⟨⟨⟨hf.world,hf.aY,hf.ba,hf.sL,hf.lines,hf.aK,?_,hf.pf,fun a ha=>?_⟩,nU,D7⟩,h7.2⟩)))) fun _=>?_
 ·unfold bo;exact decide_eq_true ⟨by simp only[VX,VY];omega,by simp only[VX,VY];omega⟩
 ·simp only[V2,VX,VY];omega
 ·rcases WC.1 ha with ha|ha
  ·exact hf.af a ha
  ·rw[Wc.1 ha];exact⟨by show(0:Nat)≤_;omega,by show(0:Nat)≤_;omega,by simp⟩
 refine aI.cond (fun _=>?_) fun _=>aI.ret ⟨⟨hf,nU,D7⟩,hc⟩
 refine aI.cL ?_ (aI.ret ⟨⟨⟨hf.world,hf.aY,?_,hf.sL,hf.lines,hf.aK,hf.aF,hf.pf,hf.af⟩,nU,D7⟩,hc⟩)
 ·have:=hO.rl
  exact decide_eq_true ⟨by omega,by omega,by omega⟩
 ·simp only[cD,V8,WK];omega
theorem KT{code:List YB8}(hl:code.length≤4096)(hb:∀x∈code,0≤x.v∧x.v≤255):aI (mC code) fun r=>OA r.1∧AZ r.2.aT:=by
 unfold mC
 exact aI.bind (UY hl hb) fun y1 h1=>aI.cT (aI.bind (NU h1) fun y2 h2=>aI.EL (aI.cT (aI.bind (KH h2.1.ey h2.2 h2.1.of.lines rfl) fun y3 h3=>aI.ret ⟨h2.1,h3⟩)))
set_option maxHeartbeats 16000000
def oj(code:List YB8):Option Bool:=
 (uE code).bind fun y1=>
 cond y1
 (some true)
 ((mC code).bind fun y2=>
 (fY y2.1 y2.2).bind fun y3=>
 cond (!decide (y3.2=0))
 (some true)
 (cond (!decide (y2.2.kind=6))
 (cond (!decide (y2.2.kind=4))
 (cond (!decide (y2.2.kind=3))
 (cond (!decide (y2.2.kind=5))
 (some true)
 ((fY y3.1 y2.2).bind fun y4=>
 cond (decide ((y3.1.aF.length:Int)=150))
 (some (decide (y4.2=5)))
 ((eD y4.1 y3.1).bind fun y5=>
 cond y5
 (cond (decide (y2.2.kind=6))
 (cond (decide (y4.2=4))
 (some true)
 (cond (!decide (y2.2.kind=6))
 (some (decide (y4.2=6)))
 (some false)))
 (cond (!decide (y2.2.kind=6))
 (some (decide (y4.2=6)))
 (some false)))
 (some false))))
 ((fY y3.1 y2.2).bind fun y6=>
 cond (decide ((y3.1.aF.length:Int)=150))
 (some (decide (y6.2=5)))
 ((eD y6.1 y3.1).bind fun y7=>
 cond y7
 (cond (decide (y2.2.kind=6))
 (cond (decide (y6.2=4))
 (some true)
 (cond (!decide (y2.2.kind=6))
 (some (decide (y6.2=6)))
 (some false)))
 (cond (!decide (y2.2.kind=6))
 (some (decide (y6.2=6)))
 (some false)))
 (some false))))
 ((fY y3.1 y2.2).bind fun y8=>
 cond (decide ((y3.1.aF.length:Int)=150))
 (some (decide (y8.2=5)))
 ((eD y8.1 y3.1).bind fun y9=>
 cond y9
 (cond (decide (y2.2.kind=6))
 (cond (decide (y8.2=4))
 (some true)
 (cond (!decide (y2.2.kind=6))
 (some (decide (y8.2=6)))
 (some false)))
 (cond (!decide (y2.2.kind=6))
 (some (decide (y8.2=6)))
 (some false)))
 (some false))))
 ((fY y3.1 y2.2).bind fun dM=>
 cond (decide ((y3.1.aF.length:Int)=150))
 (some (decide (dM.2=5)))
 ((eD dM.1 y3.1).bind fun jx=>
 cond jx
 (cond (decide (y2.2.kind=6))
 (cond (decide (dM.2=4))
 (some true)
 (cond (!decide (y2.2.kind=6))
 (some (decide (dM.2=6)))
 (some false)))
 (cond (!decide (y2.2.kind=6))
 (some (decide (dM.2=6)))
 (some false)))
 (some false)))))
theorem ok_laws_FnTwice(code:List YB8){r:Bool}(H:oj code=some r):iZ Tryz.prog 3 [.sl (code.map cB8)] [] (vb r) []:=by
 replace H:=H0 H
 unfold oj at H
 refine aA Tryz.func3 rfl Tryz.ntmps3 Tryz.results3 fun Q hQ cR=>?_
 exact xW
instance (code:List YB8):CT Tryz.prog (oj code):=⟨3,[.sl (code.map cB8)],[],fun r=>vb r,fun r=>[],ok_laws_FnTwice code⟩
theorem FF{α:Type}(f:α→Nat)(K:Nat):∀(l:List α),(∀x∈l,f x≤K)→(l.map f).sum≤l.length*K
 | [],_=>by simp
 |a::l,h=>by
  have h1:=h a (by simp)
  have h2:=FF f K l fun x hx=>h x (by simp[hx])
  simp only[List.map_cons,List.sum_cons,VX,Nat.succ_mul]
  omega
theorem KN{c:Nat→List au}(hP:tB w c)(h:uU 9 w):w.aq.length≤100:=by
 obtain⟨u,s,h1,h2⟩:=h
 have hs:=FF (fun o:az=>o.aE.length) (6*(1+min u s)) w.ah fun o ho=>(h2 o ho).1
 rw[hP.sum]at hs
 have hm:w.ah.length+2*min u s≤9:=by omega
 generalize min u s=m at *
 generalize w.ah.length=a at *
 have:m=0∨m=1∨m=2∨m=3∨m=4:=by omega
 rcases this with rfl|rfl|rfl|rfl|rfl<;>omega
theorem JV{w x:av}{n:Nat}(hD:qI w.aa)(ik:pL w)(hC:uU 8 w)(hR:Bl w x n):∃r,eC x=some (r,0):=by
 have hx:=hR.ok
 have nU:x.aa=w.aa:=hR.same.aa
 have hlen:x.ah.length=w.ah.length:=hR.same.len
 obtain⟨hPx,_⟩:=pX hx
 have hCx:uU 9 x:=zy (BB hD) ik rfl hC hR.same.len fun i o ho=>by
  obtain⟨o',a,b,_⟩:=hR.ord i o ho
  exact⟨o',a,b⟩
 have Uo:=KN hPx hCx
 refine L0 hx fun i o ho hs=>?_
 have PT:dp w.aa o=true:=by rw[←nU];exact hs
 have hi:=(VU.1 ho).1
 have hiw:=VT (show i<w.ah.length by omega)
 obtain⟨o',a,_,c⟩:=hR.ord i _ hiw
 rw[ho]at a
 obtain rfl:=VV a
 have hw:w.ah[i]?=some o:=by
  rcases c with c|⟨_,c⟩
  ·rw[hiw,←c]
  ·rw[PT]at c;cases c
 obtain⟨bs,b1,b2,b3⟩:=hR.none i o hw ho PT
 refine Lo hPx hx.fit.ae Uo ho hs b1 (by rw[nU];exact b2) ?_
 rw[nU,hR.same.ae,hR.same.now];exact b3
theorem VE{l:List bL}(hl:l.length≤1048576):gN l l=some true:=vO (F:=gN) (B:=kR) (fun _ _=>rfl) (fun _ _ _=>rfl) hl
theorem VB(hl:l.length≤1048576):gL l l=some true:=vO (F:=gL) (B:=kO) (fun _ _=>rfl) (fun _ _ _=>rfl) hl
theorem Vz{l:List aW}(hl:l.length≤1048576):gK l l=some true:=vO (F:=gK) (B:=kN) (fun _ _=>rfl) (fun _ _ _=>rfl) hl
theorem Ps{o:aM}(h:OF o):eD o o=some true:=by
 have e0:aD (iz o o) NN 0=some (.inl ()):=by
  refine yK (xs:=o.aK) (fun i x hx=>?_) ?_ h.aK
  ·have bF:=(VU.1 hx).1
   have hg:aC o.aK (i:Int)=some x:=by rw[aR];exact hx
   unfold iz
   rw[decide_eq_true (show(i:Int)<o.aK.length by omega),hg]
   simp[xe (h.pf x (VW hx)).fit.2.2]
  ·unfold iz;simp
 have e1:aD (iA o o) NN 0=some (.inl ()):=by
  refine yK (xs:=o.aF) (fun i x hx=>?_) ?_ h.aF
  ·have bF:=(VU.1 hx).1
   have hg:aC o.aF (i:Int)=some x:=by rw[aR];exact hx
   unfold iA
   rw[decide_eq_true (show(i:Int)<o.aF.length by omega),hg]
   simp[Dv (h.af x (VW hx)).fit.2.2]
  ·unfold iA;simp
 unfold eD
 rw[e0,e1]
 simp only[VD h.world,VE h.aY.1,VB h.ba,Hi h.sL,Vz h.lines,VS,V0,cond_false,decide_true,bl]
theorem Hd{l:List aW}{o du en t:Int}{ps:List Int}{l':List aW}(h:oS l o du en ps t=(l',0)):¬(oS l' o du en ps t).2=0:=by
 obtain⟨h1,h2⟩:=Fq h
 obtain⟨rfl,h3,h4⟩:=BC h1
 have hf:=Lg (xs:=l.map bK) (x:=bK ⟨o,3,jS (cn (l.map bK) o 1) du en ps,t⟩) (by rw[←tZ];exact h3)
 have hb:np o 3 (jS (cn (l.map bK) o 1) du en ps) t=true:=by
  have hg:((l++[(⟨o,3,jS (cn (l.map bK) o 1) du en ps,t⟩:aW)]).map bK)[l.length]?=some (bK ⟨o,3,jS (cn (l.map bK) o 1) du en ps,t⟩):=by
   rw[tZ,List.getElem?_append_right (by simp),List.length_map,Nat.sub_self];rfl
  exact(RQ h3 hg).1
 have ha:=zr (x:=⟨o,3,jS (cn (l.map bK) o 1) du en ps,t⟩) hb
 have hs3:cn (l.map bK) o 3=0:=by
  rw[ZaU rfl]at hf
  simp only[VZ,Wa,decide_eq_false_iff_not]at hf
  have:=(S1 h2 o 3).1
  have:=hf.1.1
  simp only[bK]at this
  omega
 have hp:0<cn ((l++[(⟨o,3,jS (cn (l.map bK) o 1) du en ps,t⟩:aW)]).map bK) o 3:=by
  rw[tZ,Kb (o:=o) (k:=3) (x:=bK ⟨o,3,jS (cn (l.map bK) o 1) du en ps,t⟩) rfl rfl,hs3]
  show 0<wrap64 (0+jS (cn (l.map bK) o 1) du en ps)
  simp only at ha
  rw[←oG,aQ (by omega)];omega
 unfold oS
 repeat' split
 any_goals simp
 rename_i hn _
 exact absurd (decide_eq_true hp) hn
theorem twice(code:List YB8)(hb:∀x∈code,0≤x.v∧x.v≤255):oj code=some true:=by
 unfold oj uE
 rw[VS]
 by_cases zG:4096<(code.length:Int)
 ·rw[decide_eq_true zG];rfl
 rw[decide_eq_false zG,cond_false]
 obtain⟨⟨o,a⟩,e,hA,hp⟩:=KT (code:=code) (by omega) hb
 have hA:OA o:=hA
 have hp:PF a.aT:=hp.pf
 rw[e,VS]
 obtain⟨x,c,ex,_,hx⟩:=MF (o:=o) (a:=a) hA.of hp
 simp only[ex,VS]
 rcases hx with⟨hc,rfl⟩ |⟨rfl,hD⟩
 ·rw[decide_eq_false hc];rfl
 simp only[decide_true,V0,cond_false]
 obtain⟨hOx,hVx⟩:=MG hA.of hp hD
 have hf:=hp.fit
 have hVo:=ni hD.ok
 -- the second time
 have key:a.kind=6∨a.kind=4∨a.kind=3∨a.kind=5→∃d,fY x a=some (x,d)∧(x.aF.length=150→d=5)∧(¬x.aF.length=150→d=if a.kind=6 then 4 else 6):=fun hk=>by
  have hpx:=ni hVx
  have xy:=hpx.2.2.2.2.2.2.1
  unfold fY
  simp only[Mp hOx,AE hOx.fit,hVx,hD.act,VS,JW,V0,cond_false]
  by_cases hj:x.aF.length=150
  ·rw[decide_eq_true (show(150:Int)≤x.aF.length by omega)]
   exact⟨5,rfl,fun _=>rfl,fun h=>absurd hj h⟩
  rw[decide_eq_false (show ¬(150:Int)≤x.aF.length by omega),cond_false]
  have hw:=hVo.1
  obtain⟨y,rfl,hy⟩:=hD.how
  have hwy:pL y.world:=⟨hOx.world,hpx.1⟩
  -- ZfQ and the world: Kk is done again
  have hm:a.kind=6→iq (uT y (o.aF++[a])) a=some (4,uT y (o.aF++[a])):=fun h6=>by
   rcases hy with⟨h,_⟩ |⟨_,hy⟩ |⟨h,_⟩
   ·omega
   ·obtain⟨l,z,rfl,h1,hz,hy⟩:=hy
    rcases hy with⟨h,_⟩ |⟨_,hs,hr⟩
    ·exact absurd h6 h
    have bF:a.order≤o.world.ah.length:=by have:=(iH hz).1;have:=(VU.1 (iH hz).2).1;omega
    have ho:=hOx.world.ah
    have hl:=hOx.lines
    simp only[uT]at hl ho
    unfold iq uT
    rw[decide_eq_false (show ¬(o.world.ah.length:Int)<a.order by omega),cond_false,show aL (a.order-1)=a.order-1 from aQ (by omega),hz,VS,Zax hl,VS,decide_eq_true h6,cond_true,decide_eq_true hs,JP hl hA.of.sL,VS,decide_eq_false (Hd hr)]
    rfl
   ·omega
  have hv:a.kind=4∨a.kind=3∨a.kind=5→jo (uT y (o.aF++[a])) a=some (6,uT y (o.aF++[a])):=fun h3=>by
   rcases hy with⟨h,_⟩ |⟨h,_⟩ |⟨_,w,rfl,hy⟩
   ·omega
   ·omega
   unfold jo uT
   rcases hy with⟨hk,bF,rfl⟩ |⟨hk,_,hS⟩ |⟨hk,m,_,_,hR⟩
   ·rw[decide_eq_true hk,cond_true,decide_eq_true (show a.bH≤(D0 o.world a.bH).now from Int.le_refl _)];rfl
   ·rw[decide_eq_false (show ¬a.kind=3 by omega),cond_false,decide_eq_true hk,cond_true]
    obtain⟨r,e1,_,hr⟩:=Ah hwy a.bf
    rw[show kU w a.bf=some r from e1,VS]
    rcases hr with rfl|⟨z,rfl,D4⟩
    ·rfl
    ·refine absurd ?_ D4.new
     show a.bf∈w.ae
     rw[hS.same.ae]
     exact WC.2 (.inr (Wc.2 rfl))
   ·rw[decide_eq_false (show ¬a.kind=3 by omega),cond_false,decide_eq_false (show ¬a.kind=4 by omega),cond_false,decide_eq_true hk,cond_true]
    obtain⟨r,e1⟩:=JV hA.ey ⟨hA.of.world,hw⟩ (hA.TL hw) hR
    rw[show eC w=some (r,0)from e1];rfl
  rcases hk with hk|hk
  ·refine⟨4,?_,fun h=>absurd h hj,fun _=>by rw[if_pos hk]⟩
   rw[decide_eq_false (show ¬a.kind=1 by omega),decide_eq_false (show ¬a.kind=2 by omega),decide_eq_true hk,hm hk];rfl
  ·refine⟨6,?_,fun h=>absurd h hj,fun _=>by rw[if_neg (by omega)]⟩
   rw[decide_eq_false (show ¬a.kind=1 by omega),decide_eq_false (show ¬a.kind=2 by omega),decide_eq_false (show ¬a.kind=6 by omega),hv hk];rfl
 have fin:a.kind=6∨a.kind=4∨a.kind=3∨a.kind=5→((fY x a).bind fun y4=>
  cond (decide ((x.aF.length:Int)=150)) (some (decide (y4.2=5)))
  ((eD y4.1 x).bind fun y5=>cond y5 (cond (decide (a.kind=6)) (cond (decide (y4.2=4)) (some true) (cond (!decide (a.kind=6)) (some (decide (y4.2=6))) (some false))) (cond (!decide (a.kind=6)) (some (decide (y4.2=6))) (some false))) (some false)))=some true:=fun hk=>by
  obtain⟨d,e1,e2,e3⟩:=key hk
  rw[e1,VS]
  by_cases hj:x.aF.length=150
  ·rw[decide_eq_true (show(x.aF.length:Int)=150 by omega),e2 hj];rfl
  ·rw[decide_eq_false (show ¬(x.aF.length:Int)=150 by omega),cond_false,Ps hOx,VS,e3 hj]
   by_cases h6:a.kind=6
   ·rw[decide_eq_true h6,if_pos h6];rfl
   ·rw[decide_eq_false h6,if_neg h6];rfl
 by_cases h6:a.kind=6
 ·simp only[decide_eq_true h6,V0,cond_false]at fin⊢
  exact fin (.inl h6)
 by_cases h4:a.kind=4
 ·simp only[decide_eq_false h6,decide_eq_true h4,V0,Wz,cond_false,cond_true]at fin⊢
  exact fin (.inr (.inl h4))
 by_cases h3:a.kind=3
 ·simp only[decide_eq_false h6,decide_eq_false h4,decide_eq_true h3,V0,Wz,cond_false,cond_true]at fin⊢
  exact fin (.inr (.inr (.inl h3)))
 by_cases h5:a.kind=5
 ·simp only[decide_eq_false h6,decide_eq_false h4,decide_eq_false h3,decide_eq_true h5,V0,Wz,cond_false,cond_true]at fin⊢
  exact fin (.inr (.inr (.inr h5)))
 simp only[decide_eq_false h6,decide_eq_false h4,decide_eq_false h3,decide_eq_false h5,Wz,cond_true]
end Go.Proofs.YtbalgkakkoocjaaGreat
