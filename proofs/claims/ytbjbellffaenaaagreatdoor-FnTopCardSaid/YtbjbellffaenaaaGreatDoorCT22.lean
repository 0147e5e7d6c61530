/- A part of the proof of this claim's last theorem. No condition. -/
import Derived.Test.YtbjbellffaenaaaGreatDoorCT15
import Derived.Test.YtbjbellffaenaaaGreatDoorCT16
import Derived.Test.YtbjbellffaenaaaGreatDoorCT13
import Derived.Test.YtbjbellffaenaaaGreatDoorCT17
set_option linter.all false
set_option maxRecDepth 10000
open Option renaming some->v,none->Zd
open Bool renaming true->Ze,false->M
open Decidable renaming decide->K
open List renaming length->G
open Option renaming bind->D
open _root_ renaming Int->g,List->d,Nat->O,Option->C,Unit->V,cond->j
open Go.Proofs.YtbjbellffaenaaaGreatDoor renaming NN->Y,YA->F,aJ->J,aV->R,aW->Z,ab->S,aq->W,au->L,az->T,bl->X,vi->E
open Go.Proofs.Tryz
set_option maxHeartbeats 40000000
namespace Go.Proofs.YtbjbellffaenaaaGreatDoor
open BitVec renaming ofInt->Wf
open Go.RowKit
variable {β:Type}{Q:β->Prop}{f:V->C β}{x:C β}
def lf(bG:g)(s0:g×g×g×g×(d bP)×(d g)×(d ay)×(d W)×(d L)×(d aI)×(d g)):C ((g×g×g×g×(d bP)×(d g)×(d ay)×(d W)×(d L)×(d aI)×(d g))⊕(g×g×g×(d bP)×(d g)×(d ay)×(d W)×(d L)×(d aI)×(d g))):=
 j (K (0<=s0.1))
 (j (K (s0.1<=bG))
 (D (bw [1,2,3,4,5,6,7,8]) λ_=>
 D (nD (⟨(⟨s0.2.2.2.2.1,s0.2.2.2.2.2.1,s0.2.1⟩:S),s0.2.2.2.2.2.2.1,s0.2.2.2.2.2.2.2.1,s0.2.2.2.2.2.2.2.2.1,s0.2.2.1,s0.2.2.2.2.2.2.2.2.2.1,s0.2.2.2.2.2.2.2.2.2.2,s0.2.2.2.1⟩:aw) s0.1) λy5=>
 D (iL y5) λy6=>
 v (.inl (y6,y5.aa.change,y5.now,y5.br,y5.aa.aC,y5.aa.off,y5.ae,y5.av,y5.ak,y5.aL,y5.skip)))
 (v (.inr (s0.2.1,s0.2.2.1,s0.2.2.2.1,s0.2.2.2.2.1,s0.2.2.2.2.2.1,s0.2.2.2.2.2.2.1,s0.2.2.2.2.2.2.2.1,s0.2.2.2.2.2.2.2.2.1,s0.2.2.2.2.2.2.2.2.2.1,s0.2.2.2.2.2.2.2.2.2.2))))
 (v (.inr (s0.2.1,s0.2.2.1,s0.2.2.2.1,s0.2.2.2.2.1,s0.2.2.2.2.2.1,s0.2.2.2.2.2.2.1,s0.2.2.2.2.2.2.2.1,s0.2.2.2.2.2.2.2.2.1,s0.2.2.2.2.2.2.2.2.2.1,s0.2.2.2.2.2.2.2.2.2.2)))
instance (bG:g):bm (lf bG):=⟨λs0=>(.un::E bG::.un::.un::.be 0 0 0::.be 1 0 0::E s0.1::(U 29 [])),λs0=>[v ⟨.of 33,10,[zg]⟩,v ⟨.of 33,10,[[.ms 2,.ms 3,E s0.2.1,.ms 4,.ms 5,.ms 6,E s0.2.2.1,.ms 7,.ms 8,E s0.2.2.2.1]]⟩,v ⟨.of 101,6,s0.2.2.2.2.1.map cY⟩,v ⟨.of 3,1,s0.2.2.2.2.2.1.map Z⟩,v ⟨⟨63,v 48⟩,11,s0.2.2.2.2.2.2.1.map bx⟩,v ⟨.of 50,4,s0.2.2.2.2.2.2.2.1.map aG⟩,v ⟨.of 48,2,s0.2.2.2.2.2.2.2.2.1.map bg⟩,v ⟨.of 89,6,s0.2.2.2.2.2.2.2.2.2.1.map bA⟩,v ⟨.of 3,1,s0.2.2.2.2.2.2.2.2.2.2.map Z⟩]⟩
def kQ(w:aw)(bG:g):C aw:=
 D (eG w) λy1=>
 D (fR w) λy2=>
 j (!y2)
 (v y1)
 (D (ba bG w.now 100000) λy3=>
 j (!y3)
 (v y1)
 (D (iL y1) λy4=>
 (aB (lf bG) Y (y4,y1.aa.change,y1.now,y1.br,y1.aa.aC,y1.aa.off,y1.ae,y1.av,y1.ak,y1.aL,y1.skip)).bind (λo0=>
 v (⟨(⟨o0.2.2.2.1,o0.2.2.2.2.1,o0.1⟩:S),o0.2.2.2.2.2.1,o0.2.2.2.2.2.2.1,o0.2.2.2.2.2.2.2.1,bG,o0.2.2.2.2.2.2.2.2.1,o0.2.2.2.2.2.2.2.2.2,o0.2.2.1⟩:aw))))
instance (w:aw)(bG:g):CT prog (kQ w bG):=⟨115,[.ag (cL w),E bG],[],λr=>.ag [.ms 0,.ms 1,E r.aa.change,.ms 2,.ms 3,.ms 4,E r.now,.ms 5,.ms 6,E r.br],λr=>[v ⟨.of 101,6,r.aa.aC.map cY⟩,v ⟨.of 3,1,r.aa.off.map Z⟩,v ⟨⟨63,v 48⟩,11,r.ae.map bx⟩,v ⟨.of 50,4,r.av.map aG⟩,v ⟨.of 48,2,r.ak.map bg⟩,v ⟨.of 89,6,r.aL.map bA⟩,v ⟨.of 3,1,r.skip.map Z⟩],ck (kQ.eq_1 ..) func115 ntmps115 results115⟩
def mB(bG:g)(s0:g×g×g×g×(d bP)×(d g)×(d ay)×(d W)×(d L)×(d aI)×(d g)):C ((g×g×g×g×(d bP)×(d g)×(d ay)×(d W)×(d L)×(d aI)×(d g))⊕(g×g×g×(d bP)×(d g)×(d ay)×(d W)×(d L)×(d aI)×(d g))):=
 j (K (s0.1<240))
 (D (oR (⟨(⟨s0.2.2.2.2.1,s0.2.2.2.2.2.1,s0.2.1⟩:S),s0.2.2.2.2.2.2.1,s0.2.2.2.2.2.2.2.1,s0.2.2.2.2.2.2.2.2.1,s0.2.2.1,s0.2.2.2.2.2.2.2.2.2.1,s0.2.2.2.2.2.2.2.2.2.2,s0.2.2.2.1⟩:aw)) λy4=>
 j (K (y4<0))
 (v (.inr (s0.2.1,s0.2.2.1,s0.2.2.2.1,s0.2.2.2.2.1,s0.2.2.2.2.2.1,s0.2.2.2.2.2.2.1,s0.2.2.2.2.2.2.2.1,s0.2.2.2.2.2.2.2.2.1,s0.2.2.2.2.2.2.2.2.2.1,s0.2.2.2.2.2.2.2.2.2.2)))
 (j (K (bG<y4))
 (v (.inr (s0.2.1,s0.2.2.1,s0.2.2.2.1,s0.2.2.2.2.1,s0.2.2.2.2.2.1,s0.2.2.2.2.2.2.1,s0.2.2.2.2.2.2.2.1,s0.2.2.2.2.2.2.2.2.1,s0.2.2.2.2.2.2.2.2.2.1,s0.2.2.2.2.2.2.2.2.2.2)))
 (D (bw [1,2,3,4,5,6,7,8]) λ_=>
 D (pV (⟨(⟨s0.2.2.2.2.1,s0.2.2.2.2.2.1,s0.2.1⟩:S),s0.2.2.2.2.2.2.1,s0.2.2.2.2.2.2.2.1,s0.2.2.2.2.2.2.2.2.1,s0.2.2.1,s0.2.2.2.2.2.2.2.2.2.1,s0.2.2.2.2.2.2.2.2.2.2,s0.2.2.2.1⟩:aw) y4) λy5=>
 v (.inl ((J (s0.1+1)),y5.aa.change,y5.now,y5.br,y5.aa.aC,y5.aa.off,y5.ae,y5.av,y5.ak,y5.aL,y5.skip)))))
 (v (.inr (s0.2.1,s0.2.2.1,s0.2.2.2.1,s0.2.2.2.2.1,s0.2.2.2.2.2.1,s0.2.2.2.2.2.2.1,s0.2.2.2.2.2.2.2.1,s0.2.2.2.2.2.2.2.2.1,s0.2.2.2.2.2.2.2.2.2.1,s0.2.2.2.2.2.2.2.2.2.2)))
instance (bG:g):bm (mB bG):=⟨λs0=>(.un::E bG::.un::.un::.be 0 0 0::.be 1 0 0::E s0.1::(U 32 [])),λs0=>[v ⟨.of 33,10,[zg]⟩,v ⟨.of 33,10,[[.ms 2,.ms 3,E s0.2.1,.ms 4,.ms 5,.ms 6,E s0.2.2.1,.ms 7,.ms 8,E s0.2.2.2.1]]⟩,v ⟨.of 101,6,s0.2.2.2.2.1.map cY⟩,v ⟨.of 3,1,s0.2.2.2.2.2.1.map Z⟩,v ⟨.of 63,11,s0.2.2.2.2.2.2.1.map bx⟩,v ⟨.of 50,4,s0.2.2.2.2.2.2.2.1.map aG⟩,v ⟨.of 48,2,s0.2.2.2.2.2.2.2.2.1.map bg⟩,v ⟨.of 89,6,s0.2.2.2.2.2.2.2.2.2.1.map bA⟩,v ⟨.of 3,1,s0.2.2.2.2.2.2.2.2.2.2.map Z⟩]⟩
def gG(w:aw)(bG:g):C aw:=
 D (fq w) λy1=>
 D (gH w) λy2=>
 j (!y2)
 (v y1)
 (D (bh bG w.now 100000) λy3=>
 j (!y3)
 (v y1)
 ((aB (mB bG) Y (0,y1.aa.change,y1.now,y1.br,y1.aa.aC,y1.aa.off,y1.ae,y1.av,y1.ak,y1.aL,y1.skip)).bind (λo0=>
 v (⟨(⟨o0.2.2.2.1,o0.2.2.2.2.1,o0.1⟩:S),o0.2.2.2.2.2.1,o0.2.2.2.2.2.2.1,o0.2.2.2.2.2.2.2.1,bG,o0.2.2.2.2.2.2.2.2.1,o0.2.2.2.2.2.2.2.2.2,o0.2.2.1⟩:aw))))
instance (w:aw)(bG:g):CT prog (gG w bG):=⟨147,[.ag (cL w),E bG],[],λr=>.ag [.ms 0,.ms 1,E r.aa.change,.ms 2,.ms 3,.ms 4,E r.now,.ms 5,.ms 6,E r.br],λr=>[v ⟨.of 101,6,r.aa.aC.map cY⟩,v ⟨.of 3,1,r.aa.off.map Z⟩,v ⟨.of 63,11,r.ae.map bx⟩,v ⟨.of 50,4,r.av.map aG⟩,v ⟨.of 48,2,r.ak.map bg⟩,v ⟨.of 89,6,r.aL.map bA⟩,v ⟨.of 3,1,r.skip.map Z⟩],cw (gG.eq_1 ..) func147 ntmps147 results147⟩
def lW(l:d bf)(order:g)(fc:g)(bK:g)(aU:d g)(rq:g):C ((d bf)×g):=
 D (eP l) λy1=>
 j (!y1)
 (D (bO l) λy2=>
 v (y2,1))
 (D (fE aU) λy3=>
 j (!y3)
 (D (bO l) λy4=>
 v (y4,1))
 (D (ba order 1 9999) λy5=>
 j (!y5)
 (D (bO l) λy6=>
 v (y6,1))
 (D (ba rq 0 100000) λy7=>
 j (!y7)
 (D (bO l) λy8=>
 v (y8,1))
 (D (dL l order 1) λy9=>
 D (oF y9 fc bK aU) λdO=>
 j (K (y9=0))
 (D (bO l) λlJ=>
 v (lJ,3))
 (D (jh l order) λlA=>
 j (K (0<lA))
 (D (bO l) λqi=>
 v (qi,3))
 (D (dL l order 3) λoY=>
 j (K (0<oY))
 (D (bO l) λrT=>
 v (rT,2))
 (j (K (dO=0))
 (D (bO l) λpI=>
 v (pI,4))
 (D (lY l (⟨order,3,dO,rq⟩:bf)) λtE=>
 v (tE.1,tE.2)))))))))
instance (l:d bf)(order:g)(fc:g)(bK:g)(aU:d g)(rq:g):CT prog (lW l order fc bK aU rq):=⟨114,[.sl (l.map bV),E order,E fc,E bK,.sl (aU.map Z),E rq],[],λr=>.tu [.ms 0,E r.2],λr=>[v ⟨.of 82,4,r.1.map bV⟩],cw (lW.eq_1 ..) func114 ntmps114 results114⟩
def lS(o:aD)(s0:g):C (g⊕(V⊕Bool)):=
 j (K (s0<(G o.aK:g)))
 (D (T o.aK s0) λy6=>
 D (T o.world.ae s0) λy7=>
 D (lV o.bb o.bd y6) λy8=>
 j (!y8.2)
 (v (.inr (.inr M)))
 (j (!decide (y7.ar=y6.ar))
 (v (.inr (.inr M)))
 (j (!decide (y7.aZ=y6.label.aZ))
 (v (.inr (.inr M)))
 (j (!decide (y7.ax=y6.label.ax))
 (v (.inr (.inr M)))
 (j (!decide (y7.ah=y6.ah))
 (v (.inr (.inr M)))
 (D (dL o.lines (J (s0+1)) 1) λy9=>
 j (!decide (y9=y8.1))
 (v (.inr (.inr M)))
 (v (.inl (J (s0+1))))))))))
 (v (.inr (.inl ())))
instance (o:aD):bm (lS o):=⟨λs0=>(.un::.be 0 0 0::.un::.be 1 0 0::(U 57 (.sl (o.aK.map cd)::E (G o.aK:g)::E s0::(U 92 [])))),λs0=>[v ⟨.of 40,16,[eD o]⟩,v ⟨.of 33,10,[cL o.world]⟩]⟩
def lT(o:aD)(s1:g):C (g⊕(V⊕Bool)):=
 j (K (s1<(G o.lines:g)))
 (D (T o.lines s1) λdO=>
 j (K ((G o.world.ae:g)<dO.order))
 (v (.inr (.inr M)))
 (j (K (o.world.now<dO.aQ))
 (v (.inr (.inr M)))
 (v (.inl (J (s1+1))))))
 (v (.inr (.inl ())))
instance (o:aD):bm (lT o):=⟨λs1=>(.un::.be 0 0 0::.un::.be 1 0 0::(U 121 (.sl (o.lines.map bV)::E (G o.lines:g)::E s1::(U 28 [])))),λs1=>[v ⟨.of 40,16,[eD o]⟩,v ⟨.of 33,10,[cL o.world]⟩]⟩
def lU(o:aD)(s2:g):C (g⊕(V⊕Bool)):=
 j (K (s2<(G o.aF:g)))
 (D (T o.aF s2) λlJ=>
 D (bS lJ) λlA=>
 j (!lA)
 (v (.inr (.inr M)))
 (v (.inl (J (s2+1)))))
 (v (.inr (.inl ())))
instance (o:aD):bm (lU o):=⟨λs2=>(U 146 (.sl (o.aF.map fQ)::E (G o.aF:g)::E s2::(U 7 []))),λs2=>[]⟩
def kJ(o:aD):C Bool:=
 D (fR o.world) λy1=>
 j (!y1)
 (v M)
 (D (kI o.bb) λy2=>
 j (!y2)
 (v M)
 (D (mP o.bd (G o.bb:g)) λy3=>
 j (!y3)
 (v M)
 (D (fE o.aU) λy4=>
 j (!y4)
 (v M)
 (D (eP o.lines) λy5=>
 j (!y5)
 (v M)
 (j (!decide ((G o.aK:g)=(G o.world.ae:g)))
 (v M)
 (j (K (150<(G o.aF:g)))
 (v M)
 ((aB (lS o) Y 0).bind (bj (λo0=>
 (aB (lT o) Y 0).bind (bj (λo1=>
 (aB (lU o) Y 0).bind (bj (λo2=>
 v Ze) (λr=>v r))) (λr=>v r))) (λr=>v r)))))))))
instance (o:aD):CT prog (kJ o):=⟨7,[.ag (eD o)],[],λr=>vb r,λr=>[],cw (kJ.eq_1 ..) func7 ntmps7 results7⟩
def aO{α:Type}(x:C α)(P:α->Prop):Prop:=∃r,x=v r/\P r
theorem aO.bind{α β:Type}{x:C α}{P:α->Prop}{f:α->C β}{Q:β->Prop}(h:aO x P)(k:∀r,P r->aO (f r) Q):aO (x.bind f) Q:=by
 obtain⟨r,rfl,hr⟩:=h
 simp_all
theorem aO.cond{β:Type}{b:Bool}{x y:C β}{Q:β->Prop}(h:b=Ze->aO x Q)(k:b=M->aO y Q):aO (j b x y) Q:=by
 grind
theorem aO.ret{r:β}(h:Q r):aO (v r) Q:=⟨r,rfl,h⟩
theorem aO.of{r:β}(h:x=v r)(h':Q r):aO x Q:=⟨r,h,h'⟩
theorem aO.mono{P Q:β->Prop}(h:aO x P)(k:∀r,P r->Q r):aO x Q:=by
 obtain⟨r,e,hr⟩:=h;exact⟨r,e,k r hr⟩
theorem aO.gC{ρ:d O}(k:aO (f ()) Q):aO ((bw ρ).bind f) Q:=k
theorem aO.drw{wd:O}{fl:d O}(k:aO (f ()) Q):aO ((rF wd fl).bind f) Q:=k
theorem aO.Ev{β:Type}{t:d PV}{m:Mem}{f:V->C β}{Q:β->Prop}(k:aO (f ()) Q):aO ((Go.Proofs.YtbjbellffaenaaaGreatDoor.Ev t m).bind f) Q:=k
theorem aO.Ew{α β:Type}{x:α}{t:α->d PV}{m:α->Mem}{f:α->C β}{Q:β->Prop}(k:aO (f x) Q):aO ((Go.Proofs.YtbjbellffaenaaaGreatDoor.Ew x t m).bind f) Q:=k
theorem aO.cf{β:Type}{b:Bool}{f:V->C β}{Q:β->Prop}(h:b=Ze)(k:aO (f ()) Q):aO ((Go.Proofs.YtbjbellffaenaaaGreatDoor.cf b).bind f) Q:=by
 subst h;exact k
theorem aO.get{α β:Type}{xs:d α}{i:g}{f:α->C β}{Q:β->Prop}(h0:0<=i)(h1:i<G xs)(k:∀x,x∈xs->T xs i=v x->aO (f x) Q):aO ((T xs i).bind f) Q:=by
 have bD:i.toNat<G xs:=F;have e:T xs i=v xs[i.toNat]:=by unfold T;simp_all
 simp_all
def sH{σ ο:Type}(I:O->σ->Prop)(P:ο->Prop)(k:O):σ⊕ο->Prop
 |.inl s'=>∃k',k'<k/\I k' s'
 |.inr o=>P o
theorem aO.loop{σ ο:Type}{body:σ->C (σ⊕ο)}(I:O->σ->Prop){P:ο->Prop}(h:∀k s,I k s->aO (body s) (sH I P k)):∀(N k:O) (s:σ),I k s->k<N->aO (aB body N s) P
 |0,k,s,_,hN=>F
 |N+1,k,s,hI,hN=>by
  obtain⟨r,e,hr⟩:=h k s hI;simp only[aB,e]
  cases r with
  |inr o=>exact⟨o,rfl,hr⟩
  |inl s'=>
   obtain⟨k',hk,hI'⟩:=hr;exact aO.loop I h N k' s' hI' F
theorem iW{a b c:O}(h:a+b<=1099511627776)(hc:c<=128):bn (a+b) c=true:=by
 unfold bn;refine Yi ⟨F,?_⟩;have:(a+b)*c<=1099511627776*128:=Nat.mul_le_mul h hc;omega
structure dU(c:X):Prop where
 i:0<=c.i
 len:c.b.length<=4096
 b:∀x∈c.b,0<=x.v/\x.v<=255
theorem ZaB(x:BitVec IntKind.i64.bits):0<=IntKind.i64.wrap ((x &&& Wf IntKind.i64.bits 255).toNat:g)/\IntKind.i64.wrap ((x &&& Wf IntKind.i64.bits 255).toNat:g)<=255:=by
 have h:(x &&& Wf IntKind.i64.bits 255).toNat<=255:=by
  have e:(Wf IntKind.i64.bits 255).toNat=255:=by rfl
  have:=Nat.and_le_right (n:=x.toNat) (m:=(Wf IntKind.i64.bits 255).toNat)
  simp_all
 have e:=R (n:=((x &&& Wf IntKind.i64.bits 255).toNat:g)) F
 grind
theorem Bj{c:X}(h:dU c):aO (iR c) λr=>(0<=r.1/\r.1<=255)/\dU r.2:=by
 unfold iR;refine aO.cond (λhc=>?_) λhc=>?_
 ·have bD:=Yu hc
  have hl:=h.len;refine aO.get h.i bD λx hx _=>aO.ret ⟨ZaB _,⟨?_,h.len,h.b⟩⟩
  show 0<=J (c.i+1);rw[R (by have:=h.i;omega)]
  have:=h.i;omega
 ·exact aO.ret ⟨ZaB _,⟨h.i,h.len,h.b⟩⟩
theorem bL{c:X}(h:dU c)(n:g):aO (aA c n) λr=>(0<=r.1/\(0<n->r.1<n)/\(n<=0->r.1=0))/\dU r.2:=by
 unfold aA;refine aO.cond (λhc=>?_) λhc=>?_
 ·have:=Yu hc
  exact aO.ret ⟨⟨by simp,λ_=>F,λ_=>rfl⟩,h⟩
 ·have h0:=Yv hc
  refine aO.cond (λhd=>?_) λhd=>?_
  ·refine aO.gC (aO.bind (Bj h) λy hy=>aO.cf (Yi F) (aO.ret ⟨⟨?_,λ_=>?_,λhn=>absurd hn h0⟩,hy.2⟩))
   ·exact Int.tmod_nonneg _ hy.1.1
   ·exact Int.tmod_lt_of_pos _ F
  ·refine aO.gC (aO.bind (Bj h) λy hy=>aO.gC (aO.bind (Bj hy.2) λz hz=>aO.gC (aO.bind (Bj hz.2) λu hu=>aO.cf (Yi F) (aO.ret ⟨⟨?_,λ_=>?_,λhn=>absurd hn h0⟩,hu.2⟩))))
   ·have e1:J (y.1*65536)=y.1*65536:=R F
    have e2:J (z.1*256)=z.1*256:=R F;have e3:J (y.1*65536+z.1*256)=y.1*65536+z.1*256:=R F;have e4:J (y.1*65536+z.1*256+u.1)=y.1*65536+z.1*256+u.1:=R F;simp only[e1,e2,e3,e4];exact Int.tmod_nonneg _ F
   ·exact Int.tmod_lt_of_pos _ F
theorem oV{c:X}(h:dU c)(n:g):aO (cS c n) λr=>dU r.2:=by
 unfold cS;exact aO.gC (aO.bind (bL h n) λy hy=>aO.ret hy.2)
theorem Tg{c:X}(h:dU c){l:d ByteArray}(hl:0<G l):aO (mV c l) λr=>r.1∈l/\dU r.2.1:=by
 unfold mV;exact aO.gC (aO.bind (bL h _) λy hy=>aO.get hy.1.1 (hy.1.2.1 F) λx hx _=>aO.ret ⟨hx,hy.2⟩)
theorem rX{c:X}(h:dU c){l:d g}(hl:0<G l):aO (bZ c l) λr=>r.1∈l/\dU r.2.1:=by
 unfold bZ;exact aO.gC (aO.bind (bL h _) λy hy=>aO.get hy.1.1 (hy.1.2.1 F) λx hx _=>aO.ret ⟨hx,hy.2⟩)
def ur:d ByteArray:=[⟨#[65,77,83]⟩,⟨#[66,82,85]⟩,⟨#[67,68,71]⟩,⟨#[68,85,66]⟩,⟨#[69,68,73]⟩,⟨#[70,82,65]⟩,⟨#[71,79,84]⟩]
theorem w8{c:X}(h:dU c):aO (gy c) λr=>r.1∈ur/\dU r.2:=by
 unfold gy;exact aO.gC (aO.bind (Tg h YE) λy hy=>aO.ret ⟨hy.1,hy.2⟩)
structure Fk(l:bP):Prop where
 ar:l.ar∈ur
 aZ:l.aZ∈ur
 ne:¬l.ar=l.aZ
 start:0<=l.start/\l.start<=1439
 o8:1<=l.o8/\l.o8<=4320
 yr:1<=l.yr/\l.yr<=127
 jb:0<=l.jb/\l.jb<=1000000
theorem Ze9{c:X}(h:dU c):aO (pW c) λr=>Fk r.1/\dU r.2:=by
 unfold pW;refine aO.gC (aO.bind (w8 h) λy1 h1=>aO.gC (aO.bind (w8 h1.2) λy2 h2=>aO.gC (aO.bind (bL h2.2 48) λy3 h3=>aO.gC (aO.bind (bL h3.2 40) λy4 h4=>aO.gC (aO.bind (bL h4.2 127) λy5 h5=>aO.gC (aO.bind (bL h5.2 60) λy6 h6=>?_))))))
 have b3:=h3.1.2.1 F;have b4:=h4.1.2.1 F;have b5:=h5.1.2.1 F;have b6:=h6.1.2.1 F;have ZbJ:aO (aB (px y3 y4 y5 y6) Y (y6.2.b,y6.2.i,y6.2.h,y1.1,y2.1)) λo=>dU ⟨o.1,o.2.1,o.2.2.1⟩/\o.2.2.2.1∈ur/\o.2.2.2.2∈ur/\¬o.2.2.2.1=o.2.2.2.2:=by
  refine aO.loop (λk s=>dU ⟨s.1,s.2.1,s.2.2.1⟩/\s.2.2.2.1∈ur/\s.2.2.2.2∈ur/\(k=1\/(k=0/\¬s.2.2.2.1=s.2.2.2.2))) (λk s hs=>?_) Y 1 _ ⟨h6.2,h1.1,h2.1,.inl rfl⟩ YF
  obtain⟨k1,k2,k3,k4⟩:=hs;unfold px;refine aO.cond (λhc=>?_) λhc=>aO.ret ⟨k1,k2,k3,Yv hc⟩
  have he:=Yu hc;have hk:k=1:=by simp_all
  subst hk;refine aO.gC (aO.bind (Tg k1 YE) λy7 h7=>?_)
  have hy:y7.1∈ur/\¬(⟨#[68,85,66]⟩:ByteArray)=y7.1:=by
   have:=h7.1;simp only[List.mem_cons,List.not_mem_nil,or_false]at this
   rcases this with e|e|e<;>rw[e]<;>exact⟨by simp[ur],by decide +kernel⟩
  have Zmk:(⟨#[68,85,66]⟩:ByteArray)∈ur:=by simp[ur]
  refine aO.cond (λhd=>aO.ret ⟨0,F,h7.2,Zmk,hy.1,.inr ⟨rfl,hy.2⟩⟩) λhd=>aO.ret ⟨0,F,h7.2,k2,hy.1,.inr ⟨rfl,Yv hd⟩⟩
 refine aO.bind ZbJ λo ho=>aO.gC (aO.bind (oV ho.1 2) λy8 h8=>?_)
 have w1:J (30*y3.1)=30*y3.1:=R F;have w2:J (1+y4.1)=1+y4.1:=R F;have w3:J (30*(1+y4.1))=30*(1+y4.1):=R F;have w4:J (1+y5.1)=1+y5.1:=R F;have w5:J (1000*y6.1)=1000*y6.1:=R F;simp only[w1,w2,w3,w4,w5];have xg:∀x:g,x∈[1,1440,(4320:g)]->1<=x/\x<=4320:=λx hx=>by
  grind
 refine aO.cond (λhd=>aO.gC (aO.bind (oV h8 9) λy9 h9=>aO.cond (λhe=>aO.gC (aO.bind (rX h9 YE) λdO EW=>aO.ret ⟨⟨ho.2.1,ho.2.2.1,ho.2.2.2,by grind,xg _ EW.1,by simp,by grind⟩,EW.2⟩)) λhe=>aO.ret ⟨⟨ho.2.1,ho.2.2.1,ho.2.2.2,by grind,by grind,by simp,by grind⟩,h9⟩))
  λhd=>aO.gC (aO.bind (oV h8 9) λy9 h9=>aO.cond (λhe=>aO.gC (aO.bind (rX h9 YE) λdO EW=>aO.ret ⟨⟨ho.2.1,ho.2.2.1,ho.2.2.2,by grind,xg _ EW.1,by grind,by grind⟩,EW.2⟩)) λhe=>aO.ret ⟨⟨ho.2.1,ho.2.2.1,ho.2.2.2,by grind,by grind,by grind,by grind⟩,h9⟩)
structure uA(n:S):Prop where
 len:1<=n.aC.length/\n.aC.length<=14
 bq:∀l∈n.aC,Fk l
 off:n.off=[]\/∃a b:g,n.off=[a,b]/\0<=a/\a<b/\b<=60
 change:0<=n.change/\n.change<=240
theorem Zff{c:X}(h:dU c):aO (oN c 7) λr=>uA r.1/\dU r.2:=by
 unfold oN;refine aO.gC (aO.bind (bL h 9) λy1 h1=>aO.gC (aO.bind (bL h1.2 7) λy2 h2=>?_))
 have b1:=h1.1.2.1 F;have b2:=h2.1.2.1 F;have w1:J (1+y2.1)=1+y2.1:=R F;have ZbJ:aO (aB (om 7 y1) Y (J (1+y2.1),y2.2.b,y2.2.i,y2.2.h,[])) λo=>dU ⟨o.1,o.2.1,o.2.2.1⟩/\1<=G o.2.2.2/\(G o.2.2.2)<=14/\∀l∈o.2.2.2,Fk l:=by
  refine aO.loop (λk s=>s.1=(k:g)/\k<=7/\dU ⟨s.2.1,s.2.2.1,s.2.2.2.1⟩/\(G s.2.2.2.2)+2*k<=14/\(k=0->1<=G s.2.2.2.2)/\∀l∈s.2.2.2.2,Fk l) (λk s hs=>?_) Y (1+y2.1).toNat _ ⟨F,F,h2.2,by grind,λhk=>F,λl hl=>by grind⟩ YF
  obtain⟨k1,k2,k3,k4,k5,k6⟩:=hs;unfold om;refine aO.cond (λhc=>?_) λhc=>aO.ret ⟨k3,k5 YG,by simp_all,k6⟩
  have hk:=Yu hc;have hw:J (s.1-1)=((k-1:O):g):=by rw[R F];omega
  refine aO.gC (aO.bind (Ze9 k3) λy3 h3=>aO.cf (iW YD F) (aO.gC (aO.bind (oV h3.2 3) λy4 h4=>?_)))
  have wi:∀l∈s.2.2.2.2++[y3.1],Fk l:=λl hl=>by
   grind
  have hlen:G (s.2.2.2.2++[y3.1])=G s.2.2.2.2+1:=by simp
  have one:aO (v (Sum.inl (J (s.1-1),y4.2.b,y4.2.i,y4.2.h,s.2.2.2.2++[y3.1])):C ((g×d YB8×g×g×d bP)⊕(d YB8×g×g×d bP)))
   (sH (λk s=>s.1=(k:g)/\k<=7/\dU ⟨s.2.1,s.2.2.1,s.2.2.2.1⟩/\(G s.2.2.2.2)+2*k<=14/\(k=0->1<=G s.2.2.2.2)/\∀l∈s.2.2.2.2,Fk l) (λo=>dU ⟨o.1,o.2.1,o.2.2.1⟩/\1<=G o.2.2.2/\(G o.2.2.2)<=14/\∀l∈o.2.2.2,Fk l) k):=aO.ret ⟨k-1,F,hw,F,h4,by grind,λ_=>by simp,wi⟩
  refine aO.cond (λhd=>aO.cond (λhe=>?_) λhe=>one) λhd=>one
  have hwl:J ((G (s.2.2.2.2++[y3.1]):g)-1)=(G s.2.2.2.2:g):=by rw[hlen,R F];omega
  have ve:T (s.2.2.2.2++[y3.1]) (G s.2.2.2.2:g)=v y3.1:=by rw[aS,List.getElem?_append_right (Nat.le_refl _)];simp
  rw[hwl,ve];simp only[Option.bind_some];refine aO.drw (aO.gC (aO.bind (bL h4 20) λy7 h7=>aO.cf (iW YD F) (aO.ret ⟨k-1,F,hw,F,h7.2,?_,λ_=>?_,λl hl=>?_⟩)))
  ·grind
  ·simp
  ·rcases List.mem_append.1 hl with hl|hl
   ·simp_all
   ·obtain rfl:=List.mem_singleton.1 hl
    obtain⟨a1,a2,a3,a4,a5,a6,a7⟩:=h3.1;have b7:=h7.1.2.1 F;have e1:J (60*y7.1)=60*y7.1:=R F;have e2:J (y3.1.start+60*y7.1)=y3.1.start+60*y7.1:=R F;refine⟨a2,a1,λe=>a3 e.symm,?_,a5,a6,a7⟩
    grind
 refine aO.bind ZbJ λo ho=>aO.gC (aO.bind (oV ho.1 2) λy8 h8=>?_)
 have w2:J (15*y1.1)=15*y1.1:=R F;simp only[w2];refine aO.cond (λhd=>aO.gC (aO.bind (bL h8 3) λy9 h9=>aO.gC (aO.bind (bL h9.2 4) λdO EW=>?_))) λhd=>aO.ret ⟨⟨⟨ho.2.1,ho.2.2.1⟩,ho.2.2.2,.inl rfl,by grind⟩,h8⟩
 have b9:=h9.1.2.1 F;have b10:=EW.1.2.1 F;have w3:J (3+dO.1)=3+dO.1:=R F;exact aO.ret ⟨⟨⟨ho.2.1,ho.2.2.1⟩,ho.2.2.2,.inr ⟨_,_,rfl,F,F,F⟩,by grind⟩,EW.2⟩
theorem Zfh{code:d YB8}(hl:G code<=4096)(hb:∀x∈code,0<=x.v/\x.v<=255):aO (qJ code) dU:=by
 unfold qJ;refine aO.bind (P:=λ_=>True) ?_ λo _=>aO.ret ⟨by simp,hl,hb⟩
 refine aO.loop (λk s=>∃i:O,s.2=(i:g)/\i+k=G code) (λk s hs=>?_) Y (G code) _ ⟨0,rfl,F⟩ YF
 obtain⟨i,hi,hk⟩:=hs;unfold sT;rw[hi];refine aO.cond (λhc=>aO.cond (λhd=>?_) λhd=>aO.ret trivial) λhc=>aO.ret trivial
 have bD:=Yu hc;exact aO.get F bD λx hx _=>aO.ret ⟨k-1,F,i+1,by simp only;rw[R F];omega,F⟩
def iF(n:S)(l:d W)(ak:d L)(ah:g)(aC:g)(y1:(d ByteArray))(y2:g)(s0:g×(d g)):C ((g×(d g))⊕(d g)):=
 j (K (s0.1<aC))
 (j (K (s0.1<(G y1:g)))
 (D (eB n l ak ah y1 s0.2 y2) λy5=>
 v (.inl ((J (s0.1+1)),y5)))
 (v (.inr s0.2)))
 (v (.inr s0.2))
instance (n:S)(l:d W)(ak:d L)(ah:g)(aC:g)(y1:(d ByteArray))(y2:g):bm (iF n l ak ah aC y1 y2):=⟨λs0=>(.un::.sl (l.map aG)::.sl (ak.map bg)::.un::.un::E ah::E aC::.be 0 0 0::(U 7 (.ms 1::E y2::.ms 2::E s0.1::(U 50 [])))),λs0=>[v ⟨.of 27,3,[aT n]⟩,v ⟨.of 9,1,y1.map jQ⟩,v ⟨.of 3,1,s0.2.map Z⟩]⟩
def cW(n:S)(l:d W)(ak:d L)(gn:ByteArray)(mE:g)(ah:g)(aC:g):C (d g):=
 D (dm n) λy1=>
 D (cy y1 gn) λy2=>
 D (fG n l) λy3=>
 j (!y3)
 (v ([]:d g))
 (j (K (y2<0))
 (v ([]:d g))
 (j (K (100000<mE))
 (v ([]:d g))
 (j (K (ah<1))
 (v ([]:d g))
 (j (K (aC<0))
 (v ([]:d g))
 (D (ju y1 y2 mE) λy4=>
 (aB (iF n l ak ah aC y1 y2) Y (0,y4)).bind (λo0=>
 v o0))))))
instance (n:S)(l:d W)(ak:d L)(gn:ByteArray)(mE:g)(ah:g)(aC:g):CT prog (cW n l ak gn mE ah aC):=⟨305,[.ag (aT n),.sl (l.map aG),.sl (ak.map bg),vs gn,E mE,E ah,E aC],[],λr=>.ms 0,λr=>[v ⟨.of 3,1,r.map Z⟩],cw (cW.eq_1 ..) func305 ntmps305 results305⟩
def fK(n:S)(l:d W)(ak:d L)(gn:ByteArray)(rq:g)(ah:g)(y1:(d ByteArray))(y2:g)(y3:g)(y6:g)(s0:g):C (g⊕g):=
 D (cW n l ak gn rq ah s0) λy7=>
 D (T y7 y3) λy8=>
 j (!decide (y8=y6))
 (v (.inl (J (s0+1))))
 (v (.inr s0))
instance (n:S)(l:d W)(ak:d L)(gn:ByteArray)(rq:g)(ah:g)(y1:(d ByteArray))(y2:g)(y3:g)(y6:g):bm (fK n l ak gn rq ah y1 y2 y3 y6):=⟨λs0=>(.un::.sl (l.map aG)::.sl (ak.map bg)::vs gn::.un::E rq::E ah::.be 0 0 0::(U 8 (.ms 1::E y2::E y3::.un::.ms 2::E y6::E s0::(U 97 [])))),λs0=>[v ⟨.of 27,3,[aT n]⟩,v ⟨.of 9,1,y1.map jQ⟩,v ⟨.of 48,2,([]:d L).map bg⟩]⟩
def fL(n:S)(l:d W)(ak:d L)(gn:ByteArray)(rq:g)(ah:g)(y1:(d ByteArray))(y2:g)(s1:g×g×g×(d L)):C ((g×g×g×(d L))⊕(d L)):=
 j (K (0<s1.2.2.1))
 (D (cW n l ak gn rq ah (J (s1.2.2.1-1))) λy9=>
 D (kh n l ak ah y1 y9 y2 s1.1 s1.2.1) λdO=>
 D (cf (bn (G ([dO]:d L)+G (s1.2.2.2:d L)) 16)) λ_=>
 D (T n.aC dO.bq) λlJ=>
 D (cy y1 lJ.ar) λlA=>
 D (T y9 lA) λqi=>
 v (.inl (lA,qi,(J (s1.2.2.1-1)),(([dO]:d L)++s1.2.2.2))))
 (v (.inr s1.2.2.2))
instance (n:S)(l:d W)(ak:d L)(gn:ByteArray)(rq:g)(ah:g)(y1:(d ByteArray))(y2:g):bm (fL n l ak gn rq ah y1 y2):=⟨λs1=>(.un::.sl (l.map aG)::.sl (ak.map bg)::vs gn::.un::E rq::E ah::.be 0 0 0::(U 8 (.ms 1::E y2::E s1.1::.un::.ms 2::E s1.2.1::.un::E s1.2.2.1::(U 96 [])))),λs1=>[v ⟨.of 27,3,[aT n]⟩,v ⟨.of 9,1,y1.map jQ⟩,v ⟨.of 48,2,s1.2.2.2.map bg⟩]⟩
def bI(n:S)(l:d W)(ak:d L)(gn:ByteArray)(aZ:ByteArray)(rq:g)(ah:g):C ((d L)×Bool):=
 D (dm n) λy1=>
 D (cy y1 gn) λy2=>
 D (cy y1 aZ) λy3=>
 D (cW n l ak gn rq ah (G y1:g)) λy4=>
 j (K (y3<0))
 (v (([]:d L),M))
 (j (K ((G y4:g)=0))
 (v (([]:d L),M))
 (D (T y4 y3) λy5=>
 j (K (y5<0))
 (v (([]:d L),M))
 (D (T y4 y3) λy6=>
 (aB (fK n l ak gn rq ah y1 y2 y3 y6) Y 0).bind (λo0=>
 (aB (fL n l ak gn rq ah y1 y2) Y (y3,y6,o0,([]:d L))).bind (λo1=>
 v (o1,Ze))))))
instance (n:S)(l:d W)(ak:d L)(gn:ByteArray)(aZ:ByteArray)(rq:g)(ah:g):CT prog (bI n l ak gn aZ rq ah):=⟨255,[.ag (aT n),.sl (l.map aG),.sl (ak.map bg),vs gn,vs aZ,E rq,E ah],[],λr=>.tu [.ms 0,vb r.2],λr=>[v ⟨.of 48,2,r.1.map bg⟩],cw (bI.eq_1 ..) func255 ntmps255 results255⟩
def pr(w:aw)(t:L)(s0:g×(d g)):C ((g×(d g))⊕(d g)):=
 j (K (s0.1<(G w.ae:g)))
 (D (T w.ae s0.1) λy2=>
 j (K (y2.state=2))
 (D (T y2.aE y2.aH) λy3=>
 j (K (y3=t))
 (D (cf (bn (G (s0.2:d g)+G ([(J (s0.1+1))]:d g)) 8)) λ_=>
 v (.inl ((J (s0.1+1)),((s0.2:d g)++[(J (s0.1+1))]))))
 (v (.inl ((J (s0.1+1)),s0.2))))
 (v (.inl ((J (s0.1+1)),s0.2))))
 (v (.inr s0.2))
instance (w:aw)(t:L):bm (pr w t):=⟨λs0=>(U 3 (.be 0 0 0::.un::.ms 1::(U 8 (.sl (w.ae.map bx)::E (G w.ae:g)::E s0.1::(U 24 []))))),λs0=>[v ⟨.of 48,2,[[E t.bq,E t.day]]⟩,v ⟨.of 3,1,s0.2.map Z⟩]⟩
def mQ(w:aw)(t:L):C (d g):=
 D (fR w) λy1=>
 j (!y1)
 (v ([]:d g))
 ((aB (pr w t) Y (0,([]:d g))).bind (λo0=>
 v o0))
theorem Dn(w:aw)(t:L){r:(d g)}(H:mQ w t=v r):eh prog 39 [.ag (cL w),.ag (bg t)] [] (.ms 0) [v ⟨.of 3,1,r.map Z⟩]:=by
 replace H:=H0 H;unfold mQ at H
 refine je func39 rfl ntmps39 results39 λQ hQ Kf=>?_
 exact LA
instance (w:aw)(t:L):CT prog (mQ w t):=⟨39,[.ag (cL w),.ag (bg t)],[],λr=>.ms 0,λr=>[v ⟨.of 3,1,r.map Z⟩],Dn w t⟩
theorem sM:∀p∈ur,cu p=v Ze/\p.size=3:=λp hp=>by
 unfold ur at hp
 simp only[List.mem_cons,List.not_mem_nil,or_false]at hp
 rcases hp with rfl|rfl|rfl|rfl|rfl|rfl|rfl<;>exact⟨by decide +kernel,by decide +kernel⟩
def cT(c:X)(n:S):C (ByteArray×X):=
 D (dm n) λy1=>
 D (bw [0]) λ_=>
 D (cS c 9) λy2=>
 j y2.1
 (D (bw [0]) λ_=>
 D (gy y2.2) λy3=>
 v (y3.1,y3.2))
 (D (bw [0]) λ_=>
 D (aA y2.2 (G y1:g)) λy4=>
 D (T y1 y4.1) λy5=>
 v (y5,y4.2))
instance (c:X)(n:S):CT prog (cT c n):=⟨82,[.be 0 0 0,.ag (aT n)],[v ⟨.of 133,3,[[.sl (c.b.map Zl),E c.i,E c.h]]⟩],λr=>vs r.1,λr=>[v ⟨.of 133,3,[[.sl (r.2.b.map Zl),E r.2.i,E r.2.h]]⟩],cw (cT.eq_1 ..) func82 ntmps82 results82⟩
def nF(c:X):C (bt×X):=
 D (bw [0]) λ_=>
 D (aA c 3) λy1=>
 D (bw [0]) λ_=>
 D (aA y1.2 1000) λy2=>
 D (bw [0]) λ_=>
 D (gy y2.2) λy3=>
 D (bw [0]) λ_=>
 D (cS y3.2 3) λy4=>
 j y4.1
 (D (bw [0,3]) λ_=>
 D (bZ y4.2 ([0,7,999999999,100000000,123456789])) λy5=>
 v ((⟨(J (1+y1.1)),y5.1,y3.1⟩:bt),y5.2.1))
 (v ((⟨(J (1+y1.1)),y2.1,y3.1⟩:bt),y4.2))
instance (c:X):CT prog (nF c):=⟨150,[.be 0 0 0],[v ⟨.of 133,3,[[.sl (c.b.map Zl),E c.i,E c.h]]⟩],λr=>.ag [E r.1.ax,E r.1.bU,vs r.1.aZ],λr=>[v ⟨.of 133,3,[[.sl (r.2.b.map Zl),E r.2.i,E r.2.h]]⟩],cw (nF.eq_1 ..) func150 ntmps150 results150⟩
