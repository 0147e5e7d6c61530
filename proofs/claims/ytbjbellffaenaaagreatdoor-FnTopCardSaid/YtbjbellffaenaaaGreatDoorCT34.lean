/- A part of the proof of this claim's last theorem. No condition. -/
import Derived.Test.YtbjbellffaenaaaGreatDoorCT32
import Derived.Test.YtbjbellffaenaaaGreatDoorCT30
import Derived.Test.YtbjbellffaenaaaGreatDoorCT25
import Derived.Test.YtbjbellffaenaaaGreatDoorCT31
set_option linter.all false
set_option maxRecDepth 10000
open Option renaming some->u,none->Zd
open Bool renaming true->D,false->Zf
open Decidable renaming decide->Zg
open List renaming length->Zm
open Option renaming bind->C
open _root_ renaming ByteArray->E,Int->j,List->d,Nat->v,Option->K
open Go.Proofs.Tryz
set_option maxHeartbeats 40000000
namespace Go.Proofs.YtbjbellffaenaaaGreatDoor
open Go.RowKit
variable {b:aI}{q:E}{t:au}
def PH{α:Type}(R:α->α->Prop):d α->Prop
 | []=>True
 | [_]=>True
 |a::b::l=>R a b/\PH R (b::l)
theorem RW{α:Type}{R Q:α->α->Prop}(h:∀a b,R a b->Q a b):∀{l:d α},PH R l->PH Q l
 | [],_=>trivial
 | [_],_=>trivial
 |a::b::l,k=>⟨h a b k.1,RW h k.2⟩
theorem L9{α:Type}{R:α->α->Prop}(ht:∀a b c,R a b->R b c->R a c):∀{l:d α},PH R l->l.Pairwise R
 | [],_=>.nil
 | [a],_=>List.pairwise_singleton R a
 |a::b::l,h=>by
  have ih:=L9 ht h.2;refine List.pairwise_cons.2 ⟨λx hx=>?_,ih⟩
  rcases List.mem_cons.1 hx with rfl|hx
  ·exact h.1
  ·exact ht _ _ _ h.1 ((List.pairwise_cons.1 ih).1 x hx)
theorem Zdl(a b c:aI)(h1:rh a b)(h2:rh b c):rh a c:=(AR _ _).1 (Hy.trans _ _ _ ((AR _ _).2 h1) ((AR _ _).2 h2))
theorem ZiJ(a:aI):¬rh a a:=(AS _ _).1 (Hy.irrefl a)
def TC(n:ab)(a b:aI):Prop:=rh a b/\(oU n a=D->oU n b=D->dT n a b=u D)
structure Std(n:ab)(i:v)(b:aI)(q:E):Prop where
 aR:b.aR=((i+1:v):j)
 kind:b.kind=1\/b.kind=2
 spot:oU n b=D->bF n b=u ⟨q,b.aQ⟩
section
variable {n:ab} (hf:cD n) (hn:aX n=u D) {i:v}
include hf hn
theorem NR(hb:Std n i b q)(ht:fA n t=D)(hq:ic n t=q)(hl:b.aQ<=bY n t):TC n b (ja n i t):=by
 obtain⟨y,hy,_⟩:=cZ hf ht;obtain⟨t1,_⟩:=bX hf hn ht;have f1:ic n t=y.ar:=by unfold ic;simp_all
 have hk:=hb.kind;have e1:(ja n i t).aQ=bY n t:=rfl;have e2:(ja n i t).aR=((i+1:v):j):=rfl;have e3:(ja n i t).kind=3:=rfl;have bD:rh b (ja n i t):=by
  unfold rh;rw[e1,e2,e3,hb.aR];omega
 refine⟨bD,λh1 h2=>?_⟩
 exact D0 hf h1 h2 (hb.aR.trans e2.symm) bD YA (hb.spot h1) (DO hf h2 (y:=y) e3 hy t1) YG hl
theorem UI(ht:fA n t=D):TC n (ja n i t) (mG n i t):=by
 obtain⟨_,_,t3,t4,_⟩:=bX hf hn ht;have e1:(ja n i t).aQ=bY n t:=rfl;have e2:(mG n i t).aQ=cH n t:=rfl;have bD:rh (ja n i t) (mG n i t):=by
  unfold rh;omega
 exact⟨bD,λh1 h2=>D1 hf h1 h2 rfl bD (by show ¬(3:j)=4;omega) rfl rfl rfl⟩
theorem Zbf(ht:fA n t=D):Std n i (mG n i t) (bB n t):=by
 obtain⟨y,hy,_⟩:=cZ hf ht;have f2:bB n t=y.aZ:=by unfold bB;simp_all
 refine⟨rfl,.inr rfl,λh=>?_⟩
 rw[f2];exact DP hf h rfl hy
theorem Zbd(hb:Std n i b q)(hk:b.kind=2){e:j}(he:b.aQ=e):TC n b ⟨((i+1:v):j),e,4,q,⟨0,0⟩⟩:=by
 have bD:rh b ⟨((i+1:v):j),e,4,q,⟨0,0⟩⟩:=by
  unfold rh;simp only;rw[hb.aR,hk,he];omega
 refine⟨bD,λh1 h2=>?_⟩
 exact D0 hf h1 h2 hb.aR bD YA (hb.spot h1) (yl hf h2 YE YE) rfl YG
theorem JH{tl:d aI}{more:d au}:∀(ts:d au) (a:aI) (p:E) (z:j),Std n i a p->a.aQ<=z->gm n p z (ts++more)->
 (∀b q z',Std n i b q->b.aQ<=z'->gm n q z' more->((ts=[]/\b=a/\q=p)\/∃t,ts.getLast?=u t/\b=mG n i t/\q=bB n t)->PH (TC n) (b::tl))->
 PH (TC n) (a::(ts.flatMap λt=>[ja n i t,mG n i t])++tl)
 | [],a,p,z,ha,hz,hc,hT=>hT a p z ha hz hc (.inl ⟨rfl,rfl,rfl⟩)
 |x::ts,a,p,z,ha,hz,hc,hT=>by
  obtain⟨c1,c2,c3,c4⟩:=hc;have Av:=(iH hn).1;have ih:=JH ts (mG n i x) (bB n x) (cH n x+n.change) (Zbf hf hn c1) (by show cH n x<=_;omega) c4 λb q z' hb xB hc' hl=>hT b q z' hb xB hc' (.inr (by
   grind))
  rw[List.flatMap_cons];exact⟨NR hf hn ha c1 c2 YA,UI hf hn c1,ih⟩
end
theorem Zaa{α:Type}{l:d α}{g:j}(h0:0<g)(h1:g<=Zm l):(l.take g.toNat).getLast?=l[(g-1).toNat]?:=by
 rw[List.getLast?_eq_getElem?,List.length_take,Nat.min_eq_left YA,List.getElem?_take_of_lt YA,show g.toNat-1=(g-1).toNat by omega]
section
variable {w:aw} (h:oc w) {i:v} {o:ay} (ho:w.ae[i]?=u o)
include h ho
theorem Zdp:PH (TC w.aa) (my w.aa i o):=by
 have hok:=iV h.fit h.ok ho;have tV:=h.state ho;have hf:=h.fit.dp;have hp:=h.parts;have Av:=yC hf h.dp (h.fit.aE o (List.mem_of_getElem? ho)) hok.Zb2;have uu:=hok.aQ;rw[aV YA,<-List.take_append_drop o.aH.toNat o.aE]at Av
 have hs0:Std w.aa i (⟨((i+1:v):j),o.aQ,1,o.ar,⟨0,0⟩⟩:aI) o.ar:=⟨rfl,.inl rfl,λhk=>DQ hf hk YE YE⟩
 unfold my;refine JH hf h.dp (more:=o.aE.drop o.aH.toNat) _ _ o.ar (o.aQ+1) hs0 YD Av λb q z hb hz hc hl=>?_
 by_cases h2:o.state=2
 ·rw[if_pos h2]
  rcases tV.cases with k|⟨_,_,_,t,k1,k2,k3⟩ |k
  ·omega
  ·obtain⟨bD,hte⟩:=List.getElem?_eq_some_iff.1 k1
   rw[List.drop_eq_getElem_cons bD,hte]at hc
   rw[k1];have:=hc.2.2.1;exact⟨NR hf h.dp hb hc.1 hc.2.1 YA,trivial⟩
  omega
 rw[if_neg h2]
 by_cases h3:o.state=3
 ·rw[if_pos h3]
  rcases tV.cases with k|k|⟨_,_,e1,e2,e3,e4⟩
  ·omega
  ·omega
  ·have htl:=Zaa (l:=o.aE) e3 YA
   rcases hl with⟨hl,_⟩ |⟨t,ht,rfl,rfl⟩
   ·simp_all
   ·rw[htl]at ht
    have zL:bB w.aa t=o.aZ:=by
     unfold pK at e1
     simp_all
    rw[<-zL];exact⟨Zbd hf h.dp hb rfl (e4 t ht).symm,trivial⟩
 ·rw[if_neg h3];exact trivial
end
theorem I6:∀{l:d aI},(∀th,(td th l).Nodup)->l.Nodup
 | [],_=>.nil
 |x::l,h=>by
  refine List.nodup_cons.2 ⟨λhx=>?_,I6 λth=>?_⟩
  ·have h1:=h x.aR
   unfold td at h1
   simp_all
  ·have h1:=h th
   unfold td at h1⊢
   grind
theorem Rt{n:ab}{s:aI}(hn:aX n=u D)(h:cz n s=u D):1<=s.aR:=by
 by_cases h1:1<=s.aR
 ·omega
 ·exfalso
  unfold cz at h
  rw[hn]at h
  simp only[Option.bind_some,Bool.not_true,Yx,cO,Yt h1,Bool.false_and,Bool.not_false,Yw]at h
  cases h
section
variable {w:aw} (h:oc w) (hs:Zjk w)
include h hs
structure Told(w:aw)(i:v)(o:ay):Prop where
 Znt:GA w.aa w.aL ((i+1:v):j)=u []
 last:∃s,gJ w.aa w.aL ((i+1:v):j) w.now=u (s,D)
 Vx:o.state=2->∃t,az o.aE o.aH=u t/\pL w.aa w.aL ((i+1:v):j) w.now=u ⟨[],[t]⟩/\jg w.aa w.aL ((i+1:v):j) w.now t=u D
 done:o.state=3->pL w.aa w.aL ((i+1:v):j) w.now=u ⟨[],[]⟩
 wait:o.state=1->oE w.aa w.aL ((i+1:v):j) w.now o.place=u D
 state:o.state=1\/o.state=2\/o.state=3
end
def qL(y2:aD×bl)(s0:j×(d YB8)×j×j×(d bP)×(d j)×j×(d ay)×(d aq)×(d au)×j×(d aI)×(d j)×j×(d cB)×(d bH)×(d j)×(d bf)×(d aP)×(d bk)):K ((j×(d YB8)×j×j×(d bP)×(d j)×j×(d ay)×(d aq)×(d au)×j×(d aI)×(d j)×j×(d cB)×(d bH)×(d j)×(d bf)×(d aP)×(d bk))⊕((d YB8)×j×j×(d bP)×(d j)×j×(d ay)×(d aq)×(d au)×j×(d aI)×(d j)×j×(d cB)×(d bH)×(d j)×(d bf)×(d aP)×(d bk))):=
 cond (Zg (0<s0.1))
 (C (Ev (.un::.un::.be 0 0 0::.un::.be 1 0 0::.be 2 0 0::.be 3 0 0::vi s0.1::(U 36 [])) [u ⟨.of 40,16,[uy]⟩,u ⟨.of 133,3,[[.sl (s0.2.1.map Zl),vi s0.2.2.1,vi s0.2.2.2.1]]⟩,u ⟨.of 40,16,[eD y2.1]⟩,u ⟨.of 40,16,[[.sl (s0.2.2.2.2.1.map cY),.sl (s0.2.2.2.2.2.1.map aW),vi s0.2.2.2.2.2.2.1,.sl (s0.2.2.2.2.2.2.2.1.map bx),.sl (s0.2.2.2.2.2.2.2.2.1.map aG),.sl (s0.2.2.2.2.2.2.2.2.2.1.map bg),vi s0.2.2.2.2.2.2.2.2.2.2.1,.sl (s0.2.2.2.2.2.2.2.2.2.2.2.1.map bA),.sl (s0.2.2.2.2.2.2.2.2.2.2.2.2.1.map aW),vi s0.2.2.2.2.2.2.2.2.2.2.2.2.2.1,.sl (s0.2.2.2.2.2.2.2.2.2.2.2.2.2.2.1.map dV),.sl (s0.2.2.2.2.2.2.2.2.2.2.2.2.2.2.2.1.map dK),.sl (s0.2.2.2.2.2.2.2.2.2.2.2.2.2.2.2.2.1.map aW),.sl (s0.2.2.2.2.2.2.2.2.2.2.2.2.2.2.2.2.2.2.1.map cd),.sl (s0.2.2.2.2.2.2.2.2.2.2.2.2.2.2.2.2.2.1.map bV),.sl (s0.2.2.2.2.2.2.2.2.2.2.2.2.2.2.2.2.2.2.2.map fQ)]]⟩]) λ_=>
 C (rF 8 [3]) λ_=>
 C (bw [1]) λ_=>
 C (oO (⟨s0.2.1,s0.2.2.1,s0.2.2.2.1⟩:bl) (⟨(⟨(⟨s0.2.2.2.2.1,s0.2.2.2.2.2.1,s0.2.2.2.2.2.2.1⟩:ab),s0.2.2.2.2.2.2.2.1,s0.2.2.2.2.2.2.2.2.1,s0.2.2.2.2.2.2.2.2.2.1,s0.2.2.2.2.2.2.2.2.2.2.1,s0.2.2.2.2.2.2.2.2.2.2.2.1,s0.2.2.2.2.2.2.2.2.2.2.2.2.1,s0.2.2.2.2.2.2.2.2.2.2.2.2.2.1⟩:aw),s0.2.2.2.2.2.2.2.2.2.2.2.2.2.2.1,s0.2.2.2.2.2.2.2.2.2.2.2.2.2.2.2.1,s0.2.2.2.2.2.2.2.2.2.2.2.2.2.2.2.2.1,s0.2.2.2.2.2.2.2.2.2.2.2.2.2.2.2.2.2.2.1,s0.2.2.2.2.2.2.2.2.2.2.2.2.2.2.2.2.2.1,s0.2.2.2.2.2.2.2.2.2.2.2.2.2.2.2.2.2.2.2⟩:aD)) λy5=>
 C (kr (⟨(⟨(⟨s0.2.2.2.2.1,s0.2.2.2.2.2.1,s0.2.2.2.2.2.2.1⟩:ab),s0.2.2.2.2.2.2.2.1,s0.2.2.2.2.2.2.2.2.1,s0.2.2.2.2.2.2.2.2.2.1,s0.2.2.2.2.2.2.2.2.2.2.1,s0.2.2.2.2.2.2.2.2.2.2.2.1,s0.2.2.2.2.2.2.2.2.2.2.2.2.1,s0.2.2.2.2.2.2.2.2.2.2.2.2.2.1⟩:aw),s0.2.2.2.2.2.2.2.2.2.2.2.2.2.2.1,s0.2.2.2.2.2.2.2.2.2.2.2.2.2.2.2.1,s0.2.2.2.2.2.2.2.2.2.2.2.2.2.2.2.2.1,s0.2.2.2.2.2.2.2.2.2.2.2.2.2.2.2.2.2.2.1,s0.2.2.2.2.2.2.2.2.2.2.2.2.2.2.2.2.2.1,s0.2.2.2.2.2.2.2.2.2.2.2.2.2.2.2.2.2.2.2⟩:aD) y5.1) λy6=>
 u (.inl ((aJ (s0.1-1)),y5.2.b,y5.2.i,y5.2.h,y6.1.world.aa.aC,y6.1.world.aa.off,y6.1.world.aa.change,y6.1.world.ae,y6.1.world.av,y6.1.world.ak,y6.1.world.now,y6.1.world.aL,y6.1.world.skip,y6.1.world.br,y6.1.bb,y6.1.bd,y6.1.aU,y6.1.lines,y6.1.aK,y6.1.aF)))
 (u (.inr (s0.2.1,s0.2.2.1,s0.2.2.2.1,s0.2.2.2.2.1,s0.2.2.2.2.2.1,s0.2.2.2.2.2.2.1,s0.2.2.2.2.2.2.2.1,s0.2.2.2.2.2.2.2.2.1,s0.2.2.2.2.2.2.2.2.2.1,s0.2.2.2.2.2.2.2.2.2.2.1,s0.2.2.2.2.2.2.2.2.2.2.2.1,s0.2.2.2.2.2.2.2.2.2.2.2.2.1,s0.2.2.2.2.2.2.2.2.2.2.2.2.2.1,s0.2.2.2.2.2.2.2.2.2.2.2.2.2.2.1,s0.2.2.2.2.2.2.2.2.2.2.2.2.2.2.2.1,s0.2.2.2.2.2.2.2.2.2.2.2.2.2.2.2.2.1,s0.2.2.2.2.2.2.2.2.2.2.2.2.2.2.2.2.2.1,s0.2.2.2.2.2.2.2.2.2.2.2.2.2.2.2.2.2.2.1,s0.2.2.2.2.2.2.2.2.2.2.2.2.2.2.2.2.2.2.2)))
instance (y2:aD×bl):bm (qL y2):=⟨λs0=>(.un::.un::.be 0 0 0::.un::.be 1 0 0::.be 2 0 0::.be 3 0 0::vi s0.1::(U 36 [])),λs0=>[u ⟨.of 40,16,[uy]⟩,u ⟨.of 133,3,[[.sl (s0.2.1.map Zl),vi s0.2.2.1,vi s0.2.2.2.1]]⟩,u ⟨.of 40,16,[eD y2.1]⟩,u ⟨.of 40,16,[[.sl (s0.2.2.2.2.1.map cY),.sl (s0.2.2.2.2.2.1.map aW),vi s0.2.2.2.2.2.2.1,.sl (s0.2.2.2.2.2.2.2.1.map bx),.sl (s0.2.2.2.2.2.2.2.2.1.map aG),.sl (s0.2.2.2.2.2.2.2.2.2.1.map bg),vi s0.2.2.2.2.2.2.2.2.2.2.1,.sl (s0.2.2.2.2.2.2.2.2.2.2.2.1.map bA),.sl (s0.2.2.2.2.2.2.2.2.2.2.2.2.1.map aW),vi s0.2.2.2.2.2.2.2.2.2.2.2.2.2.1,.sl (s0.2.2.2.2.2.2.2.2.2.2.2.2.2.2.1.map dV),.sl (s0.2.2.2.2.2.2.2.2.2.2.2.2.2.2.2.1.map dK),.sl (s0.2.2.2.2.2.2.2.2.2.2.2.2.2.2.2.2.1.map aW),.ms 4,.sl (s0.2.2.2.2.2.2.2.2.2.2.2.2.2.2.2.2.2.1.map bV),.ms 5]]⟩,u ⟨.of 58,7,s0.2.2.2.2.2.2.2.2.2.2.2.2.2.2.2.2.2.2.1.map cd⟩,u ⟨.of 60,13,s0.2.2.2.2.2.2.2.2.2.2.2.2.2.2.2.2.2.2.2.map fQ⟩]⟩
def nI(code:d YB8):K (aD×(d bk)):=
 C (qJ code) λy1=>
 C (bw [1]) λ_=>
 C (oM y1) λy2=>
 C (Ev (.un::.un::.be 0 0 0::.un::.be 1 0 0::.be 2 0 0::(U 38 [])) [u ⟨.of 40,16,[uy]⟩,u ⟨.of 133,3,[[.sl (y2.2.b.map Zl),vi y2.2.i,vi y2.2.h]]⟩,u ⟨.of 40,16,[eD y2.1]⟩]) λ_=>
 C (gS y2.1) λy3=>
 C (bw [1]) λ_=>
 C (aA y2.2 9) λy4=>
 (aB (qL y2) NN (y4.1,y4.2.b,y4.2.i,y4.2.h,y3.world.aa.aC,y3.world.aa.off,y3.world.aa.change,y3.world.ae,y3.world.av,y3.world.ak,y3.world.now,y3.world.aL,y3.world.skip,y3.world.br,(y3.bb:d cB),(y3.bd:d bH),(y3.aU:d j),(y3.lines:d bf),y3.aK,y3.aF)).bind (λo0=>
 C (bw [1]) λ_=>
 C (cS (⟨o0.1,o0.2.1,o0.2.2.1⟩:bl) 3) λy7=>
 cond y7.1
 (C (bw [1,4,5]) λ_=>
 C (kT y7.2 (⟨(⟨(⟨o0.2.2.2.1,o0.2.2.2.2.1,o0.2.2.2.2.2.1⟩:ab),o0.2.2.2.2.2.2.1,o0.2.2.2.2.2.2.2.1,o0.2.2.2.2.2.2.2.2.1,o0.2.2.2.2.2.2.2.2.2.1,o0.2.2.2.2.2.2.2.2.2.2.1,o0.2.2.2.2.2.2.2.2.2.2.2.1,o0.2.2.2.2.2.2.2.2.2.2.2.2.1⟩:aw),o0.2.2.2.2.2.2.2.2.2.2.2.2.2.1,o0.2.2.2.2.2.2.2.2.2.2.2.2.2.2.1,o0.2.2.2.2.2.2.2.2.2.2.2.2.2.2.2.1,o0.2.2.2.2.2.2.2.2.2.2.2.2.2.2.2.2.2.1,o0.2.2.2.2.2.2.2.2.2.2.2.2.2.2.2.2.1,o0.2.2.2.2.2.2.2.2.2.2.2.2.2.2.2.2.2.2⟩:aD)) λy8=>
 C (cf (bn (Zm (y8.2.2.aF:d bk)+Zm ([y8.1]:d bk)) 136)) λ_=>
 u (y2.1,((y8.2.2.aF:d bk)++[y8.1])))
 (u (y2.1,o0.2.2.2.2.2.2.2.2.2.2.2.2.2.2.2.2.2.2)))
instance (code:d YB8):CT prog (nI code):=⟨5,[.sl (code.map Zl)],[],λr=>.tu [.ag (eD r.1),.ms 0],λr=>[u ⟨.of 60,13,r.2.map fQ⟩],cw (nI.eq_1 ..) func5 ntmps5 results5⟩
def xF(code:d YB8):K Bool:=
 u (Zg (4096<(Zm code:j)))
instance (code:d YB8):CT prog (xF code):=⟨4,[.sl (code.map Zl)],[],λr=>vb r,λr=>[],cw (xF.eq_1 ..) func4 ntmps4 results4⟩
