/- A part of the proof of the statement in the last file of this claim: texts on the language of the program and on its functions. No condition. -/
import Derived.Test.YtbalgkakkoocjaaGreatCJ20
import Derived.Test.YtbalgkakkoocjaaGreatCJ34
import Derived.Test.YtbalgkakkoocjaaGreatCJ35
import Derived.Test.YtbalgkakkoocjaaGreatCJ11
import Derived.Test.YtbalgkakkoocjaaGreatCJ1
set_option linter.unusedVariables false
set_option linter.unusedSimpArgs false
set_option linter.unusedSectionVars false
open Option renaming some->ZA,none->ZB
open Bool renaming true->ZC,false->ZD
open Decidable renaming decide->ZE
set_option maxHeartbeats 40000000
namespace Go.Proofs.YtbalgkakkoocjaaGreat
open List renaming take_of_length_le->Xa,length_take->V3
open Option renaming bind_some->VE
set_option maxRecDepth 10000
open Go.RowKit
set_option maxRecDepth 100000
variable {l:List ZJ}{n:Nat}{o x:ZI}{ο σ:Type}{body:σ->Option (σ⊕ο)}
theorem PZ{s s':σ}(h:body s=ZA (.inl s')):aD body (n+1) s=aD body n s':=by
 rw[aD,h];rfl
theorem Ax{s:σ}{o:ο}(h:body s=ZA (.inr o)):aD body (n+1) s=ZA o:=by
 rw[aD,h];rfl
theorem JS:cZ l 0 (if 150<(l.length:Int)then 150 else(l.length:Int))=l.take 150:=by
 have h:(if 150<(l.length:Int)then 150 else(l.length:Int)).toNat=min 150 l.length:=by split<;>omega
 unfold cZ;simp only[Int.toNat_zero,h,List.extract_eq_take_drop,List.drop_zero,Nat.sub_zero]
 rcases Nat.le_total 150 l.length with h1|h1
 ·rw[Nat.min_eq_left h1]
 ·rw[Nat.min_eq_right h1,Xa (Nat.le_refl _),Xa h1]
theorem Zdp(hx:OF x)(hv:x=o\/gC x=ZC){a:ZJ}(ha:PF a.av):∃y c,dT x a=ZA (y,c)/\ju x a=ZA (y,c)/\(c=0->OF y/\gC y=ZC):=by
 obtain⟨g,c,h1,h2,h3⟩:=U8 hx ha;refine⟨g,c,h1,h2,λhc=>?_⟩
 rcases h3 with⟨h,_⟩ |⟨_,hd⟩
 ·exact absurd hc h
 ·exact U9 hx ha hd
def fin(l:List ZJ)(o0:(List bM)×(List Int)×Int×(List ay)×(List aj)×(List aw)×Int×(List bc)×(List Int)×Int×(List bF)×(List bH)×(List Int)×(List aU)×(List aM)×(List ZJ)):Option (ZI×Int):=cond (ZE (150<(l.length:Int))) (ZA (⟨⟨⟨o0.1,o0.2.1,o0.2.2.1⟩,o0.2.2.2.1,o0.2.2.2.2.1,o0.2.2.2.2.2.1,o0.2.2.2.2.2.2.1,o0.2.2.2.2.2.2.2.1,o0.2.2.2.2.2.2.2.2.1,o0.2.2.2.2.2.2.2.2.2.1⟩,o0.2.2.2.2.2.2.2.2.2.2.1,o0.2.2.2.2.2.2.2.2.2.2.2.1,o0.2.2.2.2.2.2.2.2.2.2.2.2.1,o0.2.2.2.2.2.2.2.2.2.2.2.2.2.2.1,o0.2.2.2.2.2.2.2.2.2.2.2.2.2.1,o0.2.2.2.2.2.2.2.2.2.2.2.2.2.2.2⟩,150)) (ZA (⟨⟨⟨o0.1,o0.2.1,o0.2.2.1⟩,o0.2.2.2.1,o0.2.2.2.2.1,o0.2.2.2.2.2.1,o0.2.2.2.2.2.2.1,o0.2.2.2.2.2.2.2.1,o0.2.2.2.2.2.2.2.2.1,o0.2.2.2.2.2.2.2.2.2.1⟩,o0.2.2.2.2.2.2.2.2.2.2.1,o0.2.2.2.2.2.2.2.2.2.2.2.1,o0.2.2.2.2.2.2.2.2.2.2.2.2.1,o0.2.2.2.2.2.2.2.2.2.2.2.2.2.2.1,o0.2.2.2.2.2.2.2.2.2.2.2.2.2.1,o0.2.2.2.2.2.2.2.2.2.2.2.2.2.2.2⟩,(l.length:Int)))
theorem Tp(hl:l.length<=1048576)(ha:∀a∈l,PF a.av):∀(m i:Nat) (x:ZI),i+m=(l.take 150).length->OF x->(x=o\/gC x=ZC)->∀N M,m<N->m<M->
 ∃(g:ZI) (n:Nat),aD (ie l) N ((i:Int),(i:Int),x.world.aa.change,x.world.now,x.world.aT,x.world.aa.aB,x.world.aa.off,x.world.ae,x.world.aq,x.world.ah,x.world.aJ,x.world.skip,x.aP,x.aR,x.aF,x.aG,x.lines,x.aE)=ZA ((n:Int),g.world.aa.change,g.world.now,g.world.aT,g.world.aa.aB,g.world.aa.off,g.world.ae,g.world.aq,g.world.ah,g.world.aJ,g.world.skip,g.aP,g.aR,g.aF,g.aG,g.lines,g.aE)/\(aD (iR l) M ((i:Int),x.world.aa.aB,x.world.aa.off,x.world.aa.change,x.world.ae,x.world.aq,x.world.ah,x.world.now,x.world.aJ,x.world.skip,x.world.aT,x.aP,x.aR,x.aF,x.lines,x.aG,x.aE)).bind (bm (fin l) (λr=>ZA r))=ZA (g,(n:Int))/\OF g/\(g=o\/gC g=ZC):=by
 have hL:(l.take 150).length=min 150 l.length:=V3;intro m
 induction m with
 |zero=>
  intro i x hi hx hv N M hN hM;obtain⟨N,rfl⟩:∃K,N=K+1:=⟨N-1,YG⟩;obtain⟨M,rfl⟩:∃K,M=K+1:=⟨M-1,YG⟩;refine⟨x,i,Ax ?_,?_,hx,hv⟩
  ·unfold ie
   simp only[JS];rw[Yz (show ¬(i:Int)<((l.take 150).length:Int)by omega)]
   rfl
  ·rw[Ax (o:=.inl (x.world.aa.aB,x.world.aa.off,x.world.aa.change,x.world.ae,x.world.aq,x.world.ah,x.world.now,x.world.aJ,x.world.skip,x.world.aT,x.aP,x.aR,x.aF,x.lines,x.aG,x.aE))]
   ·show fin l _=_
    unfold fin
    by_cases h:150<(l.length:Int)
    ·rw[Yp h]
     have:i=150:=YG;subst this;rfl
    ·rw[Yz h]
     have:i=l.length:=YG;subst this;rfl
   ·unfold iR
    simp only[]
    by_cases h:(i:Int)<(l.length:Int)
    ·rw[Yp h,Yz (show ¬(i:Int)<150 by omega)]
     rfl
    ·rw[Yz h]
     rfl
 |succ m ih=>
  intro i x hi hx hv N M hN hM;obtain⟨N,rfl⟩:∃K,N=K+1:=⟨N-1,YG⟩;obtain⟨M,rfl⟩:∃K,M=K+1:=⟨M-1,YG⟩;have wI:i<l.length:=YG;obtain⟨a,hai⟩:∃a,l[i]?=ZA a:=⟨_,List.getElem?_eq_getElem wI⟩;have Fq:(l.take 150)[i]?=ZA a:=by rw[List.getElem?_take_of_lt YG];exact hai
  obtain⟨y,c,h1,h2,h3⟩:=Zdp hx hv (ha a (List.mem_of_getElem? hai));have w1:aH ((i:Int)+1)=((i+1:Nat):Int):=by rw[aL YG];omega
  by_cases hc:c=0
  ·obtain⟨k1,k2⟩:=h3 hc
   obtain⟨g,n,e1,e2,e3,e4⟩:=ih (i+1) y YG k1 (.inr k2) N M YG YG;refine⟨g,n,(PZ ?_).trans e1,?_,e3,e4⟩
   ·unfold ie
    simp only[JS];rw[Yp (show(i:Int)<((l.take 150).length:Int)by omega),aQ,Fq]
    simp only[YC,VE,h1,Yp hc,Bool.not_true,YD,w1]
   ·rw[PZ (s':=(((i+1:Nat):Int),y.world.aa.aB,y.world.aa.off,y.world.aa.change,y.world.ae,y.world.aq,y.world.ah,y.world.now,y.world.aJ,y.world.skip,y.world.aT,y.aP,y.aR,y.aF,y.lines,y.aG,y.aE))]
    ·exact e2
    ·unfold iR
     simp only[];rw[Yp (show(i:Int)<(l.length:Int)by omega),Yp (show(i:Int)<150 by omega),aQ,hai]
     simp only[YC,vD,VE,h2,Yp hc,Bool.not_true,YD,w1]
  ·refine⟨x,i,Ax ?_,?_,hx,hv⟩
   ·unfold ie
    simp only[JS];rw[Yp (show(i:Int)<((l.take 150).length:Int)by omega),aQ,Fq]
    simp only[YC,VE,h1,Yz hc,Bool.not_false]
   ·rw[Ax (o:=.inr (x,(i:Int)))]
    ·rfl
    ·unfold iR
     simp only[];rw[Yp (show(i:Int)<(l.length:Int)by omega),Yp (show(i:Int)<150 by omega),aQ,hai]
     simp only[YC,vD,VE,h2,Yz hc,Bool.not_false]
theorem ZcP(hx:dZ x<=1048576)(hl:qJ eJ l<=1048576):∃(g:ZI) (c:Int),gq x l=ZA (g,c)/\rL x l=ZA (g,c)/\bJ g g=ZA ZC/\gJ g 1:=by
 have hf:=Jh hx;have AY:l.length<=1048576:=by have:=gB eJ l;omega
 have ha:∀a∈l,PF a.av:=λa h=>Cc (p:=a.av) Zr
 obtain⟨g,n,e1,e2,e3,e4⟩:=Tp (o:=x) AY ha (l.take 150).length 0 x YG hf (.inl rfl) NN NN (by rw[V3];unfold NN;omega) (by rw[V3];unfold NN;omega)
 refine⟨g,n,?_,?_,Zej e3,?_⟩
 ·unfold gq
  rw[U3 hf];simp only[VE];rw[pD (show iC 0 (if 150<(l.length:Int)then 150 else(l.length:Int)) l.length=ZC by unfold iC;simp only[decide_eq_true_eq,Bool.and_eq_true];split<;>omega)]
  simp only[VE];have e1':=e1;simp only[Int.ofNat_zero]at e1'
  rw[e1'];rfl
 ·unfold rL
  rw[U4 hf];simp only[VE];exact e2
 ·rcases e4 with rfl|h
  ·exact OF.Vx hx
  ·exact e3.Vy h
theorem Zhr(ok:okS okAct l){y:Int}(h0:¬y<0)(h1:y<=1048576):ke l y=ZA (-1)\/∃z,ke l y=ZA z/\¬z<0/\qJ eJ l<=1048576:=by
 rw[ZaH l YG YG ok.1 (λa ha z g0 g1=>UC a g0 g1 (ok.2 a ha))]
 by_cases h:kz y (qJ eJ l)<0
 ·left
  unfold kz at *
  split at h
  ·rw[if_pos YO]
  ·omega
 ·right
  obtain⟨h1,h2⟩:=N5 h YG;exact⟨_,rfl,h,YG⟩
end Go.Proofs.YtbalgkakkoocjaaGreat
