/- A part of the proof of the statement in the last file of this claim: texts on the language of the program and on its functions. No condition. -/
import Derived.Test.YtbalgkakkoocjaaGreatCJ6
import Derived.Test.YtbalgkakkoocjaaGreatCJ10
import Derived.Test.YtbalgkakkoocjaaGreatCJ11
import Derived.Test.YtbalgkakkoocjaaGreatCJ9
import Derived.Test.YtbalgkakkoocjaaGreatCJ8
import Derived.Test.YtbalgkakkoocjaaGreatCJ4
import Derived.Test.YtbalgkakkoocjaaGreatProg
import Derived.Laws.BytesArg
import Derived.Test.YtbalgkakkoocjaaGreatCJ5
import Derived.Sort.Walk0
import Derived.Test.YtbalgkakkoocjaaGreatCJ1
set_option linter.unusedVariables false
set_option linter.unusedSimpArgs false
set_option linter.unusedSectionVars false
open Option renaming some->ZA,none->ZB
open Bool renaming true->ZC,false->ZD
open Decidable renaming decide->ZE
open Go.Proofs.Tryz
set_option maxHeartbeats 40000000
namespace Go.Proofs.YtbalgkakkoocjaaGreat
open _root_.Int renaming toNat->V0,tmod->Yn,toNat_natCast->We,tdiv->Xb
open List renaming replicate->VW,getElem?_eq_some_iff->VH,mem_of_getElem?->VI,getElem?_eq_getElem->VF,mem_cons_self->Wc,pairwise_cons->W9,mem_cons->VM,foldl_cons->Wj,mem_map->V6,pairwise_map->WZ,takeWhile_cons_of_pos->Yq
open Option renaming map_some->Wo,getD_some->Ww,bind_some->VE
open Bool renaming not_true->VK,not_false->Wl
open BitVec renaming ofInt->WC
set_option maxRecDepth 10000
open Go.RowKit
variable {S:Nat->Prop}{a b p s:ByteArray}{body:Int->Option (Int⊕Int)}{i:Nat}{l:Int}{n:ak}{out:List ByteArray}{w:World}{α:Type}
def nf(a:ak)(left:Int):Option Int:=
 (rq a.aB left).bind λy1=>
 cond (ZE (y1<0))
 (ZA (-1))
 ((kg a.off y1).bind λy2=>
 cond (ZE (y2<0))
 (ZA (-1))
 (ZA y2))
instance (a:ak)(left:Int):CT prog (nf a left):=⟨118,[.ag (bE a),vi left],[],λr=>vi r,λr=>[],cw (nf.eq_1 ..) func118 ntmps118 results118⟩
def vU(a:az):Option az:=
 (tP a.aa).bind λy1=>
 (uS a.ae).bind λy2=>
 (gR a.aq).bind λy3=>
 (gS a.ah).bind λy4=>
 (kV a.aJ).bind λy5=>
 (eU a.skip).bind λy6=>
 ZA (⟨y1,y2,y3,y4,a.now,y5,y6,a.aT⟩:az)
def nj(a:az)(left:Int):Option Int:=
 (nf a.aa left).bind λy1=>
 cond (ZE (y1<0))
 (ZA (-1))
 ((oK a.ae y1).bind λy2=>
 cond (ZE (y2<0))
 (ZA (-1))
 ((l6 a.aq y2).bind λy3=>
 cond (ZE (y3<0))
 (ZA (-1))
 ((ni a.ah y3).bind λy4=>
 cond (ZE (y4<0))
 (ZA (-1))
 ((qa a.aJ y4).bind λy5=>
 cond (ZE (y5<0))
 (ZA (-1))
 ((kg a.skip y5).bind λy6=>
 cond (ZE (y6<0))
 (ZA (-1))
 (ZA y6))))))
theorem Gv(a:az)(left:Int){r:Int}(H:nj a left=ZA r):cq prog 43 [.ag (fa a),vi left] [] (vi r) []:=by
 replace H:=H0 H;unfold nj at H
 refine jm func43 rfl ntmps43 results43 λQ hQ Pz=>?_
 exact RV
instance (a:az)(left:Int):CT prog (nj a left):=⟨43,[.ag (fa a),vi left],[],λr=>vi r,λr=>[],Gv a left⟩
def iy(a:aM)(b:aM):Option Bool:=
 (sP a.label b.label).bind λy1=>
 cond (!y1)
 (ZA ZD)
 (cond (!decide (a.ar=b.ar))
 (ZA ZD)
 (cond (!decide (a.ab=b.ab))
 (ZA ZD)
 ((jj a.bb b.bb).bind λy2=>
 cond (!y2)
 (ZA ZD)
 (cond (!decide (a.value=b.value))
 (ZA ZD)
 (ZA ZC)))))
instance (a:aM)(b:aM):CT prog (iy a b):=⟨69,[.ag (bq a),.ag (bq b)],[],λr=>vb r,λr=>[],cw (iy.eq_1 ..) func69 ntmps69 results69⟩
def lL(a:aM):Option aM:=
 (qe a.label).bind λy1=>
 (eU a.bb).bind λy2=>
 ZA (⟨y1,a.ar,a.ab,y2,a.value⟩:aM)
def qQ(a:List aM)(b:List aM)(s0:Int):Option (Int⊕(Unit⊕Bool)):=
 cond (ZE (s0<(a.length:Int)))
 ((aA a s0).bind λy1=>
 (aA b s0).bind λy2=>
 (iy y1 y2).bind λy3=>
 cond (!y3)
 (ZA (.inr (.inr ZD)))
 (ZA (.inl (aH (s0+1)))))
 (ZA (.inr (.inl ())))
instance (a:List aM)(b:List aM):bj (qQ a b):=⟨λs0=>(.sl (a.map bq)::.sl (b.map bq)::(U 3 (vi s0::(U 21 [])))),λs0=>[]⟩
def na(a:List aM)(b:List aM):Option Bool:=
 cond (!decide ((a.length:Int)=(b.length:Int)))
 (ZA ZD)
 ((aD (qQ a b) NN 0).bind (bm (λo0=>
 ZA ZC) (λr=>ZA r)))
instance (a:List aM)(b:List aM):CT prog (na a b):=⟨67,[.sl (a.map bq),.sl (b.map bq)],[],λr=>vb r,λr=>[],cw (na.eq_1 ..) func67 ntmps67 results67⟩
def uZ(a:List aM)(s0:Int×(List aM)):Option ((Int×(List aM))⊕(List aM)):=
 cond (ZE (s0.1<(a.length:Int)))
 ((aA a s0.1).bind λy1=>
 (lL y1).bind λy2=>
 (aA s0.2 s0.1).bind λy3=>
 ZA (.inl ((aH (s0.1+1)),(s0.2.set (V0 s0.1) y2))))
 (ZA (.inr s0.2))
def tR(a:List aM):Option (List aM):=
 (dg (zF (a.length:Int) 88)).bind λ_=>
 (aD (uZ a) NN (0,(VW (V0 (a.length:Int)) (⟨(⟨0,0,⟨#[]⟩⟩:fF),⟨#[]⟩,0,[],0⟩:aM)))).bind (λo0=>
 ZA o0)
def fB(a:ZJ)(b:ZJ):Option Bool:=
 cond (!decide (a.kind=b.kind))
 (ZA ZD)
 ((iy a.av b.av).bind λy1=>
 cond (!y1)
 (ZA ZD)
 (cond (!decide (a.order=b.order))
 (ZA ZD)
 (cond (!decide (a.bh=b.bh))
 (ZA ZD)
 (cond (!decide (a.bn=b.bn))
 (ZA ZD)
 ((gH a.aV b.aV).bind λy2=>
 cond (!y2)
 (ZA ZD)
 (ZA ZC))))))
instance (a:ZJ)(b:ZJ):CT prog (fB a b):=⟨16,[.ag (ZK a),.ag (ZK b)],[],λr=>vb r,λr=>[],cw (fB.eq_1 ..) func16 ntmps16 results16⟩
def qD(a:ZJ):Option ZJ:=
 (lL a.av).bind λy1=>
 (gI a.aV).bind λy2=>
 ZA (⟨a.kind,y1,a.order,a.bh,a.bn,y2⟩:ZJ)
def tK(a:List ZJ)(b:List ZJ)(s0:Int):Option (Int⊕(Unit⊕Bool)):=
 cond (ZE (s0<(a.length:Int)))
 ((aA a s0).bind λy1=>
 (aA b s0).bind λy2=>
 (fB y1 y2).bind λy3=>
 cond (!y3)
 (ZA (.inr (.inr ZD)))
 (ZA (.inl (aH (s0+1)))))
 (ZA (.inr (.inl ())))
instance (a:List ZJ)(b:List ZJ):bj (tK a b):=⟨λs0=>(.sl (a.map ZK)::.sl (b.map ZK)::(U 3 (vi s0::(U 21 [])))),λs0=>[]⟩
def fP(a:List ZJ)(b:List ZJ):Option Bool:=
 cond (!decide ((a.length:Int)=(b.length:Int)))
 (ZA ZD)
 ((aD (tK a b) NN 0).bind (bm (λo0=>
 ZA ZC) (λr=>ZA r)))
instance (a:List ZJ)(b:List ZJ):CT prog (fP a b):=⟨24,[.sl (a.map ZK),.sl (b.map ZK)],[],λr=>vb r,λr=>[],cw (fP.eq_1 ..) func24 ntmps24 results24⟩
def xO(a:List ZJ)(s0:Int×(List ZJ)):Option ((Int×(List ZJ))⊕(List ZJ)):=
 cond (ZE (s0.1<(a.length:Int)))
 ((aA a s0.1).bind λy1=>
 (qD y1).bind λy2=>
 (aA s0.2 s0.1).bind λy3=>
 ZA (.inl ((aH (s0.1+1)),(s0.2.set (V0 s0.1) y2))))
 (ZA (.inr s0.2))
def uo(a:List ZJ):Option (List ZJ):=
 (dg (zF (a.length:Int) 136)).bind λ_=>
 (aD (xO a) NN (0,(VW (V0 (a.length:Int)) (⟨0,(⟨(⟨0,0,⟨#[]⟩⟩:fF),⟨#[]⟩,0,[],0⟩:aM),0,0,0,(⟨0,0⟩:aw)⟩:ZJ)))).bind (λo0=>
 ZA o0)
def bJ(a:ZI)(b:ZI):Option Bool:=
 (nd a.world b.world).bind λy1=>
 cond (!y1)
 (ZA ZD)
 ((pU a.aP b.aP).bind λy2=>
 cond (!y2)
 (ZA ZD)
 ((pS a.aR b.aR).bind λy3=>
 cond (!y3)
 (ZA ZD)
 ((jj a.aF b.aF).bind λy4=>
 cond (!y4)
 (ZA ZD)
 ((na a.aG b.aG).bind λy5=>
 cond (!y5)
 (ZA ZD)
 ((pR a.lines b.lines).bind λy6=>
 cond (!y6)
 (ZA ZD)
 ((fP a.aE b.aE).bind λy7=>
 cond (!y7)
 (ZA ZD)
 (ZA ZC)))))))
instance (a:ZI)(b:ZI):CT prog (bJ a b):=⟨15,[.ag (ZM a),.ag (ZM b)],[],λr=>vb r,λr=>[],cw (bJ.eq_1 ..) func15 ntmps15 results15⟩
def uR(a:ZI):Option ZI:=
 (vU a.world).bind λy1=>
 (nr a.aP).bind λy2=>
 (np a.aR).bind λy3=>
 (eU a.aF).bind λy4=>
 (tR a.aG).bind λy5=>
 (nn a.lines).bind λy6=>
 (uo a.aE).bind λy7=>
 ZA (⟨y1,y2,y3,y4,y5,y6,y7⟩:ZI)
def fT(a:ZI)(left:Int):Option Int:=
 (nj a.world left).bind λy1=>
 cond (ZE (y1<0))
 (ZA (-1))
 ((qb a.aP y1).bind λy2=>
 cond (ZE (y2<0))
 (ZA (-1))
 ((pZ a.aR y2).bind λy3=>
 cond (ZE (y3<0))
 (ZA (-1))
 ((kg a.aF y3).bind λy4=>
 cond (ZE (y4<0))
 (ZA (-1))
 ((nh a.aG y4).bind λy5=>
 cond (ZE (y5<0))
 (ZA (-1))
 ((pY a.lines y5).bind λy6=>
 cond (ZE (y6<0))
 (ZA (-1))
 ((ke a.aE y6).bind λy7=>
 cond (ZE (y7<0))
 (ZA (-1))
 (ZA y7)))))))
instance (a:ZI)(left:Int):CT prog (fT a left):=⟨10,[.ag (ZM a),vi left],[],λr=>vi r,λr=>[],cw (fT.eq_1 ..) func10 ntmps10 results10⟩
theorem Vw{n:Nat}{b:Int}(h:n<=1048576)(hb:0<=b)(xj:b<=134217728):zF (n:Int) b=true:=by
 refine Yp ⟨YG,YG,?_⟩;have:b*(n:Int)<=134217728*1048576:=Int.mul_le_mul xj YG YG YG;omega
theorem gB(f:α->Nat)(xs:List α):xs.length<=qJ f xs:=by unfold qJ;omega
theorem ml(f:α->Nat){xs:List α}{y:α}(h:y∈xs):f y<=qJ f xs:=by
 have:f y<=(xs.map f).sum:=by
  induction xs with
  |nil=>cases h
  |cons x xs ih=>
   grind
 unfold qJ;omega
theorem ZhT{xs:List α}{f:α->Nat}{body:Int×Int->Option ((Int×Int)⊕(Int⊕Int))}
 (h1:∀(i:Nat) (l:Int) x,xs[i]?=ZA x->0<=l->l<=1048576->body (l,(i:Int))=ZA (if l<f x then .inr (.inr (-1))else .inl (l-f x,((i+1:Nat):Int))))
 (h2:∀l,body (l,(xs.length:Int))=ZA (.inr (.inl l))) (hN:xs.length<NN) (hl:0<=l) (hl2:l<=1048576):
 aD body NN (l,0)=ZA (if l<((xs.map f).sum:Nat)then .inr (-1)else .inl (l-((xs.map f).sum:Nat))):=by
 have key:∀(ys:List α) (i N:Nat) (l:Int),xs.drop i=ys->i<=xs.length->ys.length<N->0<=l->l<=1048576->aD body N (l,(i:Int))=ZA (if l<((ys.map f).sum:Nat)then .inr (-1)else .inl (l-((ys.map f).sum:Nat))):=by
  intro ys
  induction ys with
  |nil=>
   intro i N l hd hi hN h0 Mv
   cases N with
   |zero=>omega
   |succ N=>
    have:i=xs.length:=by grind
    subst this;simp only[aD,h2]
    simp_all
  |cons y ys ih=>
   intro i N l hd hi hN h0 Mv
   cases N with
   |zero=>omega
   |succ N=>
    have hy:xs[i]?=ZA y:=by
     have:=congrArg (λl=>l[0]?) hd
     grind
    have bO:i<xs.length:=(VH.1 hy).1;have yL:xs.drop (i+1)=ys:=by
     have:=congrArg (List.drop 1) hd
     simpa[List.drop_drop]using this
    simp only[aD,h1 i l y hy h0 Mv,List.map_cons,List.sum_cons]
    by_cases hc:l<f y
    ·grind
    ·rw[if_neg hc]
     show aD body N (l-f y,((i+1:Nat):Int))=_;rw[ih (i+1) N _ yL bO Y9 YG YG]
     grind
 exact key xs 0 NN l rfl (Nat.zero_le _) hN hl hl2
theorem N5{n:Nat}(h:¬kz l n<0)(h0:0<=l):(n:Int)<=l/\kz l n=l-n:=by
 rcases ir l n with⟨_,e⟩ |⟨h1,e⟩
 all_goals omega
theorem Bo(f:α->α->Option Bool)(B:List α->List α->Int->Option (Int⊕(Unit⊕Bool)))(M:List α->List α->Option Bool)(a:List α)(hl:a.length<=1048576)(he:∀x∈a,f x x=some true)
 (hB:∀s,B a a s=cond (decide (s<(a.length:Int))) ((aA a s).bind fun y=>(aA a s).bind fun z=>(f y z).bind fun r=>cond (!r) (some (.inr (.inr false))) (some (.inl (aH (s+1))))) (some (.inr (.inl ()))):=by intro;rfl)
 (hM:M a a=cond (!decide ((a.length:Int)=(a.length:Int))) (some false) ((aD (B a a) NN 0).bind (bm (fun _=>some true) (fun r=>some r))):=by rfl):M a a=some true:=by
 have e:aD (B a a) NN 0=some (.inl ()):=by
  refine Lh (xs:=a) (fun i x hx=>?_) ?_ (by unfold NN;omega)
  ·obtain⟨hi,rfl⟩:=VH.1 hx
   have hw:=bI hi (by omega)
   have hx2:=he _ (VI hx);simp[hB,aQ,hx,hi,hw,hx2]
  simp_all
 simp_all
theorem xh(f:α->Option α)(B:List α->Int×List α->Option ((Int×List α)⊕List α))(M:List α->Option (List α))(a:List α)(hl:a.length<=1048576)(he:∀x∈a,f x=some x){k:Int}{z:α}
 (hB:∀s,B a s=cond (decide (s.1<(a.length:Int))) ((aA a s.1).bind fun y=>(f y).bind fun r=>(aA s.2 s.1).bind fun _=>some (.inl ((aH (s.1+1)),(s.2.set (V0 s.1) r)))) (some (.inr s.2)):=by intro;rfl)
 (hM:M a=(dg (zF (a.length:Int) k)).bind fun _=>(aD (B a) NN (0,(VW (V0 (a.length:Int)) z))).bind (fun o=>some o):=by rfl) (h0:0<=k:=by decide) (h1:k<=134217728:=by decide):M a=some a:=by
 have e:∀z,aD (B a) NN (0,VW a.length z)=some a:=by
  intro z;refine Le (fun i out x hx ho=>?_) (fun out=>?_) (by unfold NN;omega)
  ·obtain⟨hi,rfl⟩:=VH.1 hx
   have hw:=bI hi (by omega)
   have hx3:out[i]?=some out[i]:=VF (by omega)
   have hx2:=he _ (VI hx);simp[hB,aQ,hx,hx3,hi,hw,hx2]
  simp_all
 rw[hM,pD (Vw hl h0 h1)];simp[e]
theorem LV(f:α->Int->Option Int)(B:List α->Int×Int->Option ((Int×Int)⊕(Int⊕Int)))(M:List α->Int->Option Int)(T:α->Nat)(a:List α){left:Int}(h0:0<=left)(h1:left<=1048576)(hl:a.length<=maxLen)(he:∀x∈a,∀l:Int,0<=l->l<=1048576->f x l=some (kz l (T x)))
 (hB:∀s,B a s=cond (decide (s.2<(a.length:Int))) ((aA a s.2).bind fun y=>(f y s.1).bind fun r=>cond (decide (r<0)) (some (.inr (.inr (-1)))) (some (.inl (r,(aH (s.2+1)))))) (some (.inr (.inl s.1))):=by intro;rfl)
 (hM:M a left=cond (decide ((aH (left-(a.length:Int)))<0)) (some (-1)) ((aD (B a) NN ((aH (left-(a.length:Int))),0)).bind (bm (fun o=>some o) (fun r=>some r))):=by rfl):M a left=some (kz left (qJ T a)):=by
 unfold maxLen at hl
 rw[hM,aL (by omega)]
 by_cases hc:left-(a.length:Int)<0
 ·rw[decide_eq_true hc];show some (-1)=_
  rcases ir left (qJ T a)with⟨h,e⟩ |⟨h,e⟩
  ·rw[e]
  ·have:=gB T a;omega
 ·rw[decide_eq_false hc]
  have e:aD (B a) NN (left-(a.length:Int),0)=some (if left-(a.length:Int)<((a.map T).sum:Nat)then .inr (-1)else .inl (left-(a.length:Int)-((a.map T).sum:Nat))):=by
   refine ZhT (fun i l x hx h0 h1=>?_) (fun l=>?_) (by unfold NN;omega) (by omega) (by omega)
   ·obtain⟨hi,rfl⟩:=VH.1 hx
    have hw:=bI hi (by omega)
    have hx2:=he _ (VI hx) l h0 h1
    rcases ir l (T a[i])with⟨h,e⟩ |⟨h,e⟩
    ·rw[e]at hx2;rw[if_pos h];simp[hB,aQ,hx,hi,hx2]
    ·rw[e]at hx2;rw[if_neg (by omega)];simp[hB,aQ,hx,hi,hx2,hw,show ¬(l-(T a[i]:Int)<0)by omega]
   simp_all
  show(aD (B a) NN (left-(a.length:Int),0)).bind _=_;rw[e];have ht:qJ T a=a.length+(a.map T).sum:=rfl
  rcases ir left (qJ T a)with⟨h,e⟩ |⟨h,e⟩
  all_goals grind
theorem szE(h0:0<=l):ZA l=ZA (kz l 0):=by
 rcases ir l 0 with⟨h,e⟩ |⟨h,e⟩
 all_goals grind
theorem N6{n N:Nat}{A:Option Int}{R:Int->Option Int}(h0:0<=l)(h1:l<=1048576)(hA:A=ZA (kz l n))(hR:∀l,0<=l->l<=1048576->R l=ZA (kz l N)):A.bind (λy=>cond (ZE (y<0)) (ZA (-1)) (R y))=ZA (kz l (n+N)):=by
 subst hA;show cond (ZE (kz l n<0)) (ZA (-1)) (R (kz l n))=_
 rcases ir l n with⟨h2,e2⟩ |⟨h2,e2⟩<;>rcases ir l (n+N)with⟨h,e⟩ |⟨h,e⟩<;>rw[e,e2]
 ·rfl
 ·omega
 all_goals
  rw[Yz YG,YD,hR _ YG YG]
  rcases ir (l-n) N with⟨h3,e3⟩ |⟨h3,e3⟩<;>rw[e3]<;>first|rfl|(congr 1;omega) |omega
theorem szs{n N:Nat}{X:Option Int}(h0:0<=l)(h1:l<=1048576)(hn:n<=maxLen)(hX:∀k,k=aH (l-(n:Int))->0<=k->k<=1048576->X=ZA (kz k N)):cond (ZE (aH (l-(n:Int))<0)) (ZA (-1)) X=ZA (kz l (n+N)):=by
 unfold maxLen at hn
 rw[aL YG]at hX⊢
 rcases ir l n with⟨h2,e2⟩ |⟨h2,e2⟩<;>rcases ir l (n+N)with⟨h,e⟩ |⟨h,e⟩<;>rw[e]
 ·grind
 ·omega
 all_goals
  rw[Yz YG,YD,hX _ rfl YG YG]
  rcases ir (l-n) N with⟨h3,e3⟩ |⟨h3,e3⟩<;>rw[e3]<;>first|rfl|(congr 1;omega) |omega
theorem Zg6(x:bM)(h:ub x<=1048576):qE x=ZA x:=by
 rfl
theorem ZlL(x:bM){left:Int}(h0:0<=left)(h1:left<=1048576)(ok:Zad x):nS x left=ZA (kz left (ub x)):=by
 obtain⟨k0,k1,k2,k3,k4,k5⟩:=ok;rw[show ub x=x.ar.size+(x.aX.size+0)by rfl]
 unfold nS;exact szs h0 h1 k0 λl e h0 h1=>by rw[<-e];exact szs h0 h1 k1 λl e h0 h1=>by rw[<-e];exact szE h0
theorem Zek(a:List bM)(hl:a.length<=1048576)(he:∀x∈a,qC x x=ZA ZC):rn a a=ZA true:=Bo qC tL rn a hl he
theorem ZdM(a:List bM)(hl:a.length<=1048576)(he:∀x∈a,qE x=ZA x):mu a=ZA a:=xh qE tO mu a hl he
theorem Zi7(a:List bM){left:Int}(h0:0<=left)(h1:left<=1048576)(hl:a.length<=maxLen)(he:∀x∈a,∀l:Int,0<=l->l<=1048576->nS x l=ZA (kz l (ub x))):rq a left=ZA (kz left (qJ ub a)):=LV nS tN rq ub a h0 h1 hl he
theorem CN(a:List Int)(hl:a.length<=1048576):jj a a=ZA true:=by
 have e:aD (mX a a) NN 0=ZA (.inl ()):=by
  refine Lh (xs:=a) (λi x hx=>?_) ?_ YI
  ·obtain⟨hi,rfl⟩:=VH.1 hx
   have hw:=bI hi YG;simp[mX,aQ,hx,hi,hw]
  ·simp[mX]
 unfold jj;grind
theorem CH(a:List Int)(hl:a.length<=1048576):eU a=ZA a:=by
 have e:∀z,aD (nk a) NN (0,VW a.length z)=ZA a:=by
  intro z;refine Le (λi out x hx ho=>?_) (λout=>?_) YI
  ·obtain⟨hi,rfl⟩:=VH.1 hx
   have hw:=bI hi YG;have hx3:out[i]?=ZA out[i]:=VF YG;simp[nk,aQ,hx,hx3,hi,hw]
  ·simp[nk]
 unfold eU;rw[pD (Vw hl (by decide) (by decide))];simp[e]
theorem He(a:List Int){left:Int}(h0:0<=left)(h1:left<=1048576)(hl:a.length<=maxLen):kg a left=ZA (kz left a.length):=by
 unfold maxLen at hl
 unfold kg;rw[aL YG]
 rcases ir left a.length with⟨h,e⟩ |⟨h,e⟩
 all_goals grind
theorem O1(x:ak)(h:mw x<=1048576):tP x=ZA x:=by
 have e0:=ZdM x.aB (by unfold mw at h;have:=gB ub x.aB;omega) (λy hy=>Zg6 y (by unfold mw at h;have:=ml ub hy;omega))
 have e1:=CH x.off (by unfold mw at h;omega)
 simp[tP,e0,e1]
theorem UD(x:ak){left:Int}(h0:0<=left)(h1:left<=1048576)(ok:EK x):nf x left=ZA (kz left (mw x)):=by
 obtain⟨k0,k1,k2⟩:=ok;rw[show mw x=qJ ub x.aB+(x.off.length+0)by rfl]
 unfold nf;exact N6 h0 h1 (Zi7 x.aB h0 h1 k0.1 λy hy l g0 g1=>ZlL y g0 g1 (k0.2 y hy)) λl h0 h1=>N6 h0 h1 (He x.off h0 h1 k1.1) λl h0 h1=>szE h0
theorem zn(x:aw):gH x x=ZA true:=by
 simp[gH]
theorem Ip(x:aw):gI x=ZA x:=by
 rfl
theorem KX(a:List aw)(hl:a.length<=1048576)(he:∀x∈a,gH x x=ZA ZC):nb a a=ZA true:=Bo gH sT nb a hl he
theorem KO(a:List aw)(hl:a.length<=1048576)(he:∀x∈a,gI x=ZA x):gS a=ZA a:=xh gI s7 gS a hl he
theorem Rz(a:List aw){left:Int}(h0:0<=left)(h1:left<=1048576)(hl:a.length<=maxLen):ni a left=ZA (kz left a.length):=by
 unfold maxLen at hl
 unfold ni;rw[aL YG]
 rcases ir left a.length with⟨h,e⟩ |⟨h,e⟩
 all_goals grind
theorem Za9(x:ay)(h:gA x<=1048576):qf x=ZA x:=by
 have e0:=KO x.aK (by unfold gA at h;omega) (λy hy=>Ip y)
 simp[qf,e0]
theorem Zgz(x:ay){left:Int}(h0:0<=left)(h1:left<=1048576)(ok:G8 x):kU x left=ZA (kz left (gA x)):=by
 obtain⟨k0,k1,k2,k3,k4,k5,k6,k7,k8,k9,k10⟩:=ok;rw[show gA x=x.ar.size+(x.aX.size+(x.aK.length+(x.place.size+0)))by unfold gA;omega]
 unfold kU;exact szs h0 h1 k0 λl e h0 h1=>by rw[<-e];exact szs h0 h1 k1 λl e h0 h1=>by rw[<-e];exact N6 h0 h1 (Rz x.aK h0 h1 k6.1) λl h0 h1=>szs h0 h1 k9 λl e h0 h1=>by rw[<-e];exact szE h0
theorem SJ(a:List ay)(hl:a.length<=1048576)(he:∀x∈a,mZ x x=ZA ZC):oI a a=ZA true:=Bo mZ rV oI a hl he
theorem SA(a:List ay)(hl:a.length<=1048576)(he:∀x∈a,qf x=ZA x):uS a=ZA a:=xh qf vT uS a hl he
theorem Zc2(a:List ay){left:Int}(h0:0<=left)(h1:left<=1048576)(hl:a.length<=maxLen)(he:∀x∈a,∀l:Int,0<=l->l<=1048576->kU x l=ZA (kz l (gA x))):oK a left=ZA (kz left (qJ gA a)):=LV kU rY oK gA a h0 h1 hl he
theorem Po(x:aj):iO x x=ZA true:=by
 have e0:=zn x.aV;simp[iO,e0]
theorem O0(x:aj):kv x=ZA x:=by
 rfl
theorem Mq(a:List aj)(hl:a.length<=1048576)(he:∀x∈a,iO x x=ZA ZC):l5 a a=ZA true:=Bo iO pQ l5 a hl he
theorem Mm(a:List aj)(hl:a.length<=1048576)(he:∀x∈a,kv x=ZA x):gR a=ZA a:=xh kv qd gR a hl he
theorem Ry(a:List aj){left:Int}(h0:0<=left)(h1:left<=1048576)(hl:a.length<=maxLen):l6 a left=ZA (kz left a.length):=by
 unfold maxLen at hl
 unfold l6;rw[aL YG]
 rcases ir left a.length with⟨h,e⟩ |⟨h,e⟩
 all_goals grind
theorem ZdP(x:bc)(h:tk x<=1048576):o7 x=ZA x:=by
 rfl
theorem Zi8(x:bc){left:Int}(h0:0<=left)(h1:left<=1048576)(ok:Ns x):mq x left=ZA (kz left (tk x)):=by
 obtain⟨k0,k1,k2,k3,k4⟩:=ok;rw[show tk x=x.place.size+0 by rfl]
 unfold mq;exact szs h0 h1 k3 λl e h0 h1=>by rw[<-e];exact szE h0
theorem ZbA(a:List bc)(hl:a.length<=1048576)(he:∀x∈a,oZ x x=ZA ZC):pT a a=ZA true:=Bo oZ sS pT a hl he
theorem Zbb(a:List bc)(hl:a.length<=1048576)(he:∀x∈a,o7 x=ZA x):kV a=ZA a:=xh o7 sZ kV a hl he
theorem ZgB(a:List bc){left:Int}(h0:0<=left)(h1:left<=1048576)(hl:a.length<=maxLen)(he:∀x∈a,∀l:Int,0<=l->l<=1048576->mq x l=ZA (kz l (tk x))):qa a left=ZA (kz left (qJ tk a)):=LV mq sV qa tk a h0 h1 hl he
theorem Zbc(x:az)(h:jz x<=1048576):vU x=ZA x:=by
 have e0:=O1 x.aa Zo;have e1:=SA x.ae (by unfold jz at h;have:=gB gA x.ae;omega) (λy hy=>Za9 y (by unfold jz at h;have:=ml gA hy;omega))
 have e2:=Mm x.aq Zo (λy hy=>O0 y)
 have e3:=KO x.ah Zo (λy hy=>Ip y)
 have e4:=Zbb x.aJ (by unfold jz at h;have:=gB gA x.ae;have:=gB tk x.aJ;omega) (λy hy=>ZdP y (by unfold jz at h;have:=ml tk hy;omega))
 have e5:=CH x.skip Zo;simp[vU,e0,e1,e2,e3,e4,e5]
theorem ZgC(x:az){left:Int}(h0:0<=left)(h1:left<=1048576)(ok:Nt x):nj x left=ZA (kz left (jz x)):=by
 obtain⟨k0,k1,k2,k3,k4,k5,k6,k7⟩:=ok;rw[show jz x=mw x.aa+(qJ gA x.ae+(x.aq.length+(x.ah.length+(qJ tk x.aJ+(x.skip.length+0)))))by unfold jz;omega]
 unfold nj;exact N6 h0 h1 (UD x.aa h0 h1 k0) λl h0 h1=>N6 h0 h1 (Zc2 x.ae h0 h1 k1.1 λy hy l g0 g1=>Zgz y g0 g1 (k1.2 y hy)) λl h0 h1=>N6 h0 h1 (Ry x.aq h0 h1 k2.1) λl h0 h1=>N6 h0 h1 (Rz x.ah h0 h1 k3.1) λl h0 h1=>N6 h0 h1 (ZgB x.aJ h0 h1 k5.1 λy hy l g0 g1=>Zi8 y g0 g1 (k5.2 y hy)) λl h0 h1=>N6 h0 h1 (He x.skip h0 h1 k6.1) λl h0 h1=>szE h0
theorem ZdQ(x:bF)(h:om x<=1048576):o8 x=ZA x:=by
 rfl
theorem Zi9(x:bF){left:Int}(h0:0<=left)(h1:left<=1048576)(ok:Nu x):mr x left=ZA (kz left (om x)):=by
 obtain⟨k0,k1⟩:=ok;rw[show om x=x.first.size+(x.last.size+0)by rfl]
 unfold mr;exact szs h0 h1 k0 λl e h0 h1=>by rw[<-e];exact szs h0 h1 k1 λl e h0 h1=>by rw[<-e];exact szE h0
theorem ZbB(a:List bF)(hl:a.length<=1048576)(he:∀x∈a,o4 x x=ZA ZC):pU a a=ZA true:=Bo o4 sU pU a hl he
theorem Zbd(a:List bF)(hl:a.length<=1048576)(he:∀x∈a,o8 x=ZA x):nr a=ZA a:=xh o8 s8 nr a hl he
theorem ZgD(a:List bF){left:Int}(h0:0<=left)(h1:left<=1048576)(hl:a.length<=maxLen)(he:∀x∈a,∀l:Int,0<=l->l<=1048576->mr x l=ZA (kz l (om x))):qb a left=ZA (kz left (qJ om a)):=LV mr sW qb om a h0 h1 hl he
theorem ZdO(x:bH):o6 x=ZA x:=by
 rfl
theorem Zbz(a:List bH)(hl:a.length<=1048576)(he:∀x∈a,oY x x=ZA ZC):pS a a=ZA true:=Bo oY sR pS a hl he
theorem Zba(a:List bH)(hl:a.length<=1048576)(he:∀x∈a,o6 x=ZA x):np a=ZA a:=xh o6 sY np a hl he
theorem ZgA(a:List bH){left:Int}(h0:0<=left)(h1:left<=1048576)(hl:a.length<=maxLen):pZ a left=ZA (kz left a.length):=by
 unfold maxLen at hl
 unfold pZ;rw[aL YG]
 rcases ir left a.length with⟨h,e⟩ |⟨h,e⟩
 all_goals grind
theorem Za7(x:fF)(h:wk x<=1048576):qe x=ZA x:=by
 rfl
theorem Zgx(x:fF){left:Int}(h0:0<=left)(h1:left<=1048576)(ok:Nr x):pV x left=ZA (kz left (wk x)):=by
 obtain⟨k0,k1,k2⟩:=ok;rw[show wk x=x.aX.size+0 by rfl]
 unfold pV;exact szs h0 h1 k2 λl e h0 h1=>by rw[<-e];exact szE h0
theorem Io(x:aM)(h:cS x<=1048576):lL x=ZA x:=by
 have e0:=Za7 x.label (by unfold cS at h;omega)
 have e1:=CH x.bb (by unfold cS at h;omega)
 simp[lL,e0,e1]
theorem LW(x:aM){left:Int}(h0:0<=left)(h1:left<=1048576)(ok:zJ x):iz x left=ZA (kz left (cS x)):=by
 obtain⟨k0,k1,k2,k3,k4⟩:=ok;rw[show cS x=wk x.label+(x.ar.size+(x.bb.length+0))by unfold cS;omega]
 unfold iz;exact N6 h0 h1 (Zgx x.label h0 h1 k0) λl h0 h1=>szs h0 h1 k1 λl e h0 h1=>by rw[<-e];exact N6 h0 h1 (He x.bb h0 h1 k3.1) λl h0 h1=>szE h0
theorem Pp(a:List aM)(hl:a.length<=1048576)(he:∀x∈a,iy x x=ZA ZC):na a a=ZA true:=Bo iy qQ na a hl he
theorem O2(a:List aM)(hl:a.length<=1048576)(he:∀x∈a,lL x=ZA x):tR a=ZA a:=xh lL uZ tR a hl he
theorem UE(a:List aM){left:Int}(h0:0<=left)(h1:left<=1048576)(hl:a.length<=maxLen)(he:∀x∈a,∀l:Int,0<=l->l<=1048576->iz x l=ZA (kz l (cS x))):nh a left=ZA (kz left (qJ cS a)):=LV iz qR nh cS a h0 h1 hl he
theorem ZdN(x:aU):o5 x=ZA x:=by
 rfl
theorem Zby(a:List aU)(hl:a.length<=1048576)(he:∀x∈a,oW x x=ZA ZC):pR a a=ZA true:=Bo oW sQ pR a hl he
theorem Za8(a:List aU)(hl:a.length<=1048576)(he:∀x∈a,o5 x=ZA x):nn a=ZA a:=xh o5 sX nn a hl he
theorem Zgy(a:List aU){left:Int}(h0:0<=left)(h1:left<=1048576)(hl:a.length<=maxLen):pY a left=ZA (kz left a.length):=by
 unfold maxLen at hl
 unfold pY;rw[aL YG]
 rcases ir left a.length with⟨h,e⟩ |⟨h,e⟩
 all_goals grind
theorem Ml(x:ZJ)(h:eJ x<=1048576):qD x=ZA x:=by
 have e0:=Io x.av (by unfold eJ at h;omega)
 have e1:=Ip x.aV;simp[qD,e0,e1]
theorem UC(x:ZJ){left:Int}(h0:0<=left)(h1:left<=1048576)(ok:okAct x):gQ x left=ZA (kz left (eJ x)):=by
 obtain⟨k0,k1,k2,k3,k4,k5⟩:=ok;rw[show eJ x=cS x.av+0 by rfl]
 unfold gQ;exact N6 h0 h1 (LW x.av h0 h1 k1) λl h0 h1=>szE h0
theorem Pn(a:List ZJ)(hl:a.length<=1048576)(he:∀x∈a,fB x x=ZA ZC):fP a a=ZA true:=Bo fB tK fP a hl he
theorem OZ(a:List ZJ)(hl:a.length<=1048576)(he:∀x∈a,qD x=ZA x):uo a=ZA a:=xh qD xO uo a hl he
theorem ZaH(a:List ZJ){left:Int}(h0:0<=left)(h1:left<=1048576)(hl:a.length<=maxLen)(he:∀x∈a,∀l:Int,0<=l->l<=1048576->gQ x l=ZA (kz l (eJ x))):ke a left=ZA (kz left (qJ eJ a)):=LV gQ tM ke eJ a h0 h1 hl he
theorem Sz(x:ZI)(h:dZ x<=1048576):uR x=ZA x:=by
 have e0:=Zbc x.world Zp;have e1:=Zbd x.aP (by unfold dZ at h;have:=gB om x.aP;omega) (λy hy=>ZdQ y (by unfold dZ at h;have:=ml om hy;omega))
 have e2:=Zba x.aR Zp (λy hy=>ZdO y)
 have e3:=CH x.aF Zp;have e4:=O2 x.aG (by unfold dZ at h;have:=gB om x.aP;have:=gB cS x.aG;omega) (λy hy=>Io y (by unfold dZ at h;have:=ml cS hy;omega))
 have e5:=Za8 x.lines Zp (λy hy=>ZdN y)
 have e6:=OZ x.aE (by unfold dZ at h;have:=gB om x.aP;have:=gB cS x.aG;have:=gB eJ x.aE;omega) (λy hy=>Ml y (by unfold dZ at h;have:=ml eJ hy;omega))
 simp[uR,e0,e1,e2,e3,e4,e5,e6]
theorem Zc1(x:ZI){left:Int}(h0:0<=left)(h1:left<=1048576)(ok:okOffice x):fT x left=ZA (kz left (dZ x)):=by
 obtain⟨k0,k1,k2,k3,k4,k5,k6⟩:=ok;rw[show dZ x=jz x.world+(qJ om x.aP+(x.aR.length+(x.aF.length+(qJ cS x.aG+(x.lines.length+(qJ eJ x.aE+0))))))by unfold dZ;omega]
 unfold fT;exact N6 h0 h1 (ZgC x.world h0 h1 k0) λl h0 h1=>N6 h0 h1 (ZgD x.aP h0 h1 k1.1 λy hy l g0 g1=>Zi9 y g0 g1 (k1.2 y hy)) λl h0 h1=>N6 h0 h1 (ZgA x.aR h0 h1 k2.1) λl h0 h1=>N6 h0 h1 (He x.aF h0 h1 k3.1) λl h0 h1=>N6 h0 h1 (UE x.aG h0 h1 k4.1 λy hy l g0 g1=>LW y g0 g1 (k4.2 y hy)) λl h0 h1=>N6 h0 h1 (Zgy x.lines h0 h1 k5.1) λl h0 h1=>N6 h0 h1 (ZaH x.aE h0 h1 k6.1 λy hy l g0 g1=>UC y g0 g1 (k6.2 y hy)) λl h0 h1=>szE h0
theorem bT{es:List (List PV)}{v:Value}(h:cf w S (.sl es) v):∃A c,v=.slice A es.length c:=by
 generalize hq:PV.sl es=q at h
 cases h with
 |v x h=>cases hq
 |ud=>cases hq
 |un=>cases hq
 |rp=>cases hq
 |fn=>cases hq
 |nil A c=>obtain rfl:es=[]:=by simpa using hq
           exact⟨A,c,rfl⟩
 |sl vC b off k c u=>obtain rfl:es=vC:=by simpa using hq
                     exact⟨_,c,rfl⟩
theorem Br{n:Nat}(hn:n=w.heap.size)(o:Obj):(w.alloc o).heap[n]?=ZA o:=by subst hn;exact heap_alloc_new w o
theorem cf.sc{p:PV}{x:Value}(h:cf w S p x){g j:Nat}(hg:∀b,S b->b≠g)(u:Value):cf (w.setCell ⟨g,j,ZB⟩ u) S p x:=
 h.ext (λ_ hb=>hb) (λb q hb=>cell_of_heap (heap_setCell_other w ⟨g,j,ZB⟩ b u (hg b hb)))
theorem Up.wr{g:Nat}{T:TypeId}{w w1 w2:World}{cs:Array Value}(k:Wr g T w1 w2 cs)(h:Up w w1)(hg:w.heap.size<=g):Up w w2:=
 ⟨k.os.trans h.os,k.tape.trans h.tape,k.output.trans h.output,by rw[k.size];exact h.size,λb hb=>(k.tq b YG).trans (h.block b hb)⟩
theorem wo(n l h:Int):aZ n l h=ZA (ZE (l<=n)&&ZE (n<=h)):=by
 unfold aZ;cases ZE (l<=n)<;>rfl
theorem dG(n l h:Int):bf n l h=ZA (ZE (l<=n)&&ZE (n<=h)):=by
 unfold bf;cases ZE (l<=n)<;>rfl
theorem iu:@aZ=@bf:=by funext n l h;rw[wo,dG]
theorem Zhv{i c:Int}(h:Ka s i=ZA c):0<=c/\c<=255:=by
 unfold Ka at h
 split at h
 ·cases h
  unfold H7
  cases hb:s[i.toNat]? with
  |none=>simp
  |some b=>
   have:=b.toNat_lt;simp only[Wo,Ww];omega
 ·cases h
theorem Zcs(hs:s.size=3):dp s=pq s:=by
 funext i
 unfold dp pq;rw[hs]
 cases hi:ZE (i<3)with
 |false=>simp[hi]
 |true=>
  simp only[show((3:Nat):Int)=3 from rfl,hi,YC]
  cases hg:Ka s i with
  |none=>rfl
  |some y=>
   obtain⟨h0,h1⟩:=Zhv hg;simp only[VE,hg];rw[show IntKind.i64.wrap y=y from aL YG,dG];simp only[VE]
   by_cases h2:y<65
   ·simp[h2,show ¬(65<=y)by omega]
   ·by_cases h3:90<y
    ·simp[h2,h3,show ¬(y<=90)by omega]
    ·simp[h2,h3,show 65<=y by omega,show y<=90 by omega]
theorem ZbG(h:i<s.size):∃c,Ka s (i:Int)=ZA c:=by
 unfold Ka;exact⟨_,if_pos ⟨YG,YG⟩⟩
theorem QM(hs:s.size<=1152921504606846000):∀(k i N:Nat),i+k=s.size->k<N->∃o,aD (dp s) N (i:Int)=ZA o/\(o=.inl ()\/o=.inr ZD):=by
 intro k
 induction k with
 |zero=>
  intro i N hi hk
  cases N with
  |zero=>omega
  |succ N=>exact⟨.inl (),by simp[aD,dp,show ¬((i:Int)<s.size)by omega],.inl rfl⟩
 |succ k ih=>
  intro i N hi hk
  cases N with
  |zero=>omega
  |succ N=>
   obtain⟨c,hc⟩:=ZbG (s:=s) (i:=i) YG;have hw:=bI (i:=i) (n:=s.size) YG YG
   by_cases h2:c<65
   ·exact⟨.inr ZD,by simp[aD,dp,show(i:Int)<s.size by omega,hc,h2],.inr rfl⟩
   ·by_cases h3:90<c
    ·exact⟨.inr ZD,by simp[aD,dp,show(i:Int)<s.size by omega,hc,h2,h3],.inr rfl⟩
    ·obtain⟨o,ho,hoo⟩:=ih (i+1) N YG YG
     refine⟨o,?_,hoo⟩;simp only[aD,dp,Yp (show(i:Int)<s.size by omega),YC,hc,VE,Yz h2,Yz h3,YD,hw]
     exact ho
theorem pI(hs:s.size<=1152921504606846000):dH s=cQ s/\∃b,cQ s=ZA b:=by
 obtain⟨o,ho,hoo⟩:=QM hs s.size 0 NN YG YI;have Ol:aD (dp s) NN 0=ZA o:=ho
 by_cases h3:s.size=3
 ·have e:cQ s=(aD (dp s) NN 0).bind (bm (λ_=>ZA ZC) (λr=>ZA r)):=by
   unfold cQ;rw[Zcs h3,h3];rfl
  have e2:dH s=(aD (dp s) NN 0).bind (bm (λ_=>ZA (ZE ((s.size:Int)=3))) (λr=>ZA r)):=rfl
  rw[e,e2,Ol,h3]
  rcases hoo with rfl|rfl
  ·exact⟨rfl,_,rfl⟩
  ·exact⟨rfl,_,rfl⟩
 ·have e:cQ s=ZA false:=by unfold cQ;rw[Yz YG];rfl
  have e2:dH s=ZA false:=by
   unfold dH;rw[Ol]
   rcases hoo with rfl|rfl
   ·show ZA _=ZA _;rw[Yz YG]
   ·rfl
  exact⟨by rw[e,e2],_,e⟩
def AN:Nat:=1152921504606846000
theorem su:@de=@bw:=rfl
theorem vh:@cY=@bp:=rfl
def I6(l:bM):Prop:=l.ar.size<=AN/\l.aX.size<=AN
theorem Dj{l:bM}(h:I6 l):sJ l=fU l/\∃b,fU l=ZA b:=by
 obtain⟨e1,b1,s1⟩:=pI (s:=l.ar) h.1;obtain⟨e2,b2,s2⟩:=pI (s:=l.aX) h.2;constructor
 ·unfold sJ fU;rw[e1,e2,iu]
 ·unfold fU
  rw[s1,s2];simp only[VE,dG]
  cases b1<;>cases b2<;>cases(ZE (l.ar=l.aX))<;>cases(ZE (0<=l.start)&&ZE (l.start<=1439))<;>cases(ZE (1<=l.oS)&&ZE (l.oS<=4320))<;>cases(ZE (1<=l.AW)&&ZE (l.AW<=127))<;>exact⟨_,rfl⟩
structure cR(n:ak):Prop where
 aB:n.aB.length<=1048576
 off:n.off.length<=1048576
 bG:∀l∈n.aB,I6 l
theorem vN{xs:List α}{i:Int}{x:α}(h:aA xs i=ZA x):x∈xs:=VI (mO h).2
theorem Zfy(h:cR n):mD n=cu n:=by
 funext i
 unfold mD cu
 cases hg:aA n.aB i with
 |none=>rfl
 |some y=>simp only[VE,(Dj (h.bG y (vN hg))).1]
theorem Zfz:mE n=cA n:=by
 funext i
 unfold mE cA;rw[iu]
 cases hg:aA n.off i with
 |none=>rfl
 |some y=>simp only[VE]
theorem ZnD(h:cR n):∃o,aD (cu n) NN 0=ZA o:=by
 refine Dp (n:=n.aB.length) (by have:=h.aB;unfold NN;omega) (λi hi=>?_) ⟨_,by simp[cu];rfl⟩
 have hw:=bI hi (by have:=h.aB;omega)
 have hg:aA n.aB (i:Int)=ZA n.aB[i]:=by rw[aQ];exact VF hi
 obtain⟨b,hb⟩:=(Dj (h.bG _ (List.getElem_mem hi))).2
 cases b with
 |true=>exact ZaD (by simp only[cu,Yp (show(i:Int)<n.aB.length by omega),YC,hg,VE,hb,hw,VK,YD])
 |false=>exact UA (by simp only[cu,Yp (show(i:Int)<n.aB.length by omega),YC,hg,VE,hb,Wl,YC];rfl)
theorem ZnE(h:cR n):∃o,aD (cA n) NN 0=ZA o:=by
 refine Dp (n:=n.off.length) (by have:=h.off;unfold NN;omega) (λi hi=>?_) ⟨_,by simp[cA];rfl⟩
 have hw:=bI hi (by have:=h.off;omega)
 have hg:aA n.off (i:Int)=ZA n.off[i]:=by rw[aQ];exact VF hi
 have hd:=Yp (show(i:Int)<n.off.length by omega)
 cases hb:ZE (0<=n.off[i])&&ZE (n.off[i]<=60)with
 |false=>exact UA (by simp only[cA,hd,YC,hg,VE,dG,hb,Wl];rfl)
 |true=>
  by_cases h0:0<(i:Int)
  ·have Fv:aH ((i:Int)-1)=((i-1:Nat):Int):=by rw[aL (by have:=h.off;omega)];omega
   have hg2:aA n.off ((i-1:Nat):Int)=ZA n.off[i-1]:=by rw[aQ];exact VF YG
   cases hc:ZE (n.off[i]<=n.off[i-1])with
   |true=>exact UA (by simp only[cA,hd,YC,hg,VE,dG,hb,VK,YD,Yp h0,Fv,hg2,hc];rfl)
   |false=>exact ZaD (by simp only[cA,hd,YC,hg,VE,dG,hb,VK,YD,Yp h0,Fv,hg2,hc,hw])
  ·exact ZaD (by simp only[cA,hd,YC,hg,VE,dG,hb,VK,YD,Yz h0,hw])
theorem j3(h:cR n):eP n=ba n/\∃b,ba n=ZA b:=by
 constructor
 ·unfold eP ba;rw[Zfy h,Zfz,iu]
 ·obtain⟨o0,h0⟩:=ZnD h
  obtain⟨o1,h1⟩:=ZnE h;unfold ba;rw[h0,h1];simp only[VE,dG]
  rcases o0 with o0|o0
  ·rcases o1 with o1|o1
   ·simp only[bm]
    cases ZE ((n.aB.length:Int)<=20)<;>cases ZE ((n.off.length:Int)<=10)<;>exact⟨_,rfl⟩
   ·exact⟨_,rfl⟩
  ·exact⟨_,rfl⟩
theorem M0{l:List Int}(h:l.length<=1048576)(x:Int):mg l x=ZA (l.any λy=>ZE (y=x)):=by
 unfold mg;rw[xJ (xs:=l) (p:=λy=>ZE (y=x)) (r:=.inr ZC) (e:=.inl ()) (λi hi=>?_) (by simp[rN]) YI]
 ·cases l.any λy=>ZE (y=x)<;>rfl
 ·have hw:=bI hi YG
  have hg:aA l (i:Int)=ZA l[i]:=by rw[aQ];exact VF hi
  simp only[rN,Yp (show(i:Int)<l.length by omega),YC,hg,VE,hw]
  cases ZE (l[i]=x)<;>rfl
theorem gh{l:List aw}(h:l.length<=1048576)(x:aw):eF l x=ZA (l.any λy=>ZE (y=x)):=by
 unfold eF;rw[xJ (xs:=l) (p:=λy=>ZE (y=x)) (r:=.inr ZC) (e:=.inl ()) (λi hi=>?_) (by simp[pk]) YI]
 ·cases l.any λy=>ZE (y=x)<;>rfl
 ·have hw:=bI hi YG
  have hg:aA l (i:Int)=ZA l[i]:=by rw[aQ];exact VF hi
  simp only[pk,Yp (show(i:Int)<l.length by omega),YC,hg,VE,hw]
  cases ZE (l[i]=x)<;>rfl
theorem iv:@dw=@eF:=rfl
theorem Tc(h:n.off.length<=1048576)(x:Int):(aD (pP n x) NN 0).bind (bm (λ_=>ZA ZC) (λr=>ZA r))=ZA (!(n.off.any λy=>ZE (y=x))):=by
 rw[xJ (xs:=n.off) (p:=λy=>ZE (y=x)) (r:=.inr ZD) (e:=.inl ()) (λi hi=>?_) (by simp[pP]) YI]
 ·cases n.off.any λy=>ZE (y=x)<;>rfl
 ·have hw:=bI hi YG
  have hg:aA n.off (i:Int)=ZA n.off[i]:=by rw[aQ];exact VF hi
  simp only[pP,Yp (show(i:Int)<n.off.length by omega),YC,hg,VE,hw]
  cases ZE (n.off[i]=x)<;>rfl
def M4(x:Int):Int:=IntKind.i64.wrap (WC IntKind.i64.bits x &&& WC IntKind.i64.bits 1).toNat
theorem Zb1(x:Int):M4 x=0\/M4 x=1:=by
 unfold M4;have h:(WC IntKind.i64.bits x &&& WC IntKind.i64.bits 1).toNat<=1:=by
  rw[BitVec.toNat_and];refine Nat.le_trans Nat.and_le_right ?_
  decide
 rw[show IntKind.i64.wrap ((WC IntKind.i64.bits x &&& WC IntKind.i64.bits 1).toNat:Int)=((WC IntKind.i64.bits x &&& WC IntKind.i64.bits 1).toNat:Int)from aL YG];omega
theorem ur(h:cR n)(bG day:Int):pO n bG day=cy n bG day/\∃b,cy n bG day=ZA b:=by
 have hl:=h.aB;have hw:aH ((n.aB.length:Int)-1)=n.aB.length-1:=aL YG;unfold pO cy;rw[iu,hw,dG,dG];simp only[VE]
 by_cases h1:bG<0
 ·simp only[Yp h1,Yz (show ¬0<=bG by omega),YC,Bool.false_and,YD]
  exact⟨trivial,_,rfl⟩
 by_cases h2:(n.aB.length:Int)<=bG
 ·simp only[Yz h1,Yp h2,Yz (show ¬bG<=(n.aB.length:Int)-1 by omega),YC,Bool.and_false,YD]
  exact⟨trivial,_,rfl⟩
 simp only[Yz h1,Yz h2,Yp (show 0<=bG by omega),Yp (show bG<=(n.aB.length:Int)-1 by omega),YC,Bool.and_true,YD]
 by_cases h3:0<=day/\day<=60
 ·simp only[Yp h3.1,Yp h3.2,Bool.and_true,VK,YD,YC]
  have hg:aA n.aB bG=ZA (n.aB[bG.toNat]' YG):=by
   unfold aA;rw[if_pos YG];exact VF _
  rw[hg];simp only[VE];have hm:0<=Yn day 7:=Int.tmod_nonneg 7 h3.1;rw[pD (Yp hm)];simp only[VE];rw[Tc h.off,M0 h.off];generalize Int.fdiv _ _=q;have hb:=Zb1 q;unfold M4 at hb
  rcases hb with hb|hb
  ·rw[hb];exact⟨rfl,_,rfl⟩
  ·rw[hb];exact⟨rfl,_,rfl⟩
 ·have:(ZE (0<=day)&&ZE (day<=60))=false:=by rw[<-Bool.decide_and];exact Yz h3
  rw[this];exact⟨rfl,_,rfl⟩
theorem ZcT(h:cR n)(bG day:Int):rl n bG day=kh n bG day/\∃b,kh n bG day=ZA b:=by
 obtain⟨e,b,s⟩:=j3 h;obtain⟨e2,b2,s2⟩:=ur h bG day;unfold rl kh;rw[e,e2,s,s2];refine⟨rfl,?_⟩
 cases b<;>exact⟨_,rfl⟩
theorem tI(h:cR n)(t:aw):dK n t=dE n t/\∃b,dE n t=ZA b:=by
 obtain⟨e,b,s⟩:=ZcT h t.bG t.day;unfold dK dE;rw[e,s];exact⟨rfl,_,rfl⟩
theorem AB:@kc=@df:=by
 funext l t
 unfold kc df;have:qy l t=dh l t:=by
  funext s
  unfold qy dh
  cases hg:aA l s.2 with
  |none=>rfl
  |some y=>simp only[VE]
 rw[this]
def jb(w:az)(i:Int):Option Bool:=
 (aA w.ae i).bind λy1=>
 cond (!decide (y1.state=3))
 ((eW y1).bind λy2=>
 cond (ZE (y2=(y1.aK.length:Int)))
 ((eH w.aa y1).bind λy3=>
 ZA (!decide (y3=y1.aX)))
 (ZA ZD))
 (ZA ZD)
instance (w:az)(i:Int):CT prog (jb w i):=⟨302,[.ag (fa w),vi i],[],λr=>vb r,λr=>[],cw (jb.eq_1 ..) func302 ntmps302 results302⟩
theorem LN{α:Type}{r:α->α->Prop}(irr:∀a,¬r a a)(asy:∀a b,r a b->¬r b a):∀{l1 l2:List α},l1.Pairwise r->l2.Pairwise r->(∀x,x∈l1↔x∈l2)->l1=l2
 | [],[],_,_,_=>rfl
 | [],b::l2,_,_,h=>absurd ((h b).2 (Wc ..)) YJ
 |a::l1,[],_,_,h=>absurd ((h a).1 (Wc ..)) YJ
 |a::l1,b::l2,h1,h2,h=>by
  rw[W9]at h1 h2
  have IJ:a=b:=by
   rcases VM.1 ((h a).1 (Wc ..))with e|e
   ·exact e
   ·rcases VM.1 ((h b).2 (Wc ..))with e'|e'
    all_goals grind
  congr 1
  refine LN irr asy h1.2 h2.2 λx=>⟨λhx=>?_,λhx=>?_⟩
  all_goals grind
theorem DO(a b:ByteArray):uu a b=ZC↔a.data.toList<b.data.toList:=by
 unfold uu;rw[Go.Proofs.bytesLess_eq,ByteArray.toList_eq,ByteArray.toList_eq,YE]
theorem Mf(h:a.data.toList=b.data.toList):a=b:=by
 obtain⟨⟨x⟩⟩:=a;simp_all
theorem Zas(a:ByteArray):¬uu a a=true:=by rw[DO];simp
theorem Zgi(a b:ByteArray)(h:uu a b=ZC):¬uu b a=true:=by rw[DO]at *;grind
theorem Zly{a b c:ByteArray}(h:uu a b=ZC)(h':uu b c=ZC):uu a c=true:=by rw[DO]at *;grind
theorem Zat(h:¬uu a b=ZC)(hn:a≠b):uu b a=true:=by
 rw[DO]at *
 rcases List.le_total a.data.toList b.data.toList with e|e
 ·rcases(List.le_iff_lt_or_eq.1 e)with e'|e'
  ·grind
  ·exact absurd (Mf e') hn
 ·rcases(List.le_iff_lt_or_eq.1 e)with e'|e'
  ·omega
  ·exact absurd (Mf e'.symm) hn
def xm:List ByteArray->ByteArray->List ByteArray
 | [],p=>[p]
 |x::xs,p=>if uu x p=ZC then x::xm xs p else if x=p then x::xs else p::x::xs
theorem I1{p y:ByteArray}:∀{xs:List ByteArray},y∈xm xs p↔y=p\/y∈xs
 | []=>by simp[xm]
 |x::xs=>by
  unfold xm
  split
  ·rw[VM,I1];grind
  grind
theorem Fy{p:ByteArray}:∀{xs:List ByteArray},xs.Pairwise (λa b=>uu a b=ZC)->(xm xs p).Pairwise (λa b=>uu a b=ZC)
 | [],_=>by simp[xm]
 |x::xs,h=>by
  rw[W9]at h
  unfold xm
  split
  ·rw[W9]
   refine⟨λy hy=>?_,Fy h.2⟩
   rcases I1.1 hy with e|e
   all_goals grind
  ·rename_i h1
   split
   ·simp_all
   ·rename_i h2
    have h3:=Zat h1 h2;rw[W9,W9];refine⟨λy hy=>?_,h⟩
    rcases VM.1 hy with e|e
    ·grind
    ·exact Zly h3 (h.1 y e)
theorem I0{p:ByteArray}:∀{xs:List ByteArray},(xm xs p).length<=xs.length+1
 | []=>by simp[xm]
 |x::xs=>by
  unfold xm
  split
  ·have:=I0 (p:=p) (xs:=xs);grind
  grind
theorem Ar{y:ByteArray}:∀{l acc:List ByteArray},y∈l.foldl xm acc↔y∈l\/y∈acc
 | [],acc=>by simp
 |p::l,acc=>by rw[Wj,Ar,I1];grind
theorem CR:∀{l acc:List ByteArray},acc.Pairwise (λa b=>uu a b=ZC)->(l.foldl xm acc).Pairwise (λa b=>uu a b=ZC)
 | [],acc,h=>h
 |p::l,acc,h=>CR (l:=l) (Fy h)
theorem KZ:∀{l acc:List ByteArray},(l.foldl xm acc).length<=l.length+acc.length
 | [],acc=>by simp
 |p::l,acc=>by
  have h1:=KZ (l:=l) (acc:=xm acc p);have h2:=I0 (p:=p) (xs:=acc)
  grind
/-! The Zl4: a list Zoj Zoi,sorted. -/
theorem Zd4{y:ByteArray}:∀{l acc:List ByteArray},y∈l.foldl dd acc↔y∈l\/y∈acc
 | [],acc=>by simp
 |p::l,acc=>by
  rw[Wj,Zd4];unfold dd
  split
  ·rename_i h
   have h:=Vq.1 h
   grind
  grind
theorem Pa:∀{l acc:List ByteArray},acc.Nodup->(l.foldl dd acc).Nodup
 | [],acc,h=>h
 |p::l,acc,h=>by
  rw[Wj];refine Pa ?_;unfold dd
  split
  ·exact h
  ·rename_i h1
   rw[List.nodup_append];refine⟨h,by simp,?_⟩
   intro a ha b hb;simp at hb
   rintro rfl;subst hb;exact h1 (Vq.2 ha)
theorem Zgp{y:ByteArray}{xs:List ByteArray}:y∈JK xs↔y∈xs:=by
 unfold JK;rw[V6];constructor
 ·rintro⟨l,hl,rfl⟩
  rw[List.mem_mergeSort,V6]at hl
  obtain⟨b,hb,rfl⟩:=hl;omega
 ·intro h
  exact⟨y.data.toList,by rw[List.mem_mergeSort];grind,Mf YJ⟩
theorem Rt{xs:List ByteArray}(h:xs.Nodup):(JK xs).Pairwise (λa b=>uu a b=ZC):=by
 unfold JK;rw[WZ];have h1:((xs.map λb:ByteArray=>b.data.toList).mergeSort λx y=>ZE (x<=y)).Pairwise (λa b=>ZE (a<=b)=ZC):=
  List.pairwise_mergeSort (λa b c=>by grind) (λa b=>by grind) _
 have h2:((xs.map λb:ByteArray=>b.data.toList).mergeSort λx y=>ZE (x<=y)).Nodup:=by
  rw[(List.mergeSort_perm _ _).nodup_iff];unfold List.Nodup;rw[WZ];exact h.imp λdX e=>dX (Mf e)
 refine(h1.and h2).imp ?_;rintro a b ⟨h3,h4⟩;rw[DO]
 grind
def ao(n:ak):List ByteArray:=(mi n).foldl xm []
theorem Fx(h:cR n):dq n=ZA (ao n):=by
 unfold dq;rw[if_pos ⟨h.aB,List.all_eq_true.2 λl hl=>Yp (by have:=h.bG l hl;unfold I6 AN at this;unfold maxLen;omega)⟩]
 congr 1
 exact LN (r:=λa b=>uu a b=ZC) Zas Zgi (Rt (Pa List.nodup_nil)) (CR List.Pairwise.nil) λx=>by
  rw[Zgp,Zd4];unfold ao;rw[Ar]
theorem ZhU{xs:List α}{p:α->Bool}(h1:∀i (hi:i<xs.length),body (i:Int)=ZA (if p xs[i]=ZC then .inl ((i+1:Nat):Int)else .inr (i:Int)))(h2:body (xs.length:Int)=ZA (.inr (xs.length:Int)))(hN:xs.length<NN):
 aD body NN 0=ZA ((xs.takeWhile p).length:Int):=by
 have key:∀(ys:List α) (i N:Nat),xs.drop i=ys->i<=xs.length->ys.length<N->aD body N (i:Int)=ZA ((i+(ys.takeWhile p).length:Nat):Int):=by
  intro ys
  induction ys with
  |nil=>
   intro i N hd hi hN
   cases N with
   |zero=>omega
   |succ N=>
    have:i=xs.length:=by grind
    subst this;simp only[aD,h2];rfl
  |cons y ys ih=>
   intro i N hd hi hN
   cases N with
   |zero=>omega
   |succ N=>
    have hy:xs[i]?=ZA y:=by
     have:=congrArg (λl=>l[0]?) hd
     grind
    have bO:i<xs.length:=(VH.1 hy).1;have hyv:xs[i]=y:=(VH.1 hy).2;have yL:xs.drop (i+1)=ys:=by
     have:=congrArg (List.drop 1) hd
     simpa using this
    simp only[aD,h1 i bO,hyv]
    cases hp:p y with
    |true=>
     have:=ih (i+1) N yL bO Y9;rw[Yq hp]
     grind
    |false=>
     simp_all
 grind
theorem Vr(p:ByteArray):∀(xs:List ByteArray),xm xs p=
 if xs[(xs.takeWhile λx=>uu x p).length]?=ZA p then xs else xs.take (xs.takeWhile λx=>uu x p).length++[p]++xs.drop (xs.takeWhile λx=>uu x p).length
 | []=>by rfl
 |x::xs=>by
  unfold xm
  cases h:uu x p with
  |true=>
   rw[Yq (by exact h),Vr p xs]
   grind
  |false=>
   simp_all
theorem Ro{i':Int}(hl:out.length<=4194304):
 (cond (ZE (((out.takeWhile λx=>uu x p).length:Int)=(out.length:Int)))
  ((dg (iC 0 ((out.takeWhile λx=>uu x p).length:Int) out.length)).bind λ_=>
  (dg (bB ((([]:List ByteArray):List ByteArray).length+((cZ out 0 ((out.takeWhile λx=>uu x p).length:Int)):List ByteArray).length) 16)).bind λ_=>
  (dg (bB ((((([]:List ByteArray):List ByteArray)++(cZ out 0 ((out.takeWhile λx=>uu x p).length:Int))):List ByteArray).length+([p]:List ByteArray).length) 16)).bind λ_=>
  (dg (iC ((out.takeWhile λx=>uu x p).length:Int) (out.length:Int) out.length)).bind λ_=>
  (dg (bB ((((((([]:List ByteArray):List ByteArray)++(cZ out 0 ((out.takeWhile λx=>uu x p).length:Int))):List ByteArray)++[p]):List ByteArray).length+((cZ out ((out.takeWhile λx=>uu x p).length:Int) (out.length:Int)):List ByteArray).length) 16)).bind λ_=>
  (ZA (.inl (i',((((((([]:List ByteArray):List ByteArray)++(cZ out 0 ((out.takeWhile λx=>uu x p).length:Int))):List ByteArray)++[p]):List ByteArray)++(cZ out ((out.takeWhile λx=>uu x p).length:Int) (out.length:Int))))):Option ((Int×List ByteArray)⊕List ByteArray)))
  ((aA out ((out.takeWhile λx=>uu x p).length:Int)).bind λy4=>
  cond (!decide (y4=p))
  ((dg (iC 0 ((out.takeWhile λx=>uu x p).length:Int) out.length)).bind λ_=>
  (dg (bB ((([]:List ByteArray):List ByteArray).length+((cZ out 0 ((out.takeWhile λx=>uu x p).length:Int)):List ByteArray).length) 16)).bind λ_=>
  (dg (bB ((((([]:List ByteArray):List ByteArray)++(cZ out 0 ((out.takeWhile λx=>uu x p).length:Int))):List ByteArray).length+([p]:List ByteArray).length) 16)).bind λ_=>
  (dg (iC ((out.takeWhile λx=>uu x p).length:Int) (out.length:Int) out.length)).bind λ_=>
  (dg (bB ((((((([]:List ByteArray):List ByteArray)++(cZ out 0 ((out.takeWhile λx=>uu x p).length:Int))):List ByteArray)++[p]):List ByteArray).length+((cZ out ((out.takeWhile λx=>uu x p).length:Int) (out.length:Int)):List ByteArray).length) 16)).bind λ_=>
  ZA (.inl (i',((((((([]:List ByteArray):List ByteArray)++(cZ out 0 ((out.takeWhile λx=>uu x p).length:Int))):List ByteArray)++[p]):List ByteArray)++(cZ out ((out.takeWhile λx=>uu x p).length:Int) (out.length:Int))))))
  (ZA (.inl (i',out)))))=ZA (.inl (i',xm out p)):=by
 have hk:(out.takeWhile λx=>uu x p).length<=out.length:=(List.takeWhile_sublist _).length_le
 rw[Vr];generalize J5:(out.takeWhile λx=>uu x p).length=k at *
 have e1:cZ out 0 (k:Int)=out.take k:=by rfl
 have e2:cZ out (k:Int) (out.length:Int)=out.drop k:=by
  unfold cZ;rw[We,We,List.take_of_length_le YJ]
 have c1:dg (iC 0 (k:Int) out.length)=ZA ():=pD (by unfold iC;simp_all)
 have c2:dg (iC (k:Int) (out.length:Int) out.length)=ZA ():=pD (by unfold iC;simp_all)
 have ap:∀n:Nat,n<=8388608->dg (bB n 16)=ZA ():=λn hn=>pD (by unfold bB;grind)
 simp
 by_cases hke:(k:Int)=out.length
 ·grind
 ·rw[Yz hke,aQ]
  grind
theorem Lr(h:i<n.aB.length):(mi n)[2*i]?=ZA n.aB[i].ar/\(mi n)[2*i+1]?=ZA n.aB[i].aX:=by
 unfold mi;have key:∀(l:List bM) (i:Nat) (h:i<l.length),(l.flatMap λx=>[x.ar,x.aX])[2*i]?=ZA l[i].ar/\(l.flatMap λx=>[x.ar,x.aX])[2*i+1]?=ZA l[i].aX:=by
  intro l
  induction l with
  |nil=>simp
  |cons a l ih=>
   intro i h
   cases i with
   |zero=>simp
   |succ i=>
    grind
 grind
theorem AD(n:ak):(mi n).length=2*n.aB.length:=by
 unfold mi
 induction n.aB with
 |nil=>rfl
 |cons a l ih=>grind
theorem twL(hl:out.length<=4194304)(hb:∀i:Int,body i=cond (ZE (i<(out.length:Int))) ((aA out i).bind λy=>cond (uu y p) (ZA (.inl (aH (i+1)))) (ZA (.inr i))) (ZA (.inr i))):
 aD body NN 0=ZA ((out.takeWhile λx=>uu x p).length:Int):=by
 refine ZhU (λi hi=>?_) ?_ YI
 ·have hw:=bI hi YG
  have hg:aA out (i:Int)=ZA out[i]:=by rw[aQ];simp
  grind
 grind
theorem Ux(h:n.aB.length<=1048576)(hp:(mi n)[i]?=ZA p)(ho:out.length<=4194304):
 iY n ((i:Int),out)=ZA (.inl (((i+1:Nat):Int),xm out p)):=by
 have hi:i<2*n.aB.length:=by rw[<-AD];grind
 have Fv:aH (2*(n.aB.length:Int))=2*n.aB.length:=aL YG;have hdiv:IntKind.i64.wrap (Xb (i:Int) 2)=((i / 2:Nat):Int):=by
  rw[show Xb (i:Int) 2=((i / 2:Nat):Int)from rfl];exact aL YG
 have ZkK:Yn (i:Int) 2=((i % 2:Nat):Int):=rfl;have hw:aH ((i:Int)+1)=((i+1:Nat):Int):=bI hi YG;have bO:i / 2<n.aB.length:=YG;have hg:aA n.aB ((i / 2:Nat):Int)=ZA n.aB[i / 2]:=by rw[aQ];simp
 obtain⟨n1,n2⟩:=Lr bO;unfold iY;simp only[Fv,hdiv,ZkK,hw,hg,VE];rw[Yp (show(i:Int)<2*(n.aB.length:Int)by omega)]
 rcases Nat.mod_two_eq_zero_or_one i with hm|hm
 ·rw[hm,Yz (show ¬((0:Nat):Int)=1 by omega)]
  have hp':p=n.aB[i / 2].ar:=by
   grind
  rw[<-hp'];rw[twL ho (body:=sg n ((i:Int),out) n.aB[i / 2]) (p:=p) (λj=>by rw[hp'];rfl)]
  exact Ro ho
 ·rw[hm,Yp (show((1:Nat):Int)=1 by omega)]
  have hp':p=n.aB[i / 2].aX:=by
   grind
  rw[<-hp'];rw[twL ho (body:=se n ((i:Int),out) n.aB[i / 2]) (p:=p) (λj=>by rw[hp'];rfl)]
  exact Ro ho
theorem FG(h:n.aB.length<=1048576):dv n=ZA (ao n):=by
 have key:∀(ps:List ByteArray) (i N:Nat) (out:List ByteArray),(mi n).drop i=ps->i<=(mi n).length->ps.length<N->out.length<=i->aD (iY n) N ((i:Int),out)=ZA (ps.foldl xm out):=by
  have D0:=AD n;intro ps
  induction ps with
  |nil=>
   intro i N out hd hi hN ho
   cases N with
   |zero=>omega
   |succ N=>
    have:i=(mi n).length:=by grind
    have Fv:aH (2*(n.aB.length:Int))=2*n.aB.length:=aL YG;simp only[aD,iY]
    grind
  |cons p ps ih=>
   intro i N out hd hi hN ho
   cases N with
   |zero=>omega
   |succ N=>
    have hp:(mi n)[i]?=ZA p:=by
     have:=congrArg (λl=>l[0]?) hd
     grind
    have bO:=(VH.1 hp).1;have yL:(mi n).drop (i+1)=ps:=by
     have:=congrArg (List.drop 1) hd
     simpa using this
    simp only[aD,Ux h hp (show out.length<=4194304 by omega)]
    exact ih (i+1) N (xm out p) yL bO YN (by have:=I0 (p:=p) (xs:=out);omega)
 have D0:=AD n;unfold dv;rw[show((0:Int))=((0:Nat):Int)from rfl,key (mi n) 0 NN [] rfl (Nat.zero_le _) YI YJ];rfl
theorem dF(h:cR n):dq n=dv n/\dv n=ZA (ao n):=⟨(Fx h).trans (FG h.aB).symm,FG h.aB⟩
theorem e9(n:ak):(ao n).length<=2*n.aB.length:=by
 have:=KZ (l:=mi n) (acc:=[]);rw[AD]at this
 simpa[ao]using this
def dt(n:ak)(aK:List aw)(aX:ByteArray)(s0:ByteArray×Int×Int):Option ((ByteArray×Int×Int)⊕(ByteArray⊕Bool)):=
 cond (ZE (s0.2.2<(aK.length:Int)))
 ((aA aK s0.2.2).bind λy5=>
 (dE n y5).bind λy6=>
 cond (!y6)
 (ZA (.inr (.inr ZD)))
 ((aA aK s0.2.2).bind λy7=>
 (aA n.aB y7.bG).bind λy8=>
 cond (!decide (y8.ar=s0.1))
 (ZA (.inr (.inr ZD)))
 ((aA aK s0.2.2).bind λy9=>
 (bw n y9).bind λeE=>
 cond (ZE (eE<s0.2.1))
 (ZA (.inr (.inr ZD)))
 ((aA aK s0.2.2).bind λoq=>
 (aA n.aB oq.bG).bind λsj=>
 (aA aK s0.2.2).bind λre=>
 (bp n re).bind λpx=>
 ZA (.inl (sj.aX,(aH (px+n.change)),(aH (s0.2.2+1))))))))
 (ZA (.inr (.inl s0.1)))
instance (n:ak)(aK:List aw)(aX:ByteArray):bj (dt n aK aX):=⟨λs0=>(.un::.sl (aK.map aS)::.un::vs aX::.un::.be 0 0 0::(U 6 (vs s0.1::vi s0.2.1::vi s0.2.2::(U 78 [])))),λs0=>[ZA ⟨.of 27,3,[[.sl (n.aB.map br),.sl (n.off.map aI),vi n.change]]⟩]⟩
def eC(n:ak)(aK:List aw)(cO:ByteArray)(aX:ByteArray)(lF:Int):Option Bool:=
 (dv n).bind λy1=>
 (ba n).bind λy2=>
 cond (!y2)
 (ZA ZD)
 ((bY y1 cO).bind λy3=>
 cond (ZE (y3<0))
 (ZA ZD)
 ((bY y1 aX).bind λy4=>
 cond (ZE (y4<0))
 (ZA ZD)
 ((aD (dt n aK aX) NN (cO,lF,0)).bind (bm (λo0=>
 ZA (ZE (o0=aX))) (λr=>ZA r)))))
instance (n:ak)(aK:List aw)(cO:ByteArray)(aX:ByteArray)(lF:Int):CT prog (eC n aK cO aX lF):=⟨288,[.ag (bE n),.sl (aK.map aS),vs cO,vs aX,vi lF],[],λr=>vb r,λr=>[],cw (eC.eq_1 ..) func288 ntmps288 results288⟩
def cn(n:ak)(s:bc):Option Bool:=
 (ba n).bind λy1=>
 cond (!y1)
 (ZA ZD)
 ((bf s.bo 1 9999).bind λy2=>
 cond (!y2)
 (ZA ZD)
 ((bf s.aO 0 100000).bind λy3=>
 cond (!y3)
 (ZA ZD)
 (cond (ZE (s.kind=1))
 (cond (ZE (s.kind=1))
 ((dv n).bind λy4=>
 (bY y4 s.place).bind λy5=>
 cond (ZE (0<=y5))
 (ZA (ZE (s.aV=(⟨0,0⟩:aw))))
 (ZA ZD))
 (cond (ZE (s.kind=3))
 (cond (ZE (s.place=⟨#[]⟩))
 ((dE n s.aV).bind λy6=>
 cond y6
 ((bw n s.aV).bind λy7=>
 ZA (ZE (s.aO<=y7)))
 (ZA ZD))
 (ZA ZD))
 (cond (ZE (s.kind=2))
 (cond (ZE (s.place=⟨#[]⟩))
 ((dE n s.aV).bind λy8=>
 cond y8
 ((bp n s.aV).bind λy9=>
 ZA (ZE (y9<=s.aO)))
 (ZA ZD))
 (ZA ZD))
 (ZA ZD))))
 (cond (ZE (s.kind=4))
 ((dv n).bind λeE=>
 (bY eE s.place).bind λoq=>
 cond (ZE (0<=oq))
 (ZA (ZE (s.aV=(⟨0,0⟩:aw))))
 (ZA ZD))
 (cond (ZE (s.kind=3))
 (cond (ZE (s.place=⟨#[]⟩))
 ((dE n s.aV).bind λsj=>
 cond sj
 ((bw n s.aV).bind λre=>
 ZA (ZE (s.aO<=re)))
 (ZA ZD))
 (ZA ZD))
 (cond (ZE (s.kind=2))
 (cond (ZE (s.place=⟨#[]⟩))
 ((dE n s.aV).bind λpx=>
 cond px
 ((bp n s.aV).bind λtl=>
 ZA (ZE (tl<=s.aO)))
 (ZA ZD))
 (ZA ZD))
 (ZA ZD)))))))
instance (n:ak)(s:bc):CT prog (cn n s):=⟨222,[.ag (bE n),.ag (bt s)],[],λr=>vb r,λr=>[],cw (cn.eq_1 ..) func222 ntmps222 results222⟩
def lk(w:az)(i:Int)(y1:ay)(s0:ByteArray×Int):Option ((ByteArray×Int)⊕(ByteArray⊕Bool)):=
 cond (ZE (s0.2<(y1.aK.length:Int)))
 ((aA y1.aK s0.2).bind λeE=>
 (aA y1.aK s0.2).bind λoq=>
 (cy w.aa eE.bG oq.day).bind λsj=>
 cond (!sj)
 (ZA (.inr (.inr ZD)))
 ((aA y1.aK s0.2).bind λre=>
 (nC w.aq (aH (i+1)) re y1.ab).bind λpx=>
 cond (!px)
 (ZA (.inr (.inr ZD)))
 ((aA y1.aK s0.2).bind λtl=>
 (aA w.aa.aB tl.bG).bind λsB=>
 cond (ZE (sB.aX=y1.aX))
 (cond (ZE ((aH (s0.2+1))<(y1.aK.length:Int)))
 (ZA (.inr (.inr ZD)))
 (ZA (.inl (sB.aX,(aH (s0.2+1))))))
 (ZA (.inl (sB.aX,(aH (s0.2+1))))))))
 (ZA (.inr (.inl s0.1)))
instance (w:az)(i:Int)(y1:ay):bj (lk w i y1):=⟨λs0=>(.un::vi i::.be 0 0 0::.un::.un::.be 1 0 0::.be 2 0 0::.un::vs s0.1::vi s0.2::(U 162 [])),λs0=>[ZA ⟨.of 33,10,[[.sl (w.aa.aB.map br),.sl (w.aa.off.map aI),vi w.aa.change,.sl (w.ae.map aY),.sl (w.aq.map aC),.sl (w.ah.map aS),vi w.now,.sl (w.aJ.map bt),.sl (w.skip.map aI),vi w.aT]]⟩,ZA ⟨.of 27,3,[[.sl (w.aa.aB.map br),.sl (w.aa.off.map aI),vi w.aa.change]]⟩,ZA ⟨.of 155,11,[[vs y1.ar,vs y1.aX,vi y1.ax,vi y1.ab,vi y1.aO,vi y1.ec,.sl (y1.aK.map aS),vi y1.aN,vi y1.state,vs y1.place,vi y1.bK]]⟩]⟩
def ja(w:az)(y1:ay)(s1:Int):Option (Int⊕(Unit⊕Bool)):=
 cond (ZE (s1<(y1.aK.length:Int)))
 ((aA y1.aK s1).bind λy20=>
 (dw w.ah y20).bind λy21=>
 cond y21
 (ZA (.inr (.inr ZD)))
 (ZA (.inl (aH (s1+1)))))
 (ZA (.inr (.inl ())))
instance (w:az)(y1:ay):bj (ja w y1):=⟨λs1=>(.un::.un::.be 0 0 0::(U 3 (.be 1 0 0::(U 3 (vi s1::(U 161 [])))))),λs1=>[ZA ⟨.of 33,10,[[.sl (w.aa.aB.map br),.sl (w.aa.off.map aI),vi w.aa.change,.sl (w.ae.map aY),.sl (w.aq.map aC),.sl (w.ah.map aS),vi w.now,.sl (w.aJ.map bt),.sl (w.skip.map aI),vi w.aT]]⟩,ZA ⟨.of 155,11,[[vs y1.ar,vs y1.aX,vi y1.ax,vi y1.ab,vi y1.aO,vi y1.ec,.sl (y1.aK.map aS),vi y1.aN,vi y1.state,vs y1.place,vi y1.bK]]⟩]⟩
def oO(w:az)(i:Int):Option Bool:=
 (aA w.ae i).bind λy1=>
 (dv w.aa).bind λy2=>
 (bY y2 y1.ar).bind λy3=>
 cond (ZE (y3<0))
 (ZA ZD)
 ((bY y2 y1.aX).bind λy4=>
 cond (ZE (y4<0))
 (ZA ZD)
 (cond (ZE (y1.ar=y1.aX))
 (ZA ZD)
 ((bf y1.ax 1 3).bind λy5=>
 cond (!y5)
 (ZA ZD)
 ((bf y1.ab 1 30000).bind λy6=>
 cond (!y6)
 (ZA ZD)
 ((bf y1.aO 0 w.now).bind λy7=>
 cond (!y7)
 (ZA ZD)
 ((bf y1.ec 0 200000).bind λy8=>
 cond (!y8)
 (ZA ZD)
 ((bf y1.aN 0 (y1.aK.length:Int)).bind λy9=>
 cond (!y9)
 (ZA ZD)
 ((aD (lk w i y1) NN (y1.ar,0)).bind (bm (λo0=>
 (eC w.aa y1.aK y1.ar o0 (aH (y1.aO+1))).bind λxr=>
 cond (!xr)
 (ZA ZD)
 ((bV w.aa y1 w.now).bind λF1=>
 cond (!F1)
 (ZA ZD)
 ((eW y1).bind λJ2=>
 (aD (ja w y1) NN J2).bind (bm (λo1=>
 ZA ZC) (λr=>ZA r))))) (λr=>ZA r))))))))))
instance (w:az)(i:Int):CT prog (oO w i):=⟨223,[.ag (fa w),vi i],[],λr=>vb r,λr=>[],cw (oO.eq_1 ..) func223 ntmps223 results223⟩
def l9(w:az)(s0:Int):Option (Int⊕(Unit⊕Bool)):=
 cond (ZE (s0<(w.ah.length:Int)))
 ((aA w.ah s0).bind λy4=>
 (aA w.ah s0).bind λy5=>
 (cy w.aa y4.bG y5.day).bind λy6=>
 cond (!y6)
 (ZA (.inr (.inr ZD)))
 ((dg (iC 0 s0 w.ah.length)).bind λ_=>
 (aA w.ah s0).bind λy7=>
 (dw (cZ w.ah 0 s0) y7).bind λy8=>
 cond y8
 (ZA (.inr (.inr ZD)))
 (ZA (.inl (aH (s0+1))))))
 (ZA (.inr (.inl ())))
instance (w:az):bj (l9 w):=⟨λs0=>(.un::.be 0 0 0::.un::vi s0::(U 135 [])),λs0=>[ZA ⟨.of 33,10,[[.sl (w.aa.aB.map br),.sl (w.aa.off.map aI),vi w.aa.change,.sl (w.ae.map aY),.sl (w.aq.map aC),.sl (w.ah.map aS),vi w.now,.sl (w.aJ.map bt),.sl (w.skip.map aI),vi w.aT]]⟩]⟩
def ma(w:az)(s1:Int):Option (Int⊕(Unit⊕Bool)):=
 cond (ZE (s1<(w.aJ.length:Int)))
 ((aA w.aJ s1).bind λy9=>
 (cn w.aa y9).bind λeE=>
 cond (!eE)
 (ZA (.inr (.inr ZD)))
 ((aA w.aJ s1).bind λoq=>
 cond (ZE (w.now<oq.aO))
 (ZA (.inr (.inr ZD)))
 (ZA (.inl (aH (s1+1))))))
 (ZA (.inr (.inl ())))
instance (w:az):bj (ma w):=⟨λs1=>(.un::.be 0 0 0::.un::.un::vi s1::(U 134 [])),λs1=>[ZA ⟨.of 33,10,[[.sl (w.aa.aB.map br),.sl (w.aa.off.map aI),vi w.aa.change,.sl (w.ae.map aY),.sl (w.aq.map aC),.sl (w.ah.map aS),vi w.now,.sl (w.aJ.map bt),.sl (w.skip.map aI),vi w.aT]]⟩]⟩
def mc(w:az)(s2:Int×Int):Option ((Int×Int)⊕(Int⊕Bool)):=
 cond (ZE (s2.2<(w.ae.length:Int)))
 ((oO w s2.2).bind λsj=>
 cond (!sj)
 (ZA (.inr (.inr ZD)))
 ((aA w.ae s2.2).bind λre=>
 ZA (.inl ((aH (s2.1+(re.aK.length:Int))),(aH (s2.2+1))))))
 (ZA (.inr (.inl s2.1)))
instance (w:az):bj (mc w):=⟨λs2=>(.un::.be 0 0 0::(U 3 (vi s2.1::vi s2.2::(U 132 [])))),λs2=>[ZA ⟨.of 33,10,[[.sl (w.aa.aB.map br),.sl (w.aa.off.map aI),vi w.aa.change,.sl (w.ae.map aY),.sl (w.aq.map aC),.sl (w.ah.map aS),vi w.now,.sl (w.aJ.map bt),.sl (w.skip.map aI),vi w.aT]]⟩]⟩
def fQ(w:az):Option Bool:=
 (eA w.aa w.aq).bind λy1=>
 cond (!y1)
 (ZA ZD)
 ((bf w.now 0 100000).bind λy2=>
 cond (!y2)
 (ZA ZD)
 (cond (ZE (30<(w.ae.length:Int)))
 (ZA ZD)
 (cond (ZE (20<(w.ah.length:Int)))
 (ZA ZD)
 (cond (ZE (200<(w.aJ.length:Int)))
 (ZA ZD)
 (cond (ZE (50<(w.skip.length:Int)))
 (ZA ZD)
 ((bf w.aT (w.aJ.length:Int) 1000000000).bind λy3=>
 cond (!y3)
 (ZA ZD)
 ((aD (l9 w) NN 0).bind (bm (λo0=>
 (aD (ma w) NN 0).bind (bm (λo1=>
 (aD (mc w) NN (0,0)).bind (bm (λo2=>
 ZA (ZE (o2=(w.aq.length:Int)))) (λr=>ZA r))) (λr=>ZA r))) (λr=>ZA r)))))))))
instance (w:az):CT prog (fQ w):=⟨128,[.ag (fa w)],[],λr=>vb r,λr=>[],cw (fQ.eq_1 ..) func128 ntmps128 results128⟩
def nt(bb:List Int):Option Int:=
 (jw bb).bind λy1=>
 cond (!y1)
 (ZA 0)
 ((nB bb).bind λy2=>
 (aA y2 0).bind λy3=>
 (aA y2 1).bind λy4=>
 (aA y2 2).bind λy5=>
 ZA (aH ((aH (y3+(aH (2*y4))))+(aH (2*y5)))))
instance (bb:List Int):CT prog (nt bb):=⟨232,[.sl (bb.map aI)],[],λr=>vi r,λr=>[],cw (nt.eq_1 ..) func232 ntmps232 results232⟩
def iA(p:aM):Option Bool:=
 (nv p.label).bind λy1=>
 cond y1
 ((cQ p.ar).bind λy2=>
 cond y2
 (cond (!decide (p.ar=p.label.aX))
 ((bf p.ab 1 30000).bind λy3=>
 cond y3
 ((jw p.bb).bind λy4=>
 cond y4
 ((nt p.bb).bind λy5=>
 cond (ZE (y5<=3600))
 ((bf p.value 0 500000).bind λy6=>
 ZA y6)
 (ZA ZD))
 (ZA ZD))
 (ZA ZD))
 (ZA ZD))
 (ZA ZD))
 (ZA ZD)
instance (p:aM):CT prog (iA p):=⟨134,[.ag (bq p)],[],λr=>vb r,λr=>[],cw (iA.eq_1 ..) func134 ntmps134 results134⟩
def nW(a:ZJ):Option Bool:=
 (jn 2 7 (
 cond (ZE (a.kind=1))
 ((iA a.av).bind λy1=>
 cond (!y1)
 (ZA (.inr ZD))
 (ZA (.inl ())))
 (cond (!decide (a.av.label=(⟨0,0,⟨#[]⟩⟩:fF)))
 (ZA (.inr ZD))
 (cond (!decide (a.av.ar=⟨#[]⟩))
 (ZA (.inr ZD))
 (cond (!decide (a.av.ab=0))
 (ZA (.inr ZD))
 (cond (ZE (0<(a.av.bb.length:Int)))
 (ZA (.inr ZD))
 (cond (!decide (a.av.value=0))
 (ZA (.inr ZD))
 (ZA (.inl ()))))))):Option (Unit⊕Bool)) (λz2=>(.un::.be 0 0 0::(U 129 []))) (λz2=>[ZA ⟨.of 48,13,[[vi a.kind,vi a.av.label.ax,vi a.av.label.bZ,vs a.av.label.aX,vs a.av.ar,vi a.av.ab,.sl (a.av.bb.map aI),vi a.av.value,vi a.order,vi a.bh,vi a.bn,vi a.aV.bG,vi a.aV.day]]⟩])).bind (bm (λz2=>
 (jn 7 8 (
 cond (ZE (a.kind=2))
 (ZA (.inl ZC))
 (ZA (.inl (ZE (a.kind=6)))):Option (Bool⊕Empty)) (λz3=>(.un::.be 0 0 0::.un::.un::vb z3::(U 126 []))) (λz3=>[ZA ⟨.of 48,13,[[vi a.kind,vi a.av.label.ax,vi a.av.label.bZ,vs a.av.label.aX,vs a.av.ar,vi a.av.ab,.sl (a.av.bb.map aI),vi a.av.value,vi a.order,vi a.bh,vi a.bn,vi a.aV.bG,vi a.aV.day]]⟩])).bind (bm (λz3=>
 (jn 8 10 (
 cond z3
 ((bf a.order 1 9999).bind λy4=>
 cond (!y4)
 (ZA (.inr ZD))
 (cond (!z3)
 (cond (!decide (a.order=0))
 (ZA (.inr ZD))
 (ZA (.inl ())))
 (ZA (.inl ()))))
 (cond (!z3)
 (cond (!decide (a.order=0))
 (ZA (.inr ZD))
 (ZA (.inl ())))
 (ZA (.inl ()))):Option (Unit⊕Bool)) (λz5=>(.un::.be 0 0 0::(U 129 []))) (λz5=>[ZA ⟨.of 48,13,[[vi a.kind,vi a.av.label.ax,vi a.av.label.bZ,vs a.av.label.aX,vs a.av.ar,vi a.av.ab,.sl (a.av.bb.map aI),vi a.av.value,vi a.order,vi a.bh,vi a.bn,vi a.aV.bG,vi a.aV.day]]⟩])).bind (bm (λz5=>
 (jn 10 12 (
 cond (ZE (a.kind=2))
 ((bf a.bh 1 100000).bind λy6=>
 cond (!y6)
 (ZA (.inr ZD))
 (cond (!decide (a.kind=2))
 (cond (!decide (a.bh=0))
 (ZA (.inr ZD))
 (ZA (.inl ())))
 (ZA (.inl ()))))
 (cond (!decide (a.kind=2))
 (cond (!decide (a.bh=0))
 (ZA (.inr ZD))
 (ZA (.inl ())))
 (ZA (.inl ()))):Option (Unit⊕Bool)) (λz7=>(.un::.be 0 0 0::(U 129 []))) (λz7=>[ZA ⟨.of 48,13,[[vi a.kind,vi a.av.label.ax,vi a.av.label.bZ,vs a.av.label.aX,vs a.av.ar,vi a.av.ab,.sl (a.av.bb.map aI),vi a.av.value,vi a.order,vi a.bh,vi a.bn,vi a.aV.bG,vi a.aV.day]]⟩])).bind (bm (λz7=>
 (jn 12 14 (
 cond (ZE (a.kind=3))
 ((bf a.bn 0 100000).bind λy8=>
 cond (!y8)
 (ZA (.inr ZD))
 (cond (!decide (a.kind=3))
 (cond (!decide (a.bn=0))
 (ZA (.inr ZD))
 (ZA (.inl ())))
 (ZA (.inl ()))))
 (cond (!decide (a.kind=3))
 (cond (!decide (a.bn=0))
 (ZA (.inr ZD))
 (ZA (.inl ())))
 (ZA (.inl ()))):Option (Unit⊕Bool)) (λz9=>(.un::.be 0 0 0::(U 129 []))) (λz9=>[ZA ⟨.of 48,13,[[vi a.kind,vi a.av.label.ax,vi a.av.label.bZ,vs a.av.label.aX,vs a.av.ar,vi a.av.ab,.sl (a.av.bb.map aI),vi a.av.value,vi a.order,vi a.bh,vi a.bn,vi a.aV.bG,vi a.aV.day]]⟩])).bind (bm (λz9=>
 (jn 14 16 (
 cond (ZE (a.kind=4))
 ((bf a.aV.bG 0 19).bind λeE=>
 cond (!eE)
 (ZA (.inr ZD))
 ((bf a.aV.day 0 60).bind λoq=>
 cond (!oq)
 (ZA (.inr ZD))
 (cond (!decide (a.kind=4))
 (cond (!decide (a.aV=(⟨0,0⟩:aw)))
 (ZA (.inr ZD))
 (ZA (.inl ())))
 (ZA (.inl ())))))
 (cond (!decide (a.kind=4))
 (cond (!decide (a.aV=(⟨0,0⟩:aw)))
 (ZA (.inr ZD))
 (ZA (.inl ())))
 (ZA (.inl ()))):Option (Unit⊕Bool)) (λz12=>(.un::.be 0 0 0::(U 129 []))) (λz12=>[ZA ⟨.of 48,13,[[vi a.kind,vi a.av.label.ax,vi a.av.label.bZ,vs a.av.label.aX,vs a.av.ar,vi a.av.ab,.sl (a.av.bb.map aI),vi a.av.value,vi a.order,vi a.bh,vi a.bn,vi a.aV.bG,vi a.aV.day]]⟩])).bind (bm (λz12=>
 (bf a.kind 1 6).bind λre=>
 ZA re) (λr=>ZA r))) (λr=>ZA r))) (λr=>ZA r))) (λr=>ZA r))) (λr=>nomatch r))) (λr=>ZA r))
instance (a:ZJ):CT prog (nW a):=⟨52,[.ag (ZK a)],[],λr=>vb r,λr=>[],cw (nW.eq_1 ..) func52 ntmps52 results52⟩
def kF(l:List bH)(aP:Int)(s0:Int):Option (Int⊕(Unit⊕Bool)):=
 cond (ZE (s0<(l.length:Int)))
 ((jn 3 12 (
 (aA l s0).bind λy1=>
 cond (ZE (y1.nD<0))
 (ZA (.inr ZD))
 (cond (ZE (aP<=y1.nD))
 (ZA (.inr ZD))
 ((aZ y1.ax 1 3).bind λy2=>
 cond (!y2)
 (ZA (.inr ZD))
 ((aZ y1.lT 1 1000000000).bind λy3=>
 cond (!y3)
 (ZA (.inr ZD))
 ((aZ y1.nK 0 100000).bind λy4=>
 cond (!y4)
 (ZA (.inr ZD))
 (cond (ZE (s0=0))
 (ZA (.inl ()))
 ((aA l (aH (s0-1))).bind λy5=>
 (dL y5.nD y1.nD).bind λy6=>
 (dL y5.ax y1.ax).bind λy7=>
 (dL y5.lT y1.lT).bind λy8=>
 (qA ([y6,y7,y8])).bind λy9=>
 cond (ZE (0<=y9))
 (ZA (.inr ZD))
 (cond (ZE (y5.nD=y1.nD))
 (cond (ZE (y5.ax=y1.ax))
 (cond (ZE (y1.nK<y5.nK))
 (ZA (.inr ZD))
 (ZA (.inl ())))
 (ZA (.inl ())))
 (ZA (.inl ()))))))))):Option (Unit⊕Bool)) (λUJ=>(.sl (l.map b9)::vi aP::(U 6 (.sl (l.map b9)::vi (l.length:Int)::vi s0::(U 79 []))))) (λUJ=>[])).bind (bm (λUJ=>
 ZA (.inl (aH (s0+1)))) (λr=>ZA (.inr (.inr r)))))
 (ZA (.inr (.inl ())))
instance (l:List bH)(aP:Int):bj (kF l aP):=⟨λs0=>(.sl (l.map b9)::vi aP::(U 6 (.sl (l.map b9)::vi (l.length:Int)::vi s0::(U 79 [])))),λs0=>[]⟩
def lH(l:List bH)(aP:Int):Option Bool:=
 (aD (kF l aP) NN 0).bind (bm (λo0=>
 ZA (ZE ((l.length:Int)<=24))) (λr=>ZA r))
instance (l:List bH)(aP:Int):CT prog (lH l aP):=⟨99,[.sl (l.map b9),vi aP],[],λr=>vb r,λr=>[],cw (lH.eq_1 ..) func99 ntmps99 results99⟩
def pj(aR:List bH)(p:aM)(y4:Int)(s0:Int):Option (Int⊕(Unit⊕(Int×Bool))):=
 cond (ZE (s0<(aR.length:Int)))
 ((jn 6 9 (
 (aA aR s0).bind λy5=>
 cond (ZE (y5.nD=y4))
 (cond (ZE (y5.ax=p.label.ax))
 ((ic p).bind λy6=>
 cond (ZE (y6<=y5.lT))
 (ZA (.inr (y5.nK,ZC)))
 (ZA (.inl ())))
 (ZA (.inl ())))
 (ZA (.inl ())):Option (Unit⊕(Int×Bool))) (λz7=>(U 5 (.be 0 0 0::.un::.un::vi y4::(U 22 (.sl (aR.map b9)::vi (aR.length:Int)::vi s0::(U 25 [])))))) (λz7=>[ZA ⟨.of 44,7,[[vi p.label.ax,vi p.label.bZ,vs p.label.aX,vs p.ar,vi p.ab,.sl (p.bb.map aI),vi p.value]]⟩])).bind (bm (λz7=>
 ZA (.inl (aH (s0+1)))) (λr=>ZA (.inr (.inr r)))))
 (ZA (.inr (.inl ())))
instance (aR:List bH)(p:aM)(y4:Int):bj (pj aR p y4):=⟨λs0=>(U 5 (.be 0 0 0::.un::.un::vi y4::(U 22 (.sl (aR.map b9)::vi (aR.length:Int)::vi s0::(U 25 []))))),λs0=>[ZA ⟨.of 44,7,[[vi p.label.ax,vi p.label.bZ,vs p.label.aX,vs p.ar,vi p.ab,.sl (p.bb.map aI),vi p.value]]⟩]⟩
def mT(aP:List bF)(aR:List bH)(p:aM):Option (Int×Bool):=
 (jG aP).bind λy1=>
 cond (!y1)
 (ZA (0,ZD))
 ((lH aR (aP.length:Int)).bind λy2=>
 cond (!y2)
 (ZA (0,ZD))
 ((jH p).bind λy3=>
 cond (!y3)
 (ZA (0,ZD))
 ((rm aP p.label.aX).bind λy4=>
 (aD (pj aR p y4) NN 0).bind (bm (λo0=>
 ZA (0,ZD)) (λr=>ZA r)))))
instance (aP:List bF)(aR:List bH)(p:aM):CT prog (mT aP aR p):=⟨102,[.sl (aP.map b6),.sl (aR.map b9),.ag (bq p)],[],λr=>.tu [vi r.1,vb r.2],λr=>[],cw (mT.eq_1 ..) func102 ntmps102 results102⟩
def fI(p:aM):Option Int:=
 (iA p).bind λy1=>
 cond (!y1)
 (ZA 0)
 ((lP p.bb).bind λy2=>
 cond (ZE (p.ab<(IntKind.i64.wrap (Xb (aH (y2+4999)) 5000))))
 (ZA (IntKind.i64.wrap (Xb (aH (y2+4999)) 5000)))
 (ZA p.ab))
instance (p:aM):CT prog (fI p):=⟨291,[.ag (bq p)],[],λr=>vi r,λr=>[],cw (fI.eq_1 ..) func291 ntmps291 results291⟩
def im(w:az)(s0:Int×Int):Option ((Int×Int)⊕Int):=
 cond (ZE (s0.1<(w.ae.length:Int)))
 ((aA w.ae s0.1).bind λy2=>
 cond (ZE (y2.aN=(y2.aK.length:Int)))
 (ZA (.inl ((aH (s0.1+1)),s0.2)))
 ((aA y2.aK y2.aN).bind λy3=>
 (bw w.aa y3).bind λy4=>
 cond (ZE (y2.state=2))
 ((aA y2.aK y2.aN).bind λy5=>
 (bp w.aa y5).bind λy6=>
 cond (ZE (s0.2<0))
 (ZA (.inl ((aH (s0.1+1)),y6)))
 (cond (ZE (y6<s0.2))
 (ZA (.inl ((aH (s0.1+1)),y6)))
 (ZA (.inl ((aH (s0.1+1)),s0.2)))))
 (cond (ZE (s0.2<0))
 (ZA (.inl ((aH (s0.1+1)),y4)))
 (cond (ZE (y4<s0.2))
 (ZA (.inl ((aH (s0.1+1)),y4)))
 (ZA (.inl ((aH (s0.1+1)),s0.2)))))))
 (ZA (.inr s0.2))
instance (w:az):bj (im w):=⟨λs0=>(.un::.be 0 0 0::.un::vi s0.2::vi s0.1::(U 54 [])),λs0=>[ZA ⟨.of 33,10,[[.sl (w.aa.aB.map br),.sl (w.aa.off.map aI),vi w.aa.change,.sl (w.ae.map aY),.sl (w.aq.map aC),.sl (w.ah.map aS),vi w.now,.sl (w.aJ.map bt),.sl (w.skip.map aI),vi w.aT]]⟩]⟩
def nw(w:az):Option Int:=
 (fQ w).bind λy1=>
 cond (!y1)
 (ZA (-1))
 ((aD (im w) NN (0,(-1))).bind (λo0=>
 ZA o0))
instance (w:az):CT prog (nw w):=⟨237,[.ag (fa w)],[],λr=>vi r,λr=>[],cw (nw.eq_1 ..) func237 ntmps237 results237⟩
def lD(bn:Int)(s0:Int×Int×Int×Int×(List bM)×(List Int)×(List ay)×(List aj)×(List aw)×(List bc)×(List Int)):Option ((Int×Int×Int×Int×(List bM)×(List Int)×(List ay)×(List aj)×(List aw)×(List bc)×(List Int))⊕(Int×Int×Int×(List bM)×(List Int)×(List ay)×(List aj)×(List aw)×(List bc)×(List Int))):=
 cond (ZE (s0.1<240))
 ((nw (⟨(⟨s0.2.2.2.2.1,s0.2.2.2.2.2.1,s0.2.1⟩:ak),s0.2.2.2.2.2.2.1,s0.2.2.2.2.2.2.2.1,s0.2.2.2.2.2.2.2.2.1,s0.2.2.1,s0.2.2.2.2.2.2.2.2.2.1,s0.2.2.2.2.2.2.2.2.2.2,s0.2.2.2.1⟩:az)).bind λy4=>
 cond (ZE (y4<0))
 (ZA (.inr (s0.2.1,s0.2.2.1,s0.2.2.2.1,s0.2.2.2.2.1,s0.2.2.2.2.2.1,s0.2.2.2.2.2.2.1,s0.2.2.2.2.2.2.2.1,s0.2.2.2.2.2.2.2.2.1,s0.2.2.2.2.2.2.2.2.2.1,s0.2.2.2.2.2.2.2.2.2.2)))
 (cond (ZE (bn<y4))
 (ZA (.inr (s0.2.1,s0.2.2.1,s0.2.2.2.1,s0.2.2.2.2.1,s0.2.2.2.2.2.1,s0.2.2.2.2.2.2.1,s0.2.2.2.2.2.2.2.1,s0.2.2.2.2.2.2.2.2.1,s0.2.2.2.2.2.2.2.2.2.1,s0.2.2.2.2.2.2.2.2.2.2)))
 ((nG [1,2,3,4,5,6,7,8]).bind λ_=>
 (oL (⟨(⟨s0.2.2.2.2.1,s0.2.2.2.2.2.1,s0.2.1⟩:ak),s0.2.2.2.2.2.2.1,s0.2.2.2.2.2.2.2.1,s0.2.2.2.2.2.2.2.2.1,s0.2.2.1,s0.2.2.2.2.2.2.2.2.2.1,s0.2.2.2.2.2.2.2.2.2.2,s0.2.2.2.1⟩:az) y4).bind λy5=>
 ZA (.inl ((aH (s0.1+1)),y5.aa.change,y5.now,y5.aT,y5.aa.aB,y5.aa.off,y5.ae,y5.aq,y5.ah,y5.aJ,y5.skip)))))
 (ZA (.inr (s0.2.1,s0.2.2.1,s0.2.2.2.1,s0.2.2.2.2.1,s0.2.2.2.2.2.1,s0.2.2.2.2.2.2.1,s0.2.2.2.2.2.2.2.1,s0.2.2.2.2.2.2.2.2.1,s0.2.2.2.2.2.2.2.2.2.1,s0.2.2.2.2.2.2.2.2.2.2)))
instance (bn:Int):bj (lD bn):=⟨λs0=>(.un::vi bn::.un::.un::.be 0 0 0::.be 1 0 0::vi s0.1::(U 32 [])),λs0=>[ZA ⟨.of 33,10,[[.v (.slice ZB 0 0),.v (.slice ZB 0 0),vi 0,.v (.slice ZB 0 0),.v (.slice ZB 0 0),.v (.slice ZB 0 0),vi 0,.v (.slice ZB 0 0),.v (.slice ZB 0 0),vi 0]]⟩,ZA ⟨.of 33,10,[[.ms 2,.ms 3,vi s0.2.1,.ms 4,.ms 5,.ms 6,vi s0.2.2.1,.ms 7,.ms 8,vi s0.2.2.2.1]]⟩,ZA ⟨.of 174,6,s0.2.2.2.2.1.map br⟩,ZA ⟨.of 3,1,s0.2.2.2.2.2.1.map aI⟩,ZA ⟨.of 155,11,s0.2.2.2.2.2.2.1.map aY⟩,ZA ⟨.of 177,4,s0.2.2.2.2.2.2.2.1.map aC⟩,ZA ⟨.of 46,2,s0.2.2.2.2.2.2.2.2.1.map aS⟩,ZA ⟨.of 181,6,s0.2.2.2.2.2.2.2.2.2.1.map bt⟩,ZA ⟨.of 3,1,s0.2.2.2.2.2.2.2.2.2.2.map aI⟩]⟩
def fp(w:az)(bn:Int):Option az:=
 (eV w).bind λy1=>
 (fQ w).bind λy2=>
 cond (!y2)
 (ZA y1)
 ((bf bn w.now 100000).bind λy3=>
 cond (!y3)
 (ZA y1)
 ((aD (lD bn) NN (0,y1.aa.change,y1.now,y1.aT,y1.aa.aB,y1.aa.off,y1.ae,y1.aq,y1.ah,y1.aJ,y1.skip)).bind (λo0=>
 ZA (⟨(⟨o0.2.2.2.1,o0.2.2.2.2.1,o0.1⟩:ak),o0.2.2.2.2.2.1,o0.2.2.2.2.2.2.1,o0.2.2.2.2.2.2.2.1,bn,o0.2.2.2.2.2.2.2.2.1,o0.2.2.2.2.2.2.2.2.2,o0.2.2.1⟩:az))))
instance (w:az)(bn:Int):CT prog (fp w bn):=⟨138,[.ag (fa w),vi bn],[],λr=>.ag [.ms 0,.ms 1,vi r.aa.change,.ms 2,.ms 3,.ms 4,vi r.now,.ms 5,.ms 6,vi r.aT],λr=>[ZA ⟨.of 174,6,r.aa.aB.map br⟩,ZA ⟨.of 3,1,r.aa.off.map aI⟩,ZA ⟨.of 155,11,r.ae.map aY⟩,ZA ⟨.of 177,4,r.aq.map aC⟩,ZA ⟨.of 46,2,r.ah.map aS⟩,ZA ⟨.of 181,6,r.aJ.map bt⟩,ZA ⟨.of 3,1,r.skip.map aI⟩],cw (fp.eq_1 ..) func138 ntmps138 results138⟩
def mf(w:az)(s0:Int×(List Int)):Option ((Int×(List Int))⊕(List Int)):=
 cond (ZE (s0.1<(w.ae.length:Int)))
 ((jb w s0.1).bind λy2=>
 cond y2
 ((dg (bB ((s0.2:List Int).length+([(aH (s0.1+1))]:List Int).length) 8)).bind λ_=>
 ZA (.inl ((aH (s0.1+1)),((s0.2:List Int)++[(aH (s0.1+1))]))))
 (ZA (.inl ((aH (s0.1+1)),s0.2))))
 (ZA (.inr s0.2))
instance (w:az):bj (mf w):=⟨λs0=>(.un::.be 0 0 0::.un::.ms 1::vi s0.1::(U 21 [])),λs0=>[ZA ⟨.of 33,10,[[.sl (w.aa.aB.map br),.sl (w.aa.off.map aI),vi w.aa.change,.sl (w.ae.map aY),.sl (w.aq.map aC),.sl (w.ah.map aS),vi w.now,.sl (w.aJ.map bt),.sl (w.skip.map aI),vi w.aT]]⟩,ZA ⟨.of 3,1,s0.2.map aI⟩]⟩
def hZ(w:az):Option (List Int):=
 (fQ w).bind λy1=>
 cond (!y1)
 (ZA ([]:List Int))
 ((aD (mf w) NN (0,([]:List Int))).bind (λo0=>
 ZA o0))
instance (w:az):CT prog (hZ w):=⟨243,[.ag (fa w)],[],λr=>.ms 0,λr=>[ZA ⟨.of 3,1,r.map aI⟩],cw (hZ.eq_1 ..) func243 ntmps243 results243⟩
def nR(a:aM):Option aM:=
 (qe a.label).bind λy1=>
 (eU a.bb).bind λy2=>
 ZA (⟨y1,a.ar,a.ab,y2,a.value⟩:aM)
instance (a:aM):CT prog (nR a):=⟨61,[.ag (bq a)],[],λr=>.ag [vi r.label.ax,vi r.label.bZ,vs r.label.aX,vs r.ar,vi r.ab,.ms 0,vi r.value],λr=>[ZA ⟨.of 3,1,r.bb.map aI⟩],ck (nR.eq_1 ..) func61 ntmps61 results61⟩
def uG(a:List aM)(s0:Int×(List aM)):Option ((Int×(List aM))⊕(List aM)):=
 cond (ZE (s0.1<(a.length:Int)))
 ((aA a s0.1).bind λy1=>
 (nR y1).bind λy2=>
 (aA s0.2 s0.1).bind λy3=>
 ZA (.inl ((aH (s0.1+1)),(s0.2.set (V0 s0.1) y2))))
 (ZA (.inr s0.2))
instance (a:List aM):bj (uG a):=⟨λs0=>(.sl (a.map bq)::.un::.un::.ms 0::vi s0.1::(U 18 [])),λs0=>[ZA ⟨⟨44,ZA 3⟩,7,s0.2.map bq⟩]⟩
def sM(a:List aM):Option (List aM):=
 (dg (zF (a.length:Int) 88)).bind λ_=>
 (aD (uG a) NN (0,(VW (V0 (a.length:Int)) (⟨(⟨0,0,⟨#[]⟩⟩:fF),⟨#[]⟩,0,[],0⟩:aM)))).bind (λo0=>
 ZA o0)
instance (a:List aM):CT prog (sM a):=⟨59,[.sl (a.map bq)],[],λr=>.ms 0,λr=>[ZA ⟨⟨44,ZA 3⟩,7,r.map bq⟩],ck (sM.eq_1 ..) func59 ntmps59 results59⟩
def fu(a:ZJ):Option ZJ:=
 (nR a.av).bind λy1=>
 (gI a.aV).bind λy2=>
 ZA (⟨a.kind,y1,a.order,a.bh,a.bn,y2⟩:ZJ)
instance (a:ZJ):CT prog (fu a):=⟨14,[.ag (ZK a)],[],λr=>.ag [vi r.kind,vi r.av.label.ax,vi r.av.label.bZ,vs r.av.label.aX,vs r.av.ar,vi r.av.ab,.ms 0,vi r.av.value,vi r.order,vi r.bh,vi r.bn,vi r.aV.bG,vi r.aV.day],λr=>[ZA ⟨.of 3,1,r.av.bb.map aI⟩],ck (fu.eq_1 ..) func14 ntmps14 results14⟩
def xa(a:List ZJ)(s0:Int×(List ZJ)):Option ((Int×(List ZJ))⊕(List ZJ)):=
 cond (ZE (s0.1<(a.length:Int)))
 ((aA a s0.1).bind λy1=>
 (fu y1).bind λy2=>
 (aA s0.2 s0.1).bind λy3=>
 ZA (.inl ((aH (s0.1+1)),(s0.2.set (V0 s0.1) y2))))
 (ZA (.inr s0.2))
instance (a:List ZJ):bj (xa a):=⟨λs0=>(.sl (a.map ZK)::.un::.un::.ms 0::vi s0.1::(U 18 [])),λs0=>[ZA ⟨⟨48,ZA 3⟩,13,s0.2.map ZK⟩]⟩
def gO(a:List ZJ):Option (List ZJ):=
 (dg (zF (a.length:Int) 136)).bind λ_=>
 (aD (xa a) NN (0,(VW (V0 (a.length:Int)) (⟨0,(⟨(⟨0,0,⟨#[]⟩⟩:fF),⟨#[]⟩,0,[],0⟩:aM),0,0,0,(⟨0,0⟩:aw)⟩:ZJ)))).bind (λo0=>
 ZA o0)
instance (a:List ZJ):CT prog (gO a):=⟨22,[.sl (a.map ZK)],[],λr=>.ms 0,λr=>[ZA ⟨⟨48,ZA 3⟩,13,r.map ZK⟩],ck (gO.eq_1 ..) func22 ntmps22 results22⟩
def sO(a:az):Option az:=
 (rZ a.aa).bind λy1=>
 (tJ a.ae).bind λy2=>
 (gR a.aq).bind λy3=>
 (gS a.ah).bind λy4=>
 (kV a.aJ).bind λy5=>
 (eU a.skip).bind λy6=>
 ZA (⟨y1,y2,y3,y4,a.now,y5,y6,a.aT⟩:az)
instance (a:az):CT prog (sO a):=⟨55,[.ag (fa a)],[],λr=>.ag [.ms 0,.ms 1,vi r.aa.change,.ms 2,.ms 3,.ms 4,vi r.now,.ms 5,.ms 6,vi r.aT],λr=>[ZA ⟨.of 174,6,r.aa.aB.map br⟩,ZA ⟨.of 3,1,r.aa.off.map aI⟩,ZA ⟨⟨155,ZA 46⟩,11,r.ae.map aY⟩,ZA ⟨.of 177,4,r.aq.map aC⟩,ZA ⟨.of 46,2,r.ah.map aS⟩,ZA ⟨.of 181,6,r.aJ.map bt⟩,ZA ⟨.of 3,1,r.skip.map aI⟩],ck (sO.eq_1 ..) func55 ntmps55 results55⟩
def cG(a:ZI):Option ZI:=
 (sO a.world).bind λy1=>
 (nr a.aP).bind λy2=>
 (np a.aR).bind λy3=>
 (eU a.aF).bind λy4=>
 (sM a.aG).bind λy5=>
 (nn a.lines).bind λy6=>
 (gO a.aE).bind λy7=>
 ZA (⟨y1,y2,y3,y4,y5,y6,y7⟩:ZI)
instance (a:ZI):CT prog (cG a):=⟨13,[.ag (ZM a)],[],λr=>.ag [.ms 0,.ms 1,vi r.world.aa.change,.ms 2,.ms 3,.ms 4,vi r.world.now,.ms 5,.ms 6,vi r.world.aT,.ms 7,.ms 8,.ms 9,.ms 10,.ms 11,.ms 12],λr=>[ZA ⟨.of 174,6,r.world.aa.aB.map br⟩,ZA ⟨.of 3,1,r.world.aa.off.map aI⟩,ZA ⟨⟨155,ZA 46⟩,11,r.world.ae.map aY⟩,ZA ⟨.of 177,4,r.world.aq.map aC⟩,ZA ⟨.of 46,2,r.world.ah.map aS⟩,ZA ⟨.of 181,6,r.world.aJ.map bt⟩,ZA ⟨.of 3,1,r.world.skip.map aI⟩,ZA ⟨.of 104,2,r.aP.map b6⟩,ZA ⟨.of 107,4,r.aR.map b9⟩,ZA ⟨.of 3,1,r.aF.map aI⟩,ZA ⟨⟨44,ZA 3⟩,7,r.aG.map bq⟩,ZA ⟨.of 111,4,r.lines.map bD⟩,ZA ⟨⟨48,ZA 3⟩,13,r.aE.map ZK⟩],ck (cG.eq_1 ..) func13 ntmps13 results13⟩
set_option maxRecDepth 100000
theorem ZhV(a:ZJ):fu a=qD a:=rfl
theorem Tl(x:ZI):cG x=uR x:=rfl
theorem Fk{x:ZI}(ht:dZ x<=1048576):cG x=ZA x:=(Tl x).trans (Sz x ht)
theorem ZdL{a:ZJ}(ht:eJ a<=1048576):fu a=ZA a:=(ZhV a).trans (Ml a ht)
theorem Ze4(l:List ZJ):gO l=uo l:=rfl
theorem Za6{l:List ZJ}(ht:qJ eJ l<=1048576):gO l=ZA l:=(Ze4 l).trans (OZ l (by have:=gB eJ l;omega) λx hx=>Ml x (by have:=ml eJ hx;omega))
end Go.Proofs.YtbalgkakkoocjaaGreat
