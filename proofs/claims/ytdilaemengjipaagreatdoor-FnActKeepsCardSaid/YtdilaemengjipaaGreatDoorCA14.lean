/- A part of the proof of the statement in the last file of this claim: texts on the language of the program and on its functions. No condition. -/
import Derived.Test.YtdilaemengjipaaGreatDoorCA4
import Derived.Test.YtdilaemengjipaaGreatDoorCA8
import Derived.Test.YtdilaemengjipaaGreatDoorCA9
import Derived.Test.YtdilaemengjipaaGreatDoorCA7
import Derived.Test.YtdilaemengjipaaGreatDoorCA1
import Derived.Sort.Grow
set_option linter.unusedVariables false
set_option linter.unusedSimpArgs false
set_option linter.unusedSectionVars false
open Go.Value renaming int->YM
open Go.IntKind renaming i64->YN
open Go renaming undef->YO
open Option renaming some->YH,none->YI
open Bool renaming true->YJ,false->YK
open Decidable renaming decide->YL
open Go.Proofs.Tryz
set_option maxHeartbeats 40000000
open List renaming getElem?_eq_getElem->VU,nil_append->Wz,ext_getElem?->Xo,replicate->V7,take_length->XR,getElem?_eq_some_iff->VT
open Option renaming bind_some->VS
open _root_.Int renaming reduceEq->Xi,tdiv->W3,tmod->Xs,toNat_natCast->WQ
open Bool renaming not_true->V5,not_false->Wr,and_true->XE,and_false->XU
open _root_.ByteArray renaming size->W4,ext->Xk,data_append->XP
open _root_.Array renaming getElem?_eq_some_iff->Wh
open Option.some renaming inj->VW
namespace Go.Proofs.YtdilaemengjipaaGreatDoor
set_option maxRecDepth 10000
open Go.RowKit
def cN(l:List Int)(s0:Int×(List Int))(s1:Int):Option (Int⊕Int):=
 cond (YL (s1<(s0.2.length:Int)))
 ((aB s0.2 s1).bind λy1=>
 (aB l s0.1).bind λy2=>
 cond (YL (y2<=y1))
 (YH (.inl (aI (s1+1))))
 (YH (.inr s1)))
 (YH (.inr s1))
instance (l:List Int)(s0:Int×(List Int)):bo (cN l s0):=⟨λs1=>(.sl (l.map aE)::.un::.un::.ms 0::vi s0.1::vi s1::(U 39 [])),λs1=>[YH ⟨.of 3,1,s0.2.map aE⟩]⟩
def ic(l:List Int)(s0:Int×(List Int)):Option ((Int×(List Int))⊕(List Int)):=
 cond (YL (s0.1<(l.length:Int)))
 ((aD (cN l s0) NN 0).bind (λo1=>
 (bW (gg 0 o1 s0.2.length)).bind λ_=>
 (eA (cH s0.2 0 o1)).bind λy3=>
 (aB l s0.1).bind λy4=>
 (bW (bm ((y3:List Int).length+([y4]:List Int).length) 8)).bind λ_=>
 (bW (gg o1 (s0.2.length:Int) s0.2.length)).bind λ_=>
 (bW (bm ((((y3:List Int)++[y4]):List Int).length+((cH s0.2 o1 (s0.2.length:Int)):List Int).length) 8)).bind λ_=>
 YH (.inl ((aI (s0.1+1)),((((y3:List Int)++[y4]):List Int)++(cH s0.2 o1 (s0.2.length:Int)))))))
 (YH (.inr s0.2))
instance (l:List Int):bo (ic l):=⟨λs0=>(.sl (l.map aE)::.un::.un::.ms 0::vi s0.1::(U 40 [])),λs0=>[YH ⟨.of 3,1,s0.2.map aE⟩]⟩
def mM(l:List Int):Option (List Int):=
 (aD (ic l) NN (0,([]:List Int))).bind (λo0=>
 YH o0)
instance (l:List Int):CT prog (mM l):=⟨288,[.sl (l.map aE)],[],λr=>.ms 0,λr=>[YH ⟨.of 3,1,r.map aE⟩],cw (mM.eq_1 ..) func288 ntmps288 results288⟩
def mJ(bH:List Int):Option Int:=
 (jh bH).bind λy1=>
 cond (!y1)
 (YH 0)
 ((mM bH).bind λy2=>
 (aB y2 0).bind λy3=>
 (aB y2 1).bind λy4=>
 (aB y2 2).bind λy5=>
 YH (aI ((aI (y3+(aI (2*y4))))+(aI (2*y5)))))
instance (bH:List Int):CT prog (mJ bH):=⟨225,[.sl (bH.map aE)],[],λr=>vi r,λr=>[],cw (mJ.eq_1 ..) func225 ntmps225 results225⟩
def dJ(p:aT):Option Bool:=
 (dP p.label).bind λy1=>
 cond y1
 ((bT p.au).bind λy2=>
 cond y2
 (cond (!decide (p.au=p.label.a8))
 ((bc p.ab 1 30000).bind λy3=>
 cond y3
 ((jh p.bH).bind λy4=>
 cond y4
 ((mJ p.bH).bind λy5=>
 cond (YL (y5<=3600))
 ((bc p.value 0 500000).bind λy6=>
 YH y6)
 (YH YK))
 (YH YK))
 (YH YK))
 (YH YK))
 (YH YK))
 (YH YK)
instance (p:aT):CT prog (dJ p):=⟨175,[.ag (bJ p)],[],λr=>vb r,λr=>[],cw (dJ.eq_1 ..) func175 ntmps175 results175⟩
def lS(a:bV):Option Bool:=
 (jn 2 7 (
 cond (YL (a.kind=1))
 ((dJ a.aQ).bind λy1=>
 cond (!y1)
 (YH (.inr YK))
 (YH (.inl ())))
 (cond (!decide (a.aQ.label=(⟨0,0,⟨#[]⟩⟩:cq)))
 (YH (.inr YK))
 (cond (!decide (a.aQ.au=⟨#[]⟩))
 (YH (.inr YK))
 (cond (!decide (a.aQ.ab=0))
 (YH (.inr YK))
 (cond (YL (0<(a.aQ.bH.length:Int)))
 (YH (.inr YK))
 (cond (!decide (a.aQ.value=0))
 (YH (.inr YK))
 (YH (.inl ()))))))):Option (Unit⊕Bool)) (λz2=>(.un::.be 0 0 0::(U 129 []))) (λz2=>[YH ⟨.of 48,13,[[vi a.kind,vi a.aQ.label.ay,vi a.aQ.label.da,vs a.aQ.label.a8,vs a.aQ.au,vi a.aQ.ab,.sl (a.aQ.bH.map aE),vi a.aQ.value,vi a.order,vi a.bz,vi a.bM,vi a.bj.bD,vi a.bj.day]]⟩])).bind (bk (λz2=>
 (jn 7 8 (
 cond (YL (a.kind=2))
 (YH (.inl YJ))
 (YH (.inl (YL (a.kind=6)))):Option (Bool⊕Empty)) (λz3=>(.un::.be 0 0 0::.un::.un::vb z3::(U 126 []))) (λz3=>[YH ⟨.of 48,13,[[vi a.kind,vi a.aQ.label.ay,vi a.aQ.label.da,vs a.aQ.label.a8,vs a.aQ.au,vi a.aQ.ab,.sl (a.aQ.bH.map aE),vi a.aQ.value,vi a.order,vi a.bz,vi a.bM,vi a.bj.bD,vi a.bj.day]]⟩])).bind (bk (λz3=>
 (jn 8 10 (
 cond z3
 ((bc a.order 1 9999).bind λy4=>
 cond (!y4)
 (YH (.inr YK))
 (cond (!z3)
 (cond (!decide (a.order=0))
 (YH (.inr YK))
 (YH (.inl ())))
 (YH (.inl ()))))
 (cond (!z3)
 (cond (!decide (a.order=0))
 (YH (.inr YK))
 (YH (.inl ())))
 (YH (.inl ()))):Option (Unit⊕Bool)) (λz5=>(.un::.be 0 0 0::(U 129 []))) (λz5=>[YH ⟨.of 48,13,[[vi a.kind,vi a.aQ.label.ay,vi a.aQ.label.da,vs a.aQ.label.a8,vs a.aQ.au,vi a.aQ.ab,.sl (a.aQ.bH.map aE),vi a.aQ.value,vi a.order,vi a.bz,vi a.bM,vi a.bj.bD,vi a.bj.day]]⟩])).bind (bk (λz5=>
 (jn 10 12 (
 cond (YL (a.kind=2))
 ((bc a.bz 1 100000).bind λy6=>
 cond (!y6)
 (YH (.inr YK))
 (cond (!decide (a.kind=2))
 (cond (!decide (a.bz=0))
 (YH (.inr YK))
 (YH (.inl ())))
 (YH (.inl ()))))
 (cond (!decide (a.kind=2))
 (cond (!decide (a.bz=0))
 (YH (.inr YK))
 (YH (.inl ())))
 (YH (.inl ()))):Option (Unit⊕Bool)) (λz7=>(.un::.be 0 0 0::(U 129 []))) (λz7=>[YH ⟨.of 48,13,[[vi a.kind,vi a.aQ.label.ay,vi a.aQ.label.da,vs a.aQ.label.a8,vs a.aQ.au,vi a.aQ.ab,.sl (a.aQ.bH.map aE),vi a.aQ.value,vi a.order,vi a.bz,vi a.bM,vi a.bj.bD,vi a.bj.day]]⟩])).bind (bk (λz7=>
 (jn 12 14 (
 cond (YL (a.kind=3))
 ((bc a.bM 0 100000).bind λy8=>
 cond (!y8)
 (YH (.inr YK))
 (cond (!decide (a.kind=3))
 (cond (!decide (a.bM=0))
 (YH (.inr YK))
 (YH (.inl ())))
 (YH (.inl ()))))
 (cond (!decide (a.kind=3))
 (cond (!decide (a.bM=0))
 (YH (.inr YK))
 (YH (.inl ())))
 (YH (.inl ()))):Option (Unit⊕Bool)) (λz9=>(.un::.be 0 0 0::(U 129 []))) (λz9=>[YH ⟨.of 48,13,[[vi a.kind,vi a.aQ.label.ay,vi a.aQ.label.da,vs a.aQ.label.a8,vs a.aQ.au,vi a.aQ.ab,.sl (a.aQ.bH.map aE),vi a.aQ.value,vi a.order,vi a.bz,vi a.bM,vi a.bj.bD,vi a.bj.day]]⟩])).bind (bk (λz9=>
 (jn 14 16 (
 cond (YL (a.kind=4))
 ((bc a.bj.bD 0 19).bind λdL=>
 cond (!dL)
 (YH (.inr YK))
 ((bc a.bj.day 0 60).bind λji=>
 cond (!ji)
 (YH (.inr YK))
 (cond (!decide (a.kind=4))
 (cond (!decide (a.bj=(⟨0,0⟩:av)))
 (YH (.inr YK))
 (YH (.inl ())))
 (YH (.inl ())))))
 (cond (!decide (a.kind=4))
 (cond (!decide (a.bj=(⟨0,0⟩:av)))
 (YH (.inr YK))
 (YH (.inl ())))
 (YH (.inl ()))):Option (Unit⊕Bool)) (λz12=>(.un::.be 0 0 0::(U 129 []))) (λz12=>[YH ⟨.of 48,13,[[vi a.kind,vi a.aQ.label.ay,vi a.aQ.label.da,vs a.aQ.label.a8,vs a.aQ.au,vi a.aQ.ab,.sl (a.aQ.bH.map aE),vi a.aQ.value,vi a.order,vi a.bz,vi a.bM,vi a.bj.bD,vi a.bj.day]]⟩])).bind (bk (λz12=>
 (bc a.kind 1 6).bind λmf=>
 YH mf) (λr=>YH r))) (λr=>YH r))) (λr=>YH r))) (λr=>YH r))) (λr=>r.elim))) (λr=>YH r))
instance (a:bV):CT prog (lS a):=⟨110,[.ag (gF a)],[],λr=>vb r,λr=>[],cw (lS.eq_1 ..) func110 ntmps110 results110⟩
end Go.Proofs.YtdilaemengjipaaGreatDoor
namespace Go.Proofs.YtdilaemengjipaaGreatDoor
set_option maxRecDepth 10000
open Go.RowKit Go.Sort
variable {l:List Int}{n:Nat}{ο σ:Type}{body:σ->Option (σ⊕ο)}{o:ο}{s:σ}
theorem Dc(l:List Int):jq l=jh l:=by
 rfl
def rL(l:List Int):Bool:=l.all (λn=>YL (1<=n)&&YL (n<=2000))&&YL ((l.length:Int)=3)
theorem yJ(h:l.length<NN):jh l=YH (rL l):=by
 have e:aD (lX l) NN 0=YH (if l.any (λn=>!(YL (1<=n)&&YL (n<=2000)))=YJ then .inr YK else .inl ()):=by
  refine tH (λi hi=>?_) ?_ h
  ·have hx:l[i]?=YH l[i]:=VU hi
   have hw:=bE hi (by unfold NN at h;omega)
   unfold lX;rw[X1 (by omega:(i:Int)<l.length),aS,hx,VS,cE]
   grind
  ·unfold lX
   simp
 unfold jh rL
 grind
theorem Em{σ ο:Type}{body:σ->Option (σ⊕ο)}{o:ο}:∀{n:Nat} {s:σ},aD body n s=YH o->∀k,aD body (n+k) s=YH o
 |0,s,h,k=>by cases h
 |n+1,s,h,k=>by
  rw[Nat.add_right_comm];unfold aD at *
  cases hb:body s with
  |none=>grind
  |some x=>
   rw[hb]at h
   cases x with
   |inl s'=>exact Em (n:=n) h k
   |inr o'=>exact h
theorem AV(h:aD body n s=YH o)(hn:n<=NN):aD body NN s=YH o:=by
 have:=Em h (NN-n)
 grind
theorem AW{s s':σ}(h:body s=YH (.inl s')):aD body (n+1) s=aD body n s':=by
 show(body s).bind _=_
 grind
theorem Oz(h:body s=YH (.inr o)):aD body (n+1) s=YH o:=by
 show(body s).bind _=_
 grind
theorem w1:aI 1=1:=by decide
theorem w2:aI 2=2:=by decide
theorem w3:aI 3=3:=by decide
theorem Zgm(l:List Int)(i:Int):aD (cN l (i,[])) NN 0=YH ((0:Nat):Int):=AV (n:=1) (Oz Yx) Yc
theorem Zgn{i y a:Int}(h:aB l i=YH y):aD (cN l (i,[a])) NN 0=YH (((if y<=a then 1 else 0:Nat)):Int):=by
 refine AV (n:=2) ?_ Yc;have q0:aB [a] 0=YH a:=rfl
 by_cases h1:y<=a
 ·rw[if_pos h1,AW (s':=1) (by simp[cN,h,q0,h1,w1])];rfl
 ·rw[if_neg h1,Oz (o:=0) (by simp[cN,h,q0,h1])];rfl
theorem Zgo{i y a b:Int}(h:aB l i=YH y):aD (cN l (i,[a,b])) NN 0=YH (((if y<=a then(if y<=b then 2 else 1)else 0:Nat)):Int):=by
 refine AV (n:=3) ?_ Yc;have q0:aB [a,b] 0=YH a:=rfl;have q1:aB [a,b] 1=YH b:=rfl
 by_cases h1:y<=a
 ·rw[if_pos h1,AW (s':=1) (by simp[cN,h,q0,h1,w1])]
  by_cases h2:y<=b
  ·rw[if_pos h2,AW (s':=2) (by simp[cN,h,q1,h2,w2])];rfl
  ·rw[if_neg h2,Oz (o:=1) (by simp[cN,h,q1,h2])];rfl
 ·rw[if_neg h1,Oz (o:=0) (by simp[cN,h,q0,h1])];rfl
theorem RX(h:l.length<=1048576):eA l=YH l:=by
 have c:bW (bm (([]:List Int).length+l.length) 8)=YH ():=od (X1 ⟨by grind,by grind⟩)
 unfold eA
 grind
theorem Zcw{l out:List Int}{i y:Int}{k:Nat}(hi:i<(l.length:Int))(hy:aB l i=YH y)(hk:aD (cN l (i,out)) NN 0=YH (k:Int))(hkl:k<=out.length)(hl:out.length<=1000):
 ic l (i,out)=YH (.inl (aI (i+1),out.take k++[y]++out.drop k)):=by
 unfold ic;have t1:cH out 0 (k:Int)=out.take k:=by rfl
 have t2:cH out (k:Int) (out.length:Int)=out.drop k:=by exact List.take_of_length_le Ye
 have c1:bW (gg 0 (k:Int) (out.length:Int))=YH ():=od (X1 ⟨X9,X9,X9⟩);have c2:bW (gg (k:Int) (out.length:Int) (out.length:Int))=YH ():=od (X1 ⟨X9,X9,X9⟩);have c3:bW (bm ((out.take k).length+([y]:List Int).length) 8)=YH ():=od (X1 ⟨by grind,by grind⟩)
 have c4:bW (bm ((out.take k++[y]).length+(out.drop k).length) 8)=YH ():=od (X1 ⟨by grind,by grind⟩)
 simp only[X1 hi,X5,hk,VS,c1,t1,RX (l:=out.take k) Yd,hy,c3,c2,t2,c4]
theorem Tg(x y z:Int):mM [x,y,z]=YH (AG [x,y,z]):=by
 have g0:aB [x,y,z] 0=YH x:=rfl;have g1:aB [x,y,z] 1=YH y:=rfl;have g2:aB [x,y,z] 2=YH z:=rfl;have e:aD (ic [x,y,z]) NN (0,[])=YH (AG [x,y,z]):=by
  refine AV (n:=4) ?_ Yc;have e0:=Zcw (l:=[x,y,z]) Ye g0 (Zgm _ _) (Nat.le_refl _) Ye;have hE:∀o:List Int,ic [x,y,z] (3,o)=YH (.inr o):=λo=>by rfl
  simp only[List.take_nil,List.drop_nil,Wz,List.append_nil,show aI ((0:Int)+1)=1 by rfl]at e0
  have e1:=Zcw (l:=[x,y,z]) (out:=[x]) Ye g1 (Zgn g1) Yd Ye;simp only[show aI ((1:Int)+1)=2 by rfl]at e1
  have e2:=λa b=>Zcw (l:=[x,y,z]) (out:=[a,b]) Ye g2 (Zgo g2) Yd Ye
  simp only[show aI ((2:Int)+1)=3 by rfl]at e2
  have hs:AG [x,y,z]=(Sort.insertionSort zT #[x,y,z] 0 3).toList:=rfl;rw[hs];unfold Sort.insertionSort;rw[insOuter,if_pos X9,insOuter,if_pos X9,insOuter]
  by_cases h1:y<=x
  ·have Q9:¬x<y:=X9
   rw[if_pos h1]at e1
   have xO:=e2 x y
   by_cases h2:z<=x
   ·by_cases h3:z<=y
    ·rw[if_pos h2,if_pos h3]at xO
     simp at e1 xO
     rw[AW e0,AW e1,AW xO,Oz (hE _)];simp[insInner,zT,Q9,show ¬y<z by omega]
    ·rw[if_pos h2,if_neg h3]at xO
     simp at e1 xO
     rw[AW e0,AW e1,AW xO,Oz (hE _)];simp[insInner,swp,zT,Q9,show y<z by omega,show ¬x<z by omega]
   ·rw[if_neg h2]at xO
    simp at e1 xO
    rw[AW e0,AW e1,AW xO,Oz (hE _)];simp[insInner,swp,zT,Q9,show y<z by omega,show x<z by omega]
  ·have Q9:x<y:=X9
   rw[if_neg h1]at e1
   have xO:=e2 y x
   by_cases h2:z<=y
   ·by_cases h3:z<=x
    ·rw[if_pos h2,if_pos h3]at xO
     simp at e1 xO
     rw[AW e0,AW e1,AW xO,Oz (hE _)];simp[insInner,swp,zT,Q9,show ¬x<z by omega]
    ·rw[if_pos h2,if_neg h3]at xO
     simp at e1 xO
     rw[AW e0,AW e1,AW xO,Oz (hE _)];simp[insInner,swp,zT,Q9,show x<z by omega,show ¬y<z by omega]
   ·rw[if_neg h2]at xO
    simp at e1 xO
    rw[AW e0,AW e1,AW xO,Oz (hE _)];simp[insInner,swp,zT,Q9,show y<z by omega,show x<z by omega]
 unfold mM
 grind
theorem wj(h:rL l=YJ):l.length=3:=by
 unfold rL at h
 grind
theorem H6(h:l.length<NN):oi l=mJ l/\∃b,mJ l=YH b:=by
 unfold oi mJ;rw[Dc,yJ h]
 cases ht:rL l with
 |false=>simp
 |true=>
  have h3:=wj ht
  match l,h3 with
  | [x,y,z],_=>
   have hm:mB [x,y,z]=YH (AG [x,y,z]):=if_pos rfl;have hl:=JE [x,y,z]
   match hs:AG [x,y,z],hl with
   | [a,b,c],_=>
    simp only[Tg,hm,hs];exact⟨trivial,_,rfl⟩
theorem yf{l:cq}(h:l.a8.size<=rq):gJ l=dP l/\∃b,dP l=YH b:=by
 obtain⟨e,b,hb⟩:=l7 h;unfold gJ dP;rw[gE,e,hb,cE,cE]
 grind
theorem tR{p:aT}(h1:p.label.a8.size<=rq)(h2:p.au.size<=rq)(h3:p.bH.length<NN):gb p=dJ p/\∃b,dJ p=YH b:=by
 obtain⟨e1,b1,pk⟩:=yf h1;obtain⟨e2,b2,uI⟩:=l7 h2;obtain⟨e3,b3,hb3⟩:=H6 h3;unfold gb dJ;rw[gE,e3,Dc,yJ h3,cE,cE]
 grind
theorem ZcF{a b:List Int}(h:a.length<NN):eY a b=YH (YL (a=b)):=by
 unfold eY
 by_cases hl:a.length=b.length
 ·have e:aD (gZ a b) NN 0=YH (if(List.range a.length).all (λi=>YL (a[i]?=b[i]?))=YJ then .inl ()else .inr YK):=by
   refine og (λi hi _=>?_) (λ_=>?_) h
   ·have hx:a[i]?=YH a[i]:=VU hi
    have hy:b[i]?=YH b[i]:=VU X9;have hw:=bE hi (by unfold NN at h;omega)
    unfold gZ;rw[X1 (by omega:(i:Int)<a.length),aS,aS,hx,hy]
    grind
   ·unfold gZ
    simp
  rw[X1 (by omega:(a.length:Int)=b.length),e]
  by_cases B8:a=b
  ·grind
  ·rw[if_neg,X2 B8]
   ·rfl
   ·intro wU
    refine B8 (Xo λi=>?_)
    grind
 ·rw[X2 (by omega:¬((a.length:Int)=b.length)),X2 (λe=>hl (by rw[e]))]
  rfl
theorem o4{ο α:Type}(i j:Nat)(J:Option (ο⊕α))(T:ο->List PV)(M:ο->Mem):jn i j J T M=J:=by unfold jn;rfl
theorem Zbw(b c:Bool):(bif b then YH c else YH YK)=YH (b&&c):=by grind
theorem ZfE(b c:Bool):(bif !b then YH YK else YH c)=YH (b&&c):=by grind
theorem Kd{α β:Type}(b:Bool)(X Y:Option α)(S:α->Option β):(bif b then X else Y).bind S=bif b then X.bind S else Y.bind S:=by grind
theorem wK{a b:aT}(h:a.bH.length<NN):iI a b=YH (YL (a.label=b.label)&&(YL (a.au=b.au)&&(YL (a.ab=b.ab)&&(YL (a.bH=b.bH)&&YL (a.value=b.value))))):=by
 unfold iI;simp only[ZcF h,VS,Zbw]
theorem xk{a b:bV}(h:a.aQ.bH.length<NN):ld a b=YH (YL (a.kind=b.kind)&&((YL (a.aQ.label=b.aQ.label)&&(YL (a.aQ.au=b.aQ.au)&&(YL (a.aQ.ab=b.aQ.ab)&&(YL (a.aQ.bH=b.aQ.bH)&&YL (a.aQ.value=b.aQ.value)))))&&(YL (a.order=b.order)&&(YL (a.bz=b.bz)&&(YL (a.bM=b.bM)&&YL (a.bj=b.bj)))))):=by
 unfold ld;simp only[wK h,VS,Zbw]
theorem Bh{a:bV}(h1:a.aQ.label.a8.size<=rq)(h2:a.aQ.au.size<=rq)(h3:a.aQ.bH.length<NN):∃b,eE a=YH b/\lS a=YH b:=by
 obtain⟨e1,b1,pk⟩:=tR h1 h2 h3;have hz:YL (0<(a.aQ.bH.length:Int))=!decide (a.aQ.bH=[]):=by
  cases a.aQ.bH<;>simp
 unfold eE lS;simp only[o4,gE,e1,pk,cE,xk h3,hz];generalize hq1:YL (a.aQ.label=⟨0,0,⟨#[]⟩⟩)=q1;generalize hq2:YL (a.aQ.au=⟨#[]⟩)=q2;generalize hq3:YL (a.aQ.ab=0)=q3;generalize hq4:YL (a.aQ.bH=[])=q4;generalize hq5:YL (a.aQ.value=0)=q5;generalize hq6:YL (a.order=0)=q6;generalize hq7:YL (a.bz=0)=q7;generalize hq8:YL (a.bM=0)=q8;generalize hq9:YL (a.bj=⟨0,0⟩)=q9;have kk:a.kind=1\/a.kind=2\/a.kind=3\/a.kind=4\/a.kind=5\/a.kind=6\/(a.kind≠1/\a.kind≠2/\a.kind≠3/\a.kind≠4/\a.kind≠5/\a.kind≠6):=X9
 rcases kk with k|k|k|k|k|k|⟨n1,n2,n3,n4,n5,n6⟩
 all_goals try(simp only[n1,n2,n3,n4,n5,n6,Xi,decide_true,decide_false,V5,Wr,X5,X6,VS,bk,Kd])
 all_goals try simp only[k,Xi,decide_true,decide_false,V5,Wr,X5,X6,VS,bk,Kd]
 case inr.inr.inr.inr.inr.inr=>
  have hf:(YL (1<=a.kind)&&YL (a.kind<=6))=false:=by
   grind
  grind
 all_goals
  simp only[hq1,hq2,hq3,hq4,hq5,hq6,hq7,hq8,hq9,Zbw,ZfE,Bool.true_and,XE,Int.reduceLE,decide_true];exact⟨_,rfl,by congr 1;try ac_rfl⟩
end Go.Proofs.YtdilaemengjipaaGreatDoor
namespace Go.Proofs.YtdilaemengjipaaGreatDoor
set_option maxRecDepth 10000
open Go.RowKit
variable {c:UInt8}{r:ByteArray}
def fQ(p:aT):Option Int:=
 (dJ p).bind λy1=>
 cond (!y1)
 (YH 0)
 ((lp p.bH).bind λy2=>
 cond (YL (p.ab<(IntKind.i64.wrap (W3 (aI (y2+4999)) 5000))))
 (YH (IntKind.i64.wrap (W3 (aI (y2+4999)) 5000)))
 (YH p.ab))
instance (p:aT):CT prog (fQ p):=⟨287,[.ag (bJ p)],[],λr=>vi r,λr=>[],cw (fQ.eq_1 ..) func287 ntmps287 results287⟩
def gS(aX:List bL)(p:aT)(y4:Int)(s0:Int):Option (Int⊕(Unit⊕(Int×Bool))):=
 cond (YL (s0<(aX.length:Int)))
 ((jn 7 6 (
 (aB aX s0).bind λy5=>
 cond (YL (y5.nt=y4))
 ((aB aX s0).bind λy6=>
 cond (YL (y6.ay=p.label.ay))
 ((fQ p).bind λy7=>
 (aB aX s0).bind λy8=>
 cond (YL (y7<=y8.nU))
 ((aB aX s0).bind λy9=>
 YH (.inr (y9.kQ,YJ)))
 (YH (.inl ())))
 (YH (.inl ())))
 (YH (.inl ())):Option (Unit⊕(Int×Bool))) (λz10=>(.un::.sl (aX.map cI)::(U 3 (.be 0 0 0::.un::.un::vi y4::vi s0::(U 59 []))))) (λz10=>[YH ⟨.of 44,7,[[vi p.label.ay,vi p.label.da,vs p.label.a8,vs p.au,vi p.ab,.sl (p.bH.map aE),vi p.value]]⟩])).bind (bk (λz10=>
 YH (.inl (aI (s0+1)))) (λr=>YH (.inr (.inr r)))))
 (YH (.inr (.inl ())))
instance (aX:List bL)(p:aT)(y4:Int):bo (gS aX p y4):=⟨λs0=>(.un::.sl (aX.map cI)::(U 3 (.be 0 0 0::.un::.un::vi y4::vi s0::(U 59 [])))),λs0=>[YH ⟨.of 44,7,[[vi p.label.ay,vi p.label.da,vs p.label.a8,vs p.au,vi p.ab,.sl (p.bH.map aE),vi p.value]]⟩]⟩
def gR(aY:List bI)(aX:List bL)(p:aT):Option (Int×Bool):=
 (jx aY).bind λy1=>
 cond (!y1)
 (YH (0,YK))
 ((lj aX (aY.length:Int)).bind λy2=>
 cond (!y2)
 (YH (0,YK))
 ((dJ p).bind λy3=>
 cond (!y3)
 (YH (0,YK))
 ((nQ aY p.label.a8).bind λy4=>
 (aD (gS aX p y4) NN 0).bind (bk (λo0=>
 YH (0,YK)) (λr=>YH r)))))
instance (aY:List bI)(aX:List bL)(p:aT):CT prog (gR aY aX p):=⟨222,[.sl (aY.map cG),.sl (aX.map cI),.ag (bJ p)],[],λr=>.tu [vi r.1,vb r.2],λr=>[],cw (gR.eq_1 ..) func222 ntmps222 results222⟩
def kO(l:List Int)(s0:Int):Option (Int⊕(Unit⊕Bool)):=
 cond (YL (s0<(l.length:Int)))
 ((jn 4 3 (
 (aB l s0).bind λy1=>
 (bc y1 0 100).bind λy2=>
 cond (!y2)
 (YH (.inr YK))
 (cond (YL (0<s0))
 ((aB l (aI (s0-1))).bind λy3=>
 (aB l s0).bind λy4=>
 cond (YL (y4<y3))
 (YH (.inr YK))
 (YH (.inl ())))
 (YH (.inl ()))):Option (Unit⊕Bool)) (λz5=>(.sl (l.map aE)::.un::.un::vi s0::(U 31 []))) (λz5=>[])).bind (bk (λz5=>
 YH (.inl (aI (s0+1)))) (λr=>YH (.inr (.inr r)))))
 (YH (.inr (.inl ())))
instance (l:List Int):bo (kO l):=⟨λs0=>(.sl (l.map aE)::.un::.un::vi s0::(U 31 [])),λs0=>[]⟩
def eJ(l:List Int):Option Bool:=
 (aD (kO l) NN 0).bind (bk (λo0=>
 (bc (l.length:Int) 1 6).bind λy6=>
 YH y6) (λr=>YH r))
theorem wz(l:List Int){r:Bool}(H:eJ l=YH r):fL prog 172 [.sl (l.map aE)] [] (vb r) []:=by
 replace H:=H0 H;unfold eJ at H
 refine ja func172 rfl ntmps172 results172 λQ hQ Ia=>?_
 exact JU
instance (l:List Int):CT prog (eJ l):=⟨172,[.sl (l.map aE)],[],λr=>vb r,λr=>[],wz l⟩
def ke(oc:Int)(dW:Int)(bB:Int)(aM:List Int):Option Int:=
 (eJ aM).bind λy1=>
 cond (!y1)
 (YH 0)
 ((bc oc 0 100000).bind λy2=>
 cond (!y2)
 (YH 0)
 ((bc dW 0 200000).bind λy3=>
 cond (!y3)
 (YH 0)
 ((bc bB 0 200000).bind λy4=>
 cond (!y4)
 (YH 0)
 (cond (YL (bB<=dW))
 (YH 0)
 ((jn 4 6 (
 cond (YL ((aM.length:Int)<=(IntKind.i64.wrap (W3 (aI ((aI (bB-dW))-1)) 1440))))
 (YH (.inl (aI ((aM.length:Int)-1))))
 (YH (.inl (IntKind.i64.wrap (W3 (aI ((aI (bB-dW))-1)) 1440)))):Option (Int⊕Empty)) (λz5=>(vi oc::.un::.un::.sl (aM.map aE)::(U 5 (vi z5::(U 42 []))))) (λz5=>[])).bind (bk (λz5=>
 (aB aM z5).bind λy6=>
 YH (IntKind.i64.wrap (W3 (aI (oc*y6)) 100))) (λr=>r.elim)))))))
instance (oc:Int)(dW:Int)(bB:Int)(aM:List Int):CT prog (ke oc dW bB aM):=⟨245,[vi oc,vi dW,vi bB,.sl (aM.map aE)],[],λr=>vi r,λr=>[],cw (ke.eq_1 ..) func245 ntmps245 results245⟩
def gC(p:aT):Option aT:=
 (eA p.bH).bind λy1=>
 YH (⟨p.label,p.au,p.ab,y1,p.value⟩:aT)
instance (p:aT):CT prog (gC p):=⟨107,[.ag (bJ p)],[],λr=>.ag [vi r.label.ay,vi r.label.da,vs r.label.a8,vs r.au,vi r.ab,.sl (r.bH.map aE),vi r.value],λr=>[],cw (gC.eq_1 ..) func107 ntmps107 results107⟩
theorem ZaN(w:World)(k:Nat)(os:Array Obj):Up w (Sort.grow (w.drewN k) os):=
 ⟨rfl,rfl,rfl,by simp,λb hb=>Sort.heap_grow_old _ _ hb⟩
theorem u7(n:Int)(h0:-9223372036854775808<=n)(h1:n<=9223372036854775807)(w:World)(ht:TabF w):
 Calls prog 46 #[YM YN n] w λe w'=>e=.returned (.string (j4 (Lib.itoa n)))/\Up w w':=by
 have hI:=Tryz.strconv_Itoa n h0 h1 w ht.Nl
 go_enter func46,ntmps46
 go_wp2_with (go_at_call 98;refine hI.mono ?_;rintro e w' ⟨rfl,k,os,rfl⟩)
 go_ret
 exact⟨rfl,ZaN _ _ _⟩
theorem RU(i:Nat):Lib.itoa (i:Int)=Lib.decDigits i:=by
 unfold Lib.itoa;rw[if_neg X9];rfl
theorem Aw(i:Nat)(hi:i<100)(w:World):
 Calls prog 46 #[YM YN i] w λe w'=>e=.returned (.string (j4 (Lib.itoa i)))/\w'=w:=by
 have hI:=Tryz.strconv_Itoa_small i hi w;rw[RU]
 go_enter func46,ntmps46
 go_wp2_with (go_at_call 98;refine hI.mono ?_;rintro e w' ⟨rfl,rfl⟩)
 go_ret
 exact⟨rfl,rfl⟩
def yr(n:Int)(d:Nat):List UInt8:=V7 (d-(Lib.itoa n).length) 48++Lib.itoa n
theorem SP(c:Nat):Lib.repeatL [48] c=V7 c (48:UInt8):=by
 induction c with
 |zero=>rfl
 |succ c ih=>
  rw[Lib.repeatL,ih,List.replicate_succ];rfl
theorem I5(n:Int)(d:Nat)(h0:-9223372036854775808<=n)(h1:n<=9223372036854775807)(hd:d<=20)(w:World)(ht:TabF w):
 Calls prog 162 #[YM YN n,YM YN d] w λe w'=>e=.returned (.string (j4 (yr n d)))/\Up w w':=by
 have hF:=u7 n h0 h1 w ht;have hlen:=Lib.itoa_length_le n h0 h1;have wu:(j4 (Lib.itoa n)).size=(Lib.itoa n).length:=dw _;have hR:=λw1=>Tryz.strings_Repeat ⟨#[48]⟩ (d-(Lib.itoa n).length) w1 X9 (by show 1*_<=_;omega)
 have hsR:(⟨(Lib.repeatL [48] (d-(Lib.itoa n).length)).toArray⟩:ByteArray).size=d-(Lib.itoa n).length:=by simp[W4,Lib.repeatL_length]
 rw[show((d-(Lib.itoa n).length:Nat):Int)=max 0 ((d:Int)-((Lib.itoa n).length:Int))by omega]at hR
 go_enter func162,ntmps162
 go_wp2_with (first
  |(go_at_call 46;refine hF.mono ?_;rintro e w1 ⟨rfl,Ej⟩)
  |(go_at_call 207;refine(hR _).mono ?_;rintro e w2 ⟨rfl,J0⟩))
 all_goals(try(exfalso;omega))
 go_ret
 refine⟨?_,Up.step J0 Ej⟩;show Ending.returned (.string (⟨(Lib.repeatL [48] (d-(Lib.itoa n).length)).toArray⟩++j4 (Lib.itoa n)))=_
 congr 2
 apply Xk;rw[XP];simp[j4,yr,SP]
def zQ(c:UInt8):Option (List UInt8):=if 48<=c.toNat/\c.toNat<=57 then YH [c]else if 65<=c.toNat/\c.toNat<=90 then YH (Lib.itoa ((c.toNat-55:Nat):Int))else YI
def nA:List UInt8->Option (List UInt8)
 | []=>YH []
 |c::cs=>match zQ c,nA cs with
  |some a,YH b=>YH (a++b)
  |_,_=>YI
theorem D2(l:List UInt8)(c:UInt8):nA (l++[c])=match nA l,zQ c with
 |some a,YH b=>YH (a++b)
 |_,_=>none:=by
 induction l with
 |nil=>
  show nA [c]=_;simp only[nA]
  cases zQ c<;>simp
 |cons x l ih=>
  simp only[List.cons_append,nA,ih]
  cases zQ x<;>cases nA l<;>cases zQ c<;>simp
theorem D1{l:List UInt8}{i:Nat}(h:l[i]?=YH c)(hc:zQ c=YI):nA l=none:=by
 induction l generalizing i with
 |nil=>simp at h
 |cons x l ih=>
  cases i with
  |zero=>simp at h;subst h;simp[nA,hc]
  |succ i=>
   have:=ih (i:=i) (by simpa using h)
   simp only[nA,this]
   cases zQ x<;>rfl
theorem Nt(l:List UInt8)(k:Nat)(h:k<(j4 l).size):l[k]?=YH ((j4 l)[k]'(h)):=by
 have h':k<l.length:=by rw[dw]at h;exact h
 rw[VU h'];rfl
theorem Cl(i:Nat)(h:i<100):(Lib.itoa (i:Int)).length<=21:=
 Lib.itoa_length_le (i:Int) X9 X9
theorem Fv{a:List UInt8}(h:zQ c=YH a):a.length<=21:=by
 unfold zQ at h
 split at h
 ·cases h;simp
 ·split at h
  ·cases h;exact Cl _ (by have:=c.toNat_lt;omega)
  ·cases h
theorem Hx(l:List UInt8)(hl:l.length<=1000000000)(w:World):
 Calls prog 208 #[.string (j4 l)] w λe w'=>e=.returned (.tuple #[.string (j4 ((nA l).getD [])),.bool ((nA l).isSome)])/\Up w w':=by
 have wu:(j4 l).size=l.length:=dw _
 go_enter func208,ntmps208
 go_wp2
 go_loopw [5] (λii wr=>∃(k:Nat) (acc:List UInt8),k<=l.length/\ii=YM YN k/\nA (l.take k)=YH acc/\acc.length<=21*k/\Lib.IsBuilder 108 5 w.heap.size w.heap.size (Lib.byteCells acc) wr/\Up w wr) (λii _=>l.length-(intOf ii).toNat)
 case atStart=>
  exact⟨0,[],X9,rfl,by simp[nA],by simp,Lib.fresh_isBuilder 108 5 w,by(repeat(first|exact Up.rfl' _|(refine Up.al _ ?_) |(refine Up.dr _ ?_) |(refine Up.uO ?_) |(refine Up.sc ?_ (by first|exact Nat.le_refl _|(simp;done) |omega) _) |(refine Up.step Yp ?_)))⟩
 case round=>
  obtain⟨k,acc,hk,rfl,zh,hal,hI,hu⟩:=hrel;have hws:=hu.size
  by_cases bU:k<l.length
  ·have Im:k<(j4 l).size:=X9
   have hg:=Nt l k Im;have TG:nA (l.take (k+1))=match YH acc,zQ ((j4 l)[k]'(Im))with
    |some a,YH b=>YH (a++b)
    |_,_=>none:=by
    rw[List.take_add_one,hg,show(YH (j4 l)[k]).toList=[(j4 l)[k]]from rfl,D2,zh]<;>rfl
   have tD:=((j4 l)[k]'(Im)).toNat_lt;generalize hc:(j4 l)[k]'(Im)=c at *
   by_cases h1:48<=c.toNat/\c.toNat<=57
   ·obtain⟨h1a,h1b⟩:=h1
    have hd:zQ c=YH [c]:=by unfold zQ;rw[if_pos ⟨h1a,h1b⟩]
    rw[hd]at TG
    go_wp2_with (go_at_call 261;refine(Qr w.heap.size w.heap.size _ _ _ hI (by rw[Lib.byteCells_length];omega) hws).mono ?_;rintro e W1 ⟨rfl,hI1,pk⟩)
    go_roundw
    case rel=>
     refine⟨k+1,acc++[c],X9,by simp,TG,by simp;omega,?_,Below.trans hu pk⟩
     rw[Lib.byteCells_append];exact Or.inr hI1
    case measure=>simp[intOf];omega
   ·by_cases h2:65<=c.toNat/\c.toNat<=90
    ·obtain⟨h2a,h2b⟩:=h2
     have hd:zQ c=YH (Lib.itoa ((c.toNat-55:Nat):Int)):=by unfold zQ;rw[if_neg h1,if_pos ⟨h2a,h2b⟩]
     have hdl:=Fv hd;rw[hd]at TG
     have hF:=Aw (c.toNat-55) X9;rw[show((c.toNat-55:Nat):Int)=((c.toNat:Int)-65)+10 by omega]at hF TG hdl
     go_wp2_with (first
      |(go_at_call 46;refine(hF _).mono ?_;rintro e w1 ⟨rfl,rfl⟩)
      |(go_at_call 57;refine(T6 w.heap.size w.heap.size _ _ _ hI (by rw[Lib.byteCells_length,dw];omega) hws).mono ?_;rintro e W1 ⟨rfl,hI1,pk⟩))
     go_roundw
     case rel=>
      refine⟨k+1,acc++_,X9,by simp,TG,by simp;omega,?_,Below.trans hu pk⟩
      rw[Lib.byteCells_append];rw[Lib.strCells_eq]at hI1
      exact Or.inr hI1
     case measure=>simp[intOf];omega
    ·have hd:zQ c=none:=by unfold zQ;rw[if_neg h1,if_neg h2]
     have hn:=D1 hg (by rw[hd])
     go_wp2
     all_goals(go_ret2;first|exact⟨rfl,hu⟩ |(rw[hn];exact⟨rfl,hu⟩))
  ·have hkl:k=l.length:=X9
   subst hkl;rw[XR]at zh
   go_wp2_with (go_at_call 58;refine(Tryz.Builder_String_any w.heap.size w.heap.size acc _ hI hws).mono ?_;rintro e W1 ⟨rfl,pk⟩)
   go_ret2
   rw[zh];exact⟨rfl,Below.trans hu pk⟩
theorem AP{P:Program}{f:FuncId}{args:List PV}{r:PV}{val:Value}(h1:∀(w:World) (E:Env),dE w E r val)
 (h:∀(S:Nat->Prop) (β:Nat->Option qm) (w:World) (vs:Array Value),(∀b,S b->b<w.heap.size)->TabF w->vs.size=args.length->(∀(i:Nat) (p:PV),args[i]?=YH p->∃x,vs[i]?=YH x/\dE w (E1 S β 0) p x)->
  Calls P f vs w λe w'=>e=.returned val/\Up w w'):fL P f args [] r []:=by
 intro S β w vs ω hk hl ha;refine(h S β w vs hk.sz hk.Nl.here hl λi p hp=>by obtain⟨x,h1,h2⟩:=ha i p hp;exact⟨x,h1,h2.ZgJ⟩).mono ?_
 rintro e w' ⟨rfl,hu⟩;refine⟨val,E1 S β 0,rfl,⟨⟨hu.os,hu.tape,hu.output,hu.size,λb hb _=>hu.block b hb⟩,λb hb=>Nat.lt_of_lt_of_le (hk.sz b hb) hu.size,λl B hB hz=>?_,hk.inj,hk.used,hk.bu,λl mb hm=>(by simp at hm),hk.dom,hk.Nl,λ_ _ h=>h.elim⟩,λb h=>h,λb h=>.inl h,⟨λl B _ h=>h,λ_ _ h=>h.elim⟩,h1 _ _⟩
 obtain⟨a,b,c⟩:=hk.own l B hB hz;exact⟨a,Nat.lt_of_lt_of_le b hu.size,c⟩
theorem rv1{w:World}{E:Env}{a x:Value}(h:dE w E (.v a) x):x=a:=h.gW.1
theorem ar1{vs:Array Value}{x0:Value}(h:vs.size=1)(h0:vs[0]?=YH x0):vs=#[x0]:=by
 apply Array.ext (by simp[h])
 intro i h2 h3;obtain rfl:i=0:=X9
 simpa using(Wh.1 h0).2
theorem ar2{vs:Array Value}{x0 x1:Value}(h:vs.size=2)(h0:vs[0]?=YH x0)(h1:vs[1]?=YH x1):vs=#[x0,x1]:=by
 apply Array.ext (by simp[h])
 intro i hi h3;have a0:=(Wh.1 h0).2;have a1:=(Wh.1 h1).2
 match i,hi with
 |0,_=>simpa using a0
 |1,_=>simpa using a1
 |i+2,hi=>omega
def nR(n:Int):Prop:=-9223372036854775808<=n/\n<=9223372036854775807
instance (n:Int):Decidable (nR n):=by unfold nR;infer_instance
def cu(n:Int):Option ByteArray:=if nR n then YH (j4 (Lib.itoa n))else YI
theorem yn(n:Int)(H:cu n=YH r):fL prog 46 [vi n] [] (Go.Proofs.YtdilaemengjipaaGreatDoor.vs r) []:=by
 unfold cu at H
 split at H
 case isFalse=>cases H
 rename_i hn;obtain rfl:=VW H;refine AP (λw E=>.c (.v _ rfl)) λS β w vs wu ht hl ha=>?_
 obtain⟨x,hx,hr⟩:=ha 0 _ rfl;obtain rfl:=ar1 hl hx;obtain rfl:=rv1 hr;exact u7 n hn.1 hn.2 w ht
instance (n:Int):CT prog (cu n):=⟨46,[vi n],[],λr=>vs r,λr=>[],yn n⟩
def bG(n:Int):Option ByteArray:=if nR n then YH (j4 (Lib.itoa n))else YI
theorem yp(n:Int)(H:bG n=YH r):fL prog 118 [vi n] [] (Go.Proofs.YtdilaemengjipaaGreatDoor.vs r) []:=by
 unfold bG at H
 split at H
 case isFalse=>cases H
 rename_i hn;obtain rfl:=VW H;refine AP (λw E=>.c (.v _ rfl)) λS β w vs wu ht hl ha=>?_
 obtain⟨x,hx,hr⟩:=ha 0 _ rfl;obtain rfl:=ar1 hl hx;obtain rfl:=rv1 hr;exact B4 n hn.1 hn.2 w
instance (n:Int):CT prog (bG n):=⟨118,[vi n],[],λr=>vs r,λr=>[],yp n⟩
def ma(n d:Int):Option ByteArray:=if nR n/\0<=d/\d<=20 then YH (j4 (yr n d.toNat))else YI
theorem Cv(n d:Int)(H:ma n d=YH r):fL prog 162 [vi n,vi d] [] (Go.Proofs.YtdilaemengjipaaGreatDoor.vs r) []:=by
 unfold ma at H
 split at H
 case isFalse=>cases H
 rename_i hn;obtain rfl:=VW H;refine AP (λw E=>.c (.v _ rfl)) λS β w vs wu ht hl ha=>?_
 obtain⟨x,hx,hr⟩:=ha 0 _ rfl;obtain⟨x1,UU,hr1⟩:=ha 1 _ rfl;obtain rfl:=ar2 hl hx UU;obtain rfl:=rv1 hr;obtain rfl:=rv1 hr1;have:=I5 n d.toNat hn.1.1 hn.1.2 X9 w ht
 rwa[show((d.toNat:Nat):Int)=d by omega]at this
instance (n d:Int):CT prog (ma n d):=⟨162,[vi n,vi d],[],λr=>vs r,λr=>[],Cv n d⟩
def nN(s:ByteArray):Option (ByteArray×Bool):=if s.size<=1000000000 then YH (j4 ((nA s.data.toList).getD []),(nA s.data.toList).isSome)else YI
theorem Cu(s:ByteArray){r:ByteArray×Bool}(H:nN s=YH r):fL prog 208 [Go.Proofs.YtdilaemengjipaaGreatDoor.vs s] [] (.tu [Go.Proofs.YtdilaemengjipaaGreatDoor.vs r.1,vb r.2]) []:=by
 unfold nN at H
 split at H
 case isFalse=>cases H
 rename_i hn;obtain rfl:=VW H;refine AP (val:=.tuple #[.string (j4 ((nA s.data.toList).getD [])),.bool ((nA s.data.toList).isSome)]) (λw E=>.tu _ _ rfl λj p x hp hx=>?_) λS β w vs wu ht hl ha=>?_
 ·match j,hp,hx with
  |0,hp,hx=>simp at hp hx;subst hp hx;exact .c (.v _ rfl)
  |1,hp,hx=>simp at hp hx;subst hp hx;exact .c (.v _ rfl)
  |j+2,hp,hx=>simp at hx
 ·obtain⟨x,hx,hr⟩:=ha 0 _ rfl
  obtain rfl:=ar1 hl hx;obtain rfl:=rv1 hr;have:=Hx s.data.toList (by rw[Array.length_toList];exact hn) w
  rwa[show j4 s.data.toList=s from Xk (by simp[j4])]at this
instance (s:ByteArray):CT prog (nN s):=⟨208,[vs s],[],λr=>.tu [vs r.1,vb r.2],λr=>[],Cu s⟩
def nj(digits:Int)(s0:ByteArray):Option (ByteArray⊕ByteArray):=
 cond (YL ((s0.size:Int)<digits))
 ((bW (cY (⟨#[48]⟩) s0)).bind λ_=>
 YH (.inl (⟨#[48]⟩++s0)))
 (YH (.inr s0))
def pT(n:Int)(digits:Int):Option ByteArray:=
 (bG n).bind λy1=>
 (aD (nj digits) NN y1).bind (λo0=>
 YH o0)
def oU(s:ByteArray)(s0:ByteArray×Int):Option ((ByteArray×Int)⊕(ByteArray⊕(ByteArray×Bool))):=
 cond (YL (s0.2<(s.size:Int)))
 ((jn 5 4 (
 (uk s s0.2).bind λy1=>
 (bc (IntKind.i64.wrap y1) 48 57).bind λy2=>
 cond y2
 ((bW (gg s0.2 (aI (s0.2+1)) s.size)).bind λ_=>
 (bW (cY s0.1 (Tl s s0.2 (aI (s0.2+1))))).bind λ_=>
 YH (.inl (s0.1++(Tl s s0.2 (aI (s0.2+1))))))
 ((bc (IntKind.i64.wrap y1) 65 90).bind λy3=>
 cond y3
 ((bG (aI ((aI ((IntKind.i64.wrap y1)-65))+10))).bind λy4=>
 (bW (cY s0.1 y4)).bind λ_=>
 YH (.inl (s0.1++y4)))
 (YH (.inr (⟨#[]⟩,YK)))):Option (ByteArray⊕(ByteArray×Bool))) (λz5=>(vs s::(U 3 (vs z5::vi s0.2::(U 31 []))))) (λz5=>[])).bind (bk (λz5=>
 YH (.inl (z5,(aI (s0.2+1))))) (λr=>YH (.inr (.inr r)))))
 (YH (.inr (.inl s0.1)))
def td(s:ByteArray):Option (ByteArray×Bool):=
 (aD (oU s) NN (⟨#[]⟩,0)).bind (bk (λo0=>
 YH (o0,YJ)) (λr=>YH r))
def nJ(s:ByteArray)(s0:Int×Int):Option ((Int×Int)⊕(Int⊕Int)):=
 cond (YL (s0.2<(s.size:Int)))
 ((uk s s0.2).bind λy1=>
 (bc (IntKind.i64.wrap y1) 48 57).bind λy2=>
 cond (!y2)
 (YH (.inr (.inr (-1))))
 ((uk s s0.2).bind λy3=>
 YH (.inl ((Xs (aI ((aI (10*s0.1))+(IntKind.i64.wrap (IntKind.u8.wrap (y3-48))))) 97),(aI (s0.2+1))))))
 (YH (.inr (.inl s0.1)))
def qD(s:ByteArray):Option Int:=
 (aD (nJ s) NN (0,0)).bind (bk (λo0=>
 cond (YL (s=⟨#[]⟩))
 (YH (-1))
 (YH o0)) (λr=>YH r))
def pN(s:ByteArray)(s0:Int×Int):Option ((Int×Int)⊕(Int⊕Int)):=
 cond (YL (s0.2<(s.size:Int)))
 ((uk s s0.2).bind λy1=>
 cond (YL (y1<48))
 (YH (.inr (.inr (-1))))
 ((uk s s0.2).bind λy2=>
 cond (YL (57<y2))
 (YH (.inr (.inr (-1))))
 ((uk s s0.2).bind λy3=>
 YH (.inl ((Xs (aI ((aI (10*s0.1))+(IntKind.i64.wrap (IntKind.u8.wrap (y3-48))))) 97),(aI (s0.2+1)))))))
 (YH (.inr (.inl s0.1)))
instance (s:ByteArray):bo (pN s):=⟨λs0=>(vs s::.un::.un::vi s0.1::vi s0.2::(U 28 [])),λs0=>[]⟩
def qA(s:ByteArray):Option Int:=
 (aD (pN s) NN (0,0)).bind (bk (λo0=>
 cond (YL (s=⟨#[]⟩))
 (YH (-1))
 (YH o0)) (λr=>YH r))
instance (s:ByteArray):CT prog (qA s):=⟨209,[vs s],[],λr=>vi r,λr=>[],cw (qA.eq_1 ..) func209 ntmps209 results209⟩
end Go.Proofs.YtdilaemengjipaaGreatDoor
namespace Go.Proofs.YtdilaemengjipaaGreatDoor
set_option maxRecDepth 10000
open Go.RowKit Go.Sort
variable {c:UInt8}{d i:Nat}{l:List UInt8}{n:Int}
theorem oW(a b:List UInt8):j4 a++j4 b=j4 (a++b):=by
 apply Xk;rw[XP];simp[j4]
theorem yE{a b:ByteArray}(h:a.size+b.size<=rq):cY a b=true:=by
 unfold cY;unfold rq at h
 exact X1 X9
theorem Pt(k:Nat)(l:List UInt8):(48:UInt8)::(V7 k 48++l)=V7 (k+1) 48++l:=by rw[List.replicate_succ];rfl
theorem ly(h:nR n):(Lib.itoa n).length<=21:=Lib.itoa_length_le n h.1 h.2
theorem Aj(h:nR n)(hd:d<=20):pT n (d:Int)=YH (j4 (yr n d)):=by
 have hl:=ly h;unfold pT;have hF:bG n=YH (j4 (Lib.itoa n)):=by unfold bG;rw[if_pos h]
 rw[hF,VS];have key:∀(k N c:Nat),k=d-((Lib.itoa n).length+c)->k<N->aD (nj (d:Int)) N (j4 (V7 c 48++Lib.itoa n))=YH (j4 (V7 (c+k) 48++Lib.itoa n)):=by
  intro k
  induction k with
  |zero=>
   intro N c hk hN
   cases N with
   |zero=>omega
   |succ N=>
    simp only[aD,nj,dw,List.length_append,List.length_replicate];rw[X2 X9];rfl
  |succ k ih=>
   intro N c hk hN
   cases N with
   |zero=>omega
   |succ N=>
    have e1:(⟨#[48]⟩:ByteArray)++j4 (V7 c 48++Lib.itoa n)=j4 (V7 (c+1) 48++Lib.itoa n):=by
     rw[<-Pt];exact oW [48] _
    simp only[aD,nj];rw[e1,yE (by rw[dw];simp[W4];unfold rq;omega),dw]
    rw[X1 Yi];have:=ih N (c+1) X9 X9;rw[show c+1+k=c+(k+1)by omega]at this
    exact this
 have:=key (d-(Lib.itoa n).length) NN 0 X9 Yc;simp only[List.replicate_zero,Wz,Nat.zero_add]at this
 rw[this];rfl
theorem EC(h:nR n)(hd:d<=20):ma n (d:Int)=YH (j4 (yr n d)):=by
 unfold ma;rw[if_pos ⟨h,X9,X9⟩];rfl
theorem Cz(h:nR n)(hd:d<=20):(yr n d).length<=21:=by
 have:=ly h;unfold yr;simp;omega
theorem GH{y:Int}(h:0<=y/\y<=255):IntKind.i64.wrap y=y:=aR ⟨X9,X9⟩
theorem Sa:@qA=@qD:=by
 have e:@pN=@nJ:=by
  funext s s0
  unfold pN nJ
  cases hd:YL (s0.2<(s.size:Int))
  ·rfl
  simp only[X5]
  cases hy:uk s s0.2 with
  |none=>rfl
  |some y=>
   have hw:=FB hy;simp only[VS,GH hw,cE]
   by_cases h1:y<48
   ·rw[X1 h1,X2 (show ¬48<=y by omega)];rfl
   ·rw[X2 h1,X1 (show 48<=y by omega)]
    by_cases h2:57<y
    ·rw[X1 h2,X2 (show ¬y<=57 by omega)];rfl
    ·rw[X2 h2,X1 (show y<=57 by omega)];rfl
 funext s
 unfold qA qD;rw[e]
theorem ON{s:ByteArray}(h:s.size<NN):∃m,qD s=YH m:=by
 have ht:∃o,aD (nJ s) NN (0,0)=YH o:=by
  refine vf (λk s0=>∃i:Nat,i+k=s.size/\s0.2=(i:Int)) ?_ NN s.size (0,0) ⟨0,X9,rfl⟩ h
  rintro k ⟨m,x⟩ ⟨i,hi,hx⟩;simp only at hx
  subst hx;unfold nJ
  by_cases bU:i<s.size
  ·obtain⟨y,hy⟩:=Ea bU
   have hw:=FB hy;simp only[hy,VS,GH hw,cE,X1 (show(i:Int)<(s.size:Int)by omega),X5]
   cases(YL (48<=y)&&YL (y<=57))
   ·exact⟨_,rfl,λs' e=>by cases e⟩
   ·refine⟨_,rfl,λs' e=>?_⟩
    cases e
    exact⟨k-1,X9,i+1,X9,bE bU (by unfold NN at h;omega)⟩
  ·simp only[X2 (show ¬(i:Int)<(s.size:Int)by omega),X6]
   exact⟨_,rfl,λs' e=>by cases e⟩
 obtain⟨o,ho⟩:=ht;unfold qD;rw[ho]
 cases o with
 |inl a=>simp only[VS,bk];cases YL (s=⟨#[]⟩)<;>exact⟨_,rfl⟩
 |inr r=>exact⟨_,rfl⟩
theorem H3(h:l[i]?=YH c):uk (j4 l) (i:Int)=YH (c.toNat:Int):=by
 have bU:=(VT.1 h).1;unfold uk;rw[if_pos ⟨X9,by rw[dw];omega⟩]
 unfold yX;have hb:(j4 l)[i]?=YH c:=by
  have hs:i<(j4 l).size:=by rw[dw];exact bU
  rw[getElem?_pos (j4 l) i hs,<-Nt l i hs,h]
 rw[WQ,hb];rfl
theorem Tm(h:l[i]?=YH c):Tl (j4 l) (i:Int) ((i+1:Nat):Int)=j4 [c]:=by
 unfold Tl;apply Xk;rw[ByteArray.data_extract];simp only[j4,WQ];apply Array.toList_inj.1;rw[Array.toList_extract];simp only[List.extract_eq_take_drop];have bU:=(VT.1 h).1;rw[show i+1-i=1 by omega]
 apply Xo;intro n;rw[List.getElem?_take]
 cases n with
 |zero=>simp[h]
 |succ n=>simp
theorem Hy(hl:l.length<=100000):td (j4 l)=YH (j4 ((nA l).getD []),(nA l).isSome):=by
 have key:∀(k N i:Nat) (acc:List UInt8),i+k=l.length->k<N->nA (l.take i)=YH acc->acc.length<=21*i->
  aD (oU (j4 l)) N (j4 acc,(i:Int))=YH (match nA l with|some a=>.inl (j4 a) |none=>.inr (⟨#[]⟩,YK)):=by
  intro k
  induction k with
  |zero=>
   intro N i acc hi hN ha hal
   cases N with
   |zero=>omega
   |succ N=>
    obtain rfl:i=l.length:=X9;rw[XR]at ha
    simp only[aD,oU,dw];rw[X2 X9,ha];rfl
  |succ k ih=>
   intro N i acc hi hN ha hal
   cases N with
   |zero=>omega
   |succ N=>
    have bU:i<l.length:=X9;obtain⟨c,hc⟩:∃c,l[i]?=YH c:=⟨_,VU bU⟩;have tD:=c.toNat_lt;have TG:nA (l.take (i+1))=match YH acc,zQ c with
     |some a,YH b=>YH (a++b)
     |_,_=>none:=by
     rw[List.take_add_one,hc,show(YH c).toList=[c]from rfl,D2,ha]<;>rfl
    have hw:IntKind.i64.wrap (c.toNat:Int)=(c.toNat:Int):=GH ⟨X9,X9⟩;have h1:aI ((i:Int)+1)=((i+1:Nat):Int):=bE bU X9;simp only[aD,oU,jn,dw,H3 hc,hw,cE,h1,Tm hc,VS];rw[X1 (show(i:Int)<(l.length:Int)by omega)]
    by_cases Oe:48<=c.toNat/\c.toNat<=57
    ·have hd:zQ c=YH [c]:=by unfold zQ;rw[if_pos Oe]
     rw[hd]at TG
     rw[X1 (show(48:Int)<=(c.toNat:Int)by omega),X1 (show(c.toNat:Int)<=57 by omega),yE (by rw[dw,dw];simp;unfold rq;omega),od (show gg (i:Int) ((i+1:Nat):Int) l.length=YJ by unfold gg;exact X1 X9),oW]
     exact ih N (i+1) (acc++[c]) X9 X9 TG Yi
    ·by_cases PT:65<=c.toNat/\c.toNat<=90
     ·have hd:zQ c=YH (Lib.itoa ((c.toNat-55:Nat):Int)):=by unfold zQ;rw[if_neg Oe,if_pos PT]
      have hdl:=Fv hd;rw[hd]at TG
      have e1:(YL ((48:Int)<=(c.toNat:Int))&&YL ((c.toNat:Int)<=57))=false:=by
       rw[X2 (show ¬(c.toNat:Int)<=57 by omega),XU]
      have e2:aI (aI ((c.toNat:Int)-65)+10)=((c.toNat-55:Nat):Int):=by
       rw[aR (n:=(c.toNat:Int)-65) ⟨X9,X9⟩,aR (n:=(c.toNat:Int)-65+10) ⟨X9,X9⟩];omega
      have e3:bG ((c.toNat-55:Nat):Int)=YH (j4 (Lib.itoa ((c.toNat-55:Nat):Int))):=by
       unfold bG;rw[if_pos ⟨X9,X9⟩]
      rw[e1,X1 (show(65:Int)<=(c.toNat:Int)by omega),X1 (show(c.toNat:Int)<=90 by omega),e2,e3]
      simp only[XE,X6,X5,VS];rw[yE (by rw[dw,dw];unfold rq;omega),oW]
      exact ih N (i+1) _ X9 X9 TG Yi
     ·have hd:zQ c=none:=by unfold zQ;rw[if_neg Oe,if_neg PT]
      have hn:=D1 hc hd;have e1:(YL ((48:Int)<=(c.toNat:Int))&&YL ((c.toNat:Int)<=57))=false:=by
       by_cases h:48<=c.toNat
       ·rw[X2 (show ¬(c.toNat:Int)<=57 by omega),XU]
       ·rw[X2 (show ¬(48:Int)<=(c.toNat:Int)by omega),Bool.false_and]
      have e2:(YL ((65:Int)<=(c.toNat:Int))&&YL ((c.toNat:Int)<=90))=false:=by
       by_cases h:65<=c.toNat
       ·rw[X2 (show ¬(c.toNat:Int)<=90 by omega),XU]
       ·rw[X2 (show ¬(65:Int)<=(c.toNat:Int)by omega),Bool.false_and]
      rw[e1,e2,hn];rfl
 have:=key l.length NN 0 [] X9 Yc (by simp[nA]) Ye
 unfold td;rw[show(⟨#[]⟩:ByteArray)=j4 []from rfl,show(0:Int)=((0:Nat):Int)from rfl,this]
 cases nA l<;>rfl
theorem NW(hl:l.length<=100000):nN (j4 l)=YH (j4 ((nA l).getD []),(nA l).isSome):=by
 unfold nN;rw[if_pos Yz];rfl
end Go.Proofs.YtdilaemengjipaaGreatDoor
namespace Go.Proofs.YtdilaemengjipaaGreatDoor
set_option maxRecDepth 10000
open Go.RowKit
def nO(l:cq):Option ByteArray:=
 (cu l.ay).bind λy1=>
 (ma l.da 9).bind λy2=>
 (bW (cY y1 y2)).bind λ_=>
 (bW (cY (y1++y2) l.a8)).bind λ_=>
 YH ((y1++y2)++l.a8)
instance (l:cq):CT prog (nO l):=⟨161,[.ag (rH l)],[],λr=>vs r,λr=>[],cw (nO.eq_1 ..) func161 ntmps161 results161⟩
def oh(l:cq):Option Int:=
 (gJ l).bind λy1=>
 cond (!y1)
 (YH (-1))
 ((nO l).bind λy2=>
 (nN y2).bind λy3=>
 (bW (cY y3.1 (⟨#[48,48]⟩))).bind λ_=>
 (qA (y3.1++⟨#[48,48]⟩)).bind λy4=>
 YH (aI (98-y4)))
instance (l:cq):CT prog (oh l):=⟨163,[.ag (rH l)],[],λr=>vi r,λr=>[],cw (oh.eq_1 ..) func163 ntmps163 results163⟩
def iH(l:cq):Option ByteArray:=
 (gJ l).bind λy1=>
 cond (!y1)
 (YH (⟨#[]⟩))
 ((nO l).bind λy2=>
 (oh l).bind λy3=>
 (ma y3 2).bind λy4=>
 (bW (cY y2 y4)).bind λ_=>
 YH (y2++y4))
instance (l:cq):CT prog (iH l):=⟨97,[.ag (rH l)],[],λr=>vs r,λr=>[],cw (iH.eq_1 ..) func97 ntmps97 results97⟩
def ri(l:cq):Option ByteArray:=
 (bG l.ay).bind λy1=>
 (pT l.da 9).bind λy2=>
 (bW (cY y1 y2)).bind λ_=>
 (bW (cY (y1++y2) l.a8)).bind λ_=>
 YH ((y1++y2)++l.a8)
def sC(l:cq):Option Int:=
 (dP l).bind λy1=>
 cond (!y1)
 (YH (-1))
 ((ri l).bind λy2=>
 (bW (cY y2 (⟨#[48,48]⟩))).bind λ_=>
 (td (y2++⟨#[48,48]⟩)).bind λy3=>
 (qD y3.1).bind λy4=>
 YH (aI (98-y4)))
def nh(l:cq):Option ByteArray:=
 (dP l).bind λy1=>
 cond (!y1)
 (YH (⟨#[]⟩))
 ((ri l).bind λy2=>
 (sC l).bind λy3=>
 (pT y3 2).bind λy4=>
 (bW (cY y2 y4)).bind λ_=>
 YH (y2++y4))
def gY(p:aT):Option ByteArray:=
 (gb p).bind λy1=>
 cond (!y1)
 (YH (⟨#[]⟩))
 ((aB p.bH 0).bind λy2=>
 (cu y2).bind λy3=>
 (bW (cY y3 (⟨#[120]⟩))).bind λ_=>
 (aB p.bH 1).bind λy4=>
 (cu y4).bind λy5=>
 (bW (cY (y3++⟨#[120]⟩) y5)).bind λ_=>
 (bW (cY ((y3++⟨#[120]⟩)++y5) (⟨#[120]⟩))).bind λ_=>
 (aB p.bH 2).bind λy6=>
 (cu y6).bind λy7=>
 (bW (cY (((y3++⟨#[120]⟩)++y5)++⟨#[120]⟩) y7)).bind λ_=>
 (iH p.label).bind λy8=>
 (bW (cY y8 (⟨#[32]⟩))).bind λ_=>
 (bW (cY (y8++⟨#[32]⟩) p.au)).bind λ_=>
 (bW (cY ((y8++⟨#[32]⟩)++p.au) (⟨#[32]⟩))).bind λ_=>
 (cu p.ab).bind λy9=>
 (bW (cY (((y8++⟨#[32]⟩)++p.au)++⟨#[32]⟩) y9)).bind λ_=>
 (bW (cY ((((y8++⟨#[32]⟩)++p.au)++⟨#[32]⟩)++y9) (⟨#[32]⟩))).bind λ_=>
 (bW (cY (((((y8++⟨#[32]⟩)++p.au)++⟨#[32]⟩)++y9)++⟨#[32]⟩) ((((y3++⟨#[120]⟩)++y5)++⟨#[120]⟩)++y7))).bind λ_=>
 (bW (cY ((((((y8++⟨#[32]⟩)++p.au)++⟨#[32]⟩)++y9)++⟨#[32]⟩)++((((y3++⟨#[120]⟩)++y5)++⟨#[120]⟩)++y7)) (⟨#[32]⟩))).bind λ_=>
 (cu p.value).bind λdL=>
 (bW (cY (((((((y8++⟨#[32]⟩)++p.au)++⟨#[32]⟩)++y9)++⟨#[32]⟩)++((((y3++⟨#[120]⟩)++y5)++⟨#[120]⟩)++y7))++⟨#[32]⟩) dL)).bind λ_=>
 YH ((((((((y8++⟨#[32]⟩)++p.au)++⟨#[32]⟩)++y9)++⟨#[32]⟩)++((((y3++⟨#[120]⟩)++y5)++⟨#[120]⟩)++y7))++⟨#[32]⟩)++dL))
instance (p:aT):CT prog (gY p):=⟨45,[.ag (bJ p)],[],λr=>vs r,λr=>[],cw (gY.eq_1 ..) func45 ntmps45 results45⟩
def pP(t:av):Option ByteArray:=
 (cu t.bD).bind λy1=>
 (bW (cY y1 (⟨#[47]⟩))).bind λ_=>
 (cu t.day).bind λy2=>
 (bW (cY (y1++⟨#[47]⟩) y2)).bind λ_=>
 YH ((y1++⟨#[47]⟩)++y2)
instance (t:av):CT prog (pP t):=⟨47,[.ag (aW t)],[],λr=>vs r,λr=>[],cw (pP.eq_1 ..) func47 ntmps47 results47⟩
def iG(a:bV):Option ByteArray:=
 (eE a).bind λy1=>
 cond (!y1)
 (YH (⟨#[]⟩))
 (cond (YL (a.kind=1))
 ((gY a.aQ).bind λy2=>
 (bW (cY (⟨#[116,97,107,101,32]⟩) y2)).bind λ_=>
 YH (⟨#[116,97,107,101,32]⟩++y2))
 (cond (YL (a.kind=2))
 ((cu a.order).bind λy3=>
 (bW (cY (⟨#[112,97,121,32]⟩) y3)).bind λ_=>
 (bW (cY (⟨#[112,97,121,32]⟩++y3) (⟨#[32]⟩))).bind λ_=>
 (cu a.bz).bind λy4=>
 (bW (cY ((⟨#[112,97,121,32]⟩++y3)++⟨#[32]⟩) y4)).bind λ_=>
 YH (((⟨#[112,97,121,32]⟩++y3)++⟨#[32]⟩)++y4))
 (cond (YL (a.kind=3))
 ((cu a.bM).bind λy5=>
 (bW (cY (⟨#[114,117,110,32]⟩) y5)).bind λ_=>
 YH (⟨#[114,117,110,32]⟩++y5))
 (cond (YL (a.kind=4))
 ((pP a.bj).bind λy6=>
 (bW (cY (⟨#[115,104,117,116,32]⟩) y6)).bind λ_=>
 YH (⟨#[115,104,117,116,32]⟩++y6))
 (cond (YL (a.kind=5))
 (YH (⟨#[114,101,116,114,121]⟩))
 ((cu a.order).bind λy7=>
 (bW (cY (⟨#[114,101,102,117,110,100,32]⟩) y7)).bind λ_=>
 YH (⟨#[114,101,102,117,110,100,32]⟩++y7)))))))
instance (a:bV):CT prog (iG a):=⟨11,[.ag (gF a)],[],λr=>vs r,λr=>[],cw (iG.eq_1 ..) func11 ntmps11 results11⟩
def mq(p:aT):Option ByteArray:=
 (dJ p).bind λy1=>
 cond (!y1)
 (YH (⟨#[]⟩))
 ((nh p.label).bind λy2=>
 (bW (cY y2 (⟨#[32]⟩))).bind λ_=>
 (bW (cY (y2++⟨#[32]⟩) p.au)).bind λ_=>
 (bW (cY ((y2++⟨#[32]⟩)++p.au) (⟨#[32]⟩))).bind λ_=>
 (bG p.ab).bind λy3=>
 (bW (cY (((y2++⟨#[32]⟩)++p.au)++⟨#[32]⟩) y3)).bind λ_=>
 (bW (cY ((((y2++⟨#[32]⟩)++p.au)++⟨#[32]⟩)++y3) (⟨#[32]⟩))).bind λ_=>
 (aB p.bH 0).bind λy4=>
 (bG y4).bind λy5=>
 (bW (cY (((((y2++⟨#[32]⟩)++p.au)++⟨#[32]⟩)++y3)++⟨#[32]⟩) y5)).bind λ_=>
 (bW (cY ((((((y2++⟨#[32]⟩)++p.au)++⟨#[32]⟩)++y3)++⟨#[32]⟩)++y5) (⟨#[120]⟩))).bind λ_=>
 (aB p.bH 1).bind λy6=>
 (bG y6).bind λy7=>
 (bW (cY (((((((y2++⟨#[32]⟩)++p.au)++⟨#[32]⟩)++y3)++⟨#[32]⟩)++y5)++⟨#[120]⟩) y7)).bind λ_=>
 (bW (cY ((((((((y2++⟨#[32]⟩)++p.au)++⟨#[32]⟩)++y3)++⟨#[32]⟩)++y5)++⟨#[120]⟩)++y7) (⟨#[120]⟩))).bind λ_=>
 (aB p.bH 2).bind λy8=>
 (bG y8).bind λy9=>
 (bW (cY (((((((((y2++⟨#[32]⟩)++p.au)++⟨#[32]⟩)++y3)++⟨#[32]⟩)++y5)++⟨#[120]⟩)++y7)++⟨#[120]⟩) y9)).bind λ_=>
 (bW (cY ((((((((((y2++⟨#[32]⟩)++p.au)++⟨#[32]⟩)++y3)++⟨#[32]⟩)++y5)++⟨#[120]⟩)++y7)++⟨#[120]⟩)++y9) (⟨#[32]⟩))).bind λ_=>
 (bG p.value).bind λdL=>
 (bW (cY (((((((((((y2++⟨#[32]⟩)++p.au)++⟨#[32]⟩)++y3)++⟨#[32]⟩)++y5)++⟨#[120]⟩)++y7)++⟨#[120]⟩)++y9)++⟨#[32]⟩) dL)).bind λ_=>
 YH ((((((((((((y2++⟨#[32]⟩)++p.au)++⟨#[32]⟩)++y3)++⟨#[32]⟩)++y5)++⟨#[120]⟩)++y7)++⟨#[120]⟩)++y9)++⟨#[32]⟩)++dL))
def tN(a:bV):Option ByteArray:=
 (lS a).bind λy1=>
 cond (!y1)
 (YH (⟨#[]⟩))
 (cond (YL (a.kind=1))
 ((mq a.aQ).bind λy2=>
 (bW (cY (⟨#[116,97,107,101,32]⟩) y2)).bind λ_=>
 YH (⟨#[116,97,107,101,32]⟩++y2))
 (cond (YL (a.kind=2))
 ((bG a.order).bind λy3=>
 (bW (cY (⟨#[112,97,121,32]⟩) y3)).bind λ_=>
 (bW (cY (⟨#[112,97,121,32]⟩++y3) (⟨#[32]⟩))).bind λ_=>
 (bG a.bz).bind λy4=>
 (bW (cY ((⟨#[112,97,121,32]⟩++y3)++⟨#[32]⟩) y4)).bind λ_=>
 YH (((⟨#[112,97,121,32]⟩++y3)++⟨#[32]⟩)++y4))
 (cond (YL (a.kind=3))
 ((bG a.bM).bind λy5=>
 (bW (cY (⟨#[114,117,110,32]⟩) y5)).bind λ_=>
 YH (⟨#[114,117,110,32]⟩++y5))
 (cond (YL (a.kind=4))
 ((bG a.bj.bD).bind λy6=>
 (bW (cY (⟨#[115,104,117,116,32]⟩) y6)).bind λ_=>
 (bW (cY (⟨#[115,104,117,116,32]⟩++y6) (⟨#[47]⟩))).bind λ_=>
 (bG a.bj.day).bind λy7=>
 (bW (cY ((⟨#[115,104,117,116,32]⟩++y6)++⟨#[47]⟩) y7)).bind λ_=>
 YH (((⟨#[115,104,117,116,32]⟩++y6)++⟨#[47]⟩)++y7))
 (cond (YL (a.kind=5))
 (YH (⟨#[114,101,116,114,121]⟩))
 ((bG a.order).bind λy8=>
 (bW (cY (⟨#[114,101,102,117,110,100,32]⟩) y8)).bind λ_=>
 YH (⟨#[114,101,102,117,110,100,32]⟩++y8)))))))
end Go.Proofs.YtdilaemengjipaaGreatDoor
