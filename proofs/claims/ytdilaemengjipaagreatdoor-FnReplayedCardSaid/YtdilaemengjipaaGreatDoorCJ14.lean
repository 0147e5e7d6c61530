/- A part of the proof of the statement in the last file of this claim: texts on the language of the program and on its functions. No condition. -/
import Derived.Test.YtdilaemengjipaaGreatDoorCJ4
import Derived.Test.YtdilaemengjipaaGreatDoorCJ7
import Derived.Test.YtdilaemengjipaaGreatDoorCJ8
import Derived.Test.YtdilaemengjipaaGreatDoorCJ6
import Derived.Test.YtdilaemengjipaaGreatDoorCJ9
import Derived.Test.YtdilaemengjipaaGreatDoorCJ10
import Derived.Lib.SplitLaws
import Derived.Test.YtdilaemengjipaaGreatDoorCJ1
set_option linter.unusedVariables false
set_option linter.unusedSimpArgs false
set_option linter.unusedSectionVars false
open Go.Value renaming int->Y1
open Go.IntKind renaming i64->Y2
open Go renaming undef->Y3
open Option renaming some->YW,none->YX
open Bool renaming true->YY,false->YZ
open Decidable renaming decide->Y0
open Go.Proofs.Tryz
set_option maxHeartbeats 40000000
open List renaming getElem?_eq_getElem->VV,take_of_length_le->Xw,length_map->Wj
open Option renaming bind_some->VT
open Nat renaming le_refl->VY,lt_or_ge->Wv
open Option.some renaming inj->VX
namespace Go.Proofs.YtdilaemengjipaaGreatDoor
set_option maxRecDepth 10000
open Go.RowKit
def cT(l:List Int)(s0:Int×(List Int))(s1:Int):Option (Int⊕Int):=
 cond (Y0 (s1<(s0.2.length:Int)))
 ((aB s0.2 s1).bind λy1=>
 (aB l s0.1).bind λy2=>
 cond (Y0 (y2<=y1))
 (YW (.inl (aM (s1+1))))
 (YW (.inr s1)))
 (YW (.inr s1))
instance (l:List Int)(s0:Int×(List Int)):bp (cT l s0):=⟨λs1=>(.sl (l.map aG)::.un::.un::.ms 0::vi s0.1::vi s1::(U 39 [])),λs1=>[YW ⟨.of 3,1,s0.2.map aG⟩]⟩
def iF(l:List Int)(s0:Int×(List Int)):Option ((Int×(List Int))⊕(List Int)):=
 cond (Y0 (s0.1<(l.length:Int)))
 ((aE (cT l s0) NN 0).bind (λo1=>
 (cr (fJ 0 o1 s0.2.length)).bind λ_=>
 (eF (cM s0.2 0 o1)).bind λy3=>
 (aB l s0.1).bind λy4=>
 (cr (bn ((y3:List Int).length+([y4]:List Int).length) 8)).bind λ_=>
 (cr (fJ o1 (s0.2.length:Int) s0.2.length)).bind λ_=>
 (cr (bn ((((y3:List Int)++[y4]):List Int).length+((cM s0.2 o1 (s0.2.length:Int)):List Int).length) 8)).bind λ_=>
 YW (.inl ((aM (s0.1+1)),((((y3:List Int)++[y4]):List Int)++(cM s0.2 o1 (s0.2.length:Int)))))))
 (YW (.inr s0.2))
instance (l:List Int):bp (iF l):=⟨λs0=>(.sl (l.map aG)::.un::.un::.ms 0::vi s0.1::(U 40 [])),λs0=>[YW ⟨.of 3,1,s0.2.map aG⟩]⟩
def mU(l:List Int):Option (List Int):=
 (aE (iF l) NN (0,([]:List Int))).bind (λo0=>
 YW o0)
instance (l:List Int):CT prog (mU l):=⟨288,[.sl (l.map aG)],[],λr=>.ms 0,λr=>[YW ⟨.of 3,1,r.map aG⟩],cw (mU.eq_1 ..) func288 ntmps288 results288⟩
def mR(bE:List Int):Option Int:=
 (jC bE).bind λy1=>
 cond (!y1)
 (YW 0)
 ((mU bE).bind λy2=>
 (aB y2 0).bind λy3=>
 (aB y2 1).bind λy4=>
 (aB y2 2).bind λy5=>
 YW (aM ((aM (y3+(aM (2*y4))))+(aM (2*y5)))))
instance (bE:List Int):CT prog (mR bE):=⟨225,[.sl (bE.map aG)],[],λr=>vi r,λr=>[],cw (mR.eq_1 ..) func225 ntmps225 results225⟩
def ey(p:aL):Option Bool:=
 (cC p.label).bind λy1=>
 cond y1
 ((bV p.ar).bind λy2=>
 cond y2
 (cond (!decide (p.ar=p.label.aY))
 ((bb p.ab 1 30000).bind λy3=>
 cond y3
 ((jC p.bE).bind λy4=>
 cond y4
 ((mR p.bE).bind λy5=>
 cond (Y0 (y5<=3600))
 ((bb p.value 0 500000).bind λy6=>
 YW y6)
 (YW YZ))
 (YW YZ))
 (YW YZ))
 (YW YZ))
 (YW YZ))
 (YW YZ)
instance (p:aL):CT prog (ey p):=⟨175,[.ag (bA p)],[],λr=>vb r,λr=>[],cw (ey.eq_1 ..) func175 ntmps175 results175⟩
def eV(a:ba):Option Bool:=
 (jn 2 7 (
 cond (Y0 (a.kind=1))
 ((ey a.aJ).bind λy1=>
 cond (!y1)
 (YW (.inr YZ))
 (YW (.inl ())))
 (cond (!decide (a.aJ.label=(⟨0,0,⟨#[]⟩⟩:bl)))
 (YW (.inr YZ))
 (cond (!decide (a.aJ.ar=⟨#[]⟩))
 (YW (.inr YZ))
 (cond (!decide (a.aJ.ab=0))
 (YW (.inr YZ))
 (cond (Y0 (0<(a.aJ.bE.length:Int)))
 (YW (.inr YZ))
 (cond (!decide (a.aJ.value=0))
 (YW (.inr YZ))
 (YW (.inl ()))))))):Option (Unit⊕Bool)) (λz2=>(.un::.be 0 0 0::(U 129 []))) (λz2=>[YW ⟨.of 48,13,[[vi a.kind,vi a.aJ.label.aw,vi a.aJ.label.bO,vs a.aJ.label.aY,vs a.aJ.ar,vi a.aJ.ab,.sl (a.aJ.bE.map aG),vi a.aJ.value,vi a.order,vi a.bC,vi a.bI,vi a.bk.bH,vi a.bk.day]]⟩])).bind (bh (λz2=>
 (jn 7 8 (
 cond (Y0 (a.kind=2))
 (YW (.inl YY))
 (YW (.inl (Y0 (a.kind=6)))):Option (Bool⊕Empty)) (λz3=>(.un::.be 0 0 0::.un::.un::vb z3::(U 126 []))) (λz3=>[YW ⟨.of 48,13,[[vi a.kind,vi a.aJ.label.aw,vi a.aJ.label.bO,vs a.aJ.label.aY,vs a.aJ.ar,vi a.aJ.ab,.sl (a.aJ.bE.map aG),vi a.aJ.value,vi a.order,vi a.bC,vi a.bI,vi a.bk.bH,vi a.bk.day]]⟩])).bind (bh (λz3=>
 (jn 8 10 (
 cond z3
 ((bb a.order 1 9999).bind λy4=>
 cond (!y4)
 (YW (.inr YZ))
 (cond (!z3)
 (cond (!decide (a.order=0))
 (YW (.inr YZ))
 (YW (.inl ())))
 (YW (.inl ()))))
 (cond (!z3)
 (cond (!decide (a.order=0))
 (YW (.inr YZ))
 (YW (.inl ())))
 (YW (.inl ()))):Option (Unit⊕Bool)) (λz5=>(.un::.be 0 0 0::(U 129 []))) (λz5=>[YW ⟨.of 48,13,[[vi a.kind,vi a.aJ.label.aw,vi a.aJ.label.bO,vs a.aJ.label.aY,vs a.aJ.ar,vi a.aJ.ab,.sl (a.aJ.bE.map aG),vi a.aJ.value,vi a.order,vi a.bC,vi a.bI,vi a.bk.bH,vi a.bk.day]]⟩])).bind (bh (λz5=>
 (jn 10 12 (
 cond (Y0 (a.kind=2))
 ((bb a.bC 1 100000).bind λy6=>
 cond (!y6)
 (YW (.inr YZ))
 (cond (!decide (a.kind=2))
 (cond (!decide (a.bC=0))
 (YW (.inr YZ))
 (YW (.inl ())))
 (YW (.inl ()))))
 (cond (!decide (a.kind=2))
 (cond (!decide (a.bC=0))
 (YW (.inr YZ))
 (YW (.inl ())))
 (YW (.inl ()))):Option (Unit⊕Bool)) (λz7=>(.un::.be 0 0 0::(U 129 []))) (λz7=>[YW ⟨.of 48,13,[[vi a.kind,vi a.aJ.label.aw,vi a.aJ.label.bO,vs a.aJ.label.aY,vs a.aJ.ar,vi a.aJ.ab,.sl (a.aJ.bE.map aG),vi a.aJ.value,vi a.order,vi a.bC,vi a.bI,vi a.bk.bH,vi a.bk.day]]⟩])).bind (bh (λz7=>
 (jn 12 14 (
 cond (Y0 (a.kind=3))
 ((bb a.bI 0 100000).bind λy8=>
 cond (!y8)
 (YW (.inr YZ))
 (cond (!decide (a.kind=3))
 (cond (!decide (a.bI=0))
 (YW (.inr YZ))
 (YW (.inl ())))
 (YW (.inl ()))))
 (cond (!decide (a.kind=3))
 (cond (!decide (a.bI=0))
 (YW (.inr YZ))
 (YW (.inl ())))
 (YW (.inl ()))):Option (Unit⊕Bool)) (λz9=>(.un::.be 0 0 0::(U 129 []))) (λz9=>[YW ⟨.of 48,13,[[vi a.kind,vi a.aJ.label.aw,vi a.aJ.label.bO,vs a.aJ.label.aY,vs a.aJ.ar,vi a.aJ.ab,.sl (a.aJ.bE.map aG),vi a.aJ.value,vi a.order,vi a.bC,vi a.bI,vi a.bk.bH,vi a.bk.day]]⟩])).bind (bh (λz9=>
 (jn 14 16 (
 cond (Y0 (a.kind=4))
 ((bb a.bk.bH 0 19).bind λeh=>
 cond (!eh)
 (YW (.inr YZ))
 ((bb a.bk.day 0 60).bind λlr=>
 cond (!lr)
 (YW (.inr YZ))
 (cond (!decide (a.kind=4))
 (cond (!decide (a.bk=(⟨0,0⟩:av)))
 (YW (.inr YZ))
 (YW (.inl ())))
 (YW (.inl ())))))
 (cond (!decide (a.kind=4))
 (cond (!decide (a.bk=(⟨0,0⟩:av)))
 (YW (.inr YZ))
 (YW (.inl ())))
 (YW (.inl ()))):Option (Unit⊕Bool)) (λz12=>(.un::.be 0 0 0::(U 129 []))) (λz12=>[YW ⟨.of 48,13,[[vi a.kind,vi a.aJ.label.aw,vi a.aJ.label.bO,vs a.aJ.label.aY,vs a.aJ.ar,vi a.aJ.ab,.sl (a.aJ.bE.map aG),vi a.aJ.value,vi a.order,vi a.bC,vi a.bI,vi a.bk.bH,vi a.bk.day]]⟩])).bind (bh (λz12=>
 (bb a.kind 1 6).bind λoD=>
 YW oD) (λr=>YW r))) (λr=>YW r))) (λr=>YW r))) (λr=>YW r))) (λr=>r.elim))) (λr=>YW r))
instance (a:ba):CT prog (eV a):=⟨110,[.ag (cX a)],[],λr=>vb r,λr=>[],cw (eV.eq_1 ..) func110 ntmps110 results110⟩
end Go.Proofs.YtdilaemengjipaaGreatDoor
namespace Go.Proofs.YtdilaemengjipaaGreatDoor
set_option maxRecDepth 10000
open Go.RowKit Go.Sort
variable {l:List Int}{n:Nat}{ο σ:Type}{body:σ->Option (σ⊕ο)}{o:ο}{s:σ}
theorem DW(l:List Int):jH l=jC l:=by
 rfl
def tB(l:List Int):Bool:=l.all (λn=>Y0 (1<=n)&&Y0 (n<=2000))&&Y0 ((l.length:Int)=3)
theorem BN(h:l.length<NN):jC l=YW (tB l):=by
 have e:aE (mf l) NN 0=YW (if l.any (λn=>!(Y0 (1<=n)&&Y0 (n<=2000)))=YY then .inr YZ else .inl ()):=by
  refine tS (λi hi=>?_) ?_ h
  ·have hx:l[i]?=YW l[i]:=VV hi
   have hw:=bG hi (by unfold NN at h;omega)
   unfold mf;rw[Ya (by omega:(i:Int)<l.length),aP,hx,VT,cN]
   grind
  ·unfold mf
   simp
 unfold jC tB
 grind
theorem EV{σ ο:Type}{body:σ->Option (σ⊕ο)}{o:ο}:∀{n:Nat} {s:σ},aE body n s=YW o->∀k,aE body (n+k) s=YW o
 |0,s,h,k=>by cases h
 |n+1,s,h,k=>by
  rw[Nat.add_right_comm];unfold aE at *
  cases hb:body s with
  |none=>grind
  |some x=>
   rw[hb]at h
   cases x with
   |inl s'=>exact EV (n:=n) h k
   |inr o'=>exact h
theorem yw(h:aE body n s=YW o)(hn:n<=NN):aE body NN s=YW o:=by
 have:=EV h (NN-n)
 grind
theorem zN{s s':σ}(h:body s=YW (.inl s')):aE body (n+1) s=aE body n s':=by
 show(body s).bind _=_
 grind
theorem ND(h:body s=YW (.inr o)):aE body (n+1) s=YW o:=by
 show(body s).bind _=_
 grind
theorem w1:aM 1=1:=by decide
theorem w2:aM 2=2:=by decide
theorem w3:aM 3=3:=by decide
theorem ZhA(l:List Int)(i:Int):aE (cT l (i,[])) NN 0=YW ((0:Nat):Int):=yw (n:=1) (ND YQ) Ys
theorem ZhB{i y a:Int}(h:aB l i=YW y):aE (cT l (i,[a])) NN 0=YW (((if y<=a then 1 else 0:Nat)):Int):=by
 refine yw (n:=2) ?_ Ys;have q0:aB [a] 0=YW a:=rfl
 by_cases h1:y<=a
 ·rw[if_pos h1,zN (s':=1) (by simp[cT,h,q0,h1,w1])];rfl
 ·rw[if_neg h1,ND (o:=0) (by simp[cT,h,q0,h1])];rfl
theorem ZhC{i y a b:Int}(h:aB l i=YW y):aE (cT l (i,[a,b])) NN 0=YW (((if y<=a then(if y<=b then 2 else 1)else 0:Nat)):Int):=by
 refine yw (n:=3) ?_ Ys;have q0:aB [a,b] 0=YW a:=rfl;have q1:aB [a,b] 1=YW b:=rfl
 by_cases h1:y<=a
 ·rw[if_pos h1,zN (s':=1) (by simp[cT,h,q0,h1,w1])]
  by_cases h2:y<=b
  ·rw[if_pos h2,zN (s':=2) (by simp[cT,h,q1,h2,w2])];rfl
  ·rw[if_neg h2,ND (o:=1) (by simp[cT,h,q1,h2])];rfl
 ·rw[if_neg h1,ND (o:=0) (by simp[cT,h,q0,h1])];rfl
theorem S3(h:l.length<=1048576):eF l=YW l:=by
 have c:cr (bn (([]:List Int).length+l.length) 8)=YW ():=ku (Ya ⟨by grind,by grind⟩)
 unfold eF
 grind
theorem Zdy{l out:List Int}{i y:Int}{k:Nat}(hi:i<(l.length:Int))(hy:aB l i=YW y)(hk:aE (cT l (i,out)) NN 0=YW (k:Int))(hkl:k<=out.length)(hl:out.length<=1000):
 iF l (i,out)=YW (.inl (aM (i+1),out.take k++[y]++out.drop k)):=by
 unfold iF;have t1:cM out 0 (k:Int)=out.take k:=by rfl
 have t2:cM out (k:Int) (out.length:Int)=out.drop k:=by exact Xw Yq
 have c1:cr (fJ 0 (k:Int) (out.length:Int))=YW ():=ku (Ya ⟨Yn,Yn,Yn⟩);have c2:cr (fJ (k:Int) (out.length:Int) (out.length:Int))=YW ():=ku (Ya ⟨Yn,Yn,Yn⟩);have c3:cr (bn ((out.take k).length+([y]:List Int).length) 8)=YW ():=ku (Ya ⟨by grind,by grind⟩)
 have c4:cr (bn ((out.take k++[y]).length+(out.drop k).length) 8)=YW ():=ku (Ya ⟨by grind,by grind⟩)
 simp only[Ya hi,Yj,hk,VT,c1,t1,S3 (l:=out.take k) Yr,hy,c3,c2,t2,c4]
theorem Uq(x y z:Int):mU [x,y,z]=YW (Bm [x,y,z]):=by
 have g0:aB [x,y,z] 0=YW x:=rfl;have g1:aB [x,y,z] 1=YW y:=rfl;have g2:aB [x,y,z] 2=YW z:=rfl;have e:aE (iF [x,y,z]) NN (0,[])=YW (Bm [x,y,z]):=by
  refine yw (n:=4) ?_ Ys;have e0:=Zdy (l:=[x,y,z]) Yq g0 (ZhA _ _) (VY _) Yq;have hE:∀o:List Int,iF [x,y,z] (3,o)=YW (.inr o):=λo=>by rfl
  simp only[List.take_nil,List.drop_nil,List.nil_append,List.append_nil,show aM ((0:Int)+1)=1 by rfl]at e0
  have e1:=Zdy (l:=[x,y,z]) (out:=[x]) Yq g1 (ZhB g1) Yr Yq;simp only[show aM ((1:Int)+1)=2 by rfl]at e1
  have e2:=λa b=>Zdy (l:=[x,y,z]) (out:=[a,b]) Yq g2 (ZhC g2) Yr Yq
  simp only[show aM ((2:Int)+1)=3 by rfl]at e2
  have hs:Bm [x,y,z]=(Sort.insertionSort AA #[x,y,z] 0 3).toList:=rfl;rw[hs];unfold Sort.insertionSort;rw[insOuter,if_pos Yn,insOuter,if_pos Yn,insOuter]
  by_cases h1:y<=x
  ·have KN:¬x<y:=Yn
   rw[if_pos h1]at e1
   have ye:=e2 x y
   by_cases h2:z<=x
   ·by_cases h3:z<=y
    ·rw[if_pos h2,if_pos h3]at ye
     simp at e1 ye
     rw[zN e0,zN e1,zN ye,ND (hE _)];simp[insInner,AA,KN,show ¬y<z by omega]
    ·rw[if_pos h2,if_neg h3]at ye
     simp at e1 ye
     rw[zN e0,zN e1,zN ye,ND (hE _)];simp[insInner,swp,AA,KN,show y<z by omega,show ¬x<z by omega]
   ·rw[if_neg h2]at ye
    simp at e1 ye
    rw[zN e0,zN e1,zN ye,ND (hE _)];simp[insInner,swp,AA,KN,show y<z by omega,show x<z by omega]
  ·have KN:x<y:=Yn
   rw[if_neg h1]at e1
   have ye:=e2 y x
   by_cases h2:z<=y
   ·by_cases h3:z<=x
    ·rw[if_pos h2,if_pos h3]at ye
     simp at e1 ye
     rw[zN e0,zN e1,zN ye,ND (hE _)];simp[insInner,swp,AA,KN,show ¬x<z by omega]
    ·rw[if_pos h2,if_neg h3]at ye
     simp at e1 ye
     rw[zN e0,zN e1,zN ye,ND (hE _)];simp[insInner,swp,AA,KN,show x<z by omega,show ¬y<z by omega]
   ·rw[if_neg h2]at ye
    simp at e1 ye
    rw[zN e0,zN e1,zN ye,ND (hE _)];simp[insInner,swp,AA,KN,show y<z by omega,show x<z by omega]
 unfold mU
 grind
theorem Ao(h:tB l=YY):l.length=3:=by
 unfold tB at h
 grind
theorem IK(h:l.length<NN):oI l=mR l/\∃b,mR l=YW b:=by
 unfold oI mR;rw[DW,BN h]
 cases ht:tB l with
 |false=>simp
 |true=>
  have h3:=Ao ht
  match l,h3 with
  | [x,y,z],_=>
   have hm:mJ [x,y,z]=YW (Bm [x,y,z]):=if_pos rfl;have hl:=Ku [x,y,z]
   match hs:Bm [x,y,z],hl with
   | [a,b,c],_=>
    simp only[Uq,hm,hs];exact⟨trivial,_,rfl⟩
theorem C3{l:bl}(h:l.aY.size<=sy):ju l=cC l/\∃b,cC l=YW b:=by
 obtain⟨e,b,hb⟩:=np h;unfold ju cC;rw[gY,e,hb,cN,cN]
 grind
theorem tZ{p:aL}(h1:p.label.aY.size<=sy)(h2:p.ar.size<=sy)(h3:p.bE.length<NN):gE p=ey p/\∃b,ey p=YW b:=by
 obtain⟨e1,b1,qZ⟩:=C3 h1;obtain⟨e2,b2,xJ⟩:=np h2;obtain⟨e3,b3,hb3⟩:=IK h3;unfold gE ey;rw[gY,e3,DW,BN h3,cN,cN]
 grind
theorem ZdI{a b:List Int}(h:a.length<NN):fk a b=YW (Y0 (a=b)):=by
 unfold fk
 by_cases hl:a.length=b.length
 ·have e:aE (iB a b) NN 0=YW (if(List.range a.length).all (λi=>Y0 (a[i]?=b[i]?))=YY then .inl ()else .inr YZ):=by
   refine oG (λi hi _=>?_) (λ_=>?_) h
   ·have hx:a[i]?=YW a[i]:=VV hi
    have hy:b[i]?=YW b[i]:=VV Yn;have hw:=bG hi (by unfold NN at h;omega)
    unfold iB;rw[Ya (by omega:(i:Int)<a.length),aP,aP,hx,hy]
    grind
   ·unfold iB
    simp
  rw[Ya (by omega:(a.length:Int)=b.length),e]
  by_cases CK:a=b
  ·grind
  ·rw[if_neg,Yg CK]
   ·rfl
   ·intro tr
    refine CK (List.ext_getElem? λi=>?_)
    grind
 ·rw[Yg (by omega:¬((a.length:Int)=b.length)),Yg (λe=>hl (by rw[e]))]
  rfl
theorem mE{ο α:Type}(i j:Nat)(J:Option (ο⊕α))(T:ο->List PV)(M:ο->Mem):jn i j J T M=J:=by unfold jn;rfl
theorem ZcC(b c:Bool):(bif b then YW c else YW YZ)=YW (b&&c):=by grind
theorem ZgS(b c:Bool):(bif !b then YW YZ else YW c)=YW (b&&c):=by grind
theorem Lb{α β:Type}(b:Bool)(X Y:Option α)(S:α->Option β):(bif b then X else Y).bind S=bif b then X.bind S else Y.bind S:=by grind
theorem wW{a b:aL}(h:a.bE.length<NN):iX a b=YW (Y0 (a.label=b.label)&&(Y0 (a.ar=b.ar)&&(Y0 (a.ab=b.ab)&&(Y0 (a.bE=b.bE)&&Y0 (a.value=b.value))))):=by
 unfold iX;simp only[ZdI h,VT,ZcC]
theorem xD{a b:ba}(h:a.aJ.bE.length<NN):ly a b=YW (Y0 (a.kind=b.kind)&&((Y0 (a.aJ.label=b.aJ.label)&&(Y0 (a.aJ.ar=b.aJ.ar)&&(Y0 (a.aJ.ab=b.aJ.ab)&&(Y0 (a.aJ.bE=b.aJ.bE)&&Y0 (a.aJ.value=b.aJ.value)))))&&(Y0 (a.order=b.order)&&(Y0 (a.bC=b.bC)&&(Y0 (a.bI=b.bI)&&Y0 (a.bk=b.bk)))))):=by
 unfold ly;simp only[wW h,VT,ZcC]
theorem BX{a:ba}(h1:a.aJ.label.aY.size<=sy)(h2:a.aJ.ar.size<=sy)(h3:a.aJ.bE.length<NN):∃b,bT a=YW b/\eV a=YW b:=by
 obtain⟨e1,b1,qZ⟩:=tZ h1 h2 h3;have hz:Y0 (0<(a.aJ.bE.length:Int))=!decide (a.aJ.bE=[]):=by
  cases a.aJ.bE<;>simp
 unfold bT eV;simp only[mE,gY,e1,qZ,cN,xD h3,hz];generalize hq1:Y0 (a.aJ.label=⟨0,0,⟨#[]⟩⟩)=q1;generalize hq2:Y0 (a.aJ.ar=⟨#[]⟩)=q2;generalize hq3:Y0 (a.aJ.ab=0)=q3;generalize hq4:Y0 (a.aJ.bE=[])=q4;generalize hq5:Y0 (a.aJ.value=0)=q5;generalize hq6:Y0 (a.order=0)=q6;generalize hq7:Y0 (a.bC=0)=q7;generalize hq8:Y0 (a.bI=0)=q8;generalize hq9:Y0 (a.bk=⟨0,0⟩)=q9;have kk:a.kind=1\/a.kind=2\/a.kind=3\/a.kind=4\/a.kind=5\/a.kind=6\/(a.kind≠1/\a.kind≠2/\a.kind≠3/\a.kind≠4/\a.kind≠5/\a.kind≠6):=Yn
 rcases kk with k|k|k|k|k|k|⟨n1,n2,n3,n4,n5,n6⟩
 all_goals try(simp only[n1,n2,n3,n4,n5,n6,Int.reduceEq,decide_true,decide_false,Bool.not_true,Bool.not_false,Yj,Yk,VT,bh,Lb])
 all_goals try simp only[k,Int.reduceEq,decide_true,decide_false,Bool.not_true,Bool.not_false,Yj,Yk,VT,bh,Lb]
 case inr.inr.inr.inr.inr.inr=>
  have hf:(Y0 (1<=a.kind)&&Y0 (a.kind<=6))=false:=by
   grind
  grind
 all_goals
  simp only[hq1,hq2,hq3,hq4,hq5,hq6,hq7,hq8,hq9,ZcC,ZgS,Bool.true_and,Bool.and_true,Int.reduceLE,decide_true];exact⟨_,rfl,by congr 1;try ac_rfl⟩
end Go.Proofs.YtdilaemengjipaaGreatDoor
namespace Go.Proofs.YtdilaemengjipaaGreatDoor
set_option maxRecDepth 10000
open Go.RowKit
variable {v:Int}{w w':World}
def gu(p:aL):Option Int:=
 (ey p).bind λy1=>
 cond (!y1)
 (YW 0)
 ((lG p.bE).bind λy2=>
 cond (Y0 (p.ab<(IntKind.i64.wrap (Int.tdiv (aM (y2+4999)) 5000))))
 (YW (IntKind.i64.wrap (Int.tdiv (aM (y2+4999)) 5000)))
 (YW p.ab))
instance (p:aL):CT prog (gu p):=⟨287,[.ag (bA p)],[],λr=>vi r,λr=>[],cw (gu.eq_1 ..) func287 ntmps287 results287⟩
def iv(aT:List bF)(p:aL)(y4:Int)(s0:Int):Option (Int⊕(Unit⊕(Int×Bool))):=
 cond (Y0 (s0<(aT.length:Int)))
 ((jn 7 6 (
 (aB aT s0).bind λy5=>
 cond (Y0 (y5.nG=y4))
 ((aB aT s0).bind λy6=>
 cond (Y0 (y6.aw=p.label.aw))
 ((gu p).bind λy7=>
 (aB aT s0).bind λy8=>
 cond (Y0 (y7<=y8.oi))
 ((aB aT s0).bind λy9=>
 YW (.inr (y9.mr,YY)))
 (YW (.inl ())))
 (YW (.inl ())))
 (YW (.inl ())):Option (Unit⊕(Int×Bool))) (λz10=>(.un::.sl (aT.map cy)::(U 3 (.be 0 0 0::.un::.un::vi y4::vi s0::(U 59 []))))) (λz10=>[YW ⟨.of 44,7,[[vi p.label.aw,vi p.label.bO,vs p.label.aY,vs p.ar,vi p.ab,.sl (p.bE.map aG),vi p.value]]⟩])).bind (bh (λz10=>
 YW (.inl (aM (s0+1)))) (λr=>YW (.inr (.inr r)))))
 (YW (.inr (.inl ())))
instance (aT:List bF)(p:aL)(y4:Int):bp (iv aT p y4):=⟨λs0=>(.un::.sl (aT.map cy)::(U 3 (.be 0 0 0::.un::.un::vi y4::vi s0::(U 59 [])))),λs0=>[YW ⟨.of 44,7,[[vi p.label.aw,vi p.label.bO,vs p.label.aY,vs p.ar,vi p.ab,.sl (p.bE.map aG),vi p.value]]⟩]⟩
def iu(aS:List ct)(aT:List bF)(p:aL):Option (Int×Bool):=
 (jO aS).bind λy1=>
 cond (!y1)
 (YW (0,YZ))
 ((lD aT (aS.length:Int)).bind λy2=>
 cond (!y2)
 (YW (0,YZ))
 ((ey p).bind λy3=>
 cond (!y3)
 (YW (0,YZ))
 ((oa aS p.label.aY).bind λy4=>
 (aE (iv aT p y4) NN 0).bind (bh (λo0=>
 YW (0,YZ)) (λr=>YW r)))))
instance (aS:List ct)(aT:List bF)(p:aL):CT prog (iu aS aT p):=⟨222,[.sl (aS.map cG),.sl (aT.map cy),.ag (bA p)],[],λr=>.tu [vi r.1,vb r.2],λr=>[],cw (iu.eq_1 ..) func222 ntmps222 results222⟩
def fN(p:aL):Option aL:=
 (cr (bn ((([]:List Int):List Int).length+(p.bE:List Int).length) 8)).bind λ_=>
 YW (⟨p.label,p.ar,p.ab,((([]:List Int):List Int)++p.bE),p.value⟩:aL)
instance (p:aL):CT prog (fN p):=⟨70,[.ag (bA p)],[],λr=>.ag [vi r.label.aw,vi r.label.bO,vs r.label.aY,vs r.ar,vi r.ab,.ms 0,vi r.value],λr=>[YW ⟨.of 3,1,r.bE.map aG⟩],ck (fN.eq_1 ..) func70 ntmps70 results70⟩
def eE(a:ba):Option ba:=
 (fN a.aJ).bind λy1=>
 YW (⟨a.kind,y1,a.order,a.bC,a.bI,a.bk⟩:ba)
instance (a:ba):CT prog (eE a):=⟨30,[.ag (cX a)],[],λr=>.ag [vi r.kind,vi r.aJ.label.aw,vi r.aJ.label.bO,vs r.aJ.label.aY,vs r.aJ.ar,vi r.aJ.ab,.ms 0,vi r.aJ.value,vi r.order,vi r.bC,vi r.bI,vi r.bk.bH,vi r.bk.day],λr=>[YW ⟨.of 3,1,r.aJ.bE.map aG⟩],ck (eE.eq_1 ..) func30 ntmps30 results30⟩
def dS(s:ByteArray)(s0:Int×Int):Option ((Int×Int)⊕(Int⊕Int)):=
 cond (Y0 (s0.2<(s.size:Int)))
 ((uC s s0.2).bind λy1=>
 (bb (IntKind.i64.wrap y1) 48 57).bind λy2=>
 cond (!y2)
 (YW (.inr (.inr (-1))))
 ((uC s s0.2).bind λy3=>
 YW (.inl ((Int.tmod (aM ((aM (10*s0.1))+(IntKind.i64.wrap (IntKind.u8.wrap (y3-48))))) 97),(aM (s0.2+1))))))
 (YW (.inr (.inl s0.1)))
instance (s:ByteArray):bp (dS s):=⟨λs0=>(vs s::.un::.un::vi s0.1::vi s0.2::(U 24 [])),λs0=>[]⟩
def j8(s:ByteArray):Option Int:=
 (aE (dS s) NN (0,0)).bind (bh (λo0=>
 cond (Y0 (s=⟨#[]⟩))
 (YW (-1))
 (YW o0)) (λr=>YW r))
instance (s:ByteArray):CT prog (j8 s):=⟨298,[vs s],[],λr=>vi r,λr=>[],cw (j8.eq_1 ..) func298 ntmps298 results298⟩
def nQ(t:av):Option ByteArray:=
 (cz t.bH).bind λy1=>
 (cr (dC y1 (⟨#[47]⟩))).bind λ_=>
 (cz t.day).bind λy2=>
 (cr (dC (y1++⟨#[47]⟩) y2)).bind λ_=>
 YW ((y1++⟨#[47]⟩)++y2)
instance (t:av):CT prog (nQ t):=⟨47,[.ag (aU t)],[],λr=>vs r,λr=>[],cw (nQ.eq_1 ..) func47 ntmps47 results47⟩
def ie(s sep:ByteArray):Option (ByteArray×ByteArray×Bool):=if s.size<=100000000 then YW (cE (Lib.cut s.data.toList sep.data.toList).1,cE (Lib.cut s.data.toList sep.data.toList).2.1,(Lib.cut s.data.toList sep.data.toList).2.2)else YX
def iI(s sep:ByteArray):Option (List ByteArray):=if s.size<=100000000/\1<=sep.size then YW (Lib.splitB sep 0 (Lib.countB s sep) s)else YX
def dc(s:ByteArray):Option (Int×Bool):=if s.size<=100000000 then YW (match Lib.atoiAll s.data.toList with
 |.ok n=>if 0<=n/\n<=1000000000/\cE (Lib.itoa n)=s then(n,YY)else(0,YZ)
 |_=>(0,YZ))else YX
theorem vY(l:List UInt8):(cE l).data.toList=l:=by simp[cE]
theorem Pr{n:Int}(h0:0<=n)(h1:n<=1000000000)(hl:(Lib.itoa n).length<=100000000):dc (cE (Lib.itoa n))=YW (n,YY):=by
 unfold dc;rw[if_pos (by rw[bD];exact hl),vY,Ex h0 Yn]
 simp[h0,h1]
theorem xc{c:UInt8}{a b:List UInt8}(h:c ∉ a)(hl:a.length+b.length<100000000):ie (cE (a++c::b)) (cE [c])=YW (cE a,cE b,YY):=by
 unfold ie;rw[if_pos (by rw[bD];simp;omega),vY,vY,Vw h]
theorem Vx{c:UInt8}{a:List UInt8}(h:c ∉ a)(hl:a.length<=100000000):ie (cE a) (cE [c])=YW (cE a,cE [],YZ):=by
 unfold ie;rw[if_pos (by rw[bD];exact hl),vY,vY,ZcM h]
theorem DL{c:UInt8}{L:List UInt8}(hL:L.length<=100000000):iI (cE L) (cE [c])=YW ((jD c L).map cE):=by
 unfold iI;rw[if_pos ⟨by rw[bD];exact hL,by rw[bD];simp⟩]
 congr 1
 have h:=Lib.splitB_data (cE [c]) 0 (Lib.countB (cE L) (cE [c])) (cE L);rw[vY,vY]at h
 have hc:Lib.countB (cE L) (cE [c])=Lib.count L [c]:=by unfold Lib.countB;rw[vY,vY]
 rw[hc]at h⊢
 rw[Fw c L.length L (VY _)]at h
 rw[<-h,List.map_map];have e:(cE∘λx:ByteArray=>x.data.toList)=id:=by funext x;exact ByteArray.ext (by simp[cE])
 rw[e,List.map_id]
theorem JI{b:Nat}:¬nC (λ_=>YX) b:=by rintro⟨l,B,h,_⟩;cases h
theorem fa.val{P:Program}{f:FuncId}{args:List PV}{val:Value}(h:fa P f args [] (.v val) []){w:World}(ht:Es w (nC λ_=>YX)){vs:Array Value}(hl:vs.size=args.length)(ha:∀(i:Nat) (p:PV),args[i]?=YW p->∃x,vs[i]?=YW x/\dG w (E1 (λb=>b<w.heap.size) (λ_=>YX) 0) p x):
 Calls P f vs w λe w'=>e=.returned val/\Up w w':=by
 have hok:Ok w (nC λ_=>YX) (E1 (λb=>b<w.heap.size) (λ_=>YX) 0) w []:=
  ⟨Et.refl _ _,λb h=>h,λl B h=>YA,λl l' B B' h=>YA,λl h=>absurd h (Nat.not_lt_zero l),λl B h=>YA,λl mb h=>(by simp at h),λl B h=>YA,ht,λ_ _ h=>h.elim⟩
 refine(h (λb=>b<w.heap.size) (λ_=>YX) w vs (λ_ _=>False) hok hl ha).mono ?_
 rintro e w' ⟨v,E',rfl,hk,_,_,_,hr⟩;obtain⟨rfl,_⟩:=hr.iz;exact⟨rfl,hk.up.os,hk.up.tape,hk.up.output,hk.up.size,λb hb=>hk.up.block b hb JI⟩
theorem ZbF(h:UT w)(he:∀b,b<w.heap.size->w'.heap[b]?=w.heap[b]?):UT w':=by
 unfold UT Lib.TabIs World.var? at *
 cases hg : prog.globalNamed "internal/strconv.uint64pow10" with
 |none=>rw[hg]at h;cases h
 |some g=>
  rw[hg]at h
  simp only[VT]at h⊢
  have bX:g<w.heap.size:=by
   rcases Wv g w.heap.size with h'|h'
   ·exact h'
   ·rw[Array.getElem?_eq_none h']at h;cases h
  rw[he g bX];exact h
theorem Cl{b:Nat}{v:Value}(h:w.cell? ⟨b,0,YX⟩=YW v)(he:∀b,b<w.heap.size->w'.heap[b]?=w.heap[b]?):w'.cell? ⟨b,0,YX⟩=YW v:=by
 have bX:b<w.heap.size:=by
  rcases Wv b w.heap.size with h'|h'
  ·exact h'
  ·simp[World.cell?,Array.getElem?_eq_none h']at h
 rw[<-h];simp[World.cell?,he b bX]
theorem Oh(h:TabF w)(he:∀b,b<w.heap.size->w'.heap[b]?=w.heap[b]?):TabF w':=by
 obtain⟨m,hm⟩:=h.mx;obtain⟨t,p,ht⟩:=h.es;obtain⟨t1,p1,ht1⟩:=h.er;exact⟨ZbF h.KX he,⟨m,Cl hm he⟩,⟨t,p,Cl ht he⟩,⟨t1,p1,Cl ht1 he⟩⟩
theorem uM(h:TabF w)(hu:Up w w'):TabF w':=Oh h λb hb=>hu.block b hb
theorem tab_of_F(h:TabF w):Es w (nC λ_=>YX):=⟨λb=>b<w.heap.size,λb hb=>⟨hb,JI⟩,λw' hw'=>Oh h hw'⟩
theorem Df(s sep:ByteArray){r:ByteArray×ByteArray×Bool}(H:ie s sep=YW r):fa prog 120 [Go.Proofs.YtdilaemengjipaaGreatDoor.vs s,Go.Proofs.YtdilaemengjipaaGreatDoor.vs sep] [] (.tu [Go.Proofs.YtdilaemengjipaaGreatDoor.vs r.1,Go.Proofs.YtdilaemengjipaaGreatDoor.vs r.2.1,vb r.2.2]) []:=by
 unfold ie at H
 split at H
 case isFalse=>cases H
 rename_i hn;obtain rfl:=VX H;refine sZ (val:=.tuple #[.string (cE (Lib.cut s.data.toList sep.data.toList).1),.string (cE (Lib.cut s.data.toList sep.data.toList).2.1),.bool (Lib.cut s.data.toList sep.data.toList).2.2]) (λw E=>.tu _ _ rfl λj p x hp hx=>?_) λS β w vs uV ht hl ha=>?_
 ·match j,hp,hx with
  |0,hp,hx|1,hp,hx|2,hp,hx=>simp at hp hx;subst hp hx;exact .c (.v _ rfl)
  |j+3,hp,hx=>simp at hx
 ·obtain⟨x,hx,hr⟩:=ha 0 _ rfl
  obtain⟨x1,Pq,hr1⟩:=ha 1 _ rfl;obtain rfl:=ar2 hl hx Pq;obtain rfl:=Ue hr;obtain rfl:=Ue hr1;obtain⟨m,hm⟩:=ht.mx;refine(Tryz.strings_Cut s sep m w Yn hm).mono ?_;rintro e w' ⟨rfl,n,rfl⟩;exact⟨rfl,by(repeat(first|exact Up.rfl' _|(refine Up.al _ ?_) |(refine Up.dr _ ?_) |(refine Up.rR ?_) |(refine Up.sc ?_ Yt _) |(refine Up.step Yz ?_)))⟩
instance (s sep:ByteArray):CT prog (ie s sep):=⟨120,[vs s,vs sep],[],λr=>.tu [vs r.1,vs r.2.1,vb r.2.2],λr=>[],Df s sep⟩
theorem zZ(s sep:ByteArray){r:List ByteArray}(H:iI s sep=YW r):fa prog 60 [Go.Proofs.YtdilaemengjipaaGreatDoor.vs s,Go.Proofs.YtdilaemengjipaaGreatDoor.vs sep] [] (.ms 0) [YW ⟨.of 9,1,r.map iU⟩]:=by
 unfold iI at H
 split at H
 case isFalse=>cases H
 rename_i hn;obtain rfl:=VX H;intro S β w vs ω hk hl ha;obtain⟨x,hx,hr⟩:=ha 0 _ rfl;obtain⟨x1,Pq,hr1⟩:=ha 1 _ rfl;obtain rfl:=ar2 hl hx Pq;obtain rfl:=Ue hr;obtain rfl:=Ue hr1;obtain⟨m,hm⟩:=hk.KX.here.mx;refine(Tryz.strings_Split s sep m w Yn hm hn.2).mono ?_;rintro e w' ⟨rfl,rfl⟩;have QV:=Lib.splitB_all sep hn.2 0 _ s rfl;have hle:=Lib.countB_le sep hn.2 _ s (VY _);have ho:Own (w.alloc (.cells ((Lib.splitB sep 0 (Lib.countB s sep) s).map Value.string).toArray 9)) w.heap.size 9 (.slice (YW ⟨w.heap.size,0,YX⟩) (Lib.countB s sep+1) (Lib.countB s sep+1)) (Lib.splitB sep 0 (Lib.countB s sep) s):=by
  refine⟨qA _,.inr ⟨w.heap.size,Lib.countB s sep+1,((Lib.splitB sep 0 (Lib.countB s sep) s).map Value.string).toArray,by rw[QV],VY _,Array.getElem?_push_size,Yn,by unfold maxLen;omega,?_,?_⟩⟩
  ·rw[List.size_toArray,Wj,QV];exact(Nat.mul_one _).symm
  ·rw[zC,List.toList_toArray];exact Xw (by rw[Wj];exact Nat.le_of_eq (Nat.mul_one _).symm)
 obtain⟨E',h1,h2,h3,h4,h5⟩:=wA (c:=iU) hk ho Yo (λx=>⟨rfl,λj p hj=>by
  cases j with
  |zero=>obtain rfl:Go.Proofs.YtdilaemengjipaaGreatDoor.vs x=p:=by simpa using hj
         exact⟨_,rfl,rfl,λw E=>.c (.v _ rfl)⟩
  |succ j=>simp[iU]at hj⟩)
 exact⟨_,E',rfl,h1,h2,h3,h4,h5⟩
instance (s sep:ByteArray):CT prog (iI s sep):=⟨60,[vs s,vs sep],[],λr=>.ms 0,λr=>[YW ⟨.of 9,1,r.map iU⟩],zZ s sep⟩
@[go_sem] theorem Zia:sU prog 120:=⟨_,func120,rfl,by kernel_rfl⟩
@[go_sem] theorem Zgn:sU prog 60:=⟨_,func60,rfl,by kernel_rfl⟩
theorem UB{T:TypeId}(h:w'=w\/∃t,w'=Lib.bytesWorld w T t):Up w w':=by
 rcases h with rfl|⟨t,rfl⟩
 ·exact Below.refl _ _
 ·exact Lib.bytesWorld_below _ _ _
theorem tE(s:ByteArray)(hs:s.size<=100000000)(h:Lib.atoiAll s.data.toList=.ok v)(w:World):Calls prog 192 #[.string s] w λe w'=>e=.returned (.tuple #[Y1 Y2 v,.nilIface])/\Up w w':=
 (Tryz.strconv_Atoi_ok s Yn v h w).mono λe w' ⟨h1,h2⟩=>⟨h1,UB h2⟩
theorem xW(s:ByteArray)(hs:s.size<=100000000)(h:∀v,Lib.atoiAll s.data.toList≠.ok v)(w:World)(ht:TabF w):Calls prog 192 #[.string s] w λe w'=>∃n t p,e=.returned (.tuple #[Y1 Y2 n,.iface t p])/\Up w w':=by
 obtain⟨t1,p1,h1⟩:=ht.es;obtain⟨t2,p2,h2⟩:=ht.er
 cases hc:Lib.atoiAll s.data.toList with
 |ok v=>exact absurd hc (h v)
 |range=>exact(Tryz.strconv_Atoi_range s Yn hc _ w h2 (.inr ⟨_,_,rfl⟩)).mono λe w' ⟨N,h1,_,_,h2⟩=>⟨_,_,_,h1,h2⟩
 |_=>exact(Tryz.strconv_Atoi_syntax s Yn hc _ w h1 (.inr ⟨_,_,rfl⟩)).mono λe w' ⟨N,h1,_,_,h2⟩=>⟨_,_,_,h1,h2⟩
theorem Rx{z s:ByteArray}(h:¬z=s):(z.toList==s.toList)=false:=by
 rw[beq_eq_false_iff_ne,ByteArray.toList_eq,ByteArray.toList_eq];exact λe=>h (ByteArray.ext (Array.toList_inj.1 e))
theorem El(s:ByteArray)(hs:s.size<=100000000)(h:Lib.atoiAll s.data.toList=.ok v)(w:World)(ht:TabF w):Calls prog 122 #[.string s] w λe w'=>e=.returned (.tuple #[Y1 Y2 (if 0<=v/\v<=1000000000/\cE (Lib.itoa v)=s then v else 0),.bool (Y0 (0<=v/\v<=1000000000/\cE (Lib.itoa v)=s))])/\Up w w':=by
 obtain⟨b0,b1⟩:=U9 h;have hA:=tE s hs h;have hI:=λw1 (hu:Up w w1)=>Tryz.strconv_Itoa v b0 b1 w1 (uM ht hu).KX
 by_cases c0:v<0
 ·rw[if_neg Yn,Yg Yn]
  go_enter func122,ntmps122
  go_wp2_with (go_at_call 192;refine(hA _).mono ?_;rintro e w1 ⟨rfl,uW⟩)
  go_ret2
  exact⟨rfl,uW⟩
 by_cases c1:1000000000<v
 ·rw[if_neg Yn,Yg Yn]
  go_enter func122,ntmps122
  go_wp2_with (go_at_call 192;refine(hA _).mono ?_;rintro e w1 ⟨rfl,uW⟩)
  go_ret2
  exact⟨rfl,uW⟩
 have hI2:∀w1,Up w w1->Calls prog 98 #[Y1 Y2 v] w1 λe w'=>e=.returned (.string (cE (Lib.itoa v)))/\Up w1 w':=λw1 hu=>(hI w1 hu).mono λe w' ⟨h1,k,os,h2⟩=>⟨h1,h2▸Ot _ _ _⟩
 by_cases ce:cE (Lib.itoa v)=s
 ·rw[if_pos ⟨Yn,Yn,ce⟩,Ya ⟨Yn,Yn,ce⟩]
  rw[ce]at hI2
  clear hI ce
  go_enter func122,ntmps122
  go_wp2_with (first
   |(go_at_call 192;refine(hA _).mono ?_;rintro e w1 ⟨rfl,uW⟩)
   |(go_at_call 98;refine(hI2 _ Yz).mono ?_;rintro e w2 ⟨rfl,xM⟩))
  go_ret2
  exact⟨rfl,Up.step xM uW⟩
 ·rw[if_neg λh=>ce h.2.2,Yg λh=>ce h.2.2]
  clear hI;generalize cE (Lib.itoa v)=z at *
  have hq:=Rx ce
  go_enter func122,ntmps122
  go_wp2_with (first
   |(go_at_call 192;refine(hA _).mono ?_;rintro e w1 ⟨rfl,uW⟩)
   |(go_at_call 98;refine(hI2 _ Yz).mono ?_;rintro e w2 ⟨rfl,xM⟩))
  go_ret2
  exact⟨rfl,Up.step xM uW⟩
theorem GL(s:ByteArray)(hs:s.size<=100000000)(h:∀v,Lib.atoiAll s.data.toList≠.ok v)(w:World)(ht:TabF w):Calls prog 122 #[.string s] w λe w'=>e=.returned (.tuple #[Y1 Y2 0,.bool YZ])/\Up w w':=by
 have hA:=xW s hs h
 go_enter func122,ntmps122
 go_wp2_with (go_at_call 192;refine(hA _ ht).mono ?_;rintro e w1 ⟨n,t,p,rfl,uW⟩)
 go_ret2
 exact⟨rfl,uW⟩
theorem zW(s:ByteArray){r:Int×Bool}(H:dc s=YW r):fa prog 122 [Go.Proofs.YtdilaemengjipaaGreatDoor.vs s] [] (.tu [vi r.1,vb r.2]) []:=by
 unfold dc at H
 split at H
 case isFalse=>cases H
 rename_i hn;have hr:=VX H;refine sZ (val:=.tuple #[Y1 Y2 r.1,.bool r.2]) (λw E=>.tu _ _ rfl λj p x hp hx=>?_) λS β w vs uV ht hl ha=>?_
 ·match j,hp,hx with
  |0,hp,hx|1,hp,hx=>simp at hp hx;subst hp hx;exact .c (.v _ rfl)
  |j+2,hp,hx=>simp at hx
 ·obtain⟨x,hx,hr1⟩:=ha 0 _ rfl
  obtain rfl:=ar1 hl hx;obtain rfl:=Ue hr1
  cases h:Lib.atoiAll s.data.toList with
  |ok v=>
   refine(El s hn h w ht).mono λe w' ⟨h1,h2⟩=>⟨?_,h2⟩
   rw[h1];rw[h]at hr
   simp only at hr
   by_cases c:0<=v/\v<=1000000000/\cE (Lib.itoa v)=s
   ·rw[if_pos c]at hr;rw[if_pos c,Ya c,<-hr]
   ·rw[if_neg c]at hr;rw[if_neg c,Yg c,<-hr]
  |_=>
   rw[h]at hr
   rw[<-hr];exact GL s hn (λv e=>by rw[h]at e;cases e) w ht
instance (s:ByteArray):CT prog (dc s):=⟨122,[vs s],[],λr=>.tu [vi r.1,vb r.2],λr=>[],zW s⟩
end Go.Proofs.YtdilaemengjipaaGreatDoor
