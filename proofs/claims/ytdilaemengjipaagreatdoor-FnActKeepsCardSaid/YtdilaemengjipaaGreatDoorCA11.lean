/- A part of the proof of the statement in the last file of this claim: texts on the language of the program and on its functions. No condition. -/
import Derived.Test.YtdilaemengjipaaGreatDoorCA4
import Derived.Test.YtdilaemengjipaaGreatDoorCA8
import Derived.Test.YtdilaemengjipaaGreatDoorCA1
set_option linter.unusedVariables false
set_option linter.unusedSimpArgs false
set_option linter.unusedSectionVars false
open Option renaming some->YH,none->YI
open Bool renaming true->YJ,false->YK
open Decidable renaming decide->YL
open Go.Proofs.Tryz
set_option maxHeartbeats 40000000
namespace Go.Proofs.YtdilaemengjipaaGreatDoor
open Bool renaming and_eq_true->V6
set_option maxRecDepth 10000
open Go.RowKit
variable {i:Nat}{k o:Int}{l:List Ln}{r:Bool}{x:Ln}
def pO(l:List aU)(order:Int)(kind:Int)(s0:Int×Int):Option ((Int×Int)⊕Int):=
 cond (YL (s0.2<(l.length:Int)))
 ((jn 4 7 (
 (aB l s0.2).bind λy1=>
 cond (YL (y1.order=order))
 (cond (YL (y1.kind=kind))
 (YH (.inl (aI (s0.1+y1.bz))))
 (YH (.inl s0.1)))
 (YH (.inl s0.1)):Option (Int⊕Empty)) (λz2=>(.un::vi order::vi kind::(U 4 (vi z2::.un::.un::.sl (l.map bC)::vi (l.length:Int)::vi s0.2::(U 19 []))))) (λz2=>[])).bind (bk (λz2=>
 YH (.inl (z2,(aI (s0.2+1))))) (λr=>r.elim)))
 (YH (.inr s0.1))
instance (l:List aU)(order:Int)(kind:Int):bo (pO l order kind):=⟨λs0=>(.un::vi order::vi kind::(U 4 (vi s0.1::.un::.un::.sl (l.map bC)::vi (l.length:Int)::vi s0.2::(U 19 [])))),λs0=>[]⟩
def db(l:List aU)(order:Int)(kind:Int):Option Int:=
 (aD (pO l order kind) NN (0,0)).bind (λo0=>
 YH o0)
theorem DC(l:List aU)(order:Int)(kind:Int){r:Int}(H:db l order kind=YH r):fL prog 44 [.sl (l.map bC),vi order,vi kind] [] (vi r) []:=by
 replace H:=H0 H;unfold db at H
 refine ja func44 rfl ntmps44 results44 λQ hQ Ia=>?_
 exact JU
instance (l:List aU)(order:Int)(kind:Int):CT prog (db l order kind):=⟨44,[.sl (l.map bC),vi order,vi kind],[],λr=>vi r,λr=>[],DC l order kind⟩
def gn(l:List aU)(s0:Int):Option (Int⊕(Unit⊕Bool)):=
 cond (YL (s0<(l.length:Int)))
 ((jn 5 20 (
 (aB l s0).bind λy1=>
 (jn 6 8 (
 (l9 y1).bind λy2=>
 cond (!y2)
 (YH (.inr YK))
 (cond (YL (0<s0))
 ((aB l (aI (s0-1))).bind λy3=>
 cond (YL (y1.aP<y3.aP))
 (YH (.inr YK))
 (YH (.inl ())))
 (YH (.inl ()))):Option (Unit⊕Bool)) (λz4=>(.sl (l.map bC)::.un::.un::vi s0::.be 0 0 0::(U 5 (.sl (l.map bC)::vi (l.length:Int)::vi s0::(U 69 []))))) (λz4=>[YH ⟨.of 85,4,[[vi y1.order,vi y1.kind,vi y1.bz,vi y1.aP]]⟩])).bind (bk (λz4=>
 (bW (gg 0 s0 l.length)).bind λ_=>
 (db (cH l 0 s0) y1.order 1).bind λy5=>
 (bW (gg 0 s0 l.length)).bind λ_=>
 (db (cH l 0 s0) y1.order 2).bind λy6=>
 cond (YL (y1.kind=1))
 (cond (YL (0<y5))
 (YH (.inr YK))
 (YH (.inl ())))
 (cond (YL (y1.kind=2))
 (cond (YL (y5<(aI (y6+y1.bz))))
 (YH (.inr YK))
 (YH (.inl ())))
 (cond (YL (y1.kind=3))
 ((bW (gg 0 s0 l.length)).bind λ_=>
 (db (cH l 0 s0) y1.order 3).bind λy7=>
 cond (YL (0<y7))
 (YH (.inr YK))
 (cond (!decide (y6=y5))
 (YH (.inr YK))
 (cond (YL (y5<y1.bz))
 (YH (.inr YK))
 (YH (.inl ())))))
 (YH (.inl ()))))) (λr=>YH (.inr r))):Option (Unit⊕Bool)) (λz8=>(.sl (l.map bC)::(U 9 (.sl (l.map bC)::vi (l.length:Int)::vi s0::(U 69 []))))) (λz8=>[])).bind (bk (λz8=>
 YH (.inl (aI (s0+1)))) (λr=>YH (.inr (.inr r)))))
 (YH (.inr (.inl ())))
instance (l:List aU):bo (gn l):=⟨λs0=>(.sl (l.map bC)::(U 9 (.sl (l.map bC)::vi (l.length:Int)::vi s0::(U 69 [])))),λs0=>[]⟩
def dI(l:List aU):Option Bool:=
 cond (YL (200<(l.length:Int)))
 (YH YK)
 ((aD (gn l) NN 0).bind (bk (λo0=>
 YH YJ) (λr=>YH r)))
theorem zu(l:List aU)(H:dI l=YH r):fL prog 42 [.sl (l.map bC)] [] (vb r) []:=by
 replace H:=H0 H;unfold dI at H
 refine ja func42 rfl ntmps42 results42 λQ hQ Ia=>?_
 exact JU
instance (l:List aU):CT prog (dI l):=⟨42,[.sl (l.map bC)],[],λr=>vb r,λr=>[],zu l⟩
def ku(l:List aU)(x:aU):Option ((List aU)×Int):=
 cond (YL (200<=(l.length:Int)))
 ((bF l).bind λy1=>
 YH (y1,5))
 ((bF l).bind λy2=>
 (bW (bm ((y2:List aU).length+([x]:List aU).length) 32)).bind λ_=>
 (dI ((y2:List aU)++[x])).bind λy3=>
 cond (!y3)
 ((bF l).bind λy4=>
 YH (y4,1))
 (YH (((y2:List aU)++[x]),0)))
instance (l:List aU)(x:aU):CT prog (ku l x):=⟨141,[.sl (l.map bC),.ag (bC x)],[],λr=>.tu [.ms 0,vi r.2],λr=>[YH ⟨.of 85,4,r.1.map bC⟩],cw (ku.eq_1 ..) func141 ntmps141 results141⟩
def kn(l:List aU)(order:Int)(bz:Int)(fO:Int):Option ((List aU)×Int):=
 (dI l).bind λy1=>
 cond (!y1)
 ((bF l).bind λy2=>
 YH (y2,1))
 ((l9 (⟨order,1,bz,fO⟩:aU)).bind λy3=>
 cond (!y3)
 ((bF l).bind λy4=>
 YH (y4,1))
 ((db l order 1).bind λy5=>
 cond (YL (0<y5))
 ((bF l).bind λy6=>
 YH (y6,2))
 ((ku l (⟨order,1,bz,fO⟩:aU)).bind λy7=>
 YH (y7.1,y7.2))))
instance (l:List aU)(order:Int)(bz:Int)(fO:Int):CT prog (kn l order bz fO):=⟨74,[.sl (l.map bC),vi order,vi bz,vi fO],[],λr=>.tu [.ms 0,vi r.2],λr=>[YH ⟨.of 85,4,r.1.map bC⟩],cw (kn.eq_1 ..) func74 ntmps74 results74⟩
def gL(l:List aU)(order:Int):Option Int:=
 (dI l).bind λy1=>
 cond (!y1)
 (YH 0)
 ((db l order 1).bind λy2=>
 (db l order 2).bind λy3=>
 YH (aI (y2-y3)))
instance (l:List aU)(order:Int):CT prog (gL l order):=⟨49,[.sl (l.map bC),vi order],[],λr=>vi r,λr=>[],cw (gL.eq_1 ..) func49 ntmps49 results49⟩
def nC(l:List aU)(order:Int)(bz:Int)(fO:Int):Option ((List aU)×Int):=
 (dI l).bind λy1=>
 cond (!y1)
 ((bF l).bind λy2=>
 YH (y2,1))
 ((l9 (⟨order,2,bz,fO⟩:aU)).bind λy3=>
 cond (!y3)
 ((bF l).bind λy4=>
 YH (y4,1))
 ((db l order 1).bind λy5=>
 cond (YL (y5=0))
 ((bF l).bind λy6=>
 YH (y6,3))
 ((gL l order).bind λy7=>
 cond (YL (y7<bz))
 ((bF l).bind λy8=>
 YH (y8,4))
 ((ku l (⟨order,2,bz,fO⟩:aU)).bind λy9=>
 YH (y9.1,y9.2)))))
instance (l:List aU)(order:Int)(bz:Int)(fO:Int):CT prog (nC l order bz fO):=⟨75,[.sl (l.map bC),vi order,vi bz,vi fO],[],λr=>.tu [.ms 0,vi r.2],λr=>[YH ⟨.of 85,4,r.1.map bC⟩],cw (nC.eq_1 ..) func75 ntmps75 results75⟩
def kM(l:List Int)(s0:Int):Option (Int⊕(Unit⊕Bool)):=
 cond (YL (s0<(l.length:Int)))
 ((jn 3 6 (
 (aB l s0).bind λy1=>
 (aZ y1 0 100).bind λy2=>
 cond (!y2)
 (YH (.inr YK))
 (cond (YL (0<s0))
 ((aB l (aI (s0-1))).bind λy3=>
 cond (YL (y1<y3))
 (YH (.inr YK))
 (YH (.inl ())))
 (YH (.inl ()))):Option (Unit⊕Bool)) (λz4=>(.sl (l.map aE)::(U 4 (.sl (l.map aE)::vi (l.length:Int)::vi s0::(U 24 []))))) (λz4=>[])).bind (bk (λz4=>
 YH (.inl (aI (s0+1)))) (λr=>YH (.inr (.inr r)))))
 (YH (.inr (.inl ())))
instance (l:List Int):bo (kM l):=⟨λs0=>(.sl (l.map aE)::(U 4 (.sl (l.map aE)::vi (l.length:Int)::vi s0::(U 24 [])))),λs0=>[]⟩
def eD(l:List Int):Option Bool:=
 (aD (kM l) NN 0).bind (bk (λo0=>
 (aZ (l.length:Int) 1 6).bind λy5=>
 YH y5) (λr=>YH r))
theorem wv(l:List Int)(H:eD l=YH r):fL prog 41 [.sl (l.map aE)] [] (vb r) []:=by
 replace H:=H0 H;unfold eD at H
 refine ja func41 rfl ntmps41 results41 λQ hQ Ia=>?_
 exact JU
instance (l:List Int):CT prog (eD l):=⟨41,[.sl (l.map aE)],[],λr=>vb r,λr=>[],wv l⟩
def mA(oc:Int)(dW:Int)(bB:Int)(aM:List Int):Option Int:=
 (eD aM).bind λy1=>
 cond (!y1)
 (YH 0)
 ((aZ oc 0 100000).bind λy2=>
 cond (!y2)
 (YH 0)
 ((aZ dW 0 200000).bind λy3=>
 cond (!y3)
 (YH 0)
 ((aZ bB 0 200000).bind λy4=>
 cond (!y4)
 (YH 0)
 (cond (YL (bB<=dW))
 (YH 0)
 ((aB aM (if(aI ((aM.length:Int)-1))<(IntKind.i64.wrap (Int.tdiv (aI ((aI (bB-dW))-1)) 1440))then(aI ((aM.length:Int)-1))else(IntKind.i64.wrap (Int.tdiv (aI ((aI (bB-dW))-1)) 1440)))).bind λy5=>
 YH (IntKind.i64.wrap (Int.tdiv (aI (oc*y5)) 100)))))))
instance (oc:Int)(dW:Int)(bB:Int)(aM:List Int):CT prog (mA oc dW bB aM):=⟨142,[vi oc,vi dW,vi bB,.sl (aM.map aE)],[],λr=>vi r,λr=>[],cw (mA.eq_1 ..) func142 ntmps142 results142⟩
def ks(l:List aU)(order:Int)(dW:Int)(bB:Int)(aM:List Int)(o7:Int):Option ((List aU)×Int):=
 (dI l).bind λy1=>
 cond (!y1)
 ((bF l).bind λy2=>
 YH (y2,1))
 ((eD aM).bind λy3=>
 cond (!y3)
 ((bF l).bind λy4=>
 YH (y4,1))
 ((aZ order 1 9999).bind λy5=>
 cond (!y5)
 ((bF l).bind λy6=>
 YH (y6,1))
 ((aZ o7 0 100000).bind λy7=>
 cond (!y7)
 ((bF l).bind λy8=>
 YH (y8,1))
 ((db l order 1).bind λy9=>
 (mA y9 dW bB aM).bind λdL=>
 cond (YL (y9=0))
 ((bF l).bind λji=>
 YH (ji,3))
 ((gL l order).bind λoX=>
 cond (YL (0<oX))
 ((bF l).bind λmf=>
 YH (mf,3))
 ((db l order 3).bind λkX=>
 cond (YL (0<kX))
 ((bF l).bind λpg=>
 YH (pg,2))
 (cond (YL (dL=0))
 ((bF l).bind λmu=>
 YH (mu,4))
 ((ku l (⟨order,3,dL,o7⟩:aU)).bind λrn=>
 YH (rn.1,rn.2)))))))))
instance (l:List aU)(order:Int)(dW:Int)(bB:Int)(aM:List Int)(o7:Int):CT prog (ks l order dW bB aM o7):=⟨76,[.sl (l.map bC),vi order,vi dW,vi bB,.sl (aM.map aE),vi o7],[],λr=>.tu [.ms 0,vi r.2],λr=>[YH ⟨.of 85,4,r.1.map bC⟩],cw (ks.eq_1 ..) func76 ntmps76 results76⟩
theorem C8(xs:List Ln)(x:Ln)(o k:Int):cr (xs++[x]) o k=l0 o k (cr xs o k) x:=by simp[cr,List.foldl_append]
theorem pt{xs:List Ln}(h:dG xs=YJ):(∀x∈xs,1<=x.a/\x.a<=100000)/\xs.length<=200:=by
 simp only[dG,V6,decide_eq_true_eq]at h
 have:=yH h.2
 simp_all
theorem L0{xs:List Ln}(h:dG xs=YJ)(o k:Int):0<=cr xs o k/\cr xs o k<=20000000:=by
 obtain⟨h1,h2⟩:=pt h;have:=Fs o k h1 h2;omega
theorem yi{xs:List Ln}(h:dG xs=YJ)(hx:xs[i]?=YH x):pr x.o x.k x.a x.t=YJ/\uH (xs.take i) x=true:=by
 simp only[dG,V6]at h
 have h2:=vJ.1 h.2 i (Es hx);simp only[tc,List.getD_eq_getElem?_getD,hx,Option.getD_some,V6,Bool.not_eq_true']at h2
 exact⟨Ag h2.1,h2.2⟩
theorem jt{xs:List Ln}(h:¬(x.o=o/\x.k=k)):cr (xs++[x]) o k=cr xs o k:=by
 rw[C8];simp only[l0,V6,beq_iff_eq];omega
theorem vF{xs:List Ln}(h1:x.o=o)(h2:x.k=k):cr (xs++[x]) o k=wrap64 (cr xs o k+x.a):=by
 rw[C8];simp[l0,h1,h2]
theorem rK{xs:List Ln}(h:dG xs=YJ)(i:Nat)(o k:Int):0<=cr (xs.take i) o k:=by
 obtain⟨h1,h2⟩:=pt h;have h3:(xs.take i).length<=200:=by grind
 have:=Fs o k (λx hx=>h1 x (List.mem_of_mem_take hx)) h3
 omega
theorem yF{xs:List Ln}(h:dG xs=YJ)(o:Int):∀i,i<=xs.length->cr (xs.take i) o 2<=cr (xs.take i) o 1/\cr (xs.take i) o 1<=100000/\(cr (xs.take i) o 1≠0->(1<=o/\o<=9999)/\∃x∈xs,x.o=o)
 |0,_=>by simp[cr]
 |i+1,hi=>by
  obtain⟨x,hx⟩:=zf (show i<xs.length by omega)
  have ih:=yF h o i X9;obtain⟨hl,hf⟩:=yi h hx;have ha:=vK hl;have p1:=rK h i o 1;rw[EX hx]
  by_cases ho:x.o=o
  ·have Oj:1<=o/\o<=9999:=by
    simp only[pr,V6]at hl
    have:=oe hl.1.1.1;omega
   have Dy:∃y∈xs,y.o=o:=⟨x,List.mem_of_getElem? hx,ho⟩
   rcases FP hl with hk|hk|hk
   ·rw[ZbI hk,ho]at hf
    have h0:cr (xs.take i) o 1=0:=by
     grind
    rw[vF ho hk,jt (k:=2) X9,h0,IntWalk.wrap64_in _ ⟨X9,X9⟩]
    grind
   ·rw[ZbJ hk,ho]at hf
    have h0:¬cr (xs.take i) o 1<wrap64 (cr (xs.take i) o 2+x.a):=by simp_all
    rw[vF ho hk,jt (k:=1) X9]
    simp_all
   ·rw[jt (k:=1) X9,jt (k:=2) X9]
    omega
  ·rw[jt (k:=1) X9,jt (k:=2) X9]
   omega
def kU(a:List bq)(b:List bq)(s0:Int):Option (Int⊕(Unit⊕Bool)):=
 cond (YL (s0<(a.length:Int)))
 ((aB a s0).bind λy1=>
 (aB b s0).bind λy2=>
 cond (!decide (y1=y2))
 (YH (.inr (.inr YK)))
 (YH (.inl (aI (s0+1)))))
 (YH (.inr (.inl ())))
instance (a:List bq)(b:List bq):bo (kU a b):=⟨λs0=>(.sl (a.map bt)::.sl (b.map bt)::(U 10 (vi (a.length:Int)::vi s0::(U 12 [])))),λs0=>[]⟩
def gO(a:List bq)(b:List bq):Option Bool:=
 cond (!decide ((a.length:Int)=(b.length:Int)))
 (YH YK)
 ((aD (kU a b) NN 0).bind (bk (λo0=>
 YH YJ) (λr=>YH r)))
instance (a:List bq)(b:List bq):CT prog (gO a b):=⟨84,[.sl (a.map bt),.sl (b.map bt)],[],λr=>vb r,λr=>[],λH=>by replace H:=H0 H;unfold gO at H;exact ja func84 rfl ntmps84 results84 λQ hQ Ia=>JU⟩
def B9(xs:List Int)(o:Int):Bool:=xs.any (λx=>x==o)
theorem Rb{xs:List Int}:B9 xs o=YJ↔o∈xs:=by
 simp only[B9,List.any_eq_true,beq_iff_eq];exact⟨λ⟨x,h1,h2⟩=>h2▸h1,λh=>⟨o,h,rfl⟩⟩
def sE(l:List Ln)(out:List Int)(x:Ln):List Int:=if YL (0<j3 l x.o)=YJ then(if B9 out x.o=YJ then out else out++[x.o])else out
def xt(l:List Ln)(i:Nat):List Int:=(l.take i).foldl (sE l) []
theorem K1(l:List Ln)(out:List Int)(x:Ln):(sE l out x).length<=out.length+1:=by
 unfold sE
 repeat' split
 all_goals simp
theorem F1(l:List Ln)(i:Nat):(xt l i).length<=i:=by
 have h:∀(b:List Ln) (out:List Int),(b.foldl (sE l) out).length<=out.length+b.length:=by
  intro b
  induction b with
  |nil=>intro out;simp
  |cons x b ih=>
   intro out;have h1:=ih (sE l out x);have h2:=K1 l out x;simp only[List.foldl_cons,List.length_cons];omega
 have h1:=h (l.take i) [];have h2:(l.take i).length<=i:=List.length_take_le _ _;simp only[List.length_nil]at h1
 unfold xt;omega
theorem Zct(hx:l[i]?=YH x)(h:YL (0<j3 l x.o)=YK):xt l (i+1)=xt l i:=by
 unfold xt;rw[ui hx];simp[sE,h]
theorem Vv(hx:l[i]?=YH x)(h2:B9 (xt l i) x.o=YJ):xt l (i+1)=xt l i:=by
 unfold xt at *
 rw[ui hx];simp[sE,h2]
theorem Vw(hx:l[i]?=YH x)(h:YL (0<j3 l x.o)=YJ)(h2:B9 (xt l i) x.o=YK):xt l (i+1)=xt l i++[x.o]:=by
 unfold xt at *
 rw[ui hx];simp only[sE,h,h2,if_true];simp
def PH(zs:List Int):List Int:=zs.mergeSort λx y=>YL (x<=y)
theorem A7(zs:List Int):(PH zs).length=zs.length:=by simp[PH]
theorem KW(l:List Ln)(o:Int)(u:List Int)(x:Ln):o∈sE l u x↔o∈u\/(0<j3 l o/\x.o=o):=by
 unfold sE
 by_cases h1:0<j3 l x.o
 ·rw[if_pos (X1 h1)]
  by_cases h2:B9 u x.o=YJ
  ·rw[if_pos h2]
   have:=Rb.1 h2
   grind
  ·rw[if_neg h2]
   grind
 ·rw[if_neg (by simpa using h1)]
  grind
theorem MN(l:List Ln)(o:Int):∀(b:List Ln) (u:List Int),o∈b.foldl (sE l) u↔o∈u\/(0<j3 l o/\∃x∈b,x.o=o)
 | [],u=>by simp
 |x::b,u=>by
  rw[List.foldl_cons,MN l o b,KW];simp only[List.mem_cons,exists_eq_or_imp]
  grind
theorem R9(l:List Ln)(o:Int):o∈PH (xt l l.length)↔0<j3 l o/\∃x∈l,x.o=o:=by
 rw[PH,(List.mergeSort_perm _ _).mem_iff];unfold xt;rw[MN,List.take_length];simp
def oP(l:List aU)(s0:Int×Int):Option ((Int×Int)⊕Int):=
 cond (YL (s0.2<(l.length:Int)))
 ((aB l s0.2).bind λy2=>
 cond (YL (y2.kind=2))
 (YH (.inl ((aI (s0.1+y2.bz)),(aI (s0.2+1)))))
 (cond (YL (y2.kind=3))
 (YH (.inl ((aI (s0.1-y2.bz)),(aI (s0.2+1)))))
 (YH (.inl (s0.1,(aI (s0.2+1)))))))
 (YH (.inr s0.1))
instance (l:List aU):bo (oP l):=⟨λs0=>(U 3 (vi s0.1::(U 5 (.sl (l.map bC)::vi (l.length:Int)::vi s0.2::(U 19 []))))),λs0=>[]⟩
def l8(l:List aU):Option Int:=
 (dI l).bind λy1=>
 cond (!y1)
 (YH 0)
 ((aD (oP l) NN (0,0)).bind (λo0=>
 YH o0))
instance (l:List aU):CT prog (l8 l):=⟨13,[.sl (l.map bC)],[],λr=>vi r,λr=>[],cw (l8.eq_1 ..) func13 ntmps13 results13⟩
end Go.Proofs.YtdilaemengjipaaGreatDoor
