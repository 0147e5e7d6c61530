/- A part of the proof of the statement in the last file of this claim: texts on the language of the program and on its functions. No condition. -/
import Derived.Test.YtdilaemengjipaaGreatDoorCJ4
import Derived.Test.YtdilaemengjipaaGreatDoorCJ7
import Derived.Test.YtdilaemengjipaaGreatDoorCJ1
set_option linter.unusedVariables false
set_option linter.unusedSimpArgs false
set_option linter.unusedSectionVars false
open Option renaming some->YW,none->YX
open Bool renaming true->YY,false->YZ
open Decidable renaming decide->Y0
open Go.Proofs.Tryz
set_option maxHeartbeats 40000000
namespace Go.Proofs.YtdilaemengjipaaGreatDoor
open _root_.Int renaming tdiv->Xc
set_option maxRecDepth 10000
open Go.RowKit
variable {k o:Int}{r:Bool}{x:Ln}
def pT(l:List bc)(order:Int)(kind:Int)(s0:Int×Int):Option ((Int×Int)⊕Int):=
 cond (Y0 (s0.2<(l.length:Int)))
 ((jn 4 7 (
 (aB l s0.2).bind λy1=>
 cond (Y0 (y1.order=order))
 (cond (Y0 (y1.kind=kind))
 (YW (.inl (aM (s0.1+y1.bC))))
 (YW (.inl s0.1)))
 (YW (.inl s0.1)):Option (Int⊕Empty)) (λz2=>(.un::vi order::vi kind::(U 4 (vi z2::.un::.un::.sl (l.map bK)::vi (l.length:Int)::vi s0.2::(U 19 []))))) (λz2=>[])).bind (bh (λz2=>
 YW (.inl (z2,(aM (s0.2+1))))) (λr=>r.elim)))
 (YW (.inr s0.1))
instance (l:List bc)(order:Int)(kind:Int):bp (pT l order kind):=⟨λs0=>(.un::vi order::vi kind::(U 4 (vi s0.1::.un::.un::.sl (l.map bK)::vi (l.length:Int)::vi s0.2::(U 19 [])))),λs0=>[]⟩
def eo(l:List bc)(order:Int)(kind:Int):Option Int:=
 (aE (pT l order kind) NN (0,0)).bind (λo0=>
 YW o0)
theorem Eh(l:List bc)(order:Int)(kind:Int){r:Int}(H:eo l order kind=YW r):fa prog 44 [.sl (l.map bK),vi order,vi kind] [] (vi r) []:=by
 replace H:=H0 H;unfold eo at H
 refine js func44 rfl ntmps44 results44 λQ hQ IP=>?_
 exact KJ
instance (l:List bc)(order:Int)(kind:Int):CT prog (eo l order kind):=⟨44,[.sl (l.map bK),vi order,vi kind],[],λr=>vi r,λr=>[],Eh l order kind⟩
def ld(l:List Int)(s0:Int):Option (Int⊕(Unit⊕Bool)):=
 cond (Y0 (s0<(l.length:Int)))
 ((jn 3 6 (
 (aB l s0).bind λy1=>
 (aX y1 0 100).bind λy2=>
 cond (!y2)
 (YW (.inr YZ))
 (cond (Y0 (0<s0))
 ((aB l (aM (s0-1))).bind λy3=>
 cond (Y0 (y1<y3))
 (YW (.inr YZ))
 (YW (.inl ())))
 (YW (.inl ()))):Option (Unit⊕Bool)) (λz4=>(.sl (l.map aG)::(U 4 (.sl (l.map aG)::vi (l.length:Int)::vi s0::(U 24 []))))) (λz4=>[])).bind (bh (λz4=>
 YW (.inl (aM (s0+1)))) (λr=>YW (.inr (.inr r)))))
 (YW (.inr (.inl ())))
instance (l:List Int):bp (ld l):=⟨λs0=>(.sl (l.map aG)::(U 4 (.sl (l.map aG)::vi (l.length:Int)::vi s0::(U 24 [])))),λs0=>[]⟩
def eP(l:List Int):Option Bool:=
 (aE (ld l) NN 0).bind (bh (λo0=>
 (aX (l.length:Int) 1 6).bind λy5=>
 YW y5) (λr=>YW r))
theorem wL(l:List Int)(H:eP l=YW r):fa prog 41 [.sl (l.map aG)] [] (vb r) []:=by
 replace H:=H0 H;unfold eP at H
 refine js func41 rfl ntmps41 results41 λQ hQ IP=>?_
 exact KJ
instance (l:List Int):CT prog (eP l):=⟨41,[.sl (l.map aG)],[],λr=>vb r,λr=>[],wL l⟩
def mI(oE:Int)(eJ:Int)(bQ:Int)(aI:List Int):Option Int:=
 (eP aI).bind λy1=>
 cond (!y1)
 (YW 0)
 ((aX oE 0 100000).bind λy2=>
 cond (!y2)
 (YW 0)
 ((aX eJ 0 200000).bind λy3=>
 cond (!y3)
 (YW 0)
 ((aX bQ 0 200000).bind λy4=>
 cond (!y4)
 (YW 0)
 (cond (Y0 (bQ<=eJ))
 (YW 0)
 ((aB aI (if(aM ((aI.length:Int)-1))<(IntKind.i64.wrap (Xc (aM ((aM (bQ-eJ))-1)) 1440))then(aM ((aI.length:Int)-1))else(IntKind.i64.wrap (Xc (aM ((aM (bQ-eJ))-1)) 1440)))).bind λy5=>
 YW (IntKind.i64.wrap (Xc (aM (oE*y5)) 100)))))))
instance (oE:Int)(eJ:Int)(bQ:Int)(aI:List Int):CT prog (mI oE eJ bQ aI):=⟨142,[vi oE,vi eJ,vi bQ,.sl (aI.map aG)],[],λr=>vi r,λr=>[],cw (mI.eq_1 ..) func142 ntmps142 results142⟩
def n9(x:bc):Option Bool:=
 (bb x.order 1 9999).bind λy1=>
 cond y1
 ((bb x.kind 1 3).bind λy2=>
 cond y2
 ((bb x.bC 1 100000).bind λy3=>
 cond y3
 ((bb x.aQ 0 100000).bind λy4=>
 YW y4)
 (YW YZ))
 (YW YZ))
 (YW YZ)
instance (x:bc):CT prog (n9 x):=⟨220,[.ag (bK x)],[],λr=>vb r,λr=>[],cw (n9.eq_1 ..) func220 ntmps220 results220⟩
def nA(l:List bc)(order:Int)(kind:Int)(s0:Int×Int):Option ((Int×Int)⊕Int):=
 cond (Y0 (s0.2<(l.length:Int)))
 ((jn 5 4 (
 (aB l s0.2).bind λy1=>
 cond (Y0 (y1.order=order))
 ((aB l s0.2).bind λy2=>
 cond (Y0 (y2.kind=kind))
 (YW (.inl (aM (s0.1+1))))
 (YW (.inl s0.1)))
 (YW (.inl s0.1)):Option (Int⊕Empty)) (λz3=>(.sl (l.map bK)::vi order::vi kind::(U 4 (vi z3::vi s0.2::(U 25 []))))) (λz3=>[])).bind (bh (λz3=>
 YW (.inl (z3,(aM (s0.2+1))))) (λr=>r.elim)))
 (YW (.inr s0.1))
instance (l:List bc)(order:Int)(kind:Int):bp (nA l order kind):=⟨λs0=>(.sl (l.map bK)::vi order::vi kind::(U 4 (vi s0.1::vi s0.2::(U 25 [])))),λs0=>[]⟩
def lH(l:List bc)(order:Int)(kind:Int):Option Int:=
 (aE (nA l order kind) NN (0,0)).bind (λo0=>
 YW o0)
instance (l:List bc)(order:Int)(kind:Int):CT prog (lH l order kind):=⟨221,[.sl (l.map bK),vi order,vi kind],[],λr=>vi r,λr=>[],cw (lH.eq_1 ..) func221 ntmps221 results221⟩
def lh(l:List Int)(s0:Int):Option (Int⊕(Unit⊕Bool)):=
 cond (Y0 (s0<(l.length:Int)))
 ((jn 4 3 (
 (aB l s0).bind λy1=>
 (bb y1 0 100).bind λy2=>
 cond (!y2)
 (YW (.inr YZ))
 (cond (Y0 (0<s0))
 ((aB l (aM (s0-1))).bind λy3=>
 (aB l s0).bind λy4=>
 cond (Y0 (y4<y3))
 (YW (.inr YZ))
 (YW (.inl ())))
 (YW (.inl ()))):Option (Unit⊕Bool)) (λz5=>(.sl (l.map aG)::.un::.un::vi s0::(U 31 []))) (λz5=>[])).bind (bh (λz5=>
 YW (.inl (aM (s0+1)))) (λr=>YW (.inr (.inr r)))))
 (YW (.inr (.inl ())))
instance (l:List Int):bp (lh l):=⟨λs0=>(.sl (l.map aG)::.un::.un::vi s0::(U 31 [])),λs0=>[]⟩
def eU(l:List Int):Option Bool:=
 (aE (lh l) NN 0).bind (bh (λo0=>
 (bb (l.length:Int) 1 6).bind λy6=>
 YW y6) (λr=>YW r))
theorem wM(l:List Int)(H:eU l=YW r):fa prog 172 [.sl (l.map aG)] [] (vb r) []:=by
 replace H:=H0 H;unfold eU at H
 refine js func172 rfl ntmps172 results172 λQ hQ IP=>?_
 exact KJ
instance (l:List Int):CT prog (eU l):=⟨172,[.sl (l.map aG)],[],λr=>vb r,λr=>[],wM l⟩
def kr(oE:Int)(eJ:Int)(bQ:Int)(aI:List Int):Option Int:=
 (eU aI).bind λy1=>
 cond (!y1)
 (YW 0)
 ((bb oE 0 100000).bind λy2=>
 cond (!y2)
 (YW 0)
 ((bb eJ 0 200000).bind λy3=>
 cond (!y3)
 (YW 0)
 ((bb bQ 0 200000).bind λy4=>
 cond (!y4)
 (YW 0)
 (cond (Y0 (bQ<=eJ))
 (YW 0)
 ((jn 4 6 (
 cond (Y0 ((aI.length:Int)<=(IntKind.i64.wrap (Xc (aM ((aM (bQ-eJ))-1)) 1440))))
 (YW (.inl (aM ((aI.length:Int)-1))))
 (YW (.inl (IntKind.i64.wrap (Xc (aM ((aM (bQ-eJ))-1)) 1440)))):Option (Int⊕Empty)) (λz5=>(vi oE::.un::.un::.sl (aI.map aG)::(U 5 (vi z5::(U 42 []))))) (λz5=>[])).bind (bh (λz5=>
 (aB aI z5).bind λy6=>
 YW (IntKind.i64.wrap (Xc (aM (oE*y6)) 100))) (λr=>r.elim)))))))
instance (oE:Int)(eJ:Int)(bQ:Int)(aI:List Int):CT prog (kr oE eJ bQ aI):=⟨245,[vi oE,vi eJ,vi bQ,.sl (aI.map aG)],[],λr=>vi r,λr=>[],cw (kr.eq_1 ..) func245 ntmps245 results245⟩
theorem DU(xs:List Ln)(x:Ln)(o k:Int):fF (xs++[x]) o k=pY o k (fF xs o k) x:=by simp[fF,List.foldl_append]
theorem Eg{xs:List Ln}(h:hZ xs=YY):(∀x∈xs,1<=x.a/\x.a<=100000)/\xs.length<=200:=by
 simp only[hZ,Bool.and_eq_true,decide_eq_true_eq]at h
 have:=yY h.2
 simp_all
theorem ZdQ{xs:List Ln}(h:hZ xs=YY)(o k:Int):0<=fF xs o k/\fF xs o k<=20000000:=by
 obtain⟨h1,h2⟩:=Eg h;have:=Na o k h1 h2;omega
theorem FA{xs:List Ln}(h:¬(x.o=o/\x.k=k)):fF (xs++[x]) o k=fF xs o k:=by
 rw[DU];simp only[pY,Bool.and_eq_true,beq_iff_eq];omega
theorem Uy{xs:List Ln}(h1:x.o=o)(h2:x.k=k):fF (xs++[x]) o k=wrap64 (fF xs o k+x.a):=by
 rw[DU];simp[pY,h1,h2]
end Go.Proofs.YtdilaemengjipaaGreatDoor
