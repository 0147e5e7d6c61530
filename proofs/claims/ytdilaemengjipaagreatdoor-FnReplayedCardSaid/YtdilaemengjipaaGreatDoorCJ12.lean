/- A part of the proof of the statement in the last file of this claim: texts on the language of the program and on its functions. No condition. -/
import Derived.Test.YtdilaemengjipaaGreatDoorCJ4
import Derived.Test.YtdilaemengjipaaGreatDoorCJ7
import Derived.Test.YtdilaemengjipaaGreatDoorCJ5
import Derived.Test.YtdilaemengjipaaGreatDoorCJ9
import Derived.Test.YtdilaemengjipaaGreatDoorCJ1
set_option linter.unusedVariables false
set_option linter.unusedSimpArgs false
set_option linter.unusedSectionVars false
open Option renaming some->YW,none->YX
open Bool renaming true->YY,false->YZ
open Decidable renaming decide->Y0
open Go.Proofs.Tryz
set_option maxHeartbeats 40000000
namespace Go.Proofs.YtdilaemengjipaaGreatDoor
set_option maxRecDepth 10000
open Go.RowKit
def ky(l:List bF)(aS:Int)(s0:Int):Option (Int⊕(Unit⊕Bool)):=
 cond (Y0 (s0<(l.length:Int)))
 ((jn 3 12 (
 (aB l s0).bind λy1=>
 cond (Y0 (y1.nG<0))
 (YW (.inr YZ))
 (cond (Y0 (aS<=y1.nG))
 (YW (.inr YZ))
 ((aX y1.aw 1 3).bind λy2=>
 cond (!y2)
 (YW (.inr YZ))
 ((aX y1.oi 1 1000000000).bind λy3=>
 cond (!y3)
 (YW (.inr YZ))
 ((aX y1.mr 0 100000).bind λy4=>
 cond (!y4)
 (YW (.inr YZ))
 (cond (Y0 (s0=0))
 (YW (.inl ()))
 ((aB l (aM (s0-1))).bind λy5=>
 (dZ y5.nG y1.nG).bind λy6=>
 (dZ y5.aw y1.aw).bind λy7=>
 (dZ y5.oi y1.oi).bind λy8=>
 (o9 ([y6,y7,y8])).bind λy9=>
 cond (Y0 (0<=y9))
 (YW (.inr YZ))
 (cond (Y0 (y5.nG=y1.nG))
 (cond (Y0 (y5.aw=y1.aw))
 (cond (Y0 (y1.mr<y5.mr))
 (YW (.inr YZ))
 (YW (.inl ())))
 (YW (.inl ())))
 (YW (.inl ()))))))))):Option (Unit⊕Bool)) (λz10=>(.sl (l.map cy)::vi aS::(U 6 (.sl (l.map cy)::vi (l.length:Int)::vi s0::(U 79 []))))) (λz10=>[])).bind (bh (λz10=>
 YW (.inl (aM (s0+1)))) (λr=>YW (.inr (.inr r)))))
 (YW (.inr (.inl ())))
instance (l:List bF)(aS:Int):bp (ky l aS):=⟨λs0=>(.sl (l.map cy)::vi aS::(U 6 (.sl (l.map cy)::vi (l.length:Int)::vi s0::(U 79 [])))),λs0=>[]⟩
def lu(l:List bF)(aS:Int):Option Bool:=
 (aE (ky l aS) NN 0).bind (bh (λo0=>
 YW (Y0 ((l.length:Int)<=24))) (λr=>YW r))
instance (l:List bF)(aS:Int):CT prog (lu l aS):=⟨40,[.sl (l.map cy),vi aS],[],λr=>vb r,λr=>[],cw (lu.eq_1 ..) func40 ntmps40 results40⟩
def om(aT:List bF)(p:aL)(y4:Int)(s0:Int):Option (Int⊕(Unit⊕(Int×Bool))):=
 cond (Y0 (s0<(aT.length:Int)))
 ((jn 6 9 (
 (aB aT s0).bind λy5=>
 cond (Y0 (y5.nG=y4))
 (cond (Y0 (y5.aw=p.label.aw))
 ((iA p).bind λy6=>
 cond (Y0 (y6<=y5.oi))
 (YW (.inr (y5.mr,YY)))
 (YW (.inl ())))
 (YW (.inl ())))
 (YW (.inl ())):Option (Unit⊕(Int×Bool))) (λz7=>(U 5 (.be 0 0 0::.un::.un::vi y4::(U 22 (.sl (aT.map cy)::vi (aT.length:Int)::vi s0::(U 25 [])))))) (λz7=>[YW ⟨.of 44,7,[[vi p.label.aw,vi p.label.bO,vs p.label.aY,vs p.ar,vi p.ab,.sl (p.bE.map aG),vi p.value]]⟩])).bind (bh (λz7=>
 YW (.inl (aM (s0+1)))) (λr=>YW (.inr (.inr r)))))
 (YW (.inr (.inl ())))
instance (aT:List bF)(p:aL)(y4:Int):bp (om aT p y4):=⟨λs0=>(U 5 (.be 0 0 0::.un::.un::vi y4::(U 22 (.sl (aT.map cy)::vi (aT.length:Int)::vi s0::(U 25 []))))),λs0=>[YW ⟨.of 44,7,[[vi p.label.aw,vi p.label.bO,vs p.label.aY,vs p.ar,vi p.ab,.sl (p.bE.map aG),vi p.value]]⟩]⟩
def mH(aS:List ct)(aT:List bF)(p:aL):Option (Int×Bool):=
 (jM aS).bind λy1=>
 cond (!y1)
 (YW (0,YZ))
 ((lu aT (aS.length:Int)).bind λy2=>
 cond (!y2)
 (YW (0,YZ))
 ((gE p).bind λy3=>
 cond (!y3)
 (YW (0,YZ))
 ((pE aS p.label.aY).bind λy4=>
 (aE (om aT p y4) NN 0).bind (bh (λo0=>
 YW (0,YZ)) (λr=>YW r)))))
instance (aS:List ct)(aT:List bF)(p:aL):CT prog (mH aS aT p):=⟨43,[.sl (aS.map cG),.sl (aT.map cy),.ag (bA p)],[],λr=>.tu [vi r.1,vb r.2],λr=>[],cw (mH.eq_1 ..) func43 ntmps43 results43⟩
def bM(l:List bc):Option (List bc):=
 (cr (bn ((([]:List bc):List bc).length+(l:List bc).length) 32)).bind λ_=>
 YW ((([]:List bc):List bc)++l)
instance (l:List bc):CT prog (bM l):=⟨69,[.sl (l.map bK)],[],λr=>.ms 0,λr=>[YW ⟨.of 85,4,r.map bK⟩],cw (bM.eq_1 ..) func69 ntmps69 results69⟩
def ml(x:bc):Option Bool:=
 (aX x.order 1 9999).bind λy1=>
 cond y1
 ((aX x.kind 1 3).bind λy2=>
 cond y2
 ((aX x.bC 1 100000).bind λy3=>
 cond y3
 ((aX x.aQ 0 100000).bind λy4=>
 YW y4)
 (YW YZ))
 (YW YZ))
 (YW YZ)
instance (x:bc):CT prog (ml x):=⟨94,[.ag (bK x)],[],λr=>vb r,λr=>[],cw (ml.eq_1 ..) func94 ntmps94 results94⟩
def pU(l:List bc)(order:Int)(kind:Int)(s0:Int×Int):Option ((Int×Int)⊕Int):=
 cond (Y0 (s0.2<(l.length:Int)))
 ((jn 5 4 (
 (aB l s0.2).bind λy1=>
 cond (Y0 (y1.order=order))
 ((aB l s0.2).bind λy2=>
 cond (Y0 (y2.kind=kind))
 ((aB l s0.2).bind λy3=>
 YW (.inl (aM (s0.1+y3.bC))))
 (YW (.inl s0.1)))
 (YW (.inl s0.1)):Option (Int⊕Empty)) (λz4=>(.sl (l.map bK)::vi order::vi kind::(U 4 (vi z4::vi s0.2::(U 30 []))))) (λz4=>[])).bind (bh (λz4=>
 YW (.inl (z4,(aM (s0.2+1))))) (λr=>r.elim)))
 (YW (.inr s0.1))
instance (l:List bc)(order:Int)(kind:Int):bp (pU l order kind):=⟨λs0=>(.sl (l.map bK)::vi order::vi kind::(U 4 (vi s0.1::vi s0.2::(U 30 [])))),λs0=>[]⟩
def eX(l:List bc)(order:Int)(kind:Int):Option Int:=
 (aE (pU l order kind) NN (0,0)).bind (λo0=>
 YW o0)
theorem Ei(l:List bc)(order:Int)(kind:Int){r:Int}(H:eX l order kind=YW r):fa prog 183 [.sl (l.map bK),vi order,vi kind] [] (vi r) []:=by
 replace H:=H0 H;unfold eX at H
 refine js func183 rfl ntmps183 results183 λQ hQ IP=>?_
 exact KJ
instance (l:List bc)(order:Int)(kind:Int):CT prog (eX l order kind):=⟨183,[.sl (l.map bK),vi order,vi kind],[],λr=>vi r,λr=>[],Ei l order kind⟩
def mQ(s:ByteArray)(s0:ByteArray×Int):Option ((ByteArray×Int)⊕(ByteArray⊕(ByteArray×Bool))):=
 cond (Y0 (s0.2<(s.size:Int)))
 ((jn 5 4 (
 (uC s s0.2).bind λy1=>
 (bb (IntKind.i64.wrap y1) 48 57).bind λy2=>
 cond y2
 ((cr (fJ s0.2 (aM (s0.2+1)) s.size)).bind λ_=>
 (cr (dC s0.1 (He s s0.2 (aM (s0.2+1))))).bind λ_=>
 YW (.inl (s0.1++(He s s0.2 (aM (s0.2+1))))))
 ((bb (IntKind.i64.wrap y1) 65 90).bind λy3=>
 cond y3
 ((bN (aM ((aM ((IntKind.i64.wrap y1)-65))+10))).bind λy4=>
 (cr (dC s0.1 y4)).bind λ_=>
 YW (.inl (s0.1++y4)))
 (YW (.inr (⟨#[]⟩,YZ)))):Option (ByteArray⊕(ByteArray×Bool))) (λz5=>(vs s::(U 3 (vs z5::vi s0.2::(U 31 []))))) (λz5=>[])).bind (bh (λz5=>
 YW (.inl (z5,(aM (s0.2+1))))) (λr=>YW (.inr (.inr r)))))
 (YW (.inr (.inl s0.1)))
instance (s:ByteArray):bp (mQ s):=⟨λs0=>(vs s::(U 3 (vs s0.1::vi s0.2::(U 31 [])))),λs0=>[]⟩
def pF(s:ByteArray):Option (ByteArray×Bool):=
 (aE (mQ s) NN (⟨#[]⟩,0)).bind (bh (λo0=>
 YW (o0,YY)) (λr=>YW r))
instance (s:ByteArray):CT prog (pF s):=⟨297,[vs s],[],λr=>.tu [vs r.1,vb r.2],λr=>[],cw (pF.eq_1 ..) func297 ntmps297 results297⟩
def pS(s:ByteArray)(s0:Int×Int):Option ((Int×Int)⊕(Int⊕Int)):=
 cond (Y0 (s0.2<(s.size:Int)))
 ((uC s s0.2).bind λy1=>
 cond (Y0 (y1<48))
 (YW (.inr (.inr (-1))))
 ((uC s s0.2).bind λy2=>
 cond (Y0 (57<y2))
 (YW (.inr (.inr (-1))))
 ((uC s s0.2).bind λy3=>
 YW (.inl ((Int.tmod (aM ((aM (10*s0.1))+(IntKind.i64.wrap (IntKind.u8.wrap (y3-48))))) 97),(aM (s0.2+1)))))))
 (YW (.inr (.inl s0.1)))
instance (s:ByteArray):bp (pS s):=⟨λs0=>(vs s::.un::.un::vi s0.1::vi s0.2::(U 28 [])),λs0=>[]⟩
def qH(s:ByteArray):Option Int:=
 (aE (pS s) NN (0,0)).bind (bh (λo0=>
 cond (Y0 (s=⟨#[]⟩))
 (YW (-1))
 (YW o0)) (λr=>YW r))
instance (s:ByteArray):CT prog (qH s):=⟨209,[vs s],[],λr=>vi r,λr=>[],cw (qH.eq_1 ..) func209 ntmps209 results209⟩
def oH(l:bl):Option Int:=
 (ju l).bind λy1=>
 cond (!y1)
 (YW (-1))
 ((n7 l).bind λy2=>
 (nZ y2).bind λy3=>
 (cr (dC y3.1 (⟨#[48,48]⟩))).bind λ_=>
 (qH (y3.1++⟨#[48,48]⟩)).bind λy4=>
 YW (aM (98-y4)))
instance (l:bl):CT prog (oH l):=⟨163,[.ag (mC l)],[],λr=>vi r,λr=>[],cw (oH.eq_1 ..) func163 ntmps163 results163⟩
def dE(l:bl):Option ByteArray:=
 (ju l).bind λy1=>
 cond (!y1)
 (YW (⟨#[]⟩))
 ((n7 l).bind λy2=>
 (oH l).bind λy3=>
 (mn y3 2).bind λy4=>
 (cr (dC y2 y4)).bind λ_=>
 YW (y2++y4))
instance (l:bl):CT prog (dE l):=⟨97,[.ag (mC l)],[],λr=>vs r,λr=>[],cw (dE.eq_1 ..) func97 ntmps97 results97⟩
def oc(l:bl):Option ByteArray:=
 (bN l.aw).bind λy1=>
 (lI l.bO 9).bind λy2=>
 (cr (dC y1 y2)).bind λ_=>
 (cr (dC (y1++y2) l.aY)).bind λ_=>
 YW ((y1++y2)++l.aY)
instance (l:bl):CT prog (oc l):=⟨235,[.ag (mC l)],[],λr=>vs r,λr=>[],cw (oc.eq_1 ..) func235 ntmps235 results235⟩
def gq(p:aL):Option ByteArray:=
 (gE p).bind λy1=>
 cond (!y1)
 (YW (⟨#[]⟩))
 ((aB p.bE 0).bind λy2=>
 (cz y2).bind λy3=>
 (cr (dC y3 (⟨#[120]⟩))).bind λ_=>
 (aB p.bE 1).bind λy4=>
 (cz y4).bind λy5=>
 (cr (dC (y3++⟨#[120]⟩) y5)).bind λ_=>
 (cr (dC ((y3++⟨#[120]⟩)++y5) (⟨#[120]⟩))).bind λ_=>
 (aB p.bE 2).bind λy6=>
 (cz y6).bind λy7=>
 (cr (dC (((y3++⟨#[120]⟩)++y5)++⟨#[120]⟩) y7)).bind λ_=>
 (dE p.label).bind λy8=>
 (cr (dC y8 (⟨#[32]⟩))).bind λ_=>
 (cr (dC (y8++⟨#[32]⟩) p.ar)).bind λ_=>
 (cr (dC ((y8++⟨#[32]⟩)++p.ar) (⟨#[32]⟩))).bind λ_=>
 (cz p.ab).bind λy9=>
 (cr (dC (((y8++⟨#[32]⟩)++p.ar)++⟨#[32]⟩) y9)).bind λ_=>
 (cr (dC ((((y8++⟨#[32]⟩)++p.ar)++⟨#[32]⟩)++y9) (⟨#[32]⟩))).bind λ_=>
 (cr (dC (((((y8++⟨#[32]⟩)++p.ar)++⟨#[32]⟩)++y9)++⟨#[32]⟩) ((((y3++⟨#[120]⟩)++y5)++⟨#[120]⟩)++y7))).bind λ_=>
 (cr (dC ((((((y8++⟨#[32]⟩)++p.ar)++⟨#[32]⟩)++y9)++⟨#[32]⟩)++((((y3++⟨#[120]⟩)++y5)++⟨#[120]⟩)++y7)) (⟨#[32]⟩))).bind λ_=>
 (cz p.value).bind λeh=>
 (cr (dC (((((((y8++⟨#[32]⟩)++p.ar)++⟨#[32]⟩)++y9)++⟨#[32]⟩)++((((y3++⟨#[120]⟩)++y5)++⟨#[120]⟩)++y7))++⟨#[32]⟩) eh)).bind λ_=>
 YW ((((((((y8++⟨#[32]⟩)++p.ar)++⟨#[32]⟩)++y9)++⟨#[32]⟩)++((((y3++⟨#[120]⟩)++y5)++⟨#[120]⟩)++y7))++⟨#[32]⟩)++eh))
instance (p:aL):CT prog (gq p):=⟨45,[.ag (bA p)],[],λr=>vs r,λr=>[],cw (gq.eq_1 ..) func45 ntmps45 results45⟩
end Go.Proofs.YtdilaemengjipaaGreatDoor
