/- A part of the proof of this claim's last theorem. No condition. -/
import Derived.Test.YtbjbellffaenaaaGreatDoorCT29
import Derived.Test.YtbjbellffaenaaaGreatDoorCT28
import Derived.Test.YtbjbellffaenaaaGreatDoorCT23
set_option linter.all false
set_option maxRecDepth 100000
open Go.Value renaming int->Zh
open Go.IntKind renaming i64->Zi
open Go renaming undef->Zj
open Option renaming some->D,none->Zd
open Bool renaming true->Ze,false->Zf
open Decidable renaming decide->Zg
open List renaming length->F
open Option renaming bind->L
open _root_ renaming Int->C,List->d,Nat->M,Option->J,cond->G
open Go.Proofs.YtbjbellffaenaaaGreatDoor renaming YA->K,aW->Z,aY->N,aw->Y,bk->V,vi->X
open Go.Proofs.Tryz
set_option maxHeartbeats 40000000
open List renaming mem_of_getElem?->VU,getElem?_eq_getElem->VS,getElem_mem->Wk,getElem_of_mem->V3,mem_or_eq_of_mem_set->Xy,length_set->Xd,mem_append->We
open Option renaming bind_some->R,getD_some->W9
open Option.some renaming inj->VV
open Nat renaming le_refl->VW
namespace Go.Proofs.YtbjbellffaenaaaGreatDoor
open Go.RowKit
variable {i:M}{o o' x:ay}{r:d au}
theorem NS(t:au):eJ [] t=D 0:=by
 rfl
section
variable {n:ab} (hf:cD n) (hn:aX n=D Ze) (hr:∀l∈n.aC,1<=l.jb)
include hf hn hr
end
def iN(o:aD)(y1:Y)(y2:(d bf))(s0:C×(d aP)):J ((C×(d aP))⊕(d aP)):=
 G (Zg (s0.1<(F o.aK:C)))
 (L (az o.aK s0.1) λy3=>
 L (gF y3) λy4=>
 L (cf (bn (F (s0.2:d aP)+F ([y4]:d aP)) 88)) λ_=>
 D (.inl ((aJ (s0.1+1)),((s0.2:d aP)++[y4]))))
 (D (.inr s0.2))
instance (o:aD)(y1:Y)(y2:(d bf)):bm (iN o y1 y2):=⟨λs0=>(.un::.be 0 0 0::.be 1 0 0::.be 2 0 0::(U 24 (.sl (o.aK.map cd)::X (F o.aK:C)::X s0.1::(U 27 [])))),λs0=>[D ⟨.of 40,16,[eD o]⟩,D ⟨.of 40,16,[uy]⟩,D ⟨.of 40,16,[[.ms 3,.ms 4,X y1.aa.change,.ms 5,.ms 6,.ms 7,X y1.now,.ms 8,.ms 9,X y1.br,.ms 10,.ms 11,.ms 12,.ms 13,.ms 14,.v (.slice Zd 0 0)]]⟩,D ⟨.of 101,6,y1.aa.aC.map cY⟩,D ⟨.of 3,1,y1.aa.off.map Z⟩,D ⟨⟨63,D 48⟩,11,y1.ae.map bx⟩,D ⟨.of 50,4,y1.av.map aG⟩,D ⟨.of 48,2,y1.ak.map bg⟩,D ⟨.of 89,6,y1.aL.map bA⟩,D ⟨.of 3,1,y1.skip.map Z⟩,D ⟨.of 124,2,((([]:d cB):d cB)++o.bb).map dV⟩,D ⟨.of 127,4,((([]:d bH):d bH)++o.bd).map dK⟩,D ⟨.of 3,1,((([]:d C):d C)++o.aU).map Z⟩,D ⟨⟨58,D 3⟩,7,s0.2.map cd⟩,D ⟨.of 82,4,y2.map bV⟩]⟩
def iO(o:aD)(y1:Y)(y2:(d bf))(o0:(d aP))(s1:C×(d V)):J ((C×(d V))⊕(d V)):=
 G (Zg (s1.1<(F o.aF:C)))
 (L (az o.aF s1.1) λy5=>
 L (fw y5) λy6=>
 L (cf (bn (F (s1.2:d V)+F ([y6]:d V)) 136)) λ_=>
 D (.inl ((aJ (s1.1+1)),((s1.2:d V)++[y6]))))
 (D (.inr s1.2))
instance (o:aD)(y1:Y)(y2:(d bf))(o0:(d aP)):bm (iO o y1 y2 o0):=⟨λs1=>(.un::.un::.be 0 0 0::.be 1 0 0::(U 39 (.sl (o.aF.map fQ)::X (F o.aF:C)::X s1.1::(U 12 [])))),λs1=>[D ⟨.of 40,16,[uy]⟩,D ⟨.of 40,16,[[.ms 2,.ms 3,X y1.aa.change,.ms 4,.ms 5,.ms 6,X y1.now,.ms 7,.ms 8,X y1.br,.ms 9,.ms 10,.ms 11,.ms 12,.ms 13,.ms 14]]⟩,D ⟨.of 101,6,y1.aa.aC.map cY⟩,D ⟨.of 3,1,y1.aa.off.map Z⟩,D ⟨⟨63,D 48⟩,11,y1.ae.map bx⟩,D ⟨.of 50,4,y1.av.map aG⟩,D ⟨.of 48,2,y1.ak.map bg⟩,D ⟨.of 89,6,y1.aL.map bA⟩,D ⟨.of 3,1,y1.skip.map Z⟩,D ⟨.of 124,2,((([]:d cB):d cB)++o.bb).map dV⟩,D ⟨.of 127,4,((([]:d bH):d bH)++o.bd).map dK⟩,D ⟨.of 3,1,((([]:d C):d C)++o.aU).map Z⟩,D ⟨⟨58,D 3⟩,7,o0.map cd⟩,D ⟨.of 82,4,y2.map bV⟩,D ⟨⟨60,D 3⟩,13,s1.2.map fQ⟩]⟩
def dP(o:aD):J aD:=
 L (rF 8 []) λ_=>
 L (eG o.world) λy1=>
 L (cf (bn (F (([]:d cB):d cB)+F (o.bb:d cB)) 32)) λ_=>
 L (cf (bn (F (([]:d bH):d bH)+F (o.bd:d bH)) 32)) λ_=>
 L (cf (bn (F (([]:d C):d C)+F (o.aU:d C)) 8)) λ_=>
 L (bO o.lines) λy2=>
 (aB (iN o y1 y2) NN (0,[])).bind (λo0=>
 (aB (iO o y1 y2 o0) NN (0,[])).bind (λo1=>
 D (⟨y1,((([]:d cB):d cB)++o.bb),((([]:d bH):d bH)++o.bd),((([]:d C):d C)++o.aU),o0,y2,o1⟩:aD)))
instance (o:aD):CT prog (dP o):=⟨27,[.ag (eD o)],[],λr=>.ag [.ms 0,.ms 1,X r.world.aa.change,.ms 2,.ms 3,.ms 4,X r.world.now,.ms 5,.ms 6,X r.world.br,.ms 7,.ms 8,.ms 9,.ms 10,.ms 11,.ms 12],λr=>[D ⟨.of 101,6,r.world.aa.aC.map cY⟩,D ⟨.of 3,1,r.world.aa.off.map Z⟩,D ⟨⟨63,D 48⟩,11,r.world.ae.map bx⟩,D ⟨.of 50,4,r.world.av.map aG⟩,D ⟨.of 48,2,r.world.ak.map bg⟩,D ⟨.of 89,6,r.world.aL.map bA⟩,D ⟨.of 3,1,r.world.skip.map Z⟩,D ⟨.of 124,2,r.bb.map dV⟩,D ⟨.of 127,4,r.bd.map dK⟩,D ⟨.of 3,1,r.aU.map Z⟩,D ⟨⟨58,D 3⟩,7,r.aK.map cd⟩,D ⟨.of 82,4,r.lines.map bV⟩,D ⟨⟨60,D 3⟩,13,r.aF.map fQ⟩],ck (dP.eq_1 ..) func27 ntmps27 results27⟩
def fh(o:aD)(a:V):J (aD×C):=
 L (dP o) λy1=>
 L (kJ o) λy2=>
 G (!y2)
 (D (y1,1))
 (L (bS a) λy3=>
 G (!y3)
 (D (y1,1))
 (G (Zg (150<=(F o.aF:C)))
 (D (y1,5))
 (G (Zg (a.kind=1))
 (L (bw [16,3,4,5,6,7,8,9,10,11,12,13,14,15]) λ_=>
 L (pU y1 a.aM) λy4=>
 G (!decide (y4.1=0))
 (L (dP o) λy5=>
 D (y5,y4.1))
 (L (fw a) λy6=>
 L (cf (bn (F (y4.2.aF:d V)+F ([y6]:d V)) 136)) λ_=>
 D ((⟨y4.2.world,y4.2.bb,y4.2.bd,y4.2.aU,y4.2.aK,y4.2.lines,((y4.2.aF:d V)++[y6])⟩:aD),0)))
 (G (Zg (a.kind=2))
 (G (Zg (a.kind=2))
 (L (bw [16,3,4,5,6,7,8,9,10,11,12,13,14,15]) λ_=>
 L (lD y1 a) λy7=>
 G (!decide (y7.1=0))
 (L (dP o) λy8=>
 D (y8,y7.1))
 (L (fw a) λy9=>
 L (cf (bn (F (y7.2.aF:d V)+F ([y9]:d V)) 136)) λ_=>
 D ((⟨y7.2.world,y7.2.bb,y7.2.bd,y7.2.aU,y7.2.aK,y7.2.lines,((y7.2.aF:d V)++[y9])⟩:aD),0)))
 (L (bw [16,3,4,5,6,7,8,9,10,11,12,13,14,15]) λ_=>
 L (kL y1 a) λdO=>
 G (!decide (dO.1=0))
 (L (dP o) λlJ=>
 D (lJ,dO.1))
 (L (fw a) λlA=>
 L (cf (bn (F (dO.2.aF:d V)+F ([lA]:d V)) 136)) λ_=>
 D ((⟨dO.2.world,dO.2.bb,dO.2.bd,dO.2.aU,dO.2.aK,dO.2.lines,((dO.2.aF:d V)++[lA])⟩:aD),0))))
 (G (Zg (a.kind=6))
 (L (bw [16,3,4,5,6,7,8,9,10,11,12,13,14,15]) λ_=>
 L (lD y1 a) λqi=>
 G (!decide (qi.1=0))
 (L (dP o) λoY=>
 D (oY,qi.1))
 (L (fw a) λrT=>
 L (cf (bn (F (qi.2.aF:d V)+F ([rT]:d V)) 136)) λ_=>
 D ((⟨qi.2.world,qi.2.bb,qi.2.bd,qi.2.aU,qi.2.aK,qi.2.lines,((qi.2.aF:d V)++[rT])⟩:aD),0)))
 (L (bw [16,3,4,5,6,7,8,9,10,11,12,13,14,15]) λ_=>
 L (kL y1 a) λpI=>
 G (!decide (pI.1=0))
 (L (dP o) λtE=>
 D (tE,pI.1))
 (L (fw a) λxT=>
 L (cf (bn (F (pI.2.aF:d V)+F ([xT]:d V)) 136)) λ_=>
 D ((⟨pI.2.world,pI.2.bb,pI.2.bd,pI.2.aU,pI.2.aK,pI.2.lines,((pI.2.aF:d V)++[xT])⟩:aD),0))))))))
instance (o:aD)(a:V):CT prog (fh o a):=⟨14,[.ag (eD o),.ag (fQ a)],[],λr=>.tu [.ag [.ms 0,.ms 1,X r.1.world.aa.change,.ms 2,.ms 3,.ms 4,X r.1.world.now,.ms 5,.ms 6,X r.1.world.br,.ms 7,.ms 8,.ms 9,.ms 10,.ms 11,.ms 12],X r.2],λr=>[D ⟨.of 101,6,r.1.world.aa.aC.map cY⟩,D ⟨.of 3,1,r.1.world.aa.off.map Z⟩,D ⟨⟨63,D 48⟩,11,r.1.world.ae.map bx⟩,D ⟨.of 50,4,r.1.world.av.map aG⟩,D ⟨.of 48,2,r.1.world.ak.map bg⟩,D ⟨.of 89,6,r.1.world.aL.map bA⟩,D ⟨.of 3,1,r.1.world.skip.map Z⟩,D ⟨.of 124,2,r.1.bb.map dV⟩,D ⟨.of 127,4,r.1.bd.map dK⟩,D ⟨.of 3,1,r.1.aU.map Z⟩,D ⟨⟨58,D 3⟩,7,r.1.aK.map cd⟩,D ⟨.of 82,4,r.1.lines.map bV⟩,D ⟨⟨60,D 3⟩,13,r.1.aF.map fQ⟩],ck (fh.eq_1 ..) func14 ntmps14 results14⟩
def kr(o:aD)(a:V):J (aD×C):=
 L (gS o) λy1=>
 L (mX o) λy2=>
 G (!y2)
 (D (y1,1))
 (L (fM a) λy3=>
 G (!y3)
 (D (y1,1))
 (G (Zg (150<=(F o.aF:C)))
 (D (y1,5))
 (L (bw [9,3,4,5,6,7,8]) λ_=>
 L (mU y1 a) λy4=>
 G (!decide (y4.1=0))
 (L (gS o) λy5=>
 D (y5,y4.1))
 (L (iT a.aM) λy6=>
 L (cf (bn (F (y4.2.aF:d V)+F ([(⟨a.kind,y6,a.order,a.bE,a.bG,a.aN⟩:V)]:d V)) 136)) λ_=>
 D ((⟨y4.2.world,y4.2.bb,y4.2.bd,y4.2.aU,y4.2.aK,y4.2.lines,((y4.2.aF:d V)++[(⟨a.kind,y6,a.order,a.bE,a.bG,a.aN⟩:V)])⟩:aD),y4.1)))))
instance (o:aD)(a:V):CT prog (kr o a):=⟨23,[.ag (eD o),.ag (fQ a)],[],λr=>.tu [.ag [.sl (r.1.world.aa.aC.map cY),.sl (r.1.world.aa.off.map Z),X r.1.world.aa.change,.sl (r.1.world.ae.map bx),.sl (r.1.world.av.map aG),.sl (r.1.world.ak.map bg),X r.1.world.now,.sl (r.1.world.aL.map bA),.sl (r.1.world.skip.map Z),X r.1.world.br,.sl (r.1.bb.map dV),.sl (r.1.bd.map dK),.sl (r.1.aU.map Z),.ms 0,.sl (r.1.lines.map bV),.ms 1],X r.2],λr=>[D ⟨.of 58,7,r.1.aK.map cd⟩,D ⟨.of 60,13,r.1.aF.map fQ⟩],cw (kr.eq_1 ..) func23 ntmps23 results23⟩
def eF(l:d V)(s0:C×C×C×C×C×(d bP)×(d C)×(d ay)×(d aq)×(d au)×(d aI)×(d C)×(d cB)×(d bH)×(d C)×(d aP)×(d bf)×(d V)):J ((C×C×C×C×C×(d bP)×(d C)×(d ay)×(d aq)×(d au)×(d aI)×(d C)×(d cB)×(d bH)×(d C)×(d aP)×(d bf)×(d V))⊕(C×C×C×C×(d bP)×(d C)×(d ay)×(d aq)×(d au)×(d aI)×(d C)×(d cB)×(d bH)×(d C)×(d aP)×(d bf)×(d V))):=
 G (Zg (s0.2.1<(F (da l 0 (if 150<(F l:C)then 150 else(F l:C))):C)))
 (L (az (da l 0 (if 150<(F l:C)then 150 else(F l:C))) s0.2.1) λy2=>
 L (fh (⟨(⟨(⟨s0.2.2.2.2.2.1,s0.2.2.2.2.2.2.1,s0.2.2.1⟩:ab),s0.2.2.2.2.2.2.2.1,s0.2.2.2.2.2.2.2.2.1,s0.2.2.2.2.2.2.2.2.2.1,s0.2.2.2.1,s0.2.2.2.2.2.2.2.2.2.2.1,s0.2.2.2.2.2.2.2.2.2.2.2.1,s0.2.2.2.2.1⟩:Y),s0.2.2.2.2.2.2.2.2.2.2.2.2.1,s0.2.2.2.2.2.2.2.2.2.2.2.2.2.1,s0.2.2.2.2.2.2.2.2.2.2.2.2.2.2.1,s0.2.2.2.2.2.2.2.2.2.2.2.2.2.2.2.1,s0.2.2.2.2.2.2.2.2.2.2.2.2.2.2.2.2.1,s0.2.2.2.2.2.2.2.2.2.2.2.2.2.2.2.2.2⟩:aD) y2) λy3=>
 G (!decide (y3.2=0))
 (D (.inr (s0.1,s0.2.2.1,s0.2.2.2.1,s0.2.2.2.2.1,s0.2.2.2.2.2.1,s0.2.2.2.2.2.2.1,s0.2.2.2.2.2.2.2.1,s0.2.2.2.2.2.2.2.2.1,s0.2.2.2.2.2.2.2.2.2.1,s0.2.2.2.2.2.2.2.2.2.2.1,s0.2.2.2.2.2.2.2.2.2.2.2.1,s0.2.2.2.2.2.2.2.2.2.2.2.2.1,s0.2.2.2.2.2.2.2.2.2.2.2.2.2.1,s0.2.2.2.2.2.2.2.2.2.2.2.2.2.2.1,s0.2.2.2.2.2.2.2.2.2.2.2.2.2.2.2.1,s0.2.2.2.2.2.2.2.2.2.2.2.2.2.2.2.2.1,s0.2.2.2.2.2.2.2.2.2.2.2.2.2.2.2.2.2)))
 (D (.inl ((aJ (s0.1+1)),(aJ (s0.2.1+1)),y3.1.world.aa.change,y3.1.world.now,y3.1.world.br,y3.1.world.aa.aC,y3.1.world.aa.off,y3.1.world.ae,y3.1.world.av,y3.1.world.ak,y3.1.world.aL,y3.1.world.skip,y3.1.bb,y3.1.bd,y3.1.aU,y3.1.aK,y3.1.lines,y3.1.aF))))
 (D (.inr (s0.1,s0.2.2.1,s0.2.2.2.1,s0.2.2.2.2.1,s0.2.2.2.2.2.1,s0.2.2.2.2.2.2.1,s0.2.2.2.2.2.2.2.1,s0.2.2.2.2.2.2.2.2.1,s0.2.2.2.2.2.2.2.2.2.1,s0.2.2.2.2.2.2.2.2.2.2.1,s0.2.2.2.2.2.2.2.2.2.2.2.1,s0.2.2.2.2.2.2.2.2.2.2.2.2.1,s0.2.2.2.2.2.2.2.2.2.2.2.2.2.1,s0.2.2.2.2.2.2.2.2.2.2.2.2.2.2.1,s0.2.2.2.2.2.2.2.2.2.2.2.2.2.2.2.1,s0.2.2.2.2.2.2.2.2.2.2.2.2.2.2.2.2.1,s0.2.2.2.2.2.2.2.2.2.2.2.2.2.2.2.2.2)))
instance (l:d V):bm (eF l):=⟨λs0=>(U 4 (.be 0 0 0::.un::.be 1 0 0::X s0.1::(U 10 (.sl ((da l 0 (if 150<(F l:C)then 150 else(F l:C))).map fQ)::X (F (da l 0 (if 150<(F l:C)then 150 else(F l:C))):C)::X s0.2.1::(U 17 []))))),λs0=>[D ⟨.of 40,16,[uy]⟩,D ⟨.of 40,16,[[.ms 2,.ms 3,X s0.2.2.1,.ms 4,.ms 5,.ms 6,X s0.2.2.2.1,.ms 7,.ms 8,X s0.2.2.2.2.1,.ms 9,.ms 10,.ms 11,.ms 12,.ms 13,.ms 14]]⟩,D ⟨.of 101,6,s0.2.2.2.2.2.1.map cY⟩,D ⟨.of 3,1,s0.2.2.2.2.2.2.1.map Z⟩,D ⟨⟨63,D 48⟩,11,s0.2.2.2.2.2.2.2.1.map bx⟩,D ⟨.of 50,4,s0.2.2.2.2.2.2.2.2.1.map aG⟩,D ⟨.of 48,2,s0.2.2.2.2.2.2.2.2.2.1.map bg⟩,D ⟨.of 89,6,s0.2.2.2.2.2.2.2.2.2.2.1.map bA⟩,D ⟨.of 3,1,s0.2.2.2.2.2.2.2.2.2.2.2.1.map Z⟩,D ⟨.of 124,2,s0.2.2.2.2.2.2.2.2.2.2.2.2.1.map dV⟩,D ⟨.of 127,4,s0.2.2.2.2.2.2.2.2.2.2.2.2.2.1.map dK⟩,D ⟨.of 3,1,s0.2.2.2.2.2.2.2.2.2.2.2.2.2.2.1.map Z⟩,D ⟨⟨58,D 3⟩,7,s0.2.2.2.2.2.2.2.2.2.2.2.2.2.2.2.1.map cd⟩,D ⟨.of 82,4,s0.2.2.2.2.2.2.2.2.2.2.2.2.2.2.2.2.1.map bV⟩,D ⟨⟨60,D 3⟩,13,s0.2.2.2.2.2.2.2.2.2.2.2.2.2.2.2.2.2.map fQ⟩]⟩
def iM(o:aD)(l:d V):J (aD×C):=
 L (dP o) λy1=>
 L (cf (iq 0 (if 150<(F l:C)then 150 else(F l:C)) (F l))) λ_=>
 (aB (eF l) NN (0,0,y1.world.aa.change,y1.world.now,y1.world.br,y1.world.aa.aC,y1.world.aa.off,y1.world.ae,y1.world.av,y1.world.ak,y1.world.aL,y1.world.skip,y1.bb,y1.bd,y1.aU,y1.aK,y1.lines,y1.aF)).bind (λo0=>
 D ((⟨(⟨(⟨o0.2.2.2.2.1,o0.2.2.2.2.2.1,o0.2.1⟩:ab),o0.2.2.2.2.2.2.1,o0.2.2.2.2.2.2.2.1,o0.2.2.2.2.2.2.2.2.1,o0.2.2.1,o0.2.2.2.2.2.2.2.2.2.1,o0.2.2.2.2.2.2.2.2.2.2.1,o0.2.2.2.1⟩:Y),o0.2.2.2.2.2.2.2.2.2.2.2.1,o0.2.2.2.2.2.2.2.2.2.2.2.2.1,o0.2.2.2.2.2.2.2.2.2.2.2.2.2.1,o0.2.2.2.2.2.2.2.2.2.2.2.2.2.2.1,o0.2.2.2.2.2.2.2.2.2.2.2.2.2.2.2.1,o0.2.2.2.2.2.2.2.2.2.2.2.2.2.2.2.2⟩:aD),o0.1))
instance (o:aD)(l:d V):CT prog (iM o l):=⟨6,[.ag (eD o),.sl (l.map fQ)],[],λr=>.tu [.ag [.ms 0,.ms 1,X r.1.world.aa.change,.ms 2,.ms 3,.ms 4,X r.1.world.now,.ms 5,.ms 6,X r.1.world.br,.ms 7,.ms 8,.ms 9,.ms 10,.ms 11,.ms 12],X r.2],λr=>[D ⟨.of 101,6,r.1.world.aa.aC.map cY⟩,D ⟨.of 3,1,r.1.world.aa.off.map Z⟩,D ⟨⟨63,D 48⟩,11,r.1.world.ae.map bx⟩,D ⟨.of 50,4,r.1.world.av.map aG⟩,D ⟨.of 48,2,r.1.world.ak.map bg⟩,D ⟨.of 89,6,r.1.world.aL.map bA⟩,D ⟨.of 3,1,r.1.world.skip.map Z⟩,D ⟨.of 124,2,r.1.bb.map dV⟩,D ⟨.of 127,4,r.1.bd.map dK⟩,D ⟨.of 3,1,r.1.aU.map Z⟩,D ⟨⟨58,D 3⟩,7,r.1.aK.map cd⟩,D ⟨.of 82,4,r.1.lines.map bV⟩,D ⟨⟨60,D 3⟩,13,r.1.aF.map fQ⟩],ck (iM.eq_1 ..) func6 ntmps6 results6⟩
def j4(l:d V)(s0:C×(d bP)×(d C)×C×(d ay)×(d aq)×(d au)×C×(d aI)×(d C)×C×(d cB)×(d bH)×(d C)×(d bf)×(d aP)×(d V)):J ((C×(d bP)×(d C)×C×(d ay)×(d aq)×(d au)×C×(d aI)×(d C)×C×(d cB)×(d bH)×(d C)×(d bf)×(d aP)×(d V))⊕(((d bP)×(d C)×C×(d ay)×(d aq)×(d au)×C×(d aI)×(d C)×C×(d cB)×(d bH)×(d C)×(d bf)×(d aP)×(d V))⊕(aD×C))):=
 G (Zg (s0.1<(F l:C)))
 (G (Zg (s0.1<150))
 (L (Ev (.un::.sl (l.map fQ)::.un::.un::.be 0 0 0::.un::.be 1 0 0::X s0.1::(U 35 [])) [D ⟨.of 40,16,[uy]⟩,D ⟨.of 40,16,[[.sl (s0.2.1.map cY),.sl (s0.2.2.1.map Z),X s0.2.2.2.1,.sl (s0.2.2.2.2.1.map bx),.sl (s0.2.2.2.2.2.1.map aG),.sl (s0.2.2.2.2.2.2.1.map bg),X s0.2.2.2.2.2.2.2.1,.sl (s0.2.2.2.2.2.2.2.2.1.map bA),.sl (s0.2.2.2.2.2.2.2.2.2.1.map Z),X s0.2.2.2.2.2.2.2.2.2.2.1,.sl (s0.2.2.2.2.2.2.2.2.2.2.2.1.map dV),.sl (s0.2.2.2.2.2.2.2.2.2.2.2.2.1.map dK),.sl (s0.2.2.2.2.2.2.2.2.2.2.2.2.2.1.map Z),.sl (s0.2.2.2.2.2.2.2.2.2.2.2.2.2.2.2.1.map cd),.sl (s0.2.2.2.2.2.2.2.2.2.2.2.2.2.2.1.map bV),.sl (s0.2.2.2.2.2.2.2.2.2.2.2.2.2.2.2.2.map fQ)]]⟩]) λ_=>
 L (az l s0.1) λy2=>
 L (kr (⟨(⟨(⟨s0.2.1,s0.2.2.1,s0.2.2.2.1⟩:ab),s0.2.2.2.2.1,s0.2.2.2.2.2.1,s0.2.2.2.2.2.2.1,s0.2.2.2.2.2.2.2.1,s0.2.2.2.2.2.2.2.2.1,s0.2.2.2.2.2.2.2.2.2.1,s0.2.2.2.2.2.2.2.2.2.2.1⟩:Y),s0.2.2.2.2.2.2.2.2.2.2.2.1,s0.2.2.2.2.2.2.2.2.2.2.2.2.1,s0.2.2.2.2.2.2.2.2.2.2.2.2.2.1,s0.2.2.2.2.2.2.2.2.2.2.2.2.2.2.2.1,s0.2.2.2.2.2.2.2.2.2.2.2.2.2.2.1,s0.2.2.2.2.2.2.2.2.2.2.2.2.2.2.2.2⟩:aD) y2) λy3=>
 G (!decide (y3.2=0))
 (D (.inr (.inr ((⟨(⟨(⟨s0.2.1,s0.2.2.1,s0.2.2.2.1⟩:ab),s0.2.2.2.2.1,s0.2.2.2.2.2.1,s0.2.2.2.2.2.2.1,s0.2.2.2.2.2.2.2.1,s0.2.2.2.2.2.2.2.2.1,s0.2.2.2.2.2.2.2.2.2.1,s0.2.2.2.2.2.2.2.2.2.2.1⟩:Y),s0.2.2.2.2.2.2.2.2.2.2.2.1,s0.2.2.2.2.2.2.2.2.2.2.2.2.1,s0.2.2.2.2.2.2.2.2.2.2.2.2.2.1,s0.2.2.2.2.2.2.2.2.2.2.2.2.2.2.2.1,s0.2.2.2.2.2.2.2.2.2.2.2.2.2.2.1,s0.2.2.2.2.2.2.2.2.2.2.2.2.2.2.2.2⟩:aD),s0.1))))
 (D (.inl ((aJ (s0.1+1)),y3.1.world.aa.aC,y3.1.world.aa.off,y3.1.world.aa.change,y3.1.world.ae,y3.1.world.av,y3.1.world.ak,y3.1.world.now,y3.1.world.aL,y3.1.world.skip,y3.1.world.br,y3.1.bb,y3.1.bd,y3.1.aU,y3.1.lines,y3.1.aK,y3.1.aF))))
 (D (.inr (.inl (s0.2.1,s0.2.2.1,s0.2.2.2.1,s0.2.2.2.2.1,s0.2.2.2.2.2.1,s0.2.2.2.2.2.2.1,s0.2.2.2.2.2.2.2.1,s0.2.2.2.2.2.2.2.2.1,s0.2.2.2.2.2.2.2.2.2.1,s0.2.2.2.2.2.2.2.2.2.2.1,s0.2.2.2.2.2.2.2.2.2.2.2.1,s0.2.2.2.2.2.2.2.2.2.2.2.2.1,s0.2.2.2.2.2.2.2.2.2.2.2.2.2.1,s0.2.2.2.2.2.2.2.2.2.2.2.2.2.2.1,s0.2.2.2.2.2.2.2.2.2.2.2.2.2.2.2.1,s0.2.2.2.2.2.2.2.2.2.2.2.2.2.2.2.2)))))
 (D (.inr (.inl (s0.2.1,s0.2.2.1,s0.2.2.2.1,s0.2.2.2.2.1,s0.2.2.2.2.2.1,s0.2.2.2.2.2.2.1,s0.2.2.2.2.2.2.2.1,s0.2.2.2.2.2.2.2.2.1,s0.2.2.2.2.2.2.2.2.2.1,s0.2.2.2.2.2.2.2.2.2.2.1,s0.2.2.2.2.2.2.2.2.2.2.2.1,s0.2.2.2.2.2.2.2.2.2.2.2.2.1,s0.2.2.2.2.2.2.2.2.2.2.2.2.2.1,s0.2.2.2.2.2.2.2.2.2.2.2.2.2.2.1,s0.2.2.2.2.2.2.2.2.2.2.2.2.2.2.2.1,s0.2.2.2.2.2.2.2.2.2.2.2.2.2.2.2.2))))
instance (l:d V):bm (j4 l):=⟨λs0=>(.un::.sl (l.map fQ)::.un::.un::.be 0 0 0::.un::.be 1 0 0::X s0.1::(U 35 [])),λs0=>[D ⟨.of 40,16,[uy]⟩,D ⟨.of 40,16,[[.sl (s0.2.1.map cY),.sl (s0.2.2.1.map Z),X s0.2.2.2.1,.sl (s0.2.2.2.2.1.map bx),.sl (s0.2.2.2.2.2.1.map aG),.sl (s0.2.2.2.2.2.2.1.map bg),X s0.2.2.2.2.2.2.2.1,.sl (s0.2.2.2.2.2.2.2.2.1.map bA),.sl (s0.2.2.2.2.2.2.2.2.2.1.map Z),X s0.2.2.2.2.2.2.2.2.2.2.1,.sl (s0.2.2.2.2.2.2.2.2.2.2.2.1.map dV),.sl (s0.2.2.2.2.2.2.2.2.2.2.2.2.1.map dK),.sl (s0.2.2.2.2.2.2.2.2.2.2.2.2.2.1.map Z),.ms 2,.sl (s0.2.2.2.2.2.2.2.2.2.2.2.2.2.2.1.map bV),.ms 3]]⟩,D ⟨.of 58,7,s0.2.2.2.2.2.2.2.2.2.2.2.2.2.2.2.1.map cd⟩,D ⟨.of 60,13,s0.2.2.2.2.2.2.2.2.2.2.2.2.2.2.2.2.map fQ⟩]⟩
def ug(o:aD)(l:d V):J (aD×C):=
 L (gS o) λy1=>
 (aB (j4 l) NN (0,y1.world.aa.aC,y1.world.aa.off,y1.world.aa.change,y1.world.ae,y1.world.av,y1.world.ak,y1.world.now,y1.world.aL,y1.world.skip,y1.world.br,(y1.bb:d cB),(y1.bd:d bH),(y1.aU:d C),(y1.lines:d bf),y1.aK,y1.aF)).bind (bj (λo0=>
 G (Zg (150<(F l:C)))
 (D ((⟨(⟨(⟨o0.1,o0.2.1,o0.2.2.1⟩:ab),o0.2.2.2.1,o0.2.2.2.2.1,o0.2.2.2.2.2.1,o0.2.2.2.2.2.2.1,o0.2.2.2.2.2.2.2.1,o0.2.2.2.2.2.2.2.2.1,o0.2.2.2.2.2.2.2.2.2.1⟩:Y),o0.2.2.2.2.2.2.2.2.2.2.1,o0.2.2.2.2.2.2.2.2.2.2.2.1,o0.2.2.2.2.2.2.2.2.2.2.2.2.1,o0.2.2.2.2.2.2.2.2.2.2.2.2.2.2.1,o0.2.2.2.2.2.2.2.2.2.2.2.2.2.1,o0.2.2.2.2.2.2.2.2.2.2.2.2.2.2.2⟩:aD),150))
 (D ((⟨(⟨(⟨o0.1,o0.2.1,o0.2.2.1⟩:ab),o0.2.2.2.1,o0.2.2.2.2.1,o0.2.2.2.2.2.1,o0.2.2.2.2.2.2.1,o0.2.2.2.2.2.2.2.1,o0.2.2.2.2.2.2.2.2.1,o0.2.2.2.2.2.2.2.2.2.1⟩:Y),o0.2.2.2.2.2.2.2.2.2.2.1,o0.2.2.2.2.2.2.2.2.2.2.2.1,o0.2.2.2.2.2.2.2.2.2.2.2.2.1,o0.2.2.2.2.2.2.2.2.2.2.2.2.2.2.1,o0.2.2.2.2.2.2.2.2.2.2.2.2.2.1,o0.2.2.2.2.2.2.2.2.2.2.2.2.2.2.2⟩:aD),(F l:C)))) (λr=>D r))
structure L3(n:ab)(o:ay):Prop where
 aH:0<=o.aH/\o.aH<=100001
 comes:N o<=o.aE.length
 aE:o.aE.length<=110000
 bq:∀(k:M) t,(k:C)<N o->o.aE[k]?=D t->∃y,az n.aC t.bq=D y
def Tz(n:ab)(o:ay):Prop:=N o=F o.aE\/∀t,o.aE.getLast?=D t->bB n t=o.aZ
structure Fi(n:ab)(now:C)(o:ay):Prop where
 ends:Tz n o
 started:o.state=2->∃t,o.aE[o.aH.toNat]?=D t/\bY n t<=now
 aH:0<=o.aH/\o.aH<=100001
structure WD(n:ab)(w:Y):Prop where
 fit:sE w
 dp:w.aa=n
 ak:w.ak.length<=1000
 fin:∀o∈w.ae,Fi n w.now o
structure AgD(n:ab)(w:Y):Prop where
 dp:w.aa=n
 ae:w.ae.length<=30
 av:w.av.length<=120
 ak:w.ak.length<=21
 aL:w.aL.length<=201
 skip:w.skip.length<=50
 ord:∀o∈w.ae,L3 n o
 fin:∀o∈w.ae,Fi n w.now o
theorem JK{n:ab}(h:yg n o):F o.aE<=100001:=by
 have key:∀(i:M) t,o.aE[i]?=D t->(i:C)<=bY n t:=by
  intro i
  induction i with
  |zero=>intro t ht;exact(h.aN t (VU ht)).1
  |succ i ih=>
   intro t ht;have bD:=(List.getElem?_eq_some_iff.1 ht).1;have h1:o.aE[i]?=D o.aE[i]:=VS K;have:=ih _ h1;have:=h.aN _ (Wk (show i<F o.aE by omega))
   have:=h.next i _ _ h1 ht;omega
 rcases Nat.eq_zero_or_pos (F o.aE) with h0|h0
 ·omega
 ·have bD:F o.aE-1<F o.aE:=K
  have h1:=key _ _ (VS bD);have h2:=h.aN _ (Wk bD);omega
theorem oc.ag{w:Y}(h:oc w)(vH:∀o∈w.ae,Fi w.aa w.now o):AgD w.aa w:=by
 obtain⟨p1,p2,p3,p4,p5,p6,p7⟩:=h.parts;refine⟨rfl,p2,p7,K,K,p5,λo ho=>?_,vH⟩
 obtain⟨i,hi,rfl⟩:=V3 ho;have od:=VS hi;have hw:=h.aE od;have hok:=iV h.fit h.ok od;have hs:=JK hw;have hg:=hw.aH;refine⟨⟨hg.1,K⟩,?_,K,λk t _ ht=>?_⟩
 ·unfold N
  split
  ·rename_i h2
   rcases hok.cases with⟨c,_⟩ |⟨_,c⟩ |⟨c,_⟩<;>omega
  omega
 ·obtain⟨y,hy,_⟩:=cZ h.fit.dp (hok.aN t (VU ht))
  simp_all
theorem AgD.fit{n:ab}(hf:cD n){w:Y}(h:AgD n w):sE w:=by
 have h1:=h.ae;have h2:=h.av;have h3:=h.ak;have h4:=h.aL;have h5:=h.skip;exact⟨by rw[h.dp];omega,K,K,K,K,K,λo ho=>by have:=(h.ord o ho).aE;omega⟩
theorem ZbC{n:ab}(h:L3 n o):aO (eA n o) λ_=>True:=by
 unfold eA;refine aO.cond (λh2=>?_) λ_=>aO.ret trivial
 have hs:=Yu h2;have hc:N o=o.aH+1:=by unfold N;omega
 have hg:=h.aH;have vD:=h.comes;have bD:o.aH.toNat<F o.aE:=K;have zJ:az o.aE o.aH=D o.aE[o.aH.toNat]:=by unfold az;simp_all
 obtain⟨y,hy⟩:=h.bq o.aH.toNat _ K (VS bD);rw[zJ,R,hy,R];exact aO.ret trivial
theorem L3.on{n:ab}(h:L3 n o)(hg:o'.aH=o.aH)(hs:o'.state=o.state)(hw:o'.aE=da o.aE 0 (N o)++r)(hr:F r<=2000):L3 n o':=by
 have vD:=h.comes;have g:=h.aH;have hc:N o'=N o:=by unfold N;omega
 have c0:0<=N o/\N o<=100002:=by unfold N;omega
 have yy:da o.aE 0 (N o)=o.aE.take (N o).toNat:=by rfl
 have hlen:F (da o.aE 0 (N o))=(N o).toNat:=by simp_all
 refine⟨K,?_,?_,λk t hk ht=>?_⟩
 ·grind
 ·grind
 ·rw[hc]at hk
  rw[hw,List.getElem?_append_left K,yy,List.getElem?_take_of_lt K]at ht
  exact h.bq k t hk ht
theorem Fi.on{n:ab}{now:C}(h:L3 n o)(hF:Fi n now o)(hg:o'.aH=o.aH)(hs:o'.state=o.state)(ht:o'.aZ=o.aZ)(hw:o'.aE=da o.aE 0 (N o)++r)(hr:∀t,r.getLast?=D t->bB n t=o.aZ):Fi n now o':=by
 have vD:=h.comes;have g:=h.aH;have hc:N o'=N o:=by unfold N;omega
 have c0:0<=N o/\N o<=100002:=by unfold N;omega
 have yy:da o.aE 0 (N o)=o.aE.take (N o).toNat:=by rfl
 have hlen:F (da o.aE 0 (N o))=(N o).toNat:=by simp_all
 refine⟨?_,λh2=>?_,K⟩
 ·cases r with
  |nil=>exact .inl YD
  |cons a as'=>
   refine .inr λt hl=>?_
   simp_all
 ·rw[hs]at h2
  obtain⟨t,k1,k2⟩:=hF.started h2;refine⟨t,?_,k2⟩;have C4:N o=o.aH+1:=by unfold N;omega
  grind
section
variable {n:ab} (hf:cD n) (hn:n.aC.length<=20)
include hf hn
theorem ZcD:F (aj n)<=40:=by have:=dR n;omega
theorem S4{w:Y}(h:AgD n w)(hx:L3 n x):∀o∈w.ae.set i x,L3 n o:=λo ho=>by
 rcases Xy ho with ho|rfl
 ·exact h.ord o ho
 omega
theorem S3{w:Y}(h:AgD n w)(hx:Fi n w.now x):∀o∈w.ae.set i x,Fi n w.now o:=λo ho=>by
 rcases Xy ho with ho|rfl
 ·exact h.fin o ho
 omega
theorem Iu{w:Y}(h:AgD n w)(hi:i<F w.ae):aO (ey w (i:C)) λw'=>AgD n w'/\(F w'.ae)=F w.ae:=by
 obtain⟨o,ho⟩:∃o,w.ae[i]?=D o:=⟨_,VS hi⟩;have hg:az w.ae (i:C)=D o:=by rw[aS];omega
 have Pz:=h.ord o (VU ho);have vD:=Pz.comes;have hfo:=h.fin o (VU ho);have hwy:=Pz.aE;have g:=Pz.aH;have yw:=h.av;have LN:=h.ak;have uP:=ZcD hf hn;have hw:F o.aE<=1048576:=K;have Uo:o.aH<=F o.aE:=by
  have:o.aH<=N o:=by unfold N;omega
  omega
 obtain⟨c1,c0,_⟩:=sL ⟨g.1,Uo⟩ hw;have Ax:F (da o.aE 0 (N o))=(N o).toNat:=by unfold da;simp_all
 have uf:=h.dp;subst uf;unfold ey;rw[hg,R,c1,R];have tail:∀(l:d aq) (aR aQ:C),F l<=120->aO ((eA w.aa o).bind λy7=>
  (bI w.aa l w.ak y7 o.aZ aQ o.ah).bind λy8=>
  (cG w.aa l aR o.ah y8.1).bind λy9=>
  (cf (iq 0 (N o) (F o.aE))).bind λ_=>
  (cf (bn (F (([]:d au):d au)+F ((da o.aE 0 (N o)):d au)) 16)).bind λ_=>
  (D o:J ay).bind λdO=>
  G y9.2
  ((D o:J ay).bind λlJ=>
  (cf (bn (F (((([]:d au):d au)++(da o.aE 0 (N o))):d au)+F (y8.1:d au)) 16)).bind λ_=>
  (D o:J ay).bind λlA=>
  D (⟨w.aa,(w.ae.set (Int.toNat i) (⟨dO.ar,dO.aZ,dO.ax,dO.ah,dO.aQ,dO.fc,((((([]:d au):d au)++(da o.aE 0 (N o))):d au)++y8.1),dO.aH,dO.state,dO.place,dO.bK⟩:ay)),y9.1,w.ak,w.now,w.aL,w.skip,w.br⟩:Y))
  (D (⟨w.aa,(w.ae.set (Int.toNat i) (⟨dO.ar,dO.aZ,dO.ax,dO.ah,dO.aQ,dO.fc,((([]:d au):d au)++(da o.aE 0 (N o))),dO.aH,dO.state,dO.place,dO.bK⟩:ay)),l,w.ak,w.now,w.aL,w.skip,w.br⟩:Y))) λw'=>AgD w.aa w'/\(F w'.ae)=F w.ae:=by
  intro l aR aQ hl;refine aO.bind (ZbC Pz) λy7 _=>aO.bind (Jn hf (show (F l)<=1048576 by omega) (show (F w.ak)<=1048576 by omega) y7 o.aZ aQ o.ah) λy8 h8=>aO.bind (FH hf (show (F l)<=1048000 by omega) aR o.ah y8.1) λy9 h9=>aO.cf YU (aO.cf (iW YD K) ?_)
  rw[R];refine aO.cond (λhb=>?_) λ_=>?_
  ·rw[R]
   refine aO.cf (iW YD K) ?_;rw[R];refine aO.ret ⟨⟨rfl,by simp only[Xd];exact h.ae,(h9.2 hb),h.ak,h.aL,h.skip,?_,?_⟩,by simp⟩
   ·exact S4 hf hn h (Pz.on rfl rfl (by simp only[List.nil_append];rfl) K)
   ·exact S3 hf hn h (Fi.on Pz hfo rfl rfl rfl YT h8.2)
  ·refine aO.ret ⟨⟨rfl,by simp only[Xd];exact h.ae,hl,h.ak,h.aL,h.skip,?_,?_⟩,by simp⟩
   ·exact S4 hf hn h (Pz.on (r:=[]) rfl rfl YE YE)
   ·exact S3 hf hn h (Fi.on Pz hfo (r:=[]) rfl rfl rfl YE (λt h=>by grind))
 refine aO.cond (λhd=>?_) λhd=>?_
 ·have h0:=Yu hd
  have Ac:aJ (N o-1)=N o-1:=aV K;have bD:(N o-1).toNat<F o.aE:=K;have zJ:az o.aE (N o-1)=D o.aE[(N o-1).toNat]:=by unfold az;rw[if_pos K];simp
  obtain⟨y,hy⟩:=Pz.bq _ _ K (VS bD);obtain⟨v,hv⟩:=kx (n:=w.aa) hy;rw[Ac,zJ,R,hv,R];refine aO.bind (E6 _ _) λy5 _=>aO.bind (MN hf (show (F w.av)<=1048576 by omega) _ _) λy6 h6=>?_
  exact tail y6 _ y5 K
 ·refine aO.bind (P:=λy6:d aq=>F y6<=F w.av) (MN hf K _ _) λy6 h6=>?_
  exact tail y6 _ _ K
theorem Cq{w:Y}(h:sE w):aO (gA w) λl=>F l<=F w.ae/\∀x∈l,eY w=Ze/\1<=x/\x<=F w.ae:=by
 unfold gA;rw[nZ h,R];refine aO.cond (λ_=>aO.ret ⟨by simp,λx hx=>by grind⟩) λhv=>?_
 have hv':eY w=true:=by simp_all
 have Ib:=h.ae;refine aO.bind (P:=λl:d C=>F l<=F w.ae/\∀x∈l,eY w=Ze/\1<=x/\x<=F w.ae) ?_ λo ho=>aO.ret ho
 refine aO.loop (fun(k:M) (s:C×d C)=>∃i:M,s.1=(i:C)/\i+k=F w.ae/\(F s.2)<=i/\∀x∈s.2,eY w=Ze/\1<=x/\x<=F w.ae) (λk s hs=>?_) NN (F w.ae) _ ⟨0,rfl,K,by simp,λx hx=>by grind⟩ YF
 obtain⟨i,hi,hk,hlen,wi⟩:=hs;unfold kt;rw[hi];refine aO.cond (λhd=>?_) λhd=>aO.ret ⟨K,wi⟩
 have bD:i<F w.ae:=by simp_all
 have hw:aJ ((i:C)+1)=((i+1:M):C):=by rw[aV K];omega
 obtain⟨b,_,hb,_⟩:=Eo h hv' (VS bD);rw[hb,R,hw];refine aO.cond (λ_=>aO.cf (iW YD K) (aO.ret ⟨k-1,K,i+1,rfl,K,by simp_all,λx hx=>?_⟩)) λ_=>aO.ret ⟨k-1,K,i+1,rfl,K,by grind,wi⟩
 grind
theorem Zdr{w:Y}(hd:WD n w)(t:au):aO (dB w t) λr=>WD n r.1:=by
 have h:=hd.fit;have hw:=hd.dp;unfold dB;rw[uE h,R,nZ h,R];refine aO.cond (λ_=>aO.ret hd) λhv=>?_
 have hok:oc w:=⟨h,by simp_all⟩
 rw[yB h.dp hok.dp,R];refine aO.cond (λ_=>aO.ret hd) λht=>?_
 have AZ:fA w.aa t=true:=by simp_all
 obtain⟨y,hy,_⟩:=cZ h.dp AZ;obtain⟨v,hv⟩:=o6 (n:=w.aa) hy;rw[hv,R];refine aO.cond (λ_=>aO.ret hd) λ_=>?_
 rw[jH,jx h.ak,R];refine aO.cond (λ_=>aO.ret hd) λ_=>aO.cond (λ_=>aO.ret hd) λhc=>?_
 have vD:=Yv hc;refine aO.cf (iW YD K) ?_;have D4:=hok.ag (by rw[hw];exact hd.fin)
 rw[hw]at D4
 refine aO.bind (P:=λo=>AgD n (⟨(⟨o.2.2.2.1,o.2.2.2.2.1,o.1⟩:ab),o.2.2.2.2.2.1,o.2.2.2.2.2.2.1,o.2.2.2.2.2.2.2.1,o.2.1,o.2.2.2.2.2.2.2.2.1,o.2.2.2.2.2.2.2.2.2,o.2.2.1⟩:Y)) ?_ λo ho=>aO.ret ⟨ho.fit hf,ho.dp,by have:=ho.ak;grind,ho.fin⟩
 refine aO.loop (λk s=>∃i:M,s.1=(i:C)/\i+k=F w.ae/\(F s.2.2.2.2.2.2.1)=F w.ae/\AgD n (⟨(⟨s.2.2.2.2.1,s.2.2.2.2.2.1,s.2.1⟩:ab),s.2.2.2.2.2.2.1,s.2.2.2.2.2.2.2.1,s.2.2.2.2.2.2.2.2.1,s.2.2.1,s.2.2.2.2.2.2.2.2.2.1,s.2.2.2.2.2.2.2.2.2.2,s.2.2.2.1⟩:Y)) (λk s hs=>?_) NN (F w.ae) _ ⟨0,rfl,K,rfl,⟨D4.dp,D4.ae,D4.av,by grind,D4.aL,D4.skip,D4.ord,D4.fin⟩⟩ (by have:=h.ae;unfold NN;omega)
 obtain⟨i,hi,hik,hlen,hA⟩:=hs;unfold fD;rw[hi];refine aO.cond (λhd=>?_) λhd=>aO.ret hA
 have bD:i<F s.2.2.2.2.2.2.1:=by simp_all
 have Ib:=h.ae;have BL:aJ ((i:C)+1)=((i+1:M):C):=by rw[aV K];omega
 obtain⟨o,ho⟩:∃o,s.2.2.2.2.2.2.1[i]?=D o:=⟨_,VS bD⟩;have hg:az s.2.2.2.2.2.2.1 (i:C)=D o:=by rw[aS];omega
 have Pz:=hA.ord o (VU ho);have EX:=Pz.comes;have hwy:=Pz.aE;have g:=Pz.aH;have Uo:o.aH<=F o.aE:=by
  have:o.aH<=N o:=by unfold N;omega
  omega
 obtain⟨c1,c0,_⟩:=sL ⟨g.1,Uo⟩ K;rw[hg,R,c1,R];refine aO.cf YU ?_;rw[jH,jx (show(da o.aE (N o) (F o.aE:C)).length<=1048576 by unfold da;grind),R,BL]
 refine aO.cond (λ_=>aO.gC (aO.bind (Iu hf hn hA bD) λy hy=>aO.ret ⟨k-1,K,i+1,rfl,K,by simp_all,?_⟩)) λ_=>aO.ret ⟨k-1,K,i+1,rfl,K,hlen,hA⟩
 exact hy.1
theorem Vv{w:Y}(C9:WD n w):aO (dv w) λr=>WD n r.1:=by
 have h:=C9.fit;have hw:=C9.dp;unfold dv;rw[uE h,R];refine aO.bind (Cq hf hn h) λy2 h2=>?_
 obtain⟨h2,h2w⟩:=h2;have Ib:=h.ae;have key:aO (aB (dA y2) NN (0,w.aa.change,w.now,w.br,w.aa.aC,w.aa.off,w.ae,w.av,w.ak,w.aL,w.skip)) (λo=>WD n (⟨(⟨o.2.2.2.1,o.2.2.2.2.1,o.1⟩:ab),o.2.2.2.2.2.1,o.2.2.2.2.2.2.1,o.2.2.2.2.2.2.2.1,o.2.1,o.2.2.2.2.2.2.2.2.1,o.2.2.2.2.2.2.2.2.2,o.2.2.1⟩:Y)):=by
  refine aO.loop (λk s=>∃i:M,s.1=(i:C)/\i+k=F y2/\WD n (⟨(⟨s.2.2.2.2.1,s.2.2.2.2.2.1,s.2.1⟩:ab),s.2.2.2.2.2.2.1,s.2.2.2.2.2.2.2.1,s.2.2.2.2.2.2.2.2.1,s.2.2.1,s.2.2.2.2.2.2.2.2.2.1,s.2.2.2.2.2.2.2.2.2.2,s.2.2.2.1⟩:Y)/\
   (eY w=Ze->F s.2.2.2.2.2.2.1=F w.ae/\AgD n (⟨(⟨s.2.2.2.2.1,s.2.2.2.2.2.1,s.2.1⟩:ab),s.2.2.2.2.2.2.1,s.2.2.2.2.2.2.2.1,s.2.2.2.2.2.2.2.2.1,s.2.2.1,s.2.2.2.2.2.2.2.2.2.1,s.2.2.2.2.2.2.2.2.2.2,s.2.2.2.1⟩:Y))) (λk s hs=>?_) NN (F y2) _ ⟨0,rfl,K,K,λhv=>⟨rfl,by have:=(oc.mk h hv).ag (by rw[hw];exact C9.fin);rw[hw]at this;omega⟩⟩ YF
  obtain⟨i,hi,hk,hW,hA⟩:=hs;unfold dA;rw[hi];refine aO.cond (λhd=>?_) λhd=>aO.ret hW
  have bD:=Yu hd;have BL:aJ ((i:C)+1)=((i+1:M):C):=by rw[aV K];omega
  obtain⟨x,hx,hm⟩:=fB (xs:=y2) (i:=(i:C)) ⟨K,bD⟩;obtain⟨hv,x1,x2⟩:=h2w x hm;obtain⟨hl,D4⟩:=hA hv;have hwx:aJ (x-1)=(((x-1).toNat:M):C):=by rw[aV K];omega
  rw[hx,R,hwx,BL];exact aO.gC (aO.bind (Iu hf hn D4 (show(x-1).toNat<F s.2.2.2.2.2.2.1 by omega)) λy hy=>aO.ret ⟨k-1,K,i+1,rfl,K,⟨hy.1.fit hf,hy.1.dp,by have:=hy.1.ak;grind,hy.1.fin⟩,λ_=>⟨by simp_all,hy.1⟩⟩)
 refine aO.bind key λo ho=>aO.bind (Cq hf hn ho.fit) λy5 _=>aO.ret ho
theorem Zdn{w:Y}(h:sE w)(hs:F w.aL<=1048000)(s:aI):aO (fy w s) λr=>r.aa=w.aa/\r.ae=w.ae/\r.av=w.av/\r.ak=w.ak/\r.skip=w.skip/\(F r.aL)<=F w.aL+1/\r.now=w.now:=by
 unfold fy;simp only[zv h.skip,R];have ap:bn (F (w.aL:d aI)+F ([s]:d aI)) 56=true:=iW YD K;have sm:∀m,aO (D (⟨w.aa,w.ae,w.av,w.ak,w.now,((w.aL:d aI)++[s]),w.skip,m⟩:Y)) λr=>r.aa=w.aa/\r.ae=w.ae/\r.av=w.av/\r.ak=w.ak/\r.skip=w.skip/\(F r.aL)<=F w.aL+1/\r.now=w.now:=λm=>aO.ret ⟨rfl,rfl,rfl,rfl,rfl,by simp,rfl⟩
 have st:∀m,aO (D (⟨w.aa,w.ae,w.av,w.ak,w.now,w.aL,w.skip,m⟩:Y)) λr=>r.aa=w.aa/\r.ae=w.ae/\r.av=w.av/\r.ak=w.ak/\r.skip=w.skip/\(F r.aL)<=F w.aL+1/\r.now=w.now:=λm=>aO.ret ⟨rfl,rfl,rfl,rfl,rfl,by simp,rfl⟩
 exact aO.cond (λ_=>aO.cond (λ_=>aO.cond (λ_=>aO.cf ap (sm _)) λ_=>st _) λ_=>st _) λ_=>aO.cond (λ_=>aO.cond (λ_=>aO.cf ap (sm _)) λ_=>st _) λ_=>st _
theorem PN{w:Y}(C9:WD n w)(ar aZ:ByteArray)(ax ah:C):aO (dQ w ar aZ ax ah) λr=>WD n r.1:=by
 have h:=C9.fit;have hw:=C9.dp;have hk:=C9.ak;subst hw;unfold dQ;rw[uE h,R,nZ h,R];have same:∀(z:C) (b:Bool),aO (D (w,z,b)) λr=>WD w.aa r.1:=λz b=>aO.ret C9
 refine aO.cond (λ_=>same _ _) λhv=>?_
 have hok:oc w:=⟨h,by simp_all⟩
 obtain⟨p1,p2,p3,p4,p5,p6,p7⟩:=hok.parts;have uP:=ZcD hf hn;refine aO.cond (λ_=>same _ _) λho=>aO.cond (λ_=>same _ _) λ_=>?_
 rw[cO,R];refine aO.cond (λ_=>same _ _) λ_=>?_
 rw[cO,R];refine aO.cond (λ_=>same _ _) λ_=>?_
 refine aO.bind (Jn hf h.av h.ak _ _ _ _) λy5 h5=>aO.bind (FH hf K _ _ _) λy6 h6=>aO.cond (λ_=>same _ _) λ_=>aO.cond (λ_=>same _ _) λh6t=>aO.bind (Ox hf _ _ _ _) λy7 _=>aO.Ev (aO.cf (iW YD K) (aO.gC ?_))
 have hb6:=h6.2 YG;have Na:sE (⟨w.aa,((w.ae:d ay)++[(⟨ar,aZ,ax,ah,w.now,y7,y5.1,0,1,ar,0⟩:ay)]),y6.1,w.ak,w.now,w.aL,w.skip,w.br⟩:Y):=by
  refine⟨h.dp,by grind,by grind,h.ak,h.aL,h.skip,λo ho=>?_⟩
  rcases We.1 ho with ho|ho
  ·exact h.aE o ho
  grind
 refine aO.bind (Zdn hf hn Na YD _) λy8 h8=>aO.ret ?_
 obtain⟨q1,q2,q3,q4,q5,q6,q7⟩:=h8;refine⟨⟨by simp_all,by grind,by grind,by grind,by grind,by grind,by rw[q2];exact Na.aE⟩,by rw[q1],by simp_all,?_⟩
 rw[q2,q7];intro o ho
 rcases We.1 ho with ho|ho
 ·exact C9.fin o ho
 ·obtain rfl:=List.mem_singleton.1 ho
  exact⟨.inr h5.2,λh=>by grind,by simp⟩
end
theorem Fk.fit{l:bP}(h:Fk l):Gw l:=⟨by rw[(sM _ h.ar).2];decide,by rw[(sM _ h.aZ).2];decide⟩
theorem Fk.ok{l:bP}(h:Fk l):gz l=D true:=by
 have h1:=h.start;have h2:=h.o8;have h3:=h.yr;have h4:=h.jb;unfold gz;rw[(sM _ h.ar).1,(sM _ h.aZ).1];simp only[R,Yw,Yt h.ne,Bool.not_false,cO,Yi h1.1,Yi h1.2,Yi h2.1,Yi h2.2,Yi h3.1,Yi h3.2,Yi h4.1,Yi h4.2,Bool.and_self]
theorem uA.fit{n:ab}(h:uA n):cD n:=⟨by have:=h.len;omega,by rcases h.off with e|⟨a,b,e,_⟩<;>rw[e]<;>simp,λl hl=>(h.bq l hl).fit⟩
theorem uA.ok{n:ab}(h:uA n):aX n=D true:=by
 have hlen:=h.len;have Av:=h.change;have e0:aO (aB (cq n) NN 0) λr=>r=.inl ():=by
  refine aO.loop (fun(k:M) (s:C)=>∃i:M,s=(i:C)/\i+k=F n.aC) (λk s hs=>?_) NN (F n.aC) _ ⟨0,rfl,K⟩ YF
  obtain⟨i,rfl,hk⟩:=hs;unfold cq;refine aO.cond (λhd=>?_) λhd=>aO.ret rfl
  have bD:=Yu hd;have BL:aJ ((i:C)+1)=((i+1:M):C):=by rw[aV K];omega
  obtain⟨x,hx,hm⟩:=fB (xs:=n.aC) (i:=(i:C)) ⟨K,bD⟩;rw[hx,R,(h.bq x hm).ok,R,BL];exact aO.cond (λe=>by cases e) λ_=>aO.ret ⟨k-1,K,i+1,rfl,K⟩
 have e1:aO (aB (cr n) NN 0) λr=>r=.inl ():=by
  rcases h.off with e|⟨a,b,e,g1,g2,g3⟩
  ·refine aO.loop (fun(k:M) (s:C)=>s=0) (λk s hs=>?_) NN 0 _ rfl YF
   subst hs;unfold cr;rw[e];exact aO.cond (λhd=>by simp at hd) λhd=>aO.ret rfl
  ·refine aO.loop (fun(k:M) (s:C)=>(s=0/\k=2)\/(s=1/\k=1)\/(s=2/\k=0)) (λk s hs=>?_) NN 2 _ (.inl ⟨rfl,rfl⟩) YF
   unfold cr;rw[e];have x0:az [a,b] 0=D a:=rfl;have x1:az [a,b] 1=D b:=rfl;have w1:aJ (0+1)=1:=by decide
   have w2:aJ (1+1)=2:=by decide
   have w0:aJ (1-1)=0:=by decide
   rcases hs with⟨rfl,rfl⟩ |⟨rfl,rfl⟩ |⟨rfl,rfl⟩
   ·refine aO.cond (λ_=>?_) λhd=>by simp at hd
    rw[x0,R,cO,R,Yi g1,Yi (show a<=60 by omega),w1]
    exact aO.cond (λe=>by cases e) λ_=>aO.cond (λe=>by simp at e) λ_=>aO.ret ⟨1,K,.inr (.inl ⟨rfl,rfl⟩)⟩
   ·refine aO.cond (λ_=>?_) λhd=>by simp at hd
    rw[x1,R,cO,R,Yi (show 0<=b by omega),Yi g3,w2,w0,x0,R,R]
    exact aO.cond (λe=>by cases e) λ_=>aO.cond (λ_=>aO.cond (λe=>by have:=Yu e;omega) λ_=>aO.ret ⟨0,K,.inr (.inr ⟨rfl,rfl⟩)⟩) λe=>by simp at e
   ·exact aO.cond (λhd=>by simp at hd) λhd=>aO.ret rfl
 obtain⟨_,r0,rfl⟩:=e0;obtain⟨_,r1,rfl⟩:=e1;unfold aX;rw[r0,R];simp only[bj];rw[r1,R];simp only[bj];have ho:(F n.off:C)<=10:=by rcases h.off with e|⟨a,b,e,_⟩<;>rw[e]<;>simp
 rw[Yi (show(F n.aC:C)<=20 by omega),Yi ho,cO,Yi Av.1,Yi Av.2]
 rfl
theorem UQ{n:ab}(h:uA n){skip:d C}(hs:F skip<=50):kF n skip=D ((⟨n,[],[],[],0,[],skip,0⟩:Y),Ze):=by
 have hf:sE (⟨n,[],[],[],0,[],skip,0⟩:Y):=⟨h.fit,by simp,by simp,by simp,by simp,by simp only;omega,λo ho=>by cases ho⟩
 have hv:eY (⟨n,[],[],[],0,[],skip,0⟩:Y)=true:=by
  unfold eY cb xP;simp only[h.ok,W9];simp[allI];omega
 unfold kF;rw[uE hf,R,nZ hf,hv];rfl
section
variable {n:ab} (hn:uA n)
include hn
theorem Pn{c:bl}(h:dU c):aO (lF c n) λr=>dU r.2:=by
 have hl:=hn.len;unfold lF;refine aO.gC (aO.bind (bL h _) λy1 h1=>aO.gC (aO.bind (bL h1.2 10) λy2 h2=>?_))
 obtain⟨y,hy,_⟩:=fB (xs:=n.aC) (i:=y1.1) ⟨h1.1.1,h1.1.2.1 K⟩;refine aO.bind (Gt hn.fit hy _) λy3 _=>aO.cond (λ_=>aO.gC (aO.bind (oV h2.2 4) λy4 h4=>aO.cond (λ_=>aO.ret h4) λ_=>aO.ret h4)) λ_=>aO.ret h2.2
theorem JO{c:bl}(h:dU c){w:Y}(hw:w.aa=n):aO (dX c w) λr=>dU r.2:=by
 unfold dX;rw[hw];refine aO.cond (λhd=>aO.gC (aO.bind (oV h 4) λy1 h1=>aO.cond (λ_=>aO.drw (aO.gC (aO.bind (bL h1 _) λy2 h2=>aO.get h2.1.1 (h2.1.2.1 (Yu hd)) λx _ _=>aO.ret h2.2))) λ_=>aO.gC (aO.bind (Pn hn h1) λy4 h4=>aO.ret h4))) λ_=>aO.gC (aO.bind (Pn hn h) λy4 h4=>aO.ret h4)
omit hn in
theorem Jq:∀(k:M) (w:Y) (u:C) (i:M) (o o':ay),w.ae[i]?=D o->(uj k w u).ae[i]?=D o'->N o<=N o'
 |0,w,u,i,o,o',h,h'=>by
  have h':w.ae[i]?=D o':=h';rw[h]at h';obtain rfl:=VV h';exact Int.le_refl _
 |k+1,w,u,i,o,o',h,h'=>by
  unfold uj at h'
  split at h'
  ·rw[h]at h';obtain rfl:=VV h';exact Int.le_refl _
  ·have h1:(gw w (fV w)).ae[i]?=D (o7 w.aa (fV w) o):=by
    show(w.ae.map _)[i]?=_;rw[List.getElem?_map,h];rfl
   exact Int.le_trans Ht (Jq k _ u i _ _ h1 h')
omit hn in
theorem ZdV{w:Y}(h:oc w){u:C}(hu:w.now<=u)(hm:u<=100000)(hF:∀o∈w.ae,Tz w.aa o):∀o∈(vG w u).ae,Fi w.aa u o:=λo' zK=>by
 obtain⟨a,b,_⟩:=CF h hu hm;obtain⟨i,hi,rfl⟩:=V3 zK;have od:=VS hi;have bD:i<F w.ae:=by rw[<-b.len];exact hi
 have LP:=VS bD;have hs:=b.ord i _ _ LP od;have hc:=Jq (qw w) w u i _ _ LP od;have hwy:=a.aE od;have tV:=a.state od;have hwo:=iV a.fit a.ok od;have hsh:=JK hwy;have hg:=hwy.aH;refine⟨?_,λh2=>?_,⟨hg.1,K⟩⟩
 ·rcases hF _ (Wk bD)with h|h
  ·refine .inl ?_
   have vD:N (vG w u).ae[i]<=(vG w u).ae[i].aE.length:=by
    unfold N
    split
    ·rcases hwo.cases with⟨c,_⟩ |⟨_,c⟩ |⟨c,_⟩<;>omega
    ·exact hg.2
   have:(vG w u).ae[i].aE.length=w.ae[i].aE.length:=by rw[hs.aE]
   omega
  ·exact .inr (by rw[hs.aE,hs.aZ];exact h)
 ·rcases tV.cases with⟨c,_⟩ |⟨_,_,_,t,c1,c2,_⟩ |⟨c,_⟩
  ·omega
  ·rw[b.aa]at c2;exact⟨t,c1,c2⟩
  ·omega
end
theorem sE.set{w:Y}(h:sE w){i:M}{x:ay}{o:ay}(ho:o∈w.ae)(hx:x.aE=o.aE):∀y∈w.ae.set i x,F y.aE<=1048576:=λy hy=>by
 rcases Xy hy with hy|rfl
 ·exact h.aE y hy
 ·rw[hx];exact h.aE o ho
end Go.Proofs.YtbjbellffaenaaaGreatDoor
namespace Go.Proofs.YtbjbellffaenaaaGreatDoor
open Go.RowKit Go.Lib Go.Sort
variable {l:d bf}
instance :we bV cn:=⟨λx=>rfl,λx j p h=>by
 match j with
 |0=>obtain rfl:_=p:=VV h
     exact⟨_,rfl,rfl⟩
 |1=>obtain rfl:_=p:=VV h
     exact⟨_,rfl,rfl⟩
 |2=>obtain rfl:_=p:=VV h
     exact⟨_,rfl,rfl⟩
 |3=>obtain rfl:_=p:=VV h
     exact⟨_,rfl,rfl⟩
 |j+4=>simp[bV]at h⟩
theorem Rx(g cp n B:M)(zs:d C)(w:World)(ho:Own w B 3 (.slice (D ⟨g,0,Zd⟩) n cp) zs)(hl:n=F zs)(hn:n<=2000000):
 Calls prog 108 #[.slice (D ⟨g,0,Zd⟩) n cp] w λe w'=>e=.returned (.tuple #[])/\Own w' B 3 (.slice (D ⟨g,0,Zd⟩) n cp) (VO zs)/\w.grownBy w' (D g):=by
 subst hl
 rcases ho.2 with⟨h0,_⟩ |⟨g',Zhn,cur,hv,hB,hg,xW,EX,tv,ht⟩
 ·grind
 ·obtain⟨rfl,rfl⟩:g=g'/\cp=Zhn:=by simp_all
  have HQ:cur.toList.take (F zs)=zs.map (Value.int .i64):=by
   have:=ht;rw[show eZ.k C=1 from rfl,Nat.mul_one,u9]at this
   omega
  have hH:=holds_of_blockI hg HQ;refine(Tryz.sort_Ints g 0 cp zs w hH (Array.getElem?_eq_some_iff.1 hg).1 K).mono ?_;rintro e w' ⟨rfl,m,os,rfl⟩;have hs:=ownsRow_sortedI (n:=m) (os:=os) (ss:=zs) (ts:=VO zs) (Fc zs) hB hg xW EX tv;refine⟨rfl,?_,grownBy_sortedI _⟩;unfold Own;rw[Fc,u9];exact hs
theorem UY(A:J Addr)(xs:d Ln)(c:M)(w:World)(hr:Rd w w.heap.size A xs)(hn:F xs<=2000000)
 (hOw:∀(W:World) (o:C),Up w W->Calls prog 44 #[.slice A (F xs) c,Zh Zi o] W λe w'=>e=.returned (Zh Zi (kX xs o))/\Up W w')
 (ZjR:∀(W:World) (g cp B:M) (ys:d C) (o:C),Up w W->F ys<=1048576->Own W B 3 (.slice (D ⟨g,0,Zd⟩) (F ys) cp) ys->Calls prog 107 #[.slice (D ⟨g,0,Zd⟩) (F ys) cp,Zh Zi o] W λe w'=>e=.returned (.bool (H5 ys o))/\Up W w') (hk:F xs<=1000):
 Calls prog 43 #[.slice A (F xs) c] w λe w'=>∃v,e=.returned v/\Own w' w.heap.size 3 v (VO (A1 xs (F xs)))/\Up w w':=by
 go_enter func43,ntmps43
 go_wp2
 go_loopw [3,9] (λv i wr=>∃j g cp:M,j<=F xs/\i=Zh Zi j/\v=.slice (D ⟨g,0,Zd⟩) (F (A1 xs j)) cp/\Own wr w.heap.size 3 (.slice (D ⟨g,0,Zd⟩) (F (A1 xs j)) cp) (A1 xs j)/\Up w wr) (λ_ i _=>F xs-(intOf i).toNat)
 case atStart=>exact⟨0,w.heap.size,0,K,rfl,rfl,Own.empty w _ _ 0 _ (VW _) YR rfl,by(repeat(first|exact Up.rfl' _|(refine Up.al _ ?_) |(refine Up.dr _ ?_) |(refine Up.sZ ?_) |(refine Up.sc ?_ YH _) |(refine Up.step YN ?_)))⟩
 case round=>
  obtain⟨i,g3,c3',hi,rfl,rfl,ho,hb⟩:=hrel
  by_cases bD:i<F xs
  ·obtain⟨x,hx⟩:=C0 bD
   obtain⟨b,off,rfl,Pw,c0,c1,c2,c3⟩:=(hr.below hb).ln hx;have hlen:=KG xs i;have HO:=Lib.hid ho;clear ho
   cases h1:Zg (0<kX xs x.o)with
   |false=>
    have S:=Lib.hid (Ziv hx h1);clear hx
    go_wp2_with fail
    generalize LW:wr.alloc (.cells #[I x.o,I x.k,I x.a,I x.t] 82)=wb;have d0:wb.cell? ⟨wr.heap.size,0,Zd⟩=D (I x.o):=by rw[<-LW];simp
    have LV:Up wr wb:=by rw[<-LW];(repeat(first|exact Up.rfl' _|(refine Up.al _ ?_) |(refine Up.dr _ ?_) |(refine Up.sZ ?_) |(refine Up.sc ?_ YH _) |(refine Up.step YN ?_)))
    clear LW;refine(hOw wb _ (Up.step LV hb)).mono ?_;rintro e w1 ⟨rfl,qV⟩;replace d0:=gl d0 qV
    go_wp2_with fail
    exact⟨⟨i+1,g3,c3',K,by rfl,by rw[S.out],by rw[S.out];exact HO.out.up (Up.step qV LV),Up.step qV (Up.step LV hb)⟩,by simp[intOf];omega⟩
   |true=>
    cases h2:H5 (A1 xs i) x.o with
    |true=>
     have S:=Lib.hid (Zfr hx h2);clear hx
     go_wp2_with fail
     generalize LW:wr.alloc (.cells #[I x.o,I x.k,I x.a,I x.t] 82)=wb;have d0:wb.cell? ⟨wr.heap.size,0,Zd⟩=D (I x.o):=by rw[<-LW];simp
     have LV:Up wr wb:=by rw[<-LW];(repeat(first|exact Up.rfl' _|(refine Up.al _ ?_) |(refine Up.dr _ ?_) |(refine Up.sZ ?_) |(refine Up.sc ?_ YH _) |(refine Up.step YN ?_)))
     clear LW;refine(hOw wb _ (Up.step LV hb)).mono ?_;rintro e w1 ⟨rfl,qV⟩;replace d0:=gl d0 qV
     go_wp2_with fail
     refine(ZjR _ _ _ _ (A1 xs i) _ (Up.step qV (Up.step LV hb)) K (HO.out.up (Up.step qV LV))).mono ?_;rintro e w2 ⟨rfl,yb⟩;replace d0:=gl d0 yb;rw[h2]
     go_wp2
     exact⟨⟨i+1,g3,c3',K,by rfl,by rw[S.out],by rw[S.out];exact HO.out.up (Up.step yb (Up.step qV LV)),Up.step yb (Up.step qV (Up.step LV hb))⟩,by simp[intOf];omega⟩
    |false=>
     have S:=Lib.hid (Zfs hx h1 h2);clear hx
     go_wp2_with fail
     generalize LW:wr.alloc (.cells #[I x.o,I x.k,I x.a,I x.t] 82)=wb;have d0:wb.cell? ⟨wr.heap.size,0,Zd⟩=D (I x.o):=by rw[<-LW];simp
     have LV:Up wr wb:=by rw[<-LW];(repeat(first|exact Up.rfl' _|(refine Up.al _ ?_) |(refine Up.dr _ ?_) |(refine Up.sZ ?_) |(refine Up.sc ?_ YH _) |(refine Up.step YN ?_)))
     clear LW;refine(hOw wb _ (Up.step LV hb)).mono ?_;rintro e w1 ⟨rfl,qV⟩;replace d0:=gl d0 qV
     go_wp2_with fail
     refine(ZjR _ _ _ _ (A1 xs i) _ (Up.step qV (Up.step LV hb)) K (HO.out.up (Up.step qV LV))).mono ?_;rintro e w2 ⟨rfl,yb⟩;replace d0:=gl d0 yb;rw[h2]
     go_wp2_with (at_builtin;go_must (refine gb Sa rfl (.tmp 25) (.tmp 28) rfl (base:=w.heap.size) (ys:=A1 xs i) (xs:=[x.o]) YT (HO.out.up YB) 1 YT rfl (Rd.N5 _ _ x.o _ YE) YL YV (Up.le YB) ?_);intro v' w3 LU hg3 _ hu3;have hb3:Up w w3:=hu3 w (VW _) YB;have HO3:=Lib.hid LU;clear LU)
     have LU:=HO3.out;rw[<-S.out]at LU
     obtain⟨g4,c4,hv4,_⟩:=World.ownsRow.form LU (by rw[S.out];simp)
     exact⟨⟨i+1,g4,c4,K,by go_num,hv4,by rw[<-hv4];exact LU,hb3⟩,by simp[intOf];omega⟩
  ·obtain rfl:i=F xs:=K
   have hlen:=KG xs (F xs)
   go_wp2_with fail
   refine(Rx g3 c3' _ _ (A1 xs (F xs)) _ ho rfl K).mono ?_;rintro e w1 ⟨rfl,Ng,hg1⟩;have vJ:Up w w1:=Below.grown hb hg1 hb.size (λk e=>by cases e;exact(World.ownsRow.lt ho g3 rfl).1)
   go_wp2_with fail
   go_ret
   exact⟨_,rfl,by simpa[Fc]using Ng,vJ⟩
theorem Zcx{w:World}{B:M}{T:TypeId}{v:Value}{xs:d C}(h:Own w B T v xs):eO w (SW w) (.sl (xs.map Z)) v:=by
 rcases h.2 with⟨rfl,h0⟩ |⟨g,cap,cur,rfl,hB,hg,xW,EX,tv,ht⟩
 ·have:xs=[]:=List.length_eq_zero_iff.1 h0
  subst this;exact .nil _ _
 ·exact Fb (c:=Z) (id:C->C) (by rw[List.map_id];exact h.rd) xW EX
theorem Zbw(xs:d C)(o:C):(xs.any λy=>Zg (y=o))=H5 xs o:=by
 rfl
theorem Zld{w W:World}(hu:Up w W):Fs (λ_=>False) w W:=⟨hu.os,hu.tape,hu.output,hu.size,λb hb _=>hu.block b hb⟩
theorem UX{w:World}{O:M->Prop}(ht:DM w O)(hl:F l<=200){A:J Addr}{c:M}(hv:eO w (SW w) (.sl (l.map bV)) (.slice A (F l) c))(hr:Rd w w.heap.size A (l.map cn)):
 Calls prog 43 #[.slice A (F l) c] w λe w'=>∃v,e=.returned v/\Own w' w.heap.size 3 v (VO (A1 (l.map cn) (F l)))/\Up w w':=by
 have hL:F (l.map cn)=F l:=List.length_map _;have h:=UY A (l.map cn) c w hr K (λW o hu=>?_) (λW g cp B ys o hu hy ho=>?_) K
 ·simp_all
 ·rw[hL]
  have hC:=CT.ok (P:=prog) (KJ (l:=l) K o);simp only[CT.f,CT.args,CT.m0,CT.res,CT.mem]at hC
  refine eh.Zac hC (AW ht (Zld hu) λb _ h=>h.elim) rfl λi p hp=>?_
  match i with
  |0=>obtain rfl:_=p:=VV hp
      exact⟨_,rfl,.c (uI hv hu)⟩
  |1=>obtain rfl:_=p:=VV hp
      exact⟨_,rfl,tZ _ rfl⟩
  |i+2=>grind
 ·have hC:=CT.ok (P:=prog) (show rL ys o=D (H5 ys o)by rw[IK,zv hy,Zbw])
  simp only[CT.f,CT.args,CT.m0,CT.res,CT.mem]at hC
  refine eh.Zac hC (AW ht (Zld hu) λb _ h=>h.elim) rfl λi p hp=>?_
  match i with
  |0=>obtain rfl:_=p:=VV hp
      exact⟨_,rfl,.c (Zcx ho)⟩
  |1=>obtain rfl:_=p:=VV hp
      exact⟨_,rfl,tZ _ rfl⟩
  |i+2=>grind
def kA(l:d bf):J (d C):=if (F l)<=200 then D (VO (A1 (l.map cn) (F l)))else Zd
theorem AG(l:d bf){r:d C}(H:kA l=D r):eh prog 43 [.sl (l.map bV)] [] (.ms 0) [D ⟨.of 3,1,r.map Z⟩]:=by
 unfold kA at H
 split at H
 case isFalse=>cases H
 rename_i Qd;obtain rfl:=VV H;intro S β w vs ω hk hl ha;obtain⟨x,hx0,hr⟩:=ha 0 _ rfl;have hv:vs=#[x]:=by
  grind
 subst hv;have hr0:eO w S (.sl (l.map bV)) x:=by cases hr with|c h=>exact h
 obtain⟨A,c,rfl,ZhZ,_,IN⟩:=K9 cn hk.sz hr0;refine(UX hk.JC Qd (hr0.ext hk.sz (λb o hb=>rfl)) IN).mono ?_
 rintro e w' ⟨v,rfl,ho,hu⟩;obtain⟨E',h1,h2,h3,h4,h5⟩:=uU (c:=Z) hk ho hu (λx=>⟨rfl,λj p hj=>by
  cases j with
  |zero=>obtain rfl:X x=p:=by grind
         exact⟨_,rfl,rfl,λw E=>.c (.v _ rfl)⟩
  |succ j=>grind⟩)
 exact⟨v,E',rfl,h1,h2,h3,h4,h5⟩
instance (l:d bf):CT prog (kA l):=⟨43,[.sl (l.map bV)],[],λr=>.ms 0,λr=>[D ⟨.of 3,1,r.map Z⟩],AG l⟩
theorem Ziw(hl:F l<=200):kA l=D (VO (A1 (l.map cn) (F l))):=by
 unfold kA;simp_all
end Go.Proofs.YtbjbellffaenaaaGreatDoor
namespace Go.Proofs.YtbjbellffaenaaaGreatDoor
open Go.RowKit
def lE(o:aD)(y1:d C)(s0:C×C×C):J ((C×C×C)⊕((C×C)⊕Bool)):=
 G (Zg (s0.2.2<=(F o.world.ae:C)))
 (L (dL o.lines s0.2.2 3) λy2=>
 L (az o.aK (aJ (s0.2.2-1))) λy3=>
 L (lV o.bb o.bd y3) λy4=>
 G (!y4.2)
 (D (.inr (.inr Zf)))
 (L (dL o.lines s0.2.2 1) λy5=>
 G (!decide (y5=y4.1))
 (D (.inr (.inr Zf)))
 (G (Zg (y4.1<y2))
 (D (.inr (.inr Zf)))
 (L (jh o.lines s0.2.2) λy6=>
 G (Zg (y6<0))
 (D (.inr (.inr Zf)))
 (L (jh o.lines s0.2.2) λy7=>
 L (vn y1 s0.2.2) λy8=>
 G (!((Zg (0<y7))==y8))
 (D (.inr (.inr Zf)))
 (L (dL o.lines s0.2.2 2) λy9=>
 L (jh o.lines s0.2.2) λdO=>
 D (.inl ((aJ ((aJ (s0.1+y9))-y2)),(aJ (s0.2.1+dO)),(aJ (s0.2.2+1))))))))))
 (D (.inr (.inl (s0.1,s0.2.1))))
instance (o:aD)(y1:d C):bm (lE o y1):=⟨λs0=>(.un::.be 0 0 0::.un::X s0.1::X s0.2.1::.ms 1::X s0.2.2::(U 96 [])),λs0=>[D ⟨.of 40,16,[eD o]⟩,D ⟨.of 3,1,y1.map Z⟩]⟩
def qf(o:aD):J Bool:=
 L (kA o.lines) λy1=>
 (aB (lE o y1) NN (0,0,1)).bind (bj (λo0=>
 L (rI o.lines) λlJ=>
 G (Zg (o0.1=lJ))
 (G (Zg (0<=o0.1))
 (D ((Zg (o0.2=0))==(Zg ((F y1:C)=0))))
 (D Zf))
 (D Zf)) (λr=>D r))
instance (o:aD):CT prog (qf o):=⟨10,[.ag (eD o)],[],λr=>vb r,λr=>[],cw (qf.eq_1 ..) func10 ntmps10 results10⟩
