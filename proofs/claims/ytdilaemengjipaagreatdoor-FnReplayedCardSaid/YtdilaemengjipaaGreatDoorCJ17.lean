/- A part of the proof of the statement in the last file of this claim: texts on the language of the program and on its functions. No condition. -/
import Derived.Test.YtdilaemengjipaaGreatDoorCJ4
import Derived.Test.YtdilaemengjipaaGreatDoorCJ7
import Derived.Test.YtdilaemengjipaaGreatDoorCJ1
set_option linter.unusedVariables false
set_option linter.unusedSimpArgs false
set_option linter.unusedSectionVars false
open Option renaming some->YW,none->YX
open Bool renaming true->YY,false->YZ
open Decidable renaming decide->Y0
open Go.Proofs.Tryz
set_option maxHeartbeats 40000000
namespace Go.Proofs.YtdilaemengjipaaGreatDoor
set_option maxRecDepth 10000
open Go.RowKit
def lp(a:List av)(b:List av)(s0:Int):Option (Int⊕(Unit⊕Bool)):=
 cond (Y0 (s0<(a.length:Int)))
 ((aB a s0).bind λy1=>
 (aB b s0).bind λy2=>
 cond (!decide (y1=y2))
 (YW (.inr (.inr YZ)))
 (YW (.inl (aM (s0+1)))))
 (YW (.inr (.inl ())))
instance (a:List av)(b:List av):bp (lp a b):=⟨λs0=>(.sl (a.map aU)::.sl (b.map aU)::(U 10 (vi (a.length:Int)::vi s0::(U 12 [])))),λs0=>[]⟩
def fZ(a:List av)(b:List av):Option Bool:=
 cond (!decide ((a.length:Int)=(b.length:Int)))
 (YW YZ)
 ((aE (lp a b) NN 0).bind (bh (λo0=>
 YW YY) (λr=>YW r)))
instance (a:List av)(b:List av):CT prog (fZ a b):=⟨83,[.sl (a.map aU),.sl (b.map aU)],[],λr=>vb r,λr=>[],λH=>by replace H:=H0 H;unfold fZ at H;exact js func83 rfl ntmps83 results83 λQ hQ IP=>KJ⟩
def lV(a:az)(b:az):Option Bool:=
 cond (Y0 (a.ar=b.ar))
 (cond (Y0 (a.aY=b.aY))
 (cond (Y0 (a.aw=b.aw))
 (cond (Y0 (a.ab=b.ab))
 (cond (Y0 (a.aQ=b.aQ))
 (cond (Y0 (a.eJ=b.eJ))
 ((fZ a.aK b.aK).bind λy1=>
 cond y1
 (cond (Y0 (a.aO=b.aO))
 (cond (Y0 (a.state=b.state))
 (cond (Y0 (a.place=b.place))
 (YW (Y0 (a.bQ=b.bQ)))
 (YW YZ))
 (YW YZ))
 (YW YZ))
 (YW YZ))
 (YW YZ))
 (YW YZ))
 (YW YZ))
 (YW YZ))
 (YW YZ))
 (YW YZ)
instance (a:az)(b:az):CT prog (lV a b):=⟨80,[.ag (aZ a),.ag (aZ b)],[],λr=>vb r,λr=>[],cw (lV.eq_1 ..) func80 ntmps80 results80⟩
def jN(a:List aq)(b:List aq)(s0:Int):Option (Int⊕(Unit⊕Bool)):=
 cond (Y0 (s0<(a.length:Int)))
 ((aB a s0).bind λy1=>
 (aB b s0).bind λy2=>
 cond (!decide (y1=y2))
 (YW (.inr (.inr YZ)))
 (YW (.inl (aM (s0+1)))))
 (YW (.inr (.inl ())))
instance (a:List aq)(b:List aq):bp (jN a b):=⟨λs0=>(.sl (a.map aC)::.sl (b.map aC)::(U 10 (vi (a.length:Int)::vi s0::(U 12 [])))),λs0=>[]⟩
def gl(a:List aq)(b:List aq):Option Bool:=
 cond (!decide ((a.length:Int)=(b.length:Int)))
 (YW YZ)
 ((aE (jN a b) NN 0).bind (bh (λo0=>
 YW YY) (λr=>YW r)))
instance (a:List aq)(b:List aq):CT prog (gl a b):=⟨82,[.sl (a.map aC),.sl (b.map aC)],[],λr=>vb r,λr=>[],λH=>by replace H:=H0 H;unfold gl at H;exact js func82 rfl ntmps82 results82 λQ hQ IP=>KJ⟩
end Go.Proofs.YtdilaemengjipaaGreatDoor
