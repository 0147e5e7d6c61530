/- A part of the proof of the statement in the last file of this claim: texts on the language of the program and on its functions. No condition. -/
import Derived.Test.YtdilaemengjipaaGreatDoorCJ4
import Derived.Test.YtdilaemengjipaaGreatDoorCJ7
import Derived.Test.YtdilaemengjipaaGreatDoorCJ35
import Derived.Test.YtdilaemengjipaaGreatDoorCJ6
import Derived.Test.YtdilaemengjipaaGreatDoorCJ1
set_option linter.unusedVariables false
set_option linter.unusedSimpArgs false
set_option linter.unusedSectionVars false
open Option renaming some->YW,none->YX
open Bool renaming true->YY,false->YZ
open Decidable renaming decide->Y0
open Go.Proofs.Tryz
set_option maxHeartbeats 40000000
namespace Go.Proofs.YtdilaemengjipaaGreatDoor
set_option maxRecDepth 10000
open Go.RowKit
def lq(a:List ct)(b:List ct)(s0:Int):Option (Int⊕(Unit⊕Bool)):=
 cond (Y0 (s0<(a.length:Int)))
 ((aB a s0).bind λy1=>
 (aB b s0).bind λy2=>
 cond (!decide (y1=y2))
 (YW (.inr (.inr YZ)))
 (YW (.inl (aM (s0+1)))))
 (YW (.inr (.inl ())))
instance (a:List ct)(b:List ct):bp (lq a b):=⟨λs0=>(.sl (a.map cG)::.sl (b.map cG)::(U 10 (vi (a.length:Int)::vi s0::(U 12 [])))),λs0=>[]⟩
def iq(a:List ct)(b:List ct):Option Bool:=
 cond (!decide ((a.length:Int)=(b.length:Int)))
 (YW YZ)
 ((aE (lq a b) NN 0).bind (bh (λo0=>
 YW YY) (λr=>YW r)))
instance (a:List ct)(b:List ct):CT prog (iq a b):=⟨32,[.sl (a.map cG),.sl (b.map cG)],[],λr=>vb r,λr=>[],λH=>by replace H:=H0 H;unfold iq at H;exact js func32 rfl ntmps32 results32 λQ hQ IP=>KJ⟩
def lk(a:List bc)(b:List bc)(s0:Int):Option (Int⊕(Unit⊕Bool)):=
 cond (Y0 (s0<(a.length:Int)))
 ((aB a s0).bind λy1=>
 (aB b s0).bind λy2=>
 cond (!decide (y1=y2))
 (YW (.inr (.inr YZ)))
 (YW (.inl (aM (s0+1)))))
 (YW (.inr (.inl ())))
instance (a:List bc)(b:List bc):bp (lk a b):=⟨λs0=>(.sl (a.map bK)::.sl (b.map bK)::(U 10 (vi (a.length:Int)::vi s0::(U 12 [])))),λs0=>[]⟩
def ik(a:List bc)(b:List bc):Option Bool:=
 cond (!decide ((a.length:Int)=(b.length:Int)))
 (YW YZ)
 ((aE (lk a b) NN 0).bind (bh (λo0=>
 YW YY) (λr=>YW r)))
instance (a:List bc)(b:List bc):CT prog (ik a b):=⟨35,[.sl (a.map bK),.sl (b.map bK)],[],λr=>vb r,λr=>[],λH=>by replace H:=H0 H;unfold ik at H;exact js func35 rfl ntmps35 results35 λQ hQ IP=>KJ⟩
end Go.Proofs.YtdilaemengjipaaGreatDoor
