/- A part of the proof of the statement in the last file of this claim: texts on the language of the program and on its functions. No condition. -/
import Derived.Test.YtdilaemengjipaaGreatDoorCJ4
import Derived.Test.YtdilaemengjipaaGreatDoorProg
import Derived.SevenTiedAt
import Derived.WalkKit
import Derived.Test.YtdilaemengjipaaGreatDoorCJ1
set_option linter.unusedVariables false
set_option linter.unusedSimpArgs false
set_option linter.unusedSectionVars false
open Option renaming some->YW,none->YX
open Bool renaming true->YY,false->YZ
open Decidable renaming decide->Y0
open Go.Proofs.Tryz
set_option maxHeartbeats 40000000
namespace Go.Proofs.YtdilaemengjipaaGreatDoor
set_option maxRecDepth 10000
open Go.RowKit
def dZ(a:Int)(b:Int):Option Int:=
 cond (Y0 (a<b))
 (YW (-1))
 (cond (Y0 (b<a))
 (YW 1)
 (YW 0))
instance (a:Int)(b:Int):CT prog (dZ a b):=⟨93,[vi a,vi b],[],λr=>vi r,λr=>[],cw (dZ.eq_1 ..) func93 ntmps93 results93⟩
def lx(list:List Int)(s0:Int):Option (Int⊕(Unit⊕Int)):=
 cond (Y0 (s0<(list.length:Int)))
 ((aB list s0).bind λy1=>
 cond (!decide (y1=0))
 (YW (.inr (.inr y1)))
 (YW (.inl (aM (s0+1)))))
 (YW (.inr (.inl ())))
instance (list:List Int):bp (lx list):=⟨λs0=>(U 5 (.sl (list.map aG)::vi (list.length:Int)::vi s0::(U 7 []))),λs0=>[]⟩
def o9(list:List Int):Option Int:=
 (aE (lx list) NN 0).bind (bh (λo0=>
 YW 0) (λr=>YW r))
instance (list:List Int):CT prog (o9 list):=⟨92,[.sl (list.map aG)],[],λr=>vi r,λr=>[],cw (o9.eq_1 ..) func92 ntmps92 results92⟩
def fY(a:aq)(b:aq):Option Int:=
 (dZ a.bk.day b.bk.day).bind λy1=>
 (dZ a.bk.bH b.bk.bH).bind λy2=>
 (dZ a.bz b.bz).bind λy3=>
 (o9 ([y1,y2,y3])).bind λy4=>
 YW y4
instance (a:aq)(b:aq):CT prog (fY a b):=⟨151,[.ag (aC a),.ag (aC b)],[],λr=>vi r,λr=>[],cw (fY.eq_1 ..) func151 ntmps151 results151⟩
def oz(l:List ByteArray)(p:ByteArray)(s0:Int):Option (Int⊕(Unit⊕Int)):=
 cond (Y0 (s0<(l.length:Int)))
 ((aB l s0).bind λy1=>
 cond (Y0 (y1=p))
 (YW (.inr (.inr s0)))
 (YW (.inl (aM (s0+1)))))
 (YW (.inr (.inl ())))
instance (l:List ByteArray)(p:ByteArray):bp (oz l p):=⟨λs0=>(.sl (l.map iU)::vs p::(U 3 (vi s0::(U 13 [])))),λs0=>[]⟩
def cb(l:List ByteArray)(p:ByteArray):Option Int:=
 (aE (oz l p) NN 0).bind (bh (λo0=>
 YW (-1)) (λr=>YW r))
instance (l:List ByteArray)(p:ByteArray):CT prog (cb l p):=⟨281,[.sl (l.map iU),vs p],[],λr=>vi r,λr=>[],cw (cb.eq_1 ..) func281 ntmps281 results281⟩
def rh(code:List Y6)(i:Int):Option Int:=
 cond (Y0 ((code.length:Int)<=i))
 (YW 0)
 ((aB code i).bind λy1=>
 YW (IntKind.i64.wrap y1.v))
instance (code:List Y6)(i:Int):CT prog (rh code i):=⟨20,[.sl (code.map Y5),vi i],[],λr=>vi r,λr=>[],cw (rh.eq_1 ..) func20 ntmps20 results20⟩
end Go.Proofs.YtdilaemengjipaaGreatDoor
namespace Go.Proofs.YtdilaemengjipaaGreatDoor
set_option maxRecDepth 10000
open Go
variable {P:Program}
theorem VL(H:P.funcs.toList.any Func.goes=YZ)(f:FuncId):P.goes f=false:=by
 have H':P.funcs.any Func.goes=false:=by rw[<-Array.any_toList];exact H
 unfold Program.goes;rw[H',Bool.and_false,Bool.or_false,List.any_eq_false];intro g _
 cases h:P.funcs[g]? with
 |none=>simp
 |some fn=>
  rw[List.any_eq_false]at H
  have:=H fn (by rw[Array.mem_toList_iff];exact Array.mem_of_getElem? h)
  simpa using this
theorem goes_by(H:P.funcs.toList.any Func.goes=YZ){c:OpenClaim}(hs:c.start=.entering):YZ=c.goesBy P:=by
 unfold OpenClaim.goesBy Program.goesAt Program.goesFrom;rw[hs]
 cases P.funcNamed c.func with
 |none=>rfl
 |some f=>simp[VL H f]
theorem goes0:prog.funcs.toList.any Func.goes=false:=by kernel_rfl
end Go.Proofs.YtdilaemengjipaaGreatDoor
