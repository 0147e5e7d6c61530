/- A part of the proof of this claim's last theorem. No condition. -/
import Derived.Test.YtbjbellffaenaaaGreatDoorCT10
set_option linter.all false
set_option maxRecDepth 10000
open Option renaming some->i,none->Zd
open Bool renaming true->Ze,false->Zf
open Decidable renaming decide->Zg
open List renaming length->Zm
open Option renaming bind->Zn
open _root_ renaming Int->g,List->d
open Go.Proofs.Tryz
set_option maxHeartbeats 40000000
namespace Go.Proofs.YtbjbellffaenaaaGreatDoor
open Go.RowKit
def mJ(a:d aI)(b:d aI)(s0:g):Option (g⊕(Unit⊕Bool)):=
 cond (Zg (s0<(Zm a:g)))
 (Zn (az a s0) λy1=>
 Zn (az b s0) λy2=>
 cond (!decide (y1=y2))
 (i (.inr (.inr Zf)))
 (i (.inl (aJ (s0+1)))))
 (i (.inr (.inl ())))
instance (a:d aI)(b:d aI):bm (mJ a b):=⟨λs0=>(.sl (a.map bA)::.sl (b.map bA)::(U 10 (vi (Zm a:g)::vi s0::(U 12 [])))),λs0=>[]⟩
def jk(a:d aI)(b:d aI):Option Bool:=
 cond (!decide ((Zm a:g)=(Zm b:g)))
 (i Zf)
 ((aB (mJ a b) NN 0).bind (bj (λo0=>
 i Ze) (λr=>i r)))
instance (a:d aI)(b:d aI):CT prog (jk a b):=⟨133,[.sl (a.map bA),.sl (b.map bA)],[],λr=>vb r,λr=>[],λH=>by replace H:=H0 H;unfold jk at H;exact je func133 rfl ntmps133 results133 λQ hQ Kf=>LA⟩
