/- A part of the proof of the statement in the last file of this claim: texts on the language of the program and on its functions. No condition. -/
import Derived.Test.YtbalgkakkoocjaaGreatProg
import Derived.Test.YtbalgkakkoocjaaGreatCJ3
import Derived.IntWalk
import Derived.Test.YtbalgkakkoocjaaGreatCJ1
import Derived.Laws.AppendOwnNone
import Derived.Laws.BytesArg
set_option linter.unusedVariables false
set_option linter.unusedSimpArgs false
set_option linter.unusedSectionVars false
open Go.Value renaming int->ZF
open Go.IntKind renaming i64->ZG
open Go renaming undef->ZH
open Option renaming some->ZA,none->ZB
open Bool renaming true->ZC,false->ZD
open Decidable renaming decide->ZE
open Go.Proofs.Tryz
namespace Go.Proofs.YtbalgkakkoocjaaGreat
open List renaming range->Wq,all_eq_true->VS,mem_range->WQ,replicate->VW,mem_of_getElem?->VI,mem_map->V6,getElem?_map->VZ,getElem?_eq_some_iff->VH,getElem?_set_self->Wa,length_map->VX,length_cons->VL,length_nil->VO,mem_singleton->V8,mem_cons->VM,map_cons->Wh,drop_zero->Ys,not_mem_nil->VP,length_set->Ws,length->Yi,take_length->WA,getElem?_eq_getElem->VF,take_add_one->WY,set_eq_of_length_le->Yx
open Option.some renaming injEq->VR,inj->VG
open Nat renaming zero_add->VY,lt_or_ge->Wg,not_lt_zero->WE,zero_lt_one->Ym,le_refl->VJ,le_trans->Wb
open Option renaming map_eq_some_iff->VT,bind_some->VE,map_some->Wo,getD_some->Ww
open Go.RowKit
set_option maxRecDepth 10000
variable {A:Option Addr}{B Lt i id j k k' k2 l n nu wd ν ν':Nat}{E:Env}{KD:List LE->List PV->Mem->Prop}{QR cs ds ps qs sm zc:List PV}{T T':TypeId}{T2:TK}{a a2 b b2 c c2:Int}{draw io:Bool}{e':Exit}{es es2 vC:List (List PV)}{fl:List Nat}{g g':List LE}{hi lo:Option PV}{m0 m1:Mem}{o:Op}{oo:Oper}{op:BinOp}{ops:Array Oper}{p p' x x' y':PV}{rest:List Oper}{rs:List (Option Nat)}{v:Value}{w w' w0:World}{y:List PV->Prop}{α β γ ο:Type}{ρ:Nat->Option Nat}{σ:Nat->Nat}{F:Unit->Option α}{J:Option (ο⊕α)}{M:ο->Mem}{body:Int->Option (Int⊕ο)}{f:α->List PV}{r:β}{ys:List α}
@[go_sem] theorem tq2:prog.cellsOf 2=1/\prog.bytesOf 2=8/\pz prog 2=ZA [.v (ZF ZG 0)]:=by and_intros<;>kernel_rfl
@[go_sem] theorem tq3:prog.cellsOf 3=1/\prog.bytesOf 3=8/\pz prog 3=ZA [.v (ZF ZG 0)]:=by and_intros<;>kernel_rfl
@[go_sem] theorem tq4:prog.cellsOf 4=1/\prog.bytesOf 4=1/\pz prog 4=ZA [.v (.bool ZD)]:=by and_intros<;>kernel_rfl
@[go_sem] theorem tq5:prog.cellsOf 5=1/\prog.bytesOf 5=1/\pz prog 5=ZA [.v (.int .u8 0)]:=by and_intros<;>kernel_rfl
@[go_sem] theorem tq9:prog.cellsOf 9=1/\prog.bytesOf 9=16/\pz prog 9=ZA [.v (.string ⟨#[]⟩)]:=by and_intros<;>kernel_rfl
@[go_sem] theorem ZrH:prog.cellsOf 12=1/\prog.bytesOf 12=8/\pz prog 12=ZA [.v (.int .u64 0)]:=by and_intros<;>kernel_rfl
@[go_sem] theorem ZrI:prog.cellsOf 21=1/\prog.bytesOf 21=4/\pz prog 21=ZA [.v (.int .i32 0)]:=by and_intros<;>kernel_rfl
@[go_sem] theorem ZrJ:prog.cellsOf 22=1/\prog.bytesOf 22=24/\pz prog 22=ZA [.v (.slice ZB 0 0)]/\fW prog 22=1:=by and_intros<;>kernel_rfl
@[go_sem] theorem ZrK:prog.cellsOf 24=1/\prog.bytesOf 24=24/\pz prog 24=ZA [.v (.slice ZB 0 0)]/\fW prog 24=6:=by and_intros<;>kernel_rfl
@[go_sem] theorem ZrL:prog.cellsOf 25=1/\prog.bytesOf 25=24/\pz prog 25=ZA [.v (.slice ZB 0 0)]/\fW prog 25=1:=by and_intros<;>kernel_rfl
@[go_sem] theorem ZrM:prog.cellsOf 26=3/\prog.bytesOf 26=56/\pz prog 26=ZA [.v (.slice ZB 0 0),.v (.slice ZB 0 0),.v (ZF ZG 0)]/\prog.eqGuardType prog.depth 26=ZD/\prog.stoodInHeld 26=false:=by and_intros<;>kernel_rfl
@[go_sem] theorem ZrN:prog.cellsOf 27=3/\prog.bytesOf 27=56/\pz prog 27=ZA [.v (.slice ZB 0 0),.v (.slice ZB 0 0),.v (ZF ZG 0)]/\prog.eqGuardType prog.depth 27=ZD/\prog.stoodInHeld 27=false:=by and_intros<;>kernel_rfl
@[go_sem] theorem ZrO:prog.cellsOf 28=1/\prog.bytesOf 28=24/\pz prog 28=ZA [.v (.slice ZB 0 0)]/\fW prog 28=11:=by and_intros<;>kernel_rfl
@[go_sem] theorem ZrP:prog.cellsOf 29=1/\prog.bytesOf 29=24/\pz prog 29=ZA [.v (.slice ZB 0 0)]/\fW prog 29=4:=by and_intros<;>kernel_rfl
@[go_sem] theorem ZrQ:prog.cellsOf 30=1/\prog.bytesOf 30=24/\pz prog 30=ZA [.v (.slice ZB 0 0)]/\fW prog 30=2:=by and_intros<;>kernel_rfl
@[go_sem] theorem ZrR:prog.cellsOf 31=1/\prog.bytesOf 31=24/\pz prog 31=ZA [.v (.slice ZB 0 0)]/\fW prog 31=6:=by and_intros<;>kernel_rfl
@[go_sem] theorem ZrS:prog.cellsOf 32=10/\prog.bytesOf 32=192/\pz prog 32=ZA [.v (.slice ZB 0 0),.v (.slice ZB 0 0),.v (ZF ZG 0),.v (.slice ZB 0 0),.v (.slice ZB 0 0),.v (.slice ZB 0 0),.v (ZF ZG 0),.v (.slice ZB 0 0),.v (.slice ZB 0 0),.v (ZF ZG 0)]/\prog.eqGuardType prog.depth 32=ZD/\prog.stoodInHeld 32=false:=by and_intros<;>kernel_rfl
@[go_sem] theorem ZrT:prog.cellsOf 33=10/\prog.bytesOf 33=192/\pz prog 33=ZA [.v (.slice ZB 0 0),.v (.slice ZB 0 0),.v (ZF ZG 0),.v (.slice ZB 0 0),.v (.slice ZB 0 0),.v (.slice ZB 0 0),.v (ZF ZG 0),.v (.slice ZB 0 0),.v (.slice ZB 0 0),.v (ZF ZG 0)]/\prog.eqGuardType prog.depth 33=ZD/\prog.stoodInHeld 33=false:=by and_intros<;>kernel_rfl
@[go_sem] theorem ZrU:prog.cellsOf 34=1/\prog.bytesOf 34=24/\pz prog 34=ZA [.v (.slice ZB 0 0)]/\fW prog 34=2:=by and_intros<;>kernel_rfl
@[go_sem] theorem ZrV:prog.cellsOf 35=1/\prog.bytesOf 35=24/\pz prog 35=ZA [.v (.slice ZB 0 0)]/\fW prog 35=4:=by and_intros<;>kernel_rfl
@[go_sem] theorem ZrW:prog.cellsOf 36=1/\prog.bytesOf 36=24/\pz prog 36=ZA [.v (.slice ZB 0 0)]/\fW prog 36=7:=by and_intros<;>kernel_rfl
@[go_sem] theorem ZrX:prog.cellsOf 37=1/\prog.bytesOf 37=24/\pz prog 37=ZA [.v (.slice ZB 0 0)]/\fW prog 37=4:=by and_intros<;>kernel_rfl
@[go_sem] theorem ZrY:prog.cellsOf 38=1/\prog.bytesOf 38=24/\pz prog 38=ZA [.v (.slice ZB 0 0)]/\fW prog 38=13:=by and_intros<;>kernel_rfl
@[go_sem] theorem ZrZ:prog.cellsOf 39=16/\prog.bytesOf 39=336/\pz prog 39=ZA [.v (.slice ZB 0 0),.v (.slice ZB 0 0),.v (ZF ZG 0),.v (.slice ZB 0 0),.v (.slice ZB 0 0),.v (.slice ZB 0 0),.v (ZF ZG 0),.v (.slice ZB 0 0),.v (.slice ZB 0 0),.v (ZF ZG 0),.v (.slice ZB 0 0),.v (.slice ZB 0 0),.v (.slice ZB 0 0),.v (.slice ZB 0 0),.v (.slice ZB 0 0),.v (.slice ZB 0 0)]/\prog.eqGuardType prog.depth 39=ZD/\prog.stoodInHeld 39=false:=by and_intros<;>kernel_rfl
@[go_sem] theorem Zr0:prog.cellsOf 40=16/\prog.bytesOf 40=336/\pz prog 40=ZA [.v (.slice ZB 0 0),.v (.slice ZB 0 0),.v (ZF ZG 0),.v (.slice ZB 0 0),.v (.slice ZB 0 0),.v (.slice ZB 0 0),.v (ZF ZG 0),.v (.slice ZB 0 0),.v (.slice ZB 0 0),.v (ZF ZG 0),.v (.slice ZB 0 0),.v (.slice ZB 0 0),.v (.slice ZB 0 0),.v (.slice ZB 0 0),.v (.slice ZB 0 0),.v (.slice ZB 0 0)]/\prog.eqGuardType prog.depth 40=ZD/\prog.stoodInHeld 40=false:=by and_intros<;>kernel_rfl
@[go_sem] theorem Zr1:prog.cellsOf 41=3/\prog.bytesOf 41=32/\pz prog 41=ZA [.v (ZF ZG 0),.v (ZF ZG 0),.v (.string ⟨#[]⟩)]/\prog.eqGuardType prog.depth 41=ZD/\prog.stoodInHeld 41=false:=by and_intros<;>kernel_rfl
@[go_sem] theorem Zjc:prog.cellsOf 42=3/\prog.bytesOf 42=32/\pz prog 42=ZA [.v (ZF ZG 0),.v (ZF ZG 0),.v (.string ⟨#[]⟩)]/\prog.eqGuardType prog.depth 42=ZD/\prog.stoodInHeld 42=false:=by and_intros<;>kernel_rfl
@[go_sem] theorem Zr2:prog.cellsOf 43=7/\prog.bytesOf 43=88/\pz prog 43=ZA [.v (ZF ZG 0),.v (ZF ZG 0),.v (.string ⟨#[]⟩),.v (.string ⟨#[]⟩),.v (ZF ZG 0),.v (.slice ZB 0 0),.v (ZF ZG 0)]/\prog.eqGuardType prog.depth 43=ZD/\prog.stoodInHeld 43=false:=by and_intros<;>kernel_rfl
@[go_sem] theorem Zr3:prog.cellsOf 44=7/\prog.bytesOf 44=88/\pz prog 44=ZA [.v (ZF ZG 0),.v (ZF ZG 0),.v (.string ⟨#[]⟩),.v (.string ⟨#[]⟩),.v (ZF ZG 0),.v (.slice ZB 0 0),.v (ZF ZG 0)]/\prog.eqGuardType prog.depth 44=ZD/\prog.stoodInHeld 44=false:=by and_intros<;>kernel_rfl
@[go_sem] theorem Zr4:prog.cellsOf 45=2/\prog.bytesOf 45=16/\pz prog 45=ZA [.v (ZF ZG 0),.v (ZF ZG 0)]/\prog.eqGuardType prog.depth 45=ZD/\prog.stoodInHeld 45=false:=by and_intros<;>kernel_rfl
@[go_sem] theorem RE:prog.cellsOf 46=2/\prog.bytesOf 46=16/\pz prog 46=ZA [.v (ZF ZG 0),.v (ZF ZG 0)]/\prog.eqGuardType prog.depth 46=ZD/\prog.stoodInHeld 46=false:=by and_intros<;>kernel_rfl
@[go_sem] theorem Zr5:prog.cellsOf 47=13/\prog.bytesOf 47=136/\pz prog 47=ZA [.v (ZF ZG 0),.v (ZF ZG 0),.v (ZF ZG 0),.v (.string ⟨#[]⟩),.v (.string ⟨#[]⟩),.v (ZF ZG 0),.v (.slice ZB 0 0),.v (ZF ZG 0),.v (ZF ZG 0),.v (ZF ZG 0),.v (ZF ZG 0),.v (ZF ZG 0),.v (ZF ZG 0)]/\prog.eqGuardType prog.depth 47=ZD/\prog.stoodInHeld 47=false:=by and_intros<;>kernel_rfl
@[go_sem] theorem Zr6:prog.cellsOf 48=13/\prog.bytesOf 48=136/\pz prog 48=ZA [.v (ZF ZG 0),.v (ZF ZG 0),.v (ZF ZG 0),.v (.string ⟨#[]⟩),.v (.string ⟨#[]⟩),.v (ZF ZG 0),.v (.slice ZB 0 0),.v (ZF ZG 0),.v (ZF ZG 0),.v (ZF ZG 0),.v (ZF ZG 0),.v (ZF ZG 0),.v (ZF ZG 0)]/\prog.eqGuardType prog.depth 48=ZD/\prog.stoodInHeld 48=false:=by and_intros<;>kernel_rfl
@[go_sem] theorem Zr7:prog.cellsOf 54=1/\prog.bytesOf 54=24/\pz prog 54=ZA [.v (.slice ZB 0 0)]/\fW prog 54=6:=by and_intros<;>kernel_rfl
@[go_sem] theorem Zr8:prog.cellsOf 55=3/\prog.bytesOf 55=56/\pz prog 55=ZA [.v (.slice ZB 0 0),.v (.slice ZB 0 0),.v (ZF ZG 0)]/\prog.eqGuardType prog.depth 55=ZD/\prog.stoodInHeld 55=false:=by and_intros<;>kernel_rfl
@[go_sem] theorem Zr9:prog.cellsOf 56=3/\prog.bytesOf 56=56/\pz prog 56=ZA [.v (.slice ZB 0 0),.v (.slice ZB 0 0),.v (ZF ZG 0)]/\prog.eqGuardType prog.depth 56=ZD/\prog.stoodInHeld 56=false:=by and_intros<;>kernel_rfl
@[go_sem] theorem Zsa:prog.cellsOf 57=1/\prog.bytesOf 57=24/\pz prog 57=ZA [.v (.slice ZB 0 0)]/\fW prog 57=11:=by and_intros<;>kernel_rfl
@[go_sem] theorem Zsb:prog.cellsOf 58=1/\prog.bytesOf 58=24/\pz prog 58=ZA [.v (.slice ZB 0 0)]/\fW prog 58=4:=by and_intros<;>kernel_rfl
@[go_sem] theorem Zsc:prog.cellsOf 59=1/\prog.bytesOf 59=24/\pz prog 59=ZA [.v (.slice ZB 0 0)]/\fW prog 59=2:=by and_intros<;>kernel_rfl
@[go_sem] theorem Zsd:prog.cellsOf 60=1/\prog.bytesOf 60=24/\pz prog 60=ZA [.v (.slice ZB 0 0)]/\fW prog 60=6:=by and_intros<;>kernel_rfl
@[go_sem] theorem Zse:prog.cellsOf 61=10/\prog.bytesOf 61=192/\pz prog 61=ZA [.v (.slice ZB 0 0),.v (.slice ZB 0 0),.v (ZF ZG 0),.v (.slice ZB 0 0),.v (.slice ZB 0 0),.v (.slice ZB 0 0),.v (ZF ZG 0),.v (.slice ZB 0 0),.v (.slice ZB 0 0),.v (ZF ZG 0)]/\prog.eqGuardType prog.depth 61=ZD/\prog.stoodInHeld 61=false:=by and_intros<;>kernel_rfl
@[go_sem] theorem Zsf:prog.cellsOf 62=10/\prog.bytesOf 62=192/\pz prog 62=ZA [.v (.slice ZB 0 0),.v (.slice ZB 0 0),.v (ZF ZG 0),.v (.slice ZB 0 0),.v (.slice ZB 0 0),.v (.slice ZB 0 0),.v (ZF ZG 0),.v (.slice ZB 0 0),.v (.slice ZB 0 0),.v (ZF ZG 0)]/\prog.eqGuardType prog.depth 62=ZD/\prog.stoodInHeld 62=false:=by and_intros<;>kernel_rfl
@[go_sem] theorem Zsg:prog.cellsOf 63=1/\prog.bytesOf 63=24/\pz prog 63=ZA [.v (.slice ZB 0 0)]/\fW prog 63=2:=by and_intros<;>kernel_rfl
@[go_sem] theorem Zsh:prog.cellsOf 64=1/\prog.bytesOf 64=24/\pz prog 64=ZA [.v (.slice ZB 0 0)]/\fW prog 64=4:=by and_intros<;>kernel_rfl
@[go_sem] theorem Zsi:prog.cellsOf 65=1/\prog.bytesOf 65=24/\pz prog 65=ZA [.v (.slice ZB 0 0)]/\fW prog 65=7:=by and_intros<;>kernel_rfl
@[go_sem] theorem Zsj:prog.cellsOf 66=1/\prog.bytesOf 66=24/\pz prog 66=ZA [.v (.slice ZB 0 0)]/\fW prog 66=4:=by and_intros<;>kernel_rfl
@[go_sem] theorem Zsk:prog.cellsOf 67=1/\prog.bytesOf 67=24/\pz prog 67=ZA [.v (.slice ZB 0 0)]/\fW prog 67=13:=by and_intros<;>kernel_rfl
@[go_sem] theorem Zsl:prog.cellsOf 68=16/\prog.bytesOf 68=336/\pz prog 68=ZA [.v (.slice ZB 0 0),.v (.slice ZB 0 0),.v (ZF ZG 0),.v (.slice ZB 0 0),.v (.slice ZB 0 0),.v (.slice ZB 0 0),.v (ZF ZG 0),.v (.slice ZB 0 0),.v (.slice ZB 0 0),.v (ZF ZG 0),.v (.slice ZB 0 0),.v (.slice ZB 0 0),.v (.slice ZB 0 0),.v (.slice ZB 0 0),.v (.slice ZB 0 0),.v (.slice ZB 0 0)]/\prog.eqGuardType prog.depth 68=ZD/\prog.stoodInHeld 68=false:=by and_intros<;>kernel_rfl
@[go_sem] theorem Zsm:prog.cellsOf 69=16/\prog.bytesOf 69=336/\pz prog 69=ZA [.v (.slice ZB 0 0),.v (.slice ZB 0 0),.v (ZF ZG 0),.v (.slice ZB 0 0),.v (.slice ZB 0 0),.v (.slice ZB 0 0),.v (ZF ZG 0),.v (.slice ZB 0 0),.v (.slice ZB 0 0),.v (ZF ZG 0),.v (.slice ZB 0 0),.v (.slice ZB 0 0),.v (.slice ZB 0 0),.v (.slice ZB 0 0),.v (.slice ZB 0 0),.v (.slice ZB 0 0)]/\prog.eqGuardType prog.depth 69=ZD/\prog.stoodInHeld 69=false:=by and_intros<;>kernel_rfl
@[go_sem] theorem Zsn:prog.cellsOf 70=3/\prog.bytesOf 70=32/\pz prog 70=ZA [.v (ZF ZG 0),.v (ZF ZG 0),.v (.string ⟨#[]⟩)]/\prog.eqGuardType prog.depth 70=ZD/\prog.stoodInHeld 70=false:=by and_intros<;>kernel_rfl
@[go_sem] theorem Zso:prog.cellsOf 71=7/\prog.bytesOf 71=88/\pz prog 71=ZA [.v (ZF ZG 0),.v (ZF ZG 0),.v (.string ⟨#[]⟩),.v (.string ⟨#[]⟩),.v (ZF ZG 0),.v (.slice ZB 0 0),.v (ZF ZG 0)]/\prog.eqGuardType prog.depth 71=ZD/\prog.stoodInHeld 71=false:=by and_intros<;>kernel_rfl
@[go_sem] theorem Zsp:prog.cellsOf 72=7/\prog.bytesOf 72=88/\pz prog 72=ZA [.v (ZF ZG 0),.v (ZF ZG 0),.v (.string ⟨#[]⟩),.v (.string ⟨#[]⟩),.v (ZF ZG 0),.v (.slice ZB 0 0),.v (ZF ZG 0)]/\prog.eqGuardType prog.depth 72=ZD/\prog.stoodInHeld 72=false:=by and_intros<;>kernel_rfl
@[go_sem] theorem Zsq:prog.cellsOf 73=2/\prog.bytesOf 73=16/\pz prog 73=ZA [.v (ZF ZG 0),.v (ZF ZG 0)]/\prog.eqGuardType prog.depth 73=ZD/\prog.stoodInHeld 73=false:=by and_intros<;>kernel_rfl
@[go_sem] theorem Zsr:prog.cellsOf 74=13/\prog.bytesOf 74=136/\pz prog 74=ZA [.v (ZF ZG 0),.v (ZF ZG 0),.v (ZF ZG 0),.v (.string ⟨#[]⟩),.v (.string ⟨#[]⟩),.v (ZF ZG 0),.v (.slice ZB 0 0),.v (ZF ZG 0),.v (ZF ZG 0),.v (ZF ZG 0),.v (ZF ZG 0),.v (ZF ZG 0),.v (ZF ZG 0)]/\prog.eqGuardType prog.depth 74=ZD/\prog.stoodInHeld 74=false:=by and_intros<;>kernel_rfl
@[go_sem] theorem Zss:prog.cellsOf 75=13/\prog.bytesOf 75=136/\pz prog 75=ZA [.v (ZF ZG 0),.v (ZF ZG 0),.v (ZF ZG 0),.v (.string ⟨#[]⟩),.v (.string ⟨#[]⟩),.v (ZF ZG 0),.v (.slice ZB 0 0),.v (ZF ZG 0),.v (ZF ZG 0),.v (ZF ZG 0),.v (ZF ZG 0),.v (ZF ZG 0),.v (ZF ZG 0)]/\prog.eqGuardType prog.depth 75=ZD/\prog.stoodInHeld 75=false:=by and_intros<;>kernel_rfl
@[go_sem] theorem ZqN:prog.cellsOf 103=2/\prog.bytesOf 103=32/\pz prog 103=ZA [.v (.string ⟨#[]⟩),.v (.string ⟨#[]⟩)]/\prog.eqGuardType prog.depth 103=ZD/\prog.stoodInHeld 103=false:=by and_intros<;>kernel_rfl
@[go_sem] theorem ZaJ:prog.cellsOf 104=2/\prog.bytesOf 104=32/\pz prog 104=ZA [.v (.string ⟨#[]⟩),.v (.string ⟨#[]⟩)]/\prog.eqGuardType prog.depth 104=ZD/\prog.stoodInHeld 104=false:=by and_intros<;>kernel_rfl
@[go_sem] theorem ZqO:prog.cellsOf 106=4/\prog.bytesOf 106=32/\pz prog 106=ZA [.v (ZF ZG 0),.v (ZF ZG 0),.v (ZF ZG 0),.v (ZF ZG 0)]/\prog.eqGuardType prog.depth 106=ZD/\prog.stoodInHeld 106=false:=by and_intros<;>kernel_rfl
@[go_sem] theorem ZaK:prog.cellsOf 107=4/\prog.bytesOf 107=32/\pz prog 107=ZA [.v (ZF ZG 0),.v (ZF ZG 0),.v (ZF ZG 0),.v (ZF ZG 0)]/\prog.eqGuardType prog.depth 107=ZD/\prog.stoodInHeld 107=false:=by and_intros<;>kernel_rfl
@[go_sem] theorem ZqP:prog.cellsOf 110=4/\prog.bytesOf 110=32/\pz prog 110=ZA [.v (ZF ZG 0),.v (ZF ZG 0),.v (ZF ZG 0),.v (ZF ZG 0)]/\prog.eqGuardType prog.depth 110=ZD/\prog.stoodInHeld 110=false:=by and_intros<;>kernel_rfl
@[go_sem] theorem ZaL:prog.cellsOf 111=4/\prog.bytesOf 111=32/\pz prog 111=ZA [.v (ZF ZG 0),.v (ZF ZG 0),.v (ZF ZG 0),.v (ZF ZG 0)]/\prog.eqGuardType prog.depth 111=ZD/\prog.stoodInHeld 111=false:=by and_intros<;>kernel_rfl
@[go_sem] theorem ZqQ:prog.cellsOf 138=3/\prog.bytesOf 138=40/\pz prog 138=ZA [.v (.slice ZB 0 0),.v (ZF ZG 0),.v (ZF ZG 0)]/\prog.eqGuardType prog.depth 138=ZD/\prog.stoodInHeld 138=false:=by and_intros<;>kernel_rfl
@[go_sem] theorem ZqR:prog.cellsOf 139=3/\prog.bytesOf 139=40/\pz prog 139=ZA [.v (.slice ZB 0 0),.v (ZF ZG 0),.v (ZF ZG 0)]/\prog.eqGuardType prog.depth 139=ZD/\prog.stoodInHeld 139=false:=by and_intros<;>kernel_rfl
@[go_sem] theorem ZqS:prog.cellsOf 154=11/\prog.bytesOf 154=128/\pz prog 154=ZA [.v (.string ⟨#[]⟩),.v (.string ⟨#[]⟩),.v (ZF ZG 0),.v (ZF ZG 0),.v (ZF ZG 0),.v (ZF ZG 0),.v (.slice ZB 0 0),.v (ZF ZG 0),.v (ZF ZG 0),.v (.string ⟨#[]⟩),.v (ZF ZG 0)]/\prog.eqGuardType prog.depth 154=ZD/\prog.stoodInHeld 154=false:=by and_intros<;>kernel_rfl
@[go_sem] theorem ZqT:prog.cellsOf 155=11/\prog.bytesOf 155=128/\pz prog 155=ZA [.v (.string ⟨#[]⟩),.v (.string ⟨#[]⟩),.v (ZF ZG 0),.v (ZF ZG 0),.v (ZF ZG 0),.v (ZF ZG 0),.v (.slice ZB 0 0),.v (ZF ZG 0),.v (ZF ZG 0),.v (.string ⟨#[]⟩),.v (ZF ZG 0)]/\prog.eqGuardType prog.depth 155=ZD/\prog.stoodInHeld 155=false:=by and_intros<;>kernel_rfl
@[go_sem] theorem ZqU:prog.cellsOf 173=6/\prog.bytesOf 173=64/\pz prog 173=ZA [.v (.string ⟨#[]⟩),.v (.string ⟨#[]⟩),.v (ZF ZG 0),.v (ZF ZG 0),.v (ZF ZG 0),.v (ZF ZG 0)]/\prog.eqGuardType prog.depth 173=ZD/\prog.stoodInHeld 173=false:=by and_intros<;>kernel_rfl
@[go_sem] theorem ZaM:prog.cellsOf 174=6/\prog.bytesOf 174=64/\pz prog 174=ZA [.v (.string ⟨#[]⟩),.v (.string ⟨#[]⟩),.v (ZF ZG 0),.v (ZF ZG 0),.v (ZF ZG 0),.v (ZF ZG 0)]/\prog.eqGuardType prog.depth 174=ZD/\prog.stoodInHeld 174=false:=by and_intros<;>kernel_rfl
@[go_sem] theorem ZqV:prog.cellsOf 176=4/\prog.bytesOf 176=32/\pz prog 176=ZA [.v (ZF ZG 0),.v (ZF ZG 0),.v (ZF ZG 0),.v (ZF ZG 0)]/\prog.eqGuardType prog.depth 176=ZD/\prog.stoodInHeld 176=false:=by and_intros<;>kernel_rfl
@[go_sem] theorem ZaN:prog.cellsOf 177=4/\prog.bytesOf 177=32/\pz prog 177=ZA [.v (ZF ZG 0),.v (ZF ZG 0),.v (ZF ZG 0),.v (ZF ZG 0)]/\prog.eqGuardType prog.depth 177=ZD/\prog.stoodInHeld 177=false:=by and_intros<;>kernel_rfl
@[go_sem] theorem ZqW:prog.cellsOf 180=6/\prog.bytesOf 180=56/\pz prog 180=ZA [.v (ZF ZG 0),.v (ZF ZG 0),.v (ZF ZG 0),.v (.string ⟨#[]⟩),.v (ZF ZG 0),.v (ZF ZG 0)]/\prog.eqGuardType prog.depth 180=ZD/\prog.stoodInHeld 180=false:=by and_intros<;>kernel_rfl
@[go_sem] theorem ZaO:prog.cellsOf 181=6/\prog.bytesOf 181=56/\pz prog 181=ZA [.v (ZF ZG 0),.v (ZF ZG 0),.v (ZF ZG 0),.v (.string ⟨#[]⟩),.v (ZF ZG 0),.v (ZF ZG 0)]/\prog.eqGuardType prog.depth 181=ZD/\prog.stoodInHeld 181=false:=by and_intros<;>kernel_rfl
@[go_sem] theorem ZqX:prog.cellsOf 188=2/\prog.bytesOf 188=32/\pz prog 188=ZA [.v (.string ⟨#[]⟩),.v (.string ⟨#[]⟩)]/\prog.eqGuardType prog.depth 188=ZD/\prog.stoodInHeld 188=false:=by and_intros<;>kernel_rfl
@[go_sem] theorem ZqY:prog.cellsOf 198=4/\prog.bytesOf 198=32/\pz prog 198=ZA [.v (ZF ZG 0),.v (ZF ZG 0),.v (ZF ZG 0),.v (ZF ZG 0)]/\prog.eqGuardType prog.depth 198=ZD/\prog.stoodInHeld 198=false:=by and_intros<;>kernel_rfl
@[go_sem] theorem ZqZ:prog.cellsOf 200=4/\prog.bytesOf 200=32/\pz prog 200=ZA [.v (ZF ZG 0),.v (ZF ZG 0),.v (ZF ZG 0),.v (ZF ZG 0)]/\prog.eqGuardType prog.depth 200=ZD/\prog.stoodInHeld 200=false:=by and_intros<;>kernel_rfl
@[go_sem] theorem Zq0:prog.cellsOf 217=1/\prog.bytesOf 217=24/\pz prog 217=ZA [.v (.slice ZB 0 0)]/\fW prog 217=1:=by and_intros<;>kernel_rfl
@[go_sem] theorem Zq1:prog.cellsOf 258=11/\prog.bytesOf 258=128/\pz prog 258=ZA [.v (.string ⟨#[]⟩),.v (.string ⟨#[]⟩),.v (ZF ZG 0),.v (ZF ZG 0),.v (ZF ZG 0),.v (ZF ZG 0),.v (.slice ZB 0 0),.v (ZF ZG 0),.v (ZF ZG 0),.v (.string ⟨#[]⟩),.v (ZF ZG 0)]/\prog.eqGuardType prog.depth 258=ZD/\prog.stoodInHeld 258=false:=by and_intros<;>kernel_rfl
@[go_sem] theorem Zq2:prog.cellsOf 259=11/\prog.bytesOf 259=128/\pz prog 259=ZA [.v (.string ⟨#[]⟩),.v (.string ⟨#[]⟩),.v (ZF ZG 0),.v (ZF ZG 0),.v (ZF ZG 0),.v (ZF ZG 0),.v (.slice ZB 0 0),.v (ZF ZG 0),.v (ZF ZG 0),.v (.string ⟨#[]⟩),.v (ZF ZG 0)]/\prog.eqGuardType prog.depth 259=ZD/\prog.stoodInHeld 259=false:=by and_intros<;>kernel_rfl
@[go_sem] theorem Zq3:prog.cellsOf 261=6/\prog.bytesOf 261=56/\pz prog 261=ZA [.v (ZF ZG 0),.v (ZF ZG 0),.v (ZF ZG 0),.v (.string ⟨#[]⟩),.v (ZF ZG 0),.v (ZF ZG 0)]/\prog.eqGuardType prog.depth 261=ZD/\prog.stoodInHeld 261=false:=by and_intros<;>kernel_rfl
@[go_sem] theorem Zq4:prog.cellsOf 262=6/\prog.bytesOf 262=56/\pz prog 262=ZA [.v (ZF ZG 0),.v (ZF ZG 0),.v (ZF ZG 0),.v (.string ⟨#[]⟩),.v (ZF ZG 0),.v (ZF ZG 0)]/\prog.eqGuardType prog.depth 262=ZD/\prog.stoodInHeld 262=false:=by and_intros<;>kernel_rfl
@[go_sem] theorem Zq5:prog.cellsOf 268=4/\prog.bytesOf 268=32/\pz prog 268=ZA [.v (ZF ZG 0),.v (ZF ZG 0),.v (ZF ZG 0),.v (ZF ZG 0)]/\prog.eqGuardType prog.depth 268=ZD/\prog.stoodInHeld 268=false:=by and_intros<;>kernel_rfl
@[go_sem] theorem Zq6:prog.cellsOf 269=4/\prog.bytesOf 269=32/\pz prog 269=ZA [.v (ZF ZG 0),.v (ZF ZG 0),.v (ZF ZG 0),.v (ZF ZG 0)]/\prog.eqGuardType prog.depth 269=ZD/\prog.stoodInHeld 269=false:=by and_intros<;>kernel_rfl
@[go_sem] theorem Zq7:prog.cellsOf 277=1/\prog.bytesOf 277=8/\pz prog 277=ZA [.v (.int .u64 0)]:=by and_intros<;>kernel_rfl
@[go_sem] theorem Zq8:prog.cellsOf 281=1/\prog.bytesOf 281=24/\pz prog 281=ZA [.v (.slice ZB 0 0)]/\fW prog 281=1:=by and_intros<;>kernel_rfl
@[go_sem] theorem Zq9:prog.cellsOf 301=6/\prog.bytesOf 301=64/\pz prog 301=ZA [.v (.string ⟨#[]⟩),.v (.string ⟨#[]⟩),.v (ZF ZG 0),.v (ZF ZG 0),.v (ZF ZG 0),.v (ZF ZG 0)]/\prog.eqGuardType prog.depth 301=ZD/\prog.stoodInHeld 301=false:=by and_intros<;>kernel_rfl
@[go_sem] theorem Zra:prog.cellsOf 309=1/\prog.bytesOf 309=24/\pz prog 309=ZA [.v (.slice ZB 0 0)]/\fW prog 309=1:=by and_intros<;>kernel_rfl
@[go_sem] theorem Zrb:prog.cellsOf 360=1/\prog.bytesOf 360=4/\pz prog 360=ZA [.v (.int .u32 0)]:=by and_intros<;>kernel_rfl
@[go_sem] theorem Zrc:prog.cellsOf 362=1/\prog.bytesOf 362=8/\pz prog 362=ZA [.v (.int .u64 0)]:=by and_intros<;>kernel_rfl
attribute [go_sem] Tryz.underlying2 Tryz.underlying3 Tryz.underlying4 Tryz.underlying5 Tryz.underlying9 Tryz.underlying12 Tryz.underlying21 Tryz.underlying22 Tryz.underlying24 Tryz.underlying25 Tryz.underlying26 Tryz.underlying27 Tryz.underlying28 Tryz.underlying29 Tryz.underlying30 Tryz.underlying31 Tryz.underlying32 Tryz.underlying33 Tryz.underlying34 Tryz.underlying35 Tryz.underlying36 Tryz.underlying37 Tryz.underlying38 Tryz.underlying39 Tryz.underlying40 Tryz.underlying41 Tryz.underlying42 Tryz.underlying43 Tryz.underlying44 Tryz.underlying45 Tryz.underlying46 Tryz.underlying47 Tryz.underlying48 Tryz.underlying54 Tryz.underlying55 Tryz.underlying56 Tryz.underlying57 Tryz.underlying58 Tryz.underlying59 Tryz.underlying60 Tryz.underlying61 Tryz.underlying62 Tryz.underlying63 Tryz.underlying64 Tryz.underlying65 Tryz.underlying66 Tryz.underlying67 Tryz.underlying68 Tryz.underlying69 Tryz.underlying70 Tryz.underlying71 Tryz.underlying72 Tryz.underlying73 Tryz.underlying74 Tryz.underlying75 Tryz.underlying103 Tryz.underlying104 Tryz.underlying106 Tryz.underlying107 Tryz.underlying110 Tryz.underlying111 Tryz.underlying138 Tryz.underlying139 Tryz.underlying154 Tryz.underlying155 Tryz.underlying173 Tryz.underlying174 Tryz.underlying176 Tryz.underlying177 Tryz.underlying180 Tryz.underlying181 Tryz.underlying188 Tryz.underlying198 Tryz.underlying200 Tryz.underlying217 Tryz.underlying258 Tryz.underlying259 Tryz.underlying261 Tryz.underlying262 Tryz.underlying268 Tryz.underlying269 Tryz.underlying277 Tryz.underlying281 Tryz.underlying301 Tryz.underlying309 Tryz.underlying360 Tryz.underlying362
theorem MY {P : Program} (h : (match P.funcs[k]? with | some f => f.body.isSome && !(f.name == "runtime.NumGoroutine") | none => ZD) = ZC) : BW P k := by
 split at h
 ·rename_i f e
  simp only[Bool.and_eq_true,Bool.not_eq_true']at h
  exact⟨f,e,h.1,h.2⟩
 ·cases h
theorem fb0 : (Wq 315).all (λk => ZE (k < 2) || match prog.funcs[k]? with | some f => f.body.isSome && !(f.name == "runtime.NumGoroutine") | none => ZD) = true := by kernel_rfl
@[go_sem] theorem fr0(h:2<=k)(h2:k<315):BW prog k:=MY (by
 have:=VS.1 fb0 k (WQ.2 h2);rw[Yz YG]at this
 exact this)
theorem fb1 : (Wq 330).all (λk => ZE (k < 319) || match prog.funcs[k]? with | some f => f.body.isSome && !(f.name == "runtime.NumGoroutine") | none => ZD) = true := by kernel_rfl
@[go_sem] theorem fr1(h:319<=k)(h2:k<330):BW prog k:=MY (by
 have:=VS.1 fb1 k (WQ.2 h2);rw[Yz YG]at this
 exact this)
theorem fb2 : (Wq 384).all (λk => ZE (k < 339) || match prog.funcs[k]? with | some f => f.body.isSome && !(f.name == "runtime.NumGoroutine") | none => ZD) = true := by kernel_rfl
@[go_sem] theorem fr2(h:339<=k)(h2:k<384):BW prog k:=MY (by
 have:=VS.1 fb2 k (WQ.2 h2);rw[Yz YG]at this
 exact this)
/-! Zoq the ZcR ZrD not go ZrA. -/
@[congr] theorem Zod{P:Program}{K:List PV->Mem->Prop}{t:List PV}{t':List PV}{m:Mem}{m':Mem}(yQ:t=t')(sG:m=m'):vp P ops K rest t m=vp P ops K rest t' m':=by subst yQ sG;rfl
@[congr] theorem Zmy{P:Program}{base:Nat}{t:List PV}{t':List PV}{m:Mem}{m':Mem}(yQ:t=t')(sG:m=m')(h_g:g=g'):kj P wd base fl ops KD i rest g t m=kj P wd base fl ops KD i rest g' t' m':=by subst yQ sG h_g;rfl
@[congr] theorem ZoA{P:Program}{K:List PV->Mem->Prop}{t:List PV}{t':List PV}{d:Option Tmp}{m:Mem}{m':Mem}(yQ:t=t')(h_p:p=p')(sG:m=m'):nxt P ops K rest t d p m=nxt P ops K rest t' d p' m':=by subst yQ h_p sG;rfl
@[congr] theorem Zoy{P:Program}{base:Nat}{t:List PV}{t':List PV}{d:Option Tmp}{m:Mem}{m':Mem}(yQ:t=t')(h_p:p=p')(sG:m=m')(h_g:g=g'):nxd P wd base fl ops KD i rest g t d p m=nxd P wd base fl ops KD i rest g' t' d p' m':=by subst yQ h_p sG h_g;rfl
@[congr] theorem ZoI{P:Program}{K:List PV->Mem->Prop}{d:Option Tmp}{m:Mem}{m':Mem}{t:List PV}{t':List PV}(sG:m=m')(yQ:t=t'):rgo P ops K rest d o m t=rgo P ops K rest d o m' t':=by subst sG yQ;rfl
@[congr] theorem ZoE{P:Program}{K:List PV->Mem->Prop}{d:Option Tmp}{m:Mem}{m':Mem}{t:List PV}{t':List PV}(sG:m=m')(yQ:t=t'):pgo P ops K rest d m t=pgo P ops K rest d m' t':=by subst sG yQ;rfl
@[congr] theorem ZoH{P:Program}{base:Nat}{m:Mem}{m':Mem}{t:List PV}{t':List PV}(sG:m=m')(yQ:t=t'):rge P wd base fl ops KD i rest g oo m t=rge P wd base fl ops KD i rest g oo m' t':=by subst sG yQ;rfl
@[congr] theorem Zoz{P:Program}{base:Nat}{t t':List PV}{ρ:List Nat}{m m':Mem}(yQ:t=t')(h_p:p=p')(sG:m=m')(h_n:ν=ν'):nxe P wd base fl ops KD i rest g oo ν t ρ p m=nxe P wd base fl ops KD i rest g oo ν' t' ρ p' m':=by subst yQ h_p sG h_n;rfl
@[congr] theorem Zoc{P:Program}{t t':List PV}{m m':Mem}{K:List Nat->PV->Mem->Prop}(h_n:ν=ν')(yQ:t=t')(sG:m=m'):TX P wd ν o t m K=TX P wd ν' o t' m' K:=by subst h_n yQ sG;rfl
@[congr] theorem ZoB{P:Program}{f:FuncId}{m m':Mem}{K:List Nat->PV->Mem->Prop}(h_n:ν=ν')(h_p:ps=QR)(sG:m=m'):pIO P wd ν f ps m K=pIO P wd ν' f QR m' K:=by subst h_n h_p sG;rfl
@[congr] theorem ZoG{P:Program}{base:Nat}{m:Mem}{m':Mem}{t:List PV}{t':List PV}(sG:m=m')(yQ:t=t'):rgd P wd base fl ops KD i rest g oo m t=rgd P wd base fl ops KD i rest g oo m' t':=by subst sG yQ;rfl
@[congr] theorem ZoD{P:Program}{base:Nat}{m:Mem}{m':Mem}{t:List PV}{t':List PV}(sG:m=m')(yQ:t=t'):pgd P wd base fl ops KD i rest g oo m t=pgd P wd base fl ops KD i rest g oo m' t':=by subst sG yQ;rfl
@[congr] theorem Zmt{b:Bool}{b':Bool}{n:List PV->Prop}{t:List PV}{t':List PV}(h_b:b=b')(yQ:t=t'):xE b y n t i=xE b' y n t' i:=by subst h_b yQ;rfl
@[congr] theorem Zox{t:List PV}{t':List PV}{b:Bool}{n:List PV->Prop}(h_p:p=p')(yQ:t=t'):gdV p i t b y n=gdV p' i t' b y n:=by subst h_p yQ;rfl
@[congr] theorem ZqE{d:Option Tmp}{t:List PV}{t':List PV}{b:Bool}{n:List PV->Prop}(yQ:t=t'):gd d t b y n=gd d t' b y n:=by subst yQ;rfl
@[congr] theorem Zmv{P:Program}{cs:Option (List PV)}{sm:Option (List PV)}{K:PV->Prop}(Zkw:cs=sm):va P T cs K=va P T sm K:=by subst Zkw;rfl
@[congr] theorem Zn5{P:Program}{y:PV}{K:PV->Prop}(CV:x=x')(h_y:y=y'):QC P op T x y K=QC P op T x' y' K:=by subst CV h_y;rfl
@[congr] theorem ZoC{op:UnOp}{K:PV->Prop}(CV:x=x'):pUn op x K=pUn op x' K:=by subst CV;rfl
@[congr] theorem ZlW{P:Program}{m:Mem}{m':Mem}{U:TypeId}{K:PV->Prop}(sG:m=m')(CV:x=x'):uT P m T U x K=uT P m' T U x' K:=by subst sG CV;rfl
@[congr] theorem ZlZ{P:Program}{m:Mem}{m':Mem}{lo':Option PV}{lS:Option PV}{K:PV->Prop}(sG:m=m')(CV:x=x')(Zpc:lo=lo')(Zpb:hi=lS):lq P m T x lo hi K=lq P m' T x' lo' lS K:=by subst sG CV Zpc Zpb;rfl
@[congr] theorem ZgI{P:Program}{m:Mem}{m':Mem}{K:PV->Prop}(sG:m=m')(CV:x=x'):lp P m T x i K=lp P m' T x' i K:=by subst sG CV;rfl
@[congr] theorem ZlX{P:Program}{K:PV->Prop}(CV:x=x'):zO P T x i K=zO P T x' i K:=by subst CV;rfl
@[congr] theorem ZgJ{P:Program}{m:Mem}{m':Mem}{y:PV}{K:PV->Prop}(sG:m=m')(CV:x=x')(h_y:y=y'):cI P m T x y K=cI P m' T x' y' K:=by subst sG CV h_y;rfl
@[congr] theorem ZlY{P:Program}{y:PV}{K:PV->Prop}(CV:x=x')(h_y:y=y'):vX P T x y K=vX P T x' y' K:=by subst CV h_y;rfl
@[congr] theorem Zn8{K:PV->Prop}(CV:x=x'):QF i x K=QF i x' K:=by subst CV;rfl
@[congr] theorem ZlV{P:Program}{ps:List (Nat×PV)}{QR:List (Nat×PV)}{K:PV->Prop}(Mx:ps=QR):zN P T ps K=zN P T QR K:=by subst Mx;rfl
@[congr] theorem Zn9{P:Program}{m:Mem}{m':Mem}{K:PV->Prop}(sG:m=m')(CV:x=x'):A8 P m T x K=A8 P m' T x' K:=by subst sG CV;rfl
@[congr] theorem Zj2{b:Bool}{K:PV->Prop}(Mx:ps=QR):ta b ps K=ta b QR K:=by subst Mx;rfl
@[congr] theorem Zn4{ov:Option Value}{ov':Option Value}{K:PV->Prop}(Zpd:ov=ov'):Nv ov K=Nv ov' K:=by subst Zpd;rfl
@[congr] theorem Zow{P:Program}{ds':List PV}{K:PV->Prop}(Zkw:cs=sm)(Zpa:ds=ds'):yS P op T cs ds K=yS P op T sm ds' K:=by subst Zkw Zpa;rfl
@[congr] theorem Zoa{m:Mem}{m':Mem}{K:PV->Prop}(sG:m=m')(CV:x=x'):Kw m x K=Kw m' x' K:=by subst sG CV;rfl
@[congr] theorem Zmx{y:PV}{z:PV}{z':PV}{K:PV->Prop}(CV:x=x')(h_y:y=y')(h_z:z=z'):Lx x y z K=Lx x' y' z' K:=by subst CV h_y h_z;rfl
@[congr] theorem Zmu{P:Program}{f:FuncId}{m:Mem}{m':Mem}{KA:PV->Mem->Prop}(Mx:ps=QR)(sG:m=m')(Es:nu=Lt):rz P io wd nu f ps m KA=rz P io wd Lt f QR m' KA:=by subst Mx sG Es;rfl
@[congr] theorem Zn6{m:Mem}{m':Mem}{ocs:Option (List PV)}{ZnG:Option (List PV)}{KA:PV->Mem->Prop}(Es:nu=Lt)(sG:m=m')(ZmW:ocs=ZnG):EP nu m T ocs KA=EP Lt m' T ZnG KA:=by subst Es sG ZmW;rfl
@[congr] theorem ZdE{P:Program}{m:Mem}{m':Mem}{ps:List (Nat×PV)}{QR:List (Nat×PV)}{KA:PV->Mem->Prop}(Es:nu=Lt)(sG:m=m')(Mx:ps=QR):nJ P nu m T k ps KA=nJ P Lt m' T k QR KA:=by subst Es sG Mx;rfl
@[congr] theorem Zmw{P:Program}{m:Mem}{m':Mem}{y:PV}{KA:PV->Mem->Prop}(Es:nu=Lt)(sG:m=m')(CV:x=x')(h_y:y=y'):zP P nu m T x y KA=zP P Lt m' T x' y' KA:=by subst Es sG CV h_y;rfl
@[congr] theorem Zl0{P:Program}{m:Mem}{m':Mem}{y:PV}{KA:PV->Mem->Prop}(sG:m=m')(CV:x=x')(h_y:y=y'):zQ P m T x y KA=zQ P m' T x' y' KA:=by subst sG CV h_y;rfl
@[congr] theorem Zj1{P:Program}{m:Mem}{m':Mem}{y:PV}{KA:PV->Mem->Prop}(Es:nu=Lt)(sG:m=m')(CV:x=x')(h_y:y=y'):fV P nu m T x y KA=fV P Lt m' T x' y' KA:=by subst Es sG CV h_y;rfl
@[congr] theorem Zn7{P:Program}{m:Mem}{m':Mem}{KA:PV->Mem->Prop}(Es:nu=Lt)(h_p:p=p')(Mx:ps=QR)(sG:m=m'):Zik P io wd nu p ps m KA=Zik P io wd Lt p' QR m' KA:=by subst Es h_p Mx sG;rfl
@[congr] theorem Zob{P:Program}{t:List PV}{t':List PV}{m:Mem}{m':Mem}{KA:PV->Mem->Prop}(Es:nu=Lt)(yQ:t=t')(sG:m=m'):je P io wd nu o t m KA=je P io wd Lt o t' m' KA:=by subst Es yQ sG;rfl
@[congr] theorem Zn3{ZnI:List Oper}{K:List PV->Mem->Prop}{t:List PV}{t':List PV}{m:Mem}{m':Mem}(yQ:t=t')(sG:m=m'):Zbw ZnI K g t m=Zbw ZnI K g t' m':=by subst yQ sG;rfl
@[congr] theorem ZoF{P:Program}{n0:Nat}{code:Code}{Q:Exit->List PV->Mem->Prop}{t:List PV}{t':List PV}{m:Mem}{m':Mem}(yQ:t=t')(sG:m=m'):tp P n0 code Q t m=tp P n0 code Q t' m':=by subst yQ sG;rfl
@[congr] theorem Zmz{K:List PV->Mem->Prop}{Q:Exit->List PV->Mem->Prop}{e:Exit}{t:List PV}{t':List PV}{m:Mem}{m':Mem}(yQ:t=t')(sG:m=m')(h_e:e=e'):uO K Q e t m=uO K Q e' t' m':=by subst yQ sG h_e;rfl
@[congr] theorem ZlU{Q:Exit->List PV->Mem->Prop}{e:Exit}{t:List PV}{t':List PV}{m:Mem}{m':Mem}(yQ:t=t')(sG:m=m')(h_e:e=e'):zh id Q e t m=zh id Q e' t' m':=by subst yQ sG h_e;rfl
class dx(α:Type) where
 c:α->List PV
instance :dx Int:=⟨aI⟩
instance :dx ByteArray:=⟨km⟩
instance :dx Bool:=⟨H9⟩
section
variable {P:Program} {n0:Nat} {Q:Exit->List PV->Mem->Prop} {t t':List PV} {m m':Mem} {K:List PV->Mem->Prop} {KR:PV->Prop} {KA:PV->Mem->Prop}
theorem Zon{σ ο β:Type}{s:σ}{F:σ->Option β}{K:ο->Option β}{r:β}(h:(ZA (Sum.inl s)).bind (bm F K)=ZA r):F s=ZA r:=h
theorem Zmn{σ ο β:Type}{o:ο}{F:σ->Option β}{K:ο->Option β}:(ZA (Sum.inr o)).bind (bm F K)=K o:=dP rfl
theorem bsr{α β γ δ:Type}{o:β}{F:α->Option γ}{G:β->Option γ}{K:γ->Option δ}:(bm F G (Sum.inr o)).bind K=(G o).bind K:=dP rfl
theorem bsl{α β γ δ:Type}{o:α}{F:α->Option γ}{G:β->Option γ}{K:γ->Option δ}:(bm F G (Sum.inl o)).bind K=(F o).bind K:=dP rfl
theorem Zl8{G:Prop}{b:Bool}{A B:Option α}{K:α->Option β}(h:(cond b A B).bind K=ZA r)(hb:b=ZC)(k:A.bind K=ZA r->G):G:=k (Hc1 h hb)
theorem Zl9{G:Prop}{b:Bool}{A B:Option α}{K:α->Option β}(h:(cond b A B).bind K=ZA r)(hb:b=ZD)(k:B.bind K=ZA r->G):G:=k (Hc2 h hb)
theorem ZmR{c:Bool}{y n:List PV->Prop}(h:xE c y n t i):xE c y n t i:=h
theorem ZpK{i:PV}(h:cI P m T (.sl es) i KR):cI P m T (.sl es) i KR:=h
def zF(n bytes:Int):Bool:=ZE (0<=n/\n<=1099511627776/\bytes*n<=140737488355328)
theorem mkS{x y:PV}(h:zP P ν m T x y KA):zP P ν m T x y KA:=h
theorem Zk9{T e k ν:Nat}{n b:Int}(ji:zF n b=ZC)(hu:P.underlying T=ZA (.slice e))(hz:pz P e=ZA zc)(hb:(P.bytesOf e:Int)=b)(hc:P.cellsOf e=k)(Au:zc.length=k)(hp:ZE (0<k)=ZC)(hK:KA (.ms ν) (py m ν ⟨e,k,VW n.toNat zc⟩)):zP P ν m T (vi n) (vi n) KA:=by
 subst hb hc;have rh:=YA ji;simp only[zP,hu,hz];exact⟨trivial,rh.1,YA hp,Au,rh.2.1,rh.2.2,hK⟩
theorem Ap{ρ:Nat->Option Nat}:∀{cs:List PV},(∀q∈cs,uW q=ZC)->uw ρ m m' cs cs
 | [],_=>trivial
 |c::cs,h=>⟨.c c (h c List.mem_cons_self),Ap λq hq=>h q (List.mem_cons_of_mem _ hq)⟩
theorem O7{α:Type}{f:α->List PV}[hf:dB f]{ρ:Nat->Option Nat}:∀{xs:List α},CI ρ m m' (xs.map f) (xs.map f)
 | []=>trivial
 |x::xs=>⟨Ap (hf.h x),O7⟩
theorem xx{α:Type}{f:α->List PV}[hf:dB f]{ρ:Nat->Option Nat}{cs:List PV}{x:α}(h:uw ρ m m' cs (f x)):∀{xs:List α} {n:Nat},CI ρ m m' ((xs.map f).set n cs) ((xs.set n x).map f)
 | [],_=>trivial
 |y::ys,0=>⟨h,O7⟩
 |y::ys,n+1=>⟨Ap (hf.h y),xx h⟩
theorem Is{α:Type}{f:α->List PV}{ρ:Nat->Option Nat}{cs:List PV}{x:α}(h:uw ρ m m' cs (f x)):∀{n:Nat},CI ρ m m' (VW n cs) ((VW n x).map f)
 |0=>trivial
 |n+1=>⟨h,Is h⟩
theorem Ao{α:Type}{f:α->List PV}[hf:dB f]{ρ:Nat->Option Nat}{cs:List PV}{x:α}(h:uw ρ m m' cs (f x)):∀{xs:List α},CI ρ m m' (xs.map f++[cs]) ((xs++[x]).map f)
 | []=>⟨h,trivial⟩
 |y::ys=>⟨Ap (hf.h y),Ao h⟩
theorem O4[dB f]{T k n:Nat}{x:α}{xs:List α}(h:uw ρ m m' cs (f x)):zm ρ m m' ⟨T,k,(xs.map f).set n cs⟩ ⟨T,k,(xs.set n x).map f⟩:=⟨⟨rfl,rfl,.inr (xx h)⟩,λ_ _=>It rfl⟩
theorem ZdT{T k n:Nat}{x:α}(h:uw ρ m m' cs (f x)):zm ρ m m' ⟨T,k,VW n cs⟩ ⟨T,k,(VW n x).map f⟩:=⟨⟨rfl,rfl,.inr (Is h)⟩,λ_ _=>It rfl⟩
theorem Zj6{T k:Nat}(h:CI ρ m m' es vC):zm ρ m m' ⟨T,k,es⟩ ⟨T,k,vC⟩:=⟨⟨rfl,rfl,.inr h⟩,λ_ _=>It rfl⟩
theorem Zj8:CI ρ m m' [] []:=trivial
theorem Zj7(h:uw ρ m m' cs ds)(h':CI ρ m m' es vC):CI ρ m m' (cs::es) (ds::vC):=⟨h,h'⟩
theorem ZdR{T:TK}:zm ρ m m' ⟨T,k,[]⟩ ⟨T,k,[]⟩:=⟨⟨rfl,rfl,.inr trivial⟩,λ_ _=>KS⟩
theorem ZdU{T k:Nat}{a b c d:List PV}(h:CI ρ m m' (a::b::es) (c::d::vC)):zm ρ m m' ⟨T,k,a::b::es⟩ ⟨T,k,c::d::vC⟩:=Zj6 h
theorem Zbi[dB f]{T k:Nat}{x:α}{xs:List α}(h:uw ρ m m' cs (f x)):zm ρ m m' ⟨T,k,xs.map f++[cs]⟩ ⟨T,k,(xs++[x]).map f⟩:=⟨⟨rfl,rfl,.inr (Ao h)⟩,λ_ _=>It rfl⟩
/-! Keyed rows. -/
def Nf:Nat->List PV->Option (Nat×Nat)
 |_,[]=>ZB
 |j,.ms l::cs=>if cs.all Nn=ZC then ZA (l,j)else ZB
 |_,.ss ..::_=>ZB
 |j,_::cs=>Nf (j+1) cs
theorem Zfv{o l j:Nat}(h:Nf o cs=ZA (l,j)):∃j0,j=o+j0/\cs[j0]?=ZA (.ms l)/\∀(i:Nat) (p:PV),cs[i]?=ZA p->i=j0\/Nn p=true:=by
 induction cs generalizing o with
 |nil=>cases h
 |cons p cs ih=>
  cases p with
  |ms k=>
   simp only[Nf]at h
   split at h
   ·rename_i hc
    simp only[VR,Prod.mk.injEq]at h
    obtain⟨rfl,rfl⟩:=h;refine⟨0,rfl,rfl,λi p hp=>?_⟩
    cases i with
    |zero=>exact .inl rfl
    |succ i=>exact .inr (VS.1 hc p (VI (by simpa using hp)))
   ·cases h
  |ss a b c=>simp[Nf]at h
  |_=>
   have h':Nf (o+1) cs=ZA (l,j):=h;obtain⟨j0,e,h1,h2⟩:=ih h';refine⟨j0+1,YG,by simpa using h1,λi q hq=>?_⟩
   cases i with
   |zero=>
    right;simp only[List.getElem?_cons_zero,VR]at hq
    subst hq;rfl
   |succ i=>
    rcases h2 i q (by simpa using hq)with h|h
    ·left;omega
    ·exact .inr h
theorem Np(h:uW p=ZC):Nn p=true:=by
 cases p with
 |ms=>cases h
 |ss=>cases h
 |_=>rfl
def PX(mb:MB):Prop:=mb.T.kd.isSome=ZC/\∃cs∈mb.es,∃p∈cs,Nn p=ZD
def kd0(m:Mem):Prop:=∀(l:Nat) (mb:MB),m[l]?=ZA (ZA mb)->¬PX mb
def kd1(m:Mem):Prop:=∀(l l':Nat) (mb nZ:MB),m[l]?=ZA (ZA mb)->m[l']?=ZA (ZA nZ)->PX mb->PX nZ->l=l'
theorem ZhW:kd0 []:=λ_ _ h=>by simp at h
theorem ZhX:kd1 []:=λ_ _ _ _ h=>by simp at h
theorem Ze5{x:Option MB}{m:Mem}(hx:∀mb,x=ZA mb->¬PX mb)(h:kd0 m):kd0 (x::m):=λl mb hl=>by
 cases l with
 |zero=>exact hx mb Zc
 |succ l=>exact h l mb Zc
theorem Znv{x:Option MB}{m:Mem}(h:kd0 m):kd1 (x::m):=λl l' mb nZ h1 h2 a1 a2=>by
 cases l with
 |zero=>
  cases l' with
  |zero=>rfl
  |succ l'=>exact absurd a2 (h l' nZ (by simpa using h2))
 |succ l=>exact absurd a1 (h l mb (by simpa using h1))
theorem Ze6{x:Option MB}{m:Mem}(hx:∀mb,x=ZA mb->¬PX mb)(h:kd1 m):kd1 (x::m):=λl l' mb nZ h1 h2 a1 a2=>by
 cases l with
 |zero=>exact absurd a1 (hx mb (by simpa using h1))
 |succ l=>
  cases l' with
  |zero=>exact absurd a2 (hx nZ (by simpa using h2))
  |succ l'=>exact congrArg Nat.succ (h l l' mb nZ (by simpa using h1) (by simpa using h2) a1 a2)
theorem UR:∀mb,(ZB:Option MB)=ZA mb->¬PX mb:=λ_ h=>by cases h
theorem Zjm{t:TypeId}:∀mb,ZA (⟨TK.of t,k,es⟩:MB)=ZA mb->¬PX mb:=λmb h a=>by
 cases h
 exact absurd a.1 (by simp[TK.of])
theorem Zdq[hf:dB f]{T:TK}{xs:List α}:∀mb,ZA (⟨T,k,xs.map f⟩:MB)=ZA mb->¬PX mb:=λmb h ⟨_,cs,gl,p,hp,hn⟩=>by
 cases h
 obtain⟨x,_,rfl⟩:=V6.1 gl;rw[Np (hf.h x p hp)]at hn
 cases hn
theorem k1{p:Prop}(h:p:=by(repeat(first|exact ZhW|exact ZhX|(with_reducible refine Ze6 UR ?_) |(refine Ze6 Zjm ?_) |(refine Ze6 Zdq ?_) |(with_reducible refine Ze5 UR ?_) |(refine Ze5 Zjm ?_) |(refine Ze5 Zdq ?_) |(refine Znv ?_)));(first|done|fail)):p:=h
theorem U7{t t':TypeId}(h:CI ρ m m' es vC)(hn:es[n]?=ZA cs)(ho:∀(i:Nat) (ds:List PV),es[i]?=ZA ds->i≠n->∀p∈ds,Nn p=ZC)
 (hm:Nf 0 cs=ZA (l,j)) (h1:kd1 m) (hl:look m l=ZA ⟨T2,k2,es2⟩) (ht:T2.t=t') {k0:Nat} (GU:m[k0]?=ZA (ZA ⟨⟨t,ZA t'⟩,k,es⟩)):Zbl ρ m m' ⟨⟨t,ZA t'⟩,k,es⟩ ⟨⟨t,ZA t'⟩,k',vC⟩:=by
 obtain⟨j0,ej,g1,g2⟩:=Zfv hm;rw[VY]at ej
 subst ej;intro T1 hT i ds j1 e hi hj dX;have hT':ZA t'=ZA T1:=hT;obtain⟨cs1,c1,c2⟩:=(vL h).2 i ds hi;obtain⟨p,p1,p2⟩:=(xy c2).2 j1 _ hj
 by_cases hms:Nn p=ZC
 ·have:=U6 p2 hms dX
  subst this;exact .inl ⟨hT,cs1,c1,p1⟩
 ·right
  have As:i=n:=by
   rcases Nat.decEq i n with h|h
   ·exact absurd (ho i cs1 c1 h p (VI p1)) hms
   ·exact h
  subst As;rw[hn]at c1
  obtain rfl:=VG c1;have hj1:j1=j:=by
   rcases g2 j1 p p1 with h|h
   ·exact h
   ·exact absurd h hms
  subst hj1;rw[g1]at p1
  obtain rfl:=VG p1;have ZpB:∀q',ZjP m l q'->q'=(t,i,j1):=by
   rintro q' ⟨l',nZ,T',i',sm,j',a1,a2,a3,a4,rfl⟩;have e:l'=k0:=h1 l' k0 nZ _ a1 GU ⟨by simp[a2],_,VI a3,_,VI a4,rfl⟩ ⟨rfl,_,VI hn,_,VI g1,rfl⟩
   subst e;rw[GU]at a1
   obtain rfl:(⟨⟨t,ZA t'⟩,k,es⟩:MB)=nZ:=by simpa using a1
   have lS:i'=i:=by
    rcases Nat.decEq i' i with h|h
    ·have:=ho i' sm a3 h _ (VI a4);cases this
    ·exact h
   subst lS;rw[hn]at a3
   obtain rfl:=VG a3
   rcases g2 j' _ a4 with h|h
   ·rw[h]
   ·cases h
  generalize hq:PV.sl e=q at p2
  cases p2 with
  |fms _ mk Ft hc hd=>
   have:=jq.1 hl;rw[Ft]at this
   obtain rfl:mk=⟨T2,k2,es2⟩:=by simpa using this
   refine⟨_,l,_,hn,g1,⟨⟨k0,_,t',i,_,j1,GU,rfl,hn,g1,rfl⟩,ZpB⟩,Ft,?_,?_,hd⟩
   ·rw[<-VG hT'];exact ht
   ·simpa using hq.symm
  |un=>cases hq
  |c _ h=>cases h
  |ms=>cases hq
theorem SB[hf:dB f]{t t':TypeId}{x:α}{xs:List α}(hm:Nf 0 cs=ZA (l,j))(h1:kd1 m)(hl:look m l=ZA ⟨T2,k2,es2⟩)(ht:T2.t=t')(h:uw ρ m m' cs (f x)):
 zm ρ m m' ⟨⟨t,ZA t'⟩,k,xs.map f++[cs]⟩ ⟨⟨t,ZA t'⟩,k,(xs++[x]).map f⟩:=by
 refine⟨⟨rfl,rfl,.inr (Ao h)⟩,λk0 GU=>U7 (n:=xs.length) (cs:=cs) (Ao h) YJ (λi ds hi dX p hp=>?_) hm h1 hl ht GU⟩
 rcases Wg i xs.length with bO|Ev
 ·rw[List.getElem?_append_left (by simpa using bO),VZ]at hi
  obtain⟨y,_,rfl⟩:=VT.1 hi;exact Np (hf.h y p hp)
 ·have:=(VH.1 hi).1
  simp at this
  omega
theorem KQ[hf:dB f]{t t':TypeId}{x:α}{xs:List α}(hn:n<xs.length)(hm:Nf 0 cs=ZA (l,j))(h1:kd1 m)(hl:look m l=ZA ⟨T2,k2,es2⟩)(ht:T2.t=t')(h:uw ρ m m' cs (f x)):
 zm ρ m m' ⟨⟨t,ZA t'⟩,k,(xs.map f).set n cs⟩ ⟨⟨t,ZA t'⟩,k,(xs.set n x).map f⟩:=by
 refine⟨⟨rfl,rfl,.inr (xx h)⟩,λk0 GU=>U7 (n:=n) (cs:=cs) (xx h) (Wa (by simpa using hn)) (λi ds hi dX p hp=>?_) hm h1 hl ht GU⟩
 rw[List.getElem?_set_ne (Ne.symm dX),VZ]at hi
 obtain⟨y,_,rfl⟩:=VT.1 hi;exact Np (hf.h y p hp)
theorem Zbh[hf:dB f]{T:TK}{x:α}{xs:List α}(hn:cs.all Nn=ZC)(h:uw ρ m m' cs (f x)):zm ρ m m' ⟨T,k,(xs.map f).set n cs⟩ ⟨T,k,(xs.set n x).map f⟩:=by
 refine⟨⟨rfl,rfl,.inr (xx h)⟩,λ_ _=>Zj9 (xx h) λds Vi p hp=>?_⟩
 rcases List.mem_or_eq_of_mem_set Vi with Vi|rfl
 ·obtain⟨y,_,rfl⟩:=V6.1 Vi
  exact Np (hf.h y p hp)
 ·exact VS.1 hn p hp
theorem ZpJ{i:PV}(h:cI P m T (.ms l) i KR):cI P m T (.ms l) i KR:=h
theorem ZhK[dx α]{xs:List α}{x:α}{T':TK}{i:Int}{k:IntKind}(h:aA xs i=ZA x)(hm:look m l=ZA ⟨T',k',xs.map dx.c⟩)(hp:0<fW P T)(hk:k'=fW P T)(hK:KR (.be l i.toNat 0)):cI P m T (.ms l) (.v (.int k i)) KR:=Zk1 h hm hp hk hK
theorem ED{xs:List α}{x:α}{i:Int}(h:aA xs i=ZA x):(xs.map f)[i.toNat]?=ZA (f x):=by
 rw[VZ,(mO h).2];rfl
theorem ZcX[dx α]{xs:List α}{r k:Nat}{l h:Int}(ji:iC l h xs.length=ZC)(hm:look m r=ZA ⟨T',k,xs.map dx.c⟩)(hlo:NA lo 0=ZA l)(hhi:NA hi xs.length=ZA h)(hp:0<fW P T)(hk:k=fW P T)(hK:KR (.ss r l.toNat h.toNat)):lq P m T (.ms r) lo hi KR:=by
 obtain⟨e,hu,he⟩:=xA hp;rw[he]at hp hk
 have rh:=YA ji;simp only[lq,hu,mQ,hm,VX,hlo,hhi];exact⟨rh.1,rh.2.1,rh.2.2,hp,hk,hK⟩
theorem ZlE[dx α]{xs:List α}{r k:Nat}(hm:look m r=ZA ⟨T',k,xs.map dx.c⟩):rE m (.ss r a.toNat b.toNat)=ZA ((cZ xs a b).map dx.c):=by
 have h:=jq.1 hm;simp only[rE,h,CL,DW,cZ]
theorem Zi1[dx α]{xs:List α}{r k A B:Nat}(hm:look m r=ZA ⟨T',k,xs.map dx.c⟩)(hA:A=a.toNat)(hB:B=b.toNat):rE m (.ss r A B)=ZA ((cZ xs a b).map dx.c):=by subst hA hB;exact ZlE hm
theorem ZmP(h:cs.all uW=ZC):tt ZD (.ag cs):=λc hc=>xF (VS.1 h c hc)
theorem Zki(h:cs.all PY=ZC):tt ZC (.ag cs):=λc hc=>IG (VS.1 h c hc)
theorem ZmQ(h:ps.all ZbU=ZC):tt ZD (.tu ps):=λc hc=>(Di (σ:=id) (VS.1 h c hc)).2.1
theorem ZpI{s:ByteArray}{i:PV}(h:vX P T (.v (.string s)) i KR):vX P T (.v (.string s)) i KR:=h
theorem Zqf(h:lq P m T x lo hi KR):lq P m T x lo hi KR:=h
theorem Zor{x y:PV}(h:fV P ν m T x y KA):fV P ν m T x y KA:=h
theorem Zmq{f:FuncId}(h:rz P io wd ν f ps m KA):rz P io wd ν f ps m KA:=h
theorem ZpR{o:Option Value}(h:Nv o KR):Nv o KR:=h
theorem Znx{c:Code}(h:tp P n0 (.loop c) Q t m):tp P n0 (.loop c) Q t m:=h
theorem ZoM(h:tz n0 t m t' m'):tz n0 t m t' m':=h
theorem all_nil{p:α->Prop}:(∀x∈([]:List α),p x)=True:=by simp
theorem all_cons{p:α->Prop}{a:α}{as_:List α}:(∀x∈a::as_,p x)=(p a/\∀x∈as_,p x):=by simp
theorem Zln:Si m (.rp cs)=ZA cs:=dP rfl
theorem ZgX[dx α]{xs ys:List α}{ν l e k n b:Nat}(ji:bB (xs.length+ys.length) b=ZC)(hu:P.underlying T=ZA (.slice e))(hz:pz P e=ZA zc)(hb:P.bytesOf e=b)(hc:P.cellsOf e=n)(hl:look m l=ZA ⟨e,k,xs.map dx.c⟩)(BO:rE m x=ZA (ys.map dx.c))
 (Au:zc.length=n) (hp:ZE (0<n)=ZC) (hf:∀x:α,(dx.c x).length=n) (hk:k=n) (hK:KA (.ms ν) (py (m.set l ZB) ν ⟨e,k,(xs++ys).map dx.c⟩)):fV P ν m T (.ms l) x KA:=by
 subst hb hc;exact ZjY ji hu hz BO hl Au (YA hp) hf hk hK
theorem ZgW[dx α]{xs ys:List α}{ν l e k n b t':Nat}(ji:bB (xs.length+ys.length) b=ZC)(hy:ys.length=1)(hu:P.underlying T=ZA (.slice e))(hz:pz P e=ZA zc)(hb:P.bytesOf e=b)(hc:P.cellsOf e=n)(hl:look m l=ZA ⟨⟨e,ZA t'⟩,k,xs.map dx.c⟩)(BO:rE m x=ZA [cs])
 (xu:cs.all Zcj=ZC) (xk:cs.length=n) (Au:zc.length=n) (hp:ZE (0<n)=ZC) (hk:k=n) (hK:KA (.ms ν) (py (m.set l ZB) ν ⟨⟨e,ZA t'⟩,k,xs.map dx.c++[cs]⟩)):fV P ν m T (.ms l) x KA:=by
 subst hk;subst hb;have rh:=YA ji;rw[hy]at rh
 simp only[fV,hu,hz,BO,mQ,hl,VX,VL,VO,hc];refine⟨Au,YA hp,λds Vi=>?_,trivial,trivial,rh.1,rh.2,?_⟩
 ·rw[V8]at Vi
  subst Vi;exact xk
 ·have e:(⟨e,ZA t'⟩:TK).sts [cs]=⟨e,ZA t'⟩:=by
   unfold TK.sts TK.stb;simp only[List.all_cons,List.all_nil,Bool.and_true,xu,if_true]
  rw[e];exact hK
theorem ZgZ[dx α]{ν e n b:Nat}(ji:bB ys.length b=ZC)(hu:P.underlying T=ZA (.slice e))(hz:pz P e=ZA zc)(hb:P.bytesOf e=b)(hc:P.cellsOf e=n)(BO:rE m x=ZA (ys.map dx.c))
 (Au:zc.length=n) (hp:ZE (0<n)=ZC) (hf:∀x:α,(dx.c x).length=n) (hK:KA (.ms ν) (py m ν ⟨e,n,ys.map dx.c⟩)):fV P ν m T (.v (.slice ZB 0 0)) x KA:=by
 subst hb hc;exact ZjZ ji hu hz BO Au (YA hp) hf hK
theorem ZeJ{b:Bool}:∀mb,ZA mb∈([]:Mem)->∀cs∈mb.es,∀p∈cs,er b p:=by intro mb h;cases h
theorem MN[dB f]{T:TK}{xs:List α}:∀mb,ZA mb∈([ZA ⟨T,k,xs.map f⟩]:Mem)->∀cs∈mb.es,∀p∈cs,er ZD p:=by
 intro mb h;simp only[V8,VR]at h
 subst h;exact of_eq_true ZbI
theorem GV[tr f]{T:TK}{xs:List α}:∀mb,ZA mb∈([ZA ⟨T,k,xs.map f⟩]:Mem)->∀cs∈mb.es,∀p∈cs,er ZC p:=by
 intro mb h;simp only[V8,VR]at h
 subst h;exact of_eq_true ZbJ
theorem ZbN{x:Option MB}{m:Mem}{b:Bool}(h1:∀mb,ZA mb∈([x]:Mem)->∀cs∈mb.es,∀p∈cs,er b p)(h2:∀mb,ZA mb∈m->∀cs∈mb.es,∀p∈cs,er b p):∀mb,ZA mb∈(x::m)->∀cs∈mb.es,∀p∈cs,er b p:=by
 intro mb h
 rcases VM.1 h with h|h
 ·exact h1 mb (by simp[h])
 ·exact h2 mb h
end
theorem ZnW:(TK.of n).st qs=TK.of n:=dP rfl
theorem ZnV{t t':TypeId}{x:Value}:(TK.mk t (ZA t')).st [.v x]=TK.mk t (ZA t'):=dP rfl
theorem ZlF:(TK.of n).sts es=TK.of n:=dP rfl
attribute [go_sem] ZnW ZnV ZlF U_z U_s Zln ZnT ZnS Zet Zes ZnL ZnK ZnJ Zac UW ZiR Ziy Zer Zeq ZfV ZiA Ziz Zaa Zcz ZfU ZfT ZiP ZiQ Zab ZeZ ZbT Zcy Zix Zhu Zht Zkm Zkl Zkn ZcE ZcD Vd Zhj Pq Zhl Zkf Zhk Zel Zcv QP Zin Zim Zcw Zcu Ky TQ Zcx NO TV Js TS Jt TT NP TR Kx ZfP ZfR ZfQ TP ZfN Gy Ju TW QO Zct ZfO Zcl Zlm Zfj Zfi Zlb Zla Zh9 Zia Zld Zlc ZlD ZlB ZlC Zll Zlk ZjK ZjM ZjL LD ZcN Uc Rf Lm CL DW QC Zg2 pUn lp zO QF A8 ta va J7 EP pc zQ Kw vw ue JW LX Fb H5 VE VX if_true if_false Bool.false_eq_true Wh List.map_nil List.toList_toArray beq_self_eq_true ite_self Int.toNat_natCast true_and and_true VO List.nil_append List.append_nil VY Ys List.drop_succ_cons List.take_zero List.take_succ_cons VL List.cons_append Wo List.replicate_zero Bool.not_true Bool.not_false DJ DI vt yR jy nL Lx Jo uT NA Option.map_none zN Bp nJ chunk BF all_cons all_nil Nat.zero_lt_succ Nat.lt_add_one and_self
instance :dB aI:=⟨λx q h=>by simp only[aI,V8]at h;subst h;rfl⟩
instance :tr aI:=⟨λx q h=>by simp only[aI,V8]at h;subst h;rfl⟩
instance :dB km:=⟨λx q h=>by simp only[km,V8]at h;subst h;rfl⟩
instance :tr km:=⟨λx q h=>by simp only[km,V8]at h;subst h;rfl⟩
instance :dB H9:=⟨λx q h=>by simp only[H9,V8]at h;subst h;rfl⟩
instance :tr H9:=⟨λx q h=>by simp only[H9,V8]at h;subst h;rfl⟩
structure YB8 where
 v:Int
 deriving DecidableEq
def cB8(x:YB8):List PV:=[v8 x.v]
instance :dx YB8:=⟨cB8⟩
instance :dB cB8:=⟨λx q h=>by simp only[cB8,V8]at h;subst h;rfl⟩
instance :tr cB8:=⟨λx q h=>by simp only[cB8,V8]at h;subst h;rfl⟩
structure Zdn where
 b:List YB8
 i:Int
 h:Int
 deriving DecidableEq
def Im(x:Zdn):List PV:=[.sl (x.b.map cB8),vi x.i,vi x.h]
instance :dx Zdn:=⟨Im⟩
instance :dB Im:=⟨λx q h=>by simp only[Im,VM,VP,or_false]at h;(repeat' (first|(rcases h with rfl|h;rfl) |(subst h;rfl)))⟩
instance :dx fF:=⟨sE⟩
instance :dB sE:=⟨λx q h=>by simp only[sE,VM,VP,or_false]at h;(repeat' (first|(rcases h with rfl|h;rfl) |(subst h;rfl)))⟩
instance :tr sE:=⟨λx q h=>by simp only[sE,VM,VP,or_false]at h;(repeat' (first|(rcases h with rfl|h;rfl) |(subst h;rfl)))⟩
instance :dx aM:=⟨bq⟩
instance :dB bq:=⟨λx q h=>by simp only[bq,VM,VP,or_false]at h;(repeat' (first|(rcases h with rfl|h;rfl) |(subst h;rfl)))⟩
instance :dx bF:=⟨b6⟩
instance :dB b6:=⟨λx q h=>by simp only[b6,VM,VP,or_false]at h;(repeat' (first|(rcases h with rfl|h;rfl) |(subst h;rfl)))⟩
instance :tr b6:=⟨λx q h=>by simp only[b6,VM,VP,or_false]at h;(repeat' (first|(rcases h with rfl|h;rfl) |(subst h;rfl)))⟩
instance :dx bH:=⟨b9⟩
instance :dB b9:=⟨λx q h=>by simp only[b9,VM,VP,or_false]at h;(repeat' (first|(rcases h with rfl|h;rfl) |(subst h;rfl)))⟩
instance :tr b9:=⟨λx q h=>by simp only[b9,VM,VP,or_false]at h;(repeat' (first|(rcases h with rfl|h;rfl) |(subst h;rfl)))⟩
instance :dx bM:=⟨br⟩
instance :dB br:=⟨λx q h=>by simp only[br,VM,VP,or_false]at h;(repeat' (first|(rcases h with rfl|h;rfl) |(subst h;rfl)))⟩
instance :tr br:=⟨λx q h=>by simp only[br,VM,VP,or_false]at h;(repeat' (first|(rcases h with rfl|h;rfl) |(subst h;rfl)))⟩
instance :dx ak:=⟨bE⟩
instance :dB bE:=⟨λx q h=>by simp only[bE,VM,VP,or_false]at h;(repeat' (first|(rcases h with rfl|h;rfl) |(subst h;rfl)))⟩
instance :dx aw:=⟨aS⟩
instance :dB aS:=⟨λx q h=>by simp only[aS,VM,VP,or_false]at h;(repeat' (first|(rcases h with rfl|h;rfl) |(subst h;rfl)))⟩
instance :tr aS:=⟨λx q h=>by simp only[aS,VM,VP,or_false]at h;(repeat' (first|(rcases h with rfl|h;rfl) |(subst h;rfl)))⟩
instance :dx aj:=⟨aC⟩
instance :dB aC:=⟨λx q h=>by simp only[aC,VM,VP,or_false]at h;(repeat' (first|(rcases h with rfl|h;rfl) |(subst h;rfl)))⟩
instance :tr aC:=⟨λx q h=>by simp only[aC,VM,VP,or_false]at h;(repeat' (first|(rcases h with rfl|h;rfl) |(subst h;rfl)))⟩
instance :dx bc:=⟨bt⟩
instance :dB bt:=⟨λx q h=>by simp only[bt,VM,VP,or_false]at h;(repeat' (first|(rcases h with rfl|h;rfl) |(subst h;rfl)))⟩
instance :tr bt:=⟨λx q h=>by simp only[bt,VM,VP,or_false]at h;(repeat' (first|(rcases h with rfl|h;rfl) |(subst h;rfl)))⟩
instance :dx ay:=⟨aY⟩
instance :dB aY:=⟨λx q h=>by simp only[aY,VM,VP,or_false]at h;(repeat' (first|(rcases h with rfl|h;rfl) |(subst h;rfl)))⟩
instance :dx az:=⟨fa⟩
instance :dB fa:=⟨λx q h=>by simp only[fa,VM,VP,or_false]at h;(repeat' (first|(rcases h with rfl|h;rfl) |(subst h;rfl)))⟩
instance :dx aU:=⟨bD⟩
instance :dB bD:=⟨λx q h=>by simp only[bD,VM,VP,or_false]at h;(repeat' (first|(rcases h with rfl|h;rfl) |(subst h;rfl)))⟩
instance :tr bD:=⟨λx q h=>by simp only[bD,VM,VP,or_false]at h;(repeat' (first|(rcases h with rfl|h;rfl) |(subst h;rfl)))⟩
instance :dx ZJ:=⟨ZK⟩
instance :dB ZK:=⟨λx q h=>by simp only[ZK,VM,VP,or_false]at h;(repeat' (first|(rcases h with rfl|h;rfl) |(subst h;rfl)))⟩
instance :dx ZI:=⟨ZM⟩
instance :dB ZM:=⟨λx q h=>by simp only[ZM,VM,VP,or_false]at h;(repeat' (first|(rcases h with rfl|h;rfl) |(subst h;rfl)))⟩
instance :dx Oq:=⟨Bl⟩
instance :dB Bl:=⟨λx q h=>by simp only[Bl,VM,VP,or_false]at h;(repeat' (first|(rcases h with rfl|h;rfl) |(subst h;rfl)))⟩
instance :tr Bl:=⟨λx q h=>by simp only[Bl,VM,VP,or_false]at h;(repeat' (first|(rcases h with rfl|h;rfl) |(subst h;rfl)))⟩
instance :dx Sm:=⟨Ef⟩
instance :dB Ef:=⟨λx q h=>by simp only[Ef,VM,VP,or_false]at h;(repeat' (first|(rcases h with rfl|h;rfl) |(subst h;rfl)))⟩
instance :dx Sn:=⟨Eg⟩
instance :dB Eg:=⟨λx q h=>by simp only[Eg,VM,VP,or_false]at h;(repeat' (first|(rcases h with rfl|h;rfl) |(subst h;rfl)))⟩
instance :dx UP:=⟨CC⟩
instance :dB CC:=⟨λx q h=>by simp only[CC,VM,VP,or_false]at h;(repeat' (first|(rcases h with rfl|h;rfl) |(subst h;rfl)))⟩
instance :dx Zdm:=⟨BG⟩
instance :dB BG:=⟨λx q h=>by simp only[BG,VM,VP,or_false]at h;(repeat' (first|(rcases h with rfl|h;rfl) |(subst h;rfl)))⟩
instance :tr BG:=⟨λx q h=>by simp only[BG,VM,VP,or_false]at h;(repeat' (first|(rcases h with rfl|h;rfl) |(subst h;rfl)))⟩
instance :dx UO:=⟨CB⟩
instance :dB CB:=⟨λx q h=>by simp only[CB,VM,VP,or_false]at h;(repeat' (first|(rcases h with rfl|h;rfl) |(subst h;rfl)))⟩
attribute [go_sem] aI km H9 cB8 Im sE bq b6 b9 br bE aS aC bt aY fa bD ZK ZM Bl Ef Eg CC BG CB dx.c
theorem Pk:Ix prog (n+3) 46 [vi a,vi b] [vi a2,vi b2]=ZA (ZE ((⟨a,b⟩:aw)=(⟨a2,b2⟩:aw))):=by
 simp only[Ix,Tryz.underlying3,Tryz.underlying46,RE,Program.fieldsOf,go_sem];simp[RE,tq3]
 try rfl
@[go_sem] theorem ZmH{KR:PV->Prop}:yS prog .eql 46 [vi a,vi b] [vi a2,vi b2] KR=KR (vb (ZE ((⟨a,b⟩:aw)=(⟨a2,b2⟩:aw)))):=by unfold yS;rw[show(10000:Nat)=9997+3 from rfl,Pk,Tryz.underlying46];simp only[RE,true_and]
@[go_sem] theorem ZnB{KR:PV->Prop}:yS prog .neq 46 [vi a,vi b] [vi a2,vi b2] KR=KR (vb (!decide ((⟨a,b⟩:aw)=(⟨a2,b2⟩:aw)))):=by unfold yS;rw[show(10000:Nat)=9997+3 from rfl,Pk,Tryz.underlying46];simp only[RE,true_and]
theorem Fl{a b c d a2 b2 c2 d2:Int}:Ix prog (n+3) 177 [vi a,vi b,vi c,vi d] [vi a2,vi b2,vi c2,vi d2]=ZA (ZE ((⟨a,⟨b,c⟩,d⟩:aj)=(⟨a2,⟨b2,c2⟩,d2⟩:aj))):=by
 simp only[Ix,Tryz.underlying3,Tryz.underlying177,ZaN,Tryz.underlying46,RE,Program.fieldsOf,go_sem];simp[ZaN,RE,tq3]
 try rfl
@[go_sem] theorem Zjq{a b c d a2 b2 c2 d2:Int}{KR:PV->Prop}:yS prog .eql 177 [vi a,vi b,vi c,vi d] [vi a2,vi b2,vi c2,vi d2] KR=KR (vb (ZE ((⟨a,⟨b,c⟩,d⟩:aj)=(⟨a2,⟨b2,c2⟩,d2⟩:aj)))):=by unfold yS;rw[show(10000:Nat)=9997+3 from rfl,Fl,Tryz.underlying177];simp only[ZaN,true_and]
@[go_sem] theorem ZjC{a b c d a2 b2 c2 d2:Int}{KR:PV->Prop}:yS prog .neq 177 [vi a,vi b,vi c,vi d] [vi a2,vi b2,vi c2,vi d2] KR=KR (vb (!decide ((⟨a,⟨b,c⟩,d⟩:aj)=(⟨a2,⟨b2,c2⟩,d2⟩:aj)))):=by unfold yS;rw[show(10000:Nat)=9997+3 from rfl,Fl,Tryz.underlying177];simp only[ZaN,true_and]
def vD(t:List PV)(m:Mem):Option Unit:=ZA ()
theorem tz.trans{n0:Nat}{t t1 t2:List PV}{m m1 m2:Mem}(h:tz n0 t m t1 m1)(k:tz n0 t1 m1 t2 m2):tz n0 t m t2 m2:=by
 induction h with
 |one h=>exact .two h k
 |two h h' ih=>exact .two h (ih k)
theorem ZiB{P:Program}{n0:Nat}{Q:Exit->List PV->Mem->Prop}{t T:List PV}{m M:Mem}{K:α->Option β}
 (H:((vD T M).bind F).bind K=ZA r) (hc:tz n0 t m T M) (hk:(F ()).bind K=ZA r->tp P n0 (.region i ops draw) Q T M):tp P n0 (.region i ops draw) Q t m:=by
 rcases hk H with h|⟨t1,m1,h1,h2⟩
 ·exact .inr ⟨T,M,hc,h⟩
 ·exact .inr ⟨t1,m1,hc.trans h1,h2⟩
def AX(wd:Nat)(fl:List Nat):Option Unit:=ZA ()
theorem ZfY{P:Program}{n0:Nat}{Q:Exit->List PV->Mem->Prop}{t:List PV}{m:Mem}{K:α->Option β}{ops:List Oper}
 (H:((AX wd fl).bind F).bind K=ZA r) (PN:ZE (0<wd)=ZC) (h1:P.follows .mixedOrders=ZC) (hk:(F ()).bind K=ZA r->kj P wd m.length fl ops.toArray (Zbw ops (Q .normal)) 0 ops [] t m):tp P n0 (.region id ops.toArray ZC) Q t m:=ZcI PN h1 (hk H)
theorem Zbj{m m':Mem}[dB f]{xs:List α}{x:α}{T:TK}(hm:look m k=ZA ⟨T,k',(xs.map f).set n cs⟩)(hc:f x=cs)(hd:dropped (yx rs) m' k):qq (yx rs) m m' (.ms k) (.sl ((xs.set n x).map f)):=by
 subst hc;refine O5 (f:=f) (xs:=xs.set n x) (T:=T) (k':=k') ?_ hd;rw[hm,List.map_set]
theorem ZdX{m m':Mem}[dB f]{xs:List α}{k k' A B:Nat}{T:TK}(hm:look m k=ZA ⟨T,k',xs.map f⟩)(hA:A=a.toNat)(hB:B=b.toNat)(hd:dropped (yx rs) m' k):qq (yx rs) m m' (.ss k A B) (.sl ((cZ xs a b).map f)):=by
 subst hA hB;have:=qq.fss (ρ:=yx rs) (m:=m) (m':=m') k a.toNat b.toNat ⟨T,k',xs.map f⟩ (jq.1 hm) DL hd
 simpa only[CL,DW,cZ]using this
def A9{α:Type}(xs:List α)(i:Int):Option α:=aA xs i
theorem rgH{xs:List α}{i:Int}{F:α->Option β}{K:β->Option γ}{r:γ}(H:((A9 xs i).bind F).bind K=ZA r):∃x,aA xs i=ZA x/\(F x).bind K=ZA r:=Hn H
theorem MV{xs:List α}{x:α}{i:Int}(h:aA xs i=ZA x):((xs.map f).set i.toNat cs)[i.toNat]?=ZA cs:=by
 rw[Wa];have:=(VH.1 (mO h).2).1
 simpa using this
theorem ZeW{P:Program}{m:Mem}{KR:PV->Prop}[dx α]{xs:List α}{x:α}{T':TK}{i:Int}{k:IntKind}(h:aA xs i=ZA x)(hm:look m l=ZA ⟨T',k',(xs.map dx.c).set n cs⟩)(hp:0<fW P T)(hk:k'=fW P T)(hK:KR (.be l i.toNat 0)):cI P m T (.ms l) (.v (.int k i)) KR:=by
 obtain⟨h1,h2,h3⟩:=Mu h;obtain⟨e,hu,he⟩:=xA hp;rw[he]at hk
 simp only[cI,hu,mQ,hm,VX,Ws];exact⟨h1,h2,hk,hK⟩
attribute [go_sem] Ws List.set_set
def zp{α:Type}(x:α)(t:α->List PV)(m:α->Mem):Option α:=ZA x
theorem Zf0{P:Program}{n0:Nat}{Q:Exit->List PV->Mem->Prop}{t:List PV}{m:Mem}{ξ α β:Type}{x:ξ}{T:ξ->List PV}{M:ξ->Mem}{F:ξ->Option α}{K:α->Option β}{r:β}
 (H:((zp x T M).bind F).bind K=ZA r) (hc:tz n0 t m (T x) (M x)) (hk:∀z,(F z).bind K=ZA r->tp P n0 (.region i ops draw) Q (T z) (M z)):tp P n0 (.region i ops draw) Q t m:=by
 rcases hk x H with h|⟨t1,m1,h1,h2⟩
 ·exact .inr ⟨T x,M x,hc,h⟩
 ·exact .inr ⟨t1,m1,hc.trans h1,h2⟩
def nG(ρ:List Nat):Option Unit:=ZA ()
theorem Zg4{R α β:Type}{P:Program}{ρ:List Nat}{A:Option R}[C:CT P A]{F:Unit->Option α}{G:R->Option α}{K:α->Option β}{r:β}{f:FuncId}{m:Mem}{KA:PV->Mem->Prop}
 (H:((nG ρ).bind F).bind K=ZA r) (hF:F ()=A.bind G) (hf:C.f=f) (Bs:io=ZC) (Kh:ps=C.args.map (DI (sig ρ ν))) (hq:∀q∈C.args,wT ZD q/\M3 C.m0.length q=ZC) (hn:ρ.Nodup) (As:qP (sig ρ ν) m C.m0.length ρ C.m0)
 (hlen:∀y,C.m0.length<=(C.mem y).length/\(C.mem y).length-C.m0.length<=wd) (hm:∀y,∀mb,ZA mb∈C.mem y->∀cs∈mb.es,∀p∈cs,er ZD p) (hg:∀y,tt ZD (C.res y))
 (hk:∀y,A=ZA y->(G y).bind K=ZA r->KA (DJ (sig ρ ν) (C.res y)) (jy (sig ρ ν) ν ((C.mem y).drop ρ.length) (qi (sig ρ ν) ρ (C.mem y) m))):rz P io wd ν f ps m KA:=by
 have H':(F ()).bind K=ZA r:=H;rw[hF]at H'
 obtain⟨y,hy,H2⟩:=Hn H';subst hf;exact .inr ⟨ρ,C.m0,C.args,C.res y,C.mem y,.inl Bs,C.ok hy,(hlen y).1,(hlen y).2,Kh,hq,hn,As,hm y,hg y,hk y hy H2⟩
theorem ZdC{R α β:Type}{P:Program}{ρ:List Nat}{A:Option R}[C:CT P A]{F:Unit->Option α}{G:R->Option α}{K:α->Option β}{r:β}{f:FuncId}{m:Mem}{KA:List Nat->PV->Mem->Prop}
 (H:((nG ρ).bind F).bind K=ZA r) (hF:F ()=A.bind G) (hf:C.f=f) (Kh:ps=C.args.map (DI (sig ρ ν))) (hq:∀q∈C.args,wT ZD q/\M3 C.m0.length q=ZC) (hn:ρ.Nodup) (As:qP (sig ρ ν) m C.m0.length ρ C.m0)
 (hlen:∀y,C.m0.length<=(C.mem y).length/\(C.mem y).length-C.m0.length<=wd) (hm:∀y,∀mb,ZA mb∈C.mem y->∀cs∈mb.es,∀p∈cs,er ZD p) (hg:∀y,tt ZD (C.res y))
 (hk:∀y,A=ZA y->(G y).bind K=ZA r->KA ρ (DJ (sig ρ ν) (C.res y)) (jy (sig ρ ν) ν ((C.mem y).drop ρ.length) (qi (sig ρ ν) ρ (C.mem y) m))):pIO P wd ν f ps m KA:=by
 have H':(F ()).bind K=ZA r:=H;rw[hF]at H'
 obtain⟨y,hy,H2⟩:=Hn H';subst hf;exact⟨ρ,C.m0,C.args,C.res y,C.mem y,C.ok hy,(hlen y).1,(hlen y).2,Kh,hq,hn,As,hm y,hg y,hk y hy H2⟩
def Zdd:Prop:=True
theorem ZnQ{ρ:List Nat}{K:α->Option β}(H:((nG ρ).bind F).bind K=ZA r):Zdd:=trivial
theorem Zqa{P:Program}{f:FuncId}{m:Mem}{KA:PV->Mem->Prop}(h:Zdd)(hk:rz P io wd ν f ps m KA):rz P io wd ν f ps m KA:=hk
theorem ZnR{P:Program}{f:FuncId}{m:Mem}{KA:List Nat->PV->Mem->Prop}(h:Zdd)(hk:pIO P wd ν f ps m KA):pIO P wd ν f ps m KA:=hk
theorem Tf{m:Mem}:qP σ m n [] []:=trivial
theorem Zfl(h:uW p=ZC):B9 n p=true:=by
 cases p with
 |fn f cs=>
  simp only[uW,VS]at h
  simp only[B9,VS];intro c hc;have:=h c hc
  cases c<;>simp_all[yu,Gr]
 |_=>simp_all[uW,yu,B9,Gr]
theorem Te[hf:dB f]{m:Mem}{T:TK}{xs:List α}{ρ:List Nat}(hl:look m l=ZA ⟨T,k,xs.map f⟩)(h:qP σ m n ρ m0):qP σ m n (l::ρ) (ZA ⟨T,k,xs.map f⟩::m0):=by
 refine⟨?_,λcs gl p hp=>?_,h⟩
 ·rw[jq.1 hl]
  simp only[nL,LD]
 ·obtain⟨x,_,rfl⟩:=V6.1 gl
  exact⟨xF (hf.h x p hp),Zfl (hf.h x p hp)⟩
theorem Tg{m:Mem}{T:TK}{ρ:List Nat}(hl:look m l=ZA ⟨T,k,[sm]⟩)(hc:sm=cs.map (vt σ))(hg:∀p∈cs,er ZD p/\B9 n p=ZC)(h:qP σ m n ρ m0):qP σ m n (l::ρ) (ZA ⟨T,k,[cs]⟩::m0):=by
 subst hc;refine⟨jq.1 hl,λds Vi p hp=>?_,h⟩
 obtain rfl:ds=cs:=by simpa using Vi
 exact hg p hp
@[irreducible] def jn{ο α:Type}(i j:Nat)(J:Option (ο⊕α))(T:ο->List PV)(M:ο->Mem):Option (ο⊕α):=J
def hdC:Code->Bool
 |.region _ _ _=>ZC
 |.loop _=>ZC
 |.seq a _=>hdC a
 |.block _ c=>hdC c
 |_=>ZD
def idC:Code->Nat
 |.region i _ _=>i
 |.loop c=>idC c
 |.seq a _=>idC a
 |.block _ c=>idC c
 |_=>0
theorem Jz{P:Program}{n0:Nat}:∀(c:Code),hdC c=ZC->∀{Q:Exit->List PV->Mem->Prop} {t T:List PV} {m M:Mem},tz n0 t m T M->tp P n0 c Q T M->tp P n0 c Q t m
 |.region i ops draw,_,Q,t,T,m,M,hc,h=>by
  rcases h with h|⟨t1,m1,h1,h2⟩
  ·exact .inr ⟨T,M,hc,h⟩
  ·exact .inr ⟨t1,m1,hc.trans h1,h2⟩
 |.loop c,_,Q,t,T,m,M,hc,h=>by
  obtain⟨I,n,t0,m0,h1,h2⟩:=h;exact⟨I,n,t0,m0,hc.trans h1,h2⟩
 |.seq a b,hd,Q,t,T,m,M,hc,h=>Jz a hd hc h
 |.block i c,hd,Q,t,T,m,M,hc,h=>Jz c hd hc h
theorem Zf1{P:Program}{n0:Nat}{Q:Exit->List PV->Mem->Prop}{t:List PV}{m:Mem}{a b:Code}{T:ο->List PV}{G:ο->Option β}{F:α->Option β}{K:β->Option γ}{r:γ}
 (H:((jn i j J T M).bind (bm G F)).bind K=ZA r) (hd:hdC b=ZC) (hi:(idC a==i&&idC b==j)=ZC)
 (h1:∀K':List PV->Mem->Prop,(∀o t' m',(G o).bind K=ZA r->tz n0 t' m' (T o) (M o)->K' t' m')->J.bind (bm (λo=>(G o).bind K) (λv=>(F v).bind K))=ZA r->tp P n0 a (uO K' Q) t m)
 (h2:∀o,(G o).bind K=ZA r->tp P n0 b Q (T o) (M o)):tp P n0 (.seq a b) Q t m:=by
 unfold jn at H
 refine h1 (λt m=>tp P n0 b Q t m) (λo t' m' h hc=>Jz b hd hc (h2 o h)) ?_
 cases J with
 |none=>cases H
 |some x=>cases x<;>exact H
theorem jnX{n0:Nat}{s:ο}{F:ο->Option β}{K:α->Option β}{Kp:List PV->Mem->Prop}{T:ο->List PV}{t:List PV}{m:Mem}(H:(ZA (Sum.inl s)).bind (bm F K)=ZA r)(hL:∀o t' m',F o=ZA r->tz n0 t' m' (T o) (M o)->Kp t' m')(hc:tz n0 t m (T s) (M s)):Kp t m:=hL s t m H hc
def Zmb:Prop:=True
theorem jnH{T:ο->List PV}{G:(ο⊕α)->Option β}{K:β->Option γ}{r:γ}(H:((jn i j J T M).bind G).bind K=ZA r):Zmb:=trivial
theorem jnS{P:Program}{n0:Nat}{Q:Exit->List PV->Mem->Prop}{t:List PV}{m:Mem}{a b:Code}(h:Zmb)(hk:tp P n0 (.seq a b) Q t m):tp P n0 (.seq a b) Q t m:=hk
theorem RD{K K2:List PV->Mem->Prop}{Q:Exit->List PV->Mem->Prop}:uO K (uO K2 Q)=uO K Q:=by
 funext e t m
 cases e<;>rfl
theorem ZcF{P:Program}{n0:Nat}{Q:Exit->List PV->Mem->Prop}{t:List PV}{m:Mem}{a b c:Code}(h:tp P n0 (.seq (.seq a b) c) Q t m):tp P n0 (.seq a (.seq b c)) Q t m:=by
 have e:tp P n0 (.seq (.seq a b) c) Q t m=tp P n0 a (uO (λt m=>tp P n0 b (uO (λt m=>tp P n0 c Q t m) Q) t m) (uO (λt m=>tp P n0 c Q t m) Q)) t m:=by simp only[tp]
 rw[e,RD]at h
 simp only[tp];exact h
theorem ZiC{P:Program}{n0:Nat}{Q:Exit->List PV->Mem->Prop}{t:List PV}{m:Mem}{a b c:Code}{T:ο->List PV}{G:ο->Option β}{F:α->Option β}{K:β->Option γ}{r:γ}
 (H:((jn i j J T M).bind (bm G F)).bind K=ZA r) (hd:hdC c=ZC) (hi:(idC a==i&&idC c==j)=ZC)
 (h1:∀K':List PV->Mem->Prop,(∀o t' m',(G o).bind K=ZA r->tz n0 t' m' (T o) (M o)->K' t' m')->J.bind (bm (λo=>(G o).bind K) (λv=>(F v).bind K))=ZA r->tp P n0 (.seq a b) (uO K' Q) t m)
 (h2:∀o,(G o).bind K=ZA r->tp P n0 c Q (T o) (M o)):tp P n0 (.seq a (.seq b c)) Q t m:=ZcF (Zf1 H hd hi h1 h2)
inductive yY:PV->PV->Prop
 |r (p:PV):yY p p
 |nil (c:Nat):yY (.v (.slice ZB 0 c)) (.sl [])
 |un (p:PV):yY p .un
inductive Gc:List PV->List PV->Prop
 |n:Gc [] []
 |c {p q:PV} {ps qs:List PV} (h:yY p q) (k:Gc ps qs):Gc (p::ps) (q::qs)
inductive Hs:PV->PV->Prop
 |c {p q:PV} (h:yY p q):Hs p q
 |ag {cs ds:List PV} (h:Gc cs ds):Hs (.ag cs) (.ag ds)
inductive Gb:List PV->List PV->Prop
 |n:Gb [] []
 |c {p q:PV} {ps qs:List PV} (h:Hs p q) (k:Gb ps qs):Gb (p::ps) (q::qs)
theorem yY.rep{p q:PV}{x:Value}(h:yY p q)(hr:cN w E p x):cN w E q x:=by
 cases h with
 |r=>exact hr
 |nil c=>
  cases hr with
  |c h=>cases h with
   |v _ _=>exact .c (.nil ZB c)
 |un=>exact .c (.un x)
theorem Gc.len(h:Gc cs ds):cs.length=ds.length:=by
 induction h with
 |n=>rfl
 |c _ _ ih=>simp[ih]
theorem Gc.get(h:Gc cs ds):∀(j:Nat) (q:PV),ds[j]?=ZA q->∃p,cs[j]?=ZA p/\yY p q:=by
 induction h with
 |n=>intro j q hq;simp at hq
 |c h k ih=>
  intro j q hq
  cases j with
  |zero=>simp at hq;subst hq;exact⟨_,by simp,h⟩
  |succ j=>simpa using ih j q (by simpa using hq)
theorem Hs.rep{w:World}{E:Env}{p q:PV}{x:Value}(h:Hs p q)(hr:cN w E p x):cN w E q x:=by
 cases h with
 |c h=>exact h.rep hr
 |ag h=>
  obtain⟨vs,rfl,hl,h1,hc⟩:=cN.pb hr;exact .ag _ vs (by rw[hl,h.len]) h1 λj p y hp hy=>by
   obtain⟨p',hp',hs⟩:=h.get j p hp;exact hs.rep (hc j p' y hp' hy)
theorem Gb.len(h:Gb cs ds):cs.length=ds.length:=by
 induction h with
 |n=>rfl
 |c _ _ ih=>simp[ih]
theorem Gb.get(h:Gb cs ds):∀(j:Nat) (q:PV),ds[j]?=ZA q->∃p,cs[j]?=ZA p/\Hs p q:=by
 induction h with
 |n=>intro j q hq;simp at hq
 |c h k ih=>
  intro j q hq
  cases j with
  |zero=>simp at hq;subst hq;exact⟨_,by simp,h⟩
  |succ j=>simpa using ih j q (by simpa using hq)
theorem cq.UH{P:Program}{f:FuncId}{r:PV}(h:cq P f qs m0 r m1)(hs:Gb ps qs):cq P f ps m0 r m1:=by
 intro S β w vs ω ji hl ha;refine h S β w vs ω ji (by rw[hl,hs.len]) λi q hq=>?_
 obtain⟨p,hp,hv⟩:=hs.get i q hq;obtain⟨x,hx,hr⟩:=ha i p hp;exact⟨x,hx,hv.rep hr⟩
def ZhN:PV->Bool
 |.ms _=>ZC
 |p=>uW p
def Zjy:PV->Bool
 |.ag cs=>cs.all ZhN
 |.tu _=>ZD
 |p=>ZhN p
theorem Pw(h:ZhN p=ZC):er ZD p:=by
 cases p with
 |ms l=>simp[er]
 |_=>exact xF h
theorem Zkj(h:cs.all ZhN=ZC):tt ZD (.ag cs):=λc hc=>Pw (VS.1 h c hc)
theorem Zkk(h:ps.all Zjy=ZC):tt ZD (.tu ps):=by
 intro c hc;have:=VS.1 h c hc
 cases c with
 |ag cs=>exact λd hd=>Pw (VS.1 this d hd)
 |tu vs=>simp[Zjy]at this
 |fn f cs=>exact xF (c:=.fn f cs) this
 |_=>simp[wT,er]
theorem O6{m m':Mem}{c:Nat}:qq ρ m m' (.v (.slice ZB 0 c)) (.sl []):=.VC c
theorem Ri{m m':Mem}{rs rr:List (Option Nat)}{T:TK}{mm:Mem}(hk:ZE (0<k)=ZC)(h:pg rs m m' rr mm):pg rs m m' (ZB::rr) (ZA ⟨T,k,[]⟩::mm):=⟨⟨rfl,YA hk⟩,h⟩
theorem Zk6{m:Mem}:zA 0 i rs m=true:=rfl
theorem Zk7{mb:MB}{m:Mem}(h:zA n (i+1) rs m=ZC):zA (n+1) i (ZA i::rs) (ZA mb::m)=true:=by simp[zA,h]
theorem Zk8{m:Mem}(h:zA n (i+1) rs m=ZC):zA (n+1) i (ZB::rs) (ZB::m)=true:=by simpa[zA]using h
theorem uy{b:Bool}{T:TK}(h:∀cs∈es,∀p∈cs,er b p):∀mb,ZA mb∈([ZA ⟨T,k,es⟩]:Mem)->∀cs∈mb.es,∀p∈cs,er b p:=by
 intro mb hm;simp only[V8,VR]at hm
 subst hm;exact h
theorem Vm{m:Mem}{b:Bool}(h2:∀mb,ZA mb∈m->∀cs∈mb.es,∀p∈cs,er b p):∀mb,ZA mb∈((ZB:Option MB)::m)->∀cs∈mb.es,∀p∈cs,er b p:=by
 intro mb h
 rcases VM.1 h with h|h
 ·cases h
 ·exact h2 mb h
theorem Znf{T:TK}{b:Bool}:∀mb,ZA mb∈([ZA ⟨T,k,[]⟩]:Mem)->∀cs∈mb.es,∀p∈cs,er b p:=uy YJ
theorem Zma{K:α->Option β}(h:(ZB:Option α).bind K=ZA r):False:=by cases h
theorem KW{c c2:ByteArray}:Ix prog (n+3) 42 [vi a,vi b,vs c] [vi a2,vi b2,vs c2]=ZA (ZE ((⟨a,b,c⟩:fF)=(⟨a2,b2,c2⟩:fF))):=by
 simp only[Ix,Tryz.underlying3,Tryz.underlying42,Zjc,Tryz.underlying9,Program.fieldsOf,go_sem];simp[Zjc,tq3,tq9];rw[baB];rfl
@[go_sem] theorem Zl1{c c2:ByteArray}{KR:PV->Prop}:yS prog .eql 42 [vi a,vi b,vs c] [vi a2,vi b2,vs c2] KR=KR (vb (ZE ((⟨a,b,c⟩:fF)=(⟨a2,b2,c2⟩:fF)))):=by unfold yS;rw[show(10000:Nat)=9997+3 from rfl,KW,Tryz.underlying42];simp only[Zjc,true_and]
@[go_sem] theorem Zl2{c c2:ByteArray}{KR:PV->Prop}:yS prog .neq 42 [vi a,vi b,vs c] [vi a2,vi b2,vs c2] KR=KR (vb (!decide ((⟨a,b,c⟩:fF)=(⟨a2,b2,c2⟩:fF)))):=by unfold yS;rw[show(10000:Nat)=9997+3 from rfl,KW,Tryz.underlying42];simp only[Zjc,true_and]
theorem Vb{a a2:ByteArray}{b b2:ByteArray}{d d2:Int}{e e2:Int}{f f2:Int}:Ix prog (n+3) 174 [vs a,vs b,vi c,vi d,vi e,vi f] [vs a2,vs b2,vi c2,vi d2,vi e2,vi f2]=ZA (ZE ((⟨a,b,c,d,e,f⟩:bM)=(⟨a2,b2,c2,d2,e2,f2⟩:bM))):=by
 simp only[Ix,Tryz.underlying3,Tryz.underlying174,ZaM,Tryz.underlying9,Program.fieldsOf,go_sem];simp[ZaM,tq3,tq9,baB];rfl
@[go_sem] theorem Zof{a a2:ByteArray}{b b2:ByteArray}{d d2:Int}{e e2:Int}{f f2:Int}{KR:PV->Prop}:yS prog .eql 174 [vs a,vs b,vi c,vi d,vi e,vi f] [vs a2,vs b2,vi c2,vi d2,vi e2,vi f2] KR=KR (vb (ZE ((⟨a,b,c,d,e,f⟩:bM)=(⟨a2,b2,c2,d2,e2,f2⟩:bM)))):=by unfold yS;rw[show(10000:Nat)=9997+3 from rfl,Vb,Tryz.underlying174];simp only[ZaM,true_and]
@[go_sem] theorem Zog{a a2:ByteArray}{b b2:ByteArray}{d d2:Int}{e e2:Int}{f f2:Int}{KR:PV->Prop}:yS prog .neq 174 [vs a,vs b,vi c,vi d,vi e,vi f] [vs a2,vs b2,vi c2,vi d2,vi e2,vi f2] KR=KR (vb (!decide ((⟨a,b,c,d,e,f⟩:bM)=(⟨a2,b2,c2,d2,e2,f2⟩:bM)))):=by unfold yS;rw[show(10000:Nat)=9997+3 from rfl,Vb,Tryz.underlying174];simp only[ZaM,true_and]
theorem Pj{d d2:ByteArray}{e e2:Int}{f f2:Int}:Ix prog (n+3) 181 [vi a,vi b,vi c,vs d,vi e,vi f] [vi a2,vi b2,vi c2,vs d2,vi e2,vi f2]=ZA (ZE ((⟨a,b,c,d,⟨e,f⟩⟩:bc)=(⟨a2,b2,c2,d2,⟨e2,f2⟩⟩:bc))):=by
 simp only[Ix,Tryz.underlying3,Tryz.underlying181,ZaO,Tryz.underlying46,RE,Tryz.underlying9,Program.fieldsOf,go_sem];simp[ZaO,RE,tq3,tq9,baB];rfl
@[go_sem] theorem ZmG{d d2:ByteArray}{e e2:Int}{f f2:Int}{KR:PV->Prop}:yS prog .eql 181 [vi a,vi b,vi c,vs d,vi e,vi f] [vi a2,vi b2,vi c2,vs d2,vi e2,vi f2] KR=KR (vb (ZE ((⟨a,b,c,d,⟨e,f⟩⟩:bc)=(⟨a2,b2,c2,d2,⟨e2,f2⟩⟩:bc)))):=by unfold yS;rw[show(10000:Nat)=9997+3 from rfl,Pj,Tryz.underlying181];simp only[ZaO,true_and]
@[go_sem] theorem ZnA{d d2:ByteArray}{e e2:Int}{f f2:Int}{KR:PV->Prop}:yS prog .neq 181 [vi a,vi b,vi c,vs d,vi e,vi f] [vi a2,vi b2,vi c2,vs d2,vi e2,vi f2] KR=KR (vb (!decide ((⟨a,b,c,d,⟨e,f⟩⟩:bc)=(⟨a2,b2,c2,d2,⟨e2,f2⟩⟩:bc)))):=by unfold yS;rw[show(10000:Nat)=9997+3 from rfl,Pj,Tryz.underlying181];simp only[ZaO,true_and]
set_option maxRecDepth 4000
theorem ZdW{m m':Mem}{f:FuncId}(h:uw ρ m m' cs ds):qq ρ m m' (.fn f cs) (.fn f ds):=by
 have key:∀(cs ds:List PV),uw ρ m m' cs ds->ds.length=cs.length/\∀(j:Nat) (p r:PV),cs[j]?=ZA p->ds[j]?=ZA r->qq ρ m m' p r:=by
  intro cs
  induction cs with
  |nil=>intro ds h;cases ds with
   |nil=>exact⟨rfl,by simp⟩
   |cons d ds=>exact h.elim
  |cons c cs ih=>intro ds h;cases ds with
   |nil=>exact h.elim
   |cons d ds=>
    obtain⟨h1,h2⟩:=h;obtain⟨k1,k2⟩:=ih ds h2;refine⟨by simp[k1],λj p r hp hr=>?_⟩
    cases j with
    |zero=>simp at hp hr;subst hp hr;exact h1
    |succ j=>simp at hp hr;exact k2 j p r hp hr
 obtain⟨a,b⟩:=key cs ds h;exact .fn f cs ds a b
theorem Vp{xs:List α}{y:α}{c:α->List PV}(h:aA xs (n:Int)=ZA y):(xs.map c)[n]?=ZA (c y):=by
 unfold aA at h
 rw[if_pos (Int.natCast_nonneg n),Int.toNat_natCast]at h
 rw[VZ,h];rfl
theorem Znw{a b c i y:Int}(h:aA [a,b,c] i=ZA y):([[PV.v (ZF ZG a)],[PV.v (ZF ZG b)],[PV.v (ZF ZG c)]]:List (List PV))[i.toNat]?=ZA [PV.v (ZF ZG y)]:=by
 have:([[PV.v (ZF ZG a)],[PV.v (ZF ZG b)],[PV.v (ZF ZG c)]]:List (List PV))=[a,b,c].map aI:=rfl;rw[this];exact ED h
theorem ZjB{a b c y:ByteArray}{i:Int}(h:aA [a,b,c] i=ZA y):([[PV.v (.string a)],[PV.v (.string b)],[PV.v (.string c)]]:List (List PV))[i.toNat]?=ZA [PV.v (.string y)]:=by
 have:([[PV.v (.string a)],[PV.v (.string b)],[PV.v (.string c)]]:List (List PV))=[a,b,c].map km:=rfl;rw[this];exact ED h
theorem Zil{P:Program}{f:FuncId}{m:Mem}{K:PV->Mem->Prop}(h1:∀c∈cs,I2 c=ZC)(h2:BW P f)(h3:rz P io wd ν f (ps++cs) m K):Zik P io wd ν (.fn f cs) ps m K:=⟨h1,h2,h3⟩
def Fc(x:List Int):List PV:=[.sl (x.map aI)]
instance :dx (List Int):=⟨Fc⟩
instance :dB Fc:=⟨λx q h=>by simp only[Fc,V8]at h;subst h;rfl⟩
attribute [go_sem] Fc
theorem xf{p:Prop}(h:p:=by(first|exact ZeJ|(repeat(first|exact MN|exact GV|exact Znf|(refine ZbN MN ?_) |(refine ZbN GV ?_) |(refine ZbN Znf ?_) |exact uy (by simp[er,I2]) |(refine Vm ?_) |(refine ZbN (uy (by simp[er,I2])) ?_))));(first|done|fail)):p:=h
theorem xs{p:Prop}(h:p:=by((refine cq.UH (CT.ok hy) ?_);(repeat' (first|exact Gb.n|(refine Gb.c ?_ ?_) |exact Hs.c (yY.r _) |(refine Hs.ag ?_) |exact Gc.n|(refine Gc.c ?_ ?_) |exact yY.r _|exact yY.nil _|exact yY.un _)));(first|done|fail)):p:=h
def E00:Env:=E1 (λ_=>False) (λ_=>ZB) 0
theorem ZjE{x:Value}(h:cN w E00 p x):cN w' E p x:=by
 induction h with
 |c h=>
  refine .c ?_
  induction h with
  |v x h=>exact .v x h
  |ud=>exact .ud
  |un x=>exact .un x
  |nil A c=>exact .nil A c
  |sl _ _ _ _ _ _ hS=>exact hS.elim
  |rp _ _ _ _ hS=>exact hS.elim
  |fn f cs vs hl hr ih=>exact .fn f cs vs hl ih
 |ms l x hl=>exact absurd hl (WE _)
 |ss l a b x hl=>exact absurd hl (WE _)
 |be l i o x hl=>exact absurd hl (WE _)
 |ag cs vs hl h1 hr ih=>exact .ag cs vs hl h1 ih
 |tu ps vs hl hr ih=>exact .tu ps vs hl ih
 |fn f cs vs hl hr ih=>exact .fn f cs vs hl ih
theorem dA.to0{B:cL}(h:dA w E00 ⟨T,k,es⟩ B)(E:Env):dA w E ⟨T,k,es⟩ B:=
 ⟨h.k,h.n,h.T,h.pos,h.nc,h.cm,h.es,h.nil,λhz=>by
  obtain⟨cells,m1,m2,m3⟩:=h.mem hz;exact⟨cells,m1,m2,λi cs j p hi hj=>by obtain⟨x,a,b,c⟩:=m3 i cs j p hi hj;exact⟨x,a,b,ZjE c⟩⟩,λ_ h=>by cases h⟩
theorem dA.CQ{T:TK}{T0:TypeId}{B:cL}(h:dA w E ⟨T,k,es⟩ B)(hf:∀cs∈es,∀p∈cs,∃v,p=.v v)(hT:T.t=T0:=by rfl):dA w E00 ⟨T0,k,es⟩ B:=
 ⟨h.k,h.n,h.T.trans hT,h.pos,h.nc,h.cm,h.es,h.nil,fun hz=>by
  obtain⟨cells,m1,m2,m3⟩:=h.mem hz;exact⟨cells,m1,m2,fun i cs j p hi hj=>by
   obtain⟨x,a,b,c⟩:=m3 i cs j p hi hj;obtain⟨v,rfl⟩:=hf cs (VI hi) p (VI hj);obtain⟨rfl,h1⟩:=c.cF;exact⟨x,a,b,.c (.v _ h1)⟩⟩,fun _ h=>by cases h⟩
theorem dA.Ze7{B:cL}(h:dA w E00 ⟨T,k,es⟩ B)(hh:B.z=ZD->w'.heap[B.b]?=w.heap[B.b]?):dA w' E00 ⟨T,k,es⟩ B:=
 ⟨h.k,h.n,h.T,h.pos,h.nc,h.cm,h.es,h.nil,λhz=>by
  obtain⟨cells,m1,m2,m3⟩:=h.mem hz;exact⟨cells,(hh hz).trans m1,m2,λi cs j p hi hj=>by obtain⟨x,a,b,c⟩:=m3 i cs j p hi hj;exact⟨x,a,b,ZjE c⟩⟩,λ_ h=>by cases h⟩
theorem cq.mark{P:Program}{f:FuncId}{k0 k1:Int}(h:cq P f [.ms 0,vi k0] [ZA ⟨T,k,es⟩] (vi k1) [ZA ⟨T,k,vC⟩])(hf:∀cs∈vC,∀p∈cs,∃v,p=.v v){B:cL}(hB:dA w E00 ⟨T,k,es⟩ B)(ht:Oo w (λb=>B.z=ZD/\b=B.b)):
 Calls P f #[B.sv,I k0] w λe w'=>e=.returned (I k1)/\dA w' E00 ⟨T,k,vC⟩ B/\mA (λb=>B.z=ZD/\b=B.b) w w':=by
 have hO:∀b,mz (λl=>if l=0 then ZA B else ZB) b↔(B.z=ZD/\b=B.b):=λb=>by
  constructor
  ·rintro⟨l,B',h1,h2,rfl⟩
   by_cases hl:l=0
   ·simp only[hl,if_true,VR]at h1;subst h1;exact⟨h2,rfl⟩
   ·simp only[hl,if_false]at h1;cases h1
  ·rintro⟨h1,rfl⟩;exact⟨0,B,rfl,h1,rfl⟩
 have eO:mz (λl=>if l=0 then ZA B else ZB)=λb=>B.z=ZD/\b=B.b:=funext λb=>propext (hO b)
 have bO:B.z=ZD->B.b<w.heap.size:=λhz=>by
  obtain⟨cells,m1,_⟩:=hB.mem hz;exact(Array.getElem?_eq_some_iff.1 m1).1
 have b0:∀{l:Nat} {B':cL},(if l=0 then ZA B else ZB)=ZA B'->l=0/\B'=B:=λ{l B'} h=>by
  by_cases hl:l=0
  ·simp only[hl,if_true,VR]at h;exact⟨hl,h.symm⟩
  ·simp only[hl,if_false]at h;cases h
 have ji:Ok w (mz λl=>if l=0 then ZA B else ZB) (E1 (λ_=>False) (λl=>if l=0 then ZA B else ZB) 1) w [ZA ⟨T,k,es⟩]:=by
  refine⟨mA.refl _ _,λb h=>h.elim,λl B' h hz=>?_,λl l' B1 B2 h1 h2 _ _ _=>?_,λl h=>h,λl B' h=>?_,λl mb hm=>?_,λl B' h=>?_,eO▸ht,λ_ _ h=>h.elim⟩
  ·obtain⟨rfl,rfl⟩:=b0 h
   exact⟨.inl ⟨0,_,h,hz,rfl⟩,bO hz,λh=>h⟩
  ·rw[(b0 h1).1,(b0 h2).1]
  ·rw[(b0 h).1];exact Ym
  ·cases l with
   |succ l=>simp at hm
   |zero=>
    obtain rfl:_=mb:=by simpa using hm
    exact⟨B,rfl,hB.to0 _⟩
  ·rw[(b0 h).1];exact⟨_,rfl⟩
 refine(h (λ_=>False) (λl=>if l=0 then ZA B else ZB) w #[B.sv,I k0] (λ_ _=>False) ji rfl λi p hp=>?_).mono ?_
 ·match i,hp with
  |0,hp=>
   obtain rfl:=VG hp;exact⟨_,rfl,.ms 0 _ Ym Zv λB' lB=>by
    have e:ZA B=ZA B':=lB
    cases e
    rfl⟩
  |1,hp=>obtain rfl:=VG hp;exact⟨_,rfl,.c (.v _ rfl)⟩
  |i+2,hp=>simp at hp
 ·rintro e w' ⟨v,E',rfl,hk,_,_,⟨D3,_⟩,hr⟩
  obtain⟨rfl,_⟩:=hr.cF;refine⟨rfl,?_,eO▸hk.up⟩;obtain⟨B',h1,h2⟩:=hk.mem 0 _ rfl;obtain⟨_,rfl⟩:=b0 (D3 0 B' Ym h1);exact h2.CQ hf
theorem aL{n:Int}(h:-9223372036854775808<=n/\n<=9223372036854775807):aH n=n:=IntWalk.i64_in n h
theorem bI(hi:i<n)(hn:n<=1152921504606846976):aH ((i:Int)+1)=((i+1:Nat):Int):=by
 rw[aL YG];omega
theorem aQ{xs:List α}:aA xs (i:Int)=xs[i]?:=by
 unfold aA;rw[if_pos YG];simp
theorem pD{b:Bool}(h:b=ZC):dg b=ZA ():=by subst h;rfl
def wa{A α ο:Type}(F:Nat->A->α->Option (A⊕ο))(E:A->Option ο):Nat->List α->A->Option ο
 |_,[],a=>E a
 |i,x::xs,a=>(F i a x).bind (bm (λa'=>wa F E (i+1) xs a') ZA)
theorem Lf{A α σ ο:Type}{xs:List α}{body:σ->Option (σ⊕ο)}{mk:A->Int->σ}{F:Nat->A->α->Option (A⊕ο)}{E:A->Option ο}
 (h1:∀a (i:Nat) x,xs[i]?=ZA x->body (mk a i)=(F i a x).bind (bm (λa'=>ZA (.inl (mk a' ((i+1:Nat):Int)))) (λr=>ZA (.inr r))))
 (h2:∀a,body (mk a (xs.length:Int))=(E a).bind λr=>ZA (.inr r)):
 ∀(ys:List α) (i:Nat) (N:Nat) (a:A),xs.drop i=ys->i<=xs.length->ys.length<N->aD body N (mk a i)=wa F E i ys a
 | [],i,0,a,_,_,hN=>YG
 | [],i,N+1,a,hd,hi,hN=>by
  have:i=xs.length:=by have:=congrArg Yi hd;simp at this;omega
  subst this;simp only[aD,wa,h2]
  cases E a<;>rfl
 |y::ys,i,0,a,_,_,hN=>by simp at hN
 |y::ys,i,N+1,a,hd,hi,hN=>by
  have hy:xs[i]?=ZA y:=by
   have:=congrArg (λl=>l[0]?) hd
   simpa using this
  have bO:i<xs.length:=(VH.1 hy).1;have yL:xs.drop (i+1)=ys:=by
   have:=congrArg (List.drop 1) hd
   simpa[List.drop_drop]using this
  simp only[aD,wa,h1 a i y hy]
  cases hF:F i a y with
  |none=>rfl
  |some o=>
   cases o with
   |inl a'=>
    show aD body N (mk a' ((i+1:Nat):Int))=wa F E (i+1) ys a';exact Lf h1 h2 ys (i+1) N a' yL bO (by simp at hN;omega)
   |inr r=>rfl
theorem so{A α σ ο:Type}{xs:List α}{body:σ->Option (σ⊕ο)}{N:Nat}(mk:A->Int->σ)(F:Nat->A->α->Option (A⊕ο))(E:A->Option ο)
 (h1:∀a (i:Nat) x,xs[i]?=ZA x->body (mk a i)=(F i a x).bind (bm (λa'=>ZA (.inl (mk a' ((i+1:Nat):Int)))) (λr=>ZA (.inr r))))
 (h2:∀a,body (mk a (xs.length:Int))=(E a).bind λr=>ZA (.inr r)) (hN:xs.length<N) (a:A):aD body N (mk a 0)=wa F E 0 xs a:=
 Lf h1 h2 xs 0 N a rfl (Nat.zero_le _) hN
theorem LI{α ο:Type}{o:ο}:∀(xs:List α) (i:Nat),wa (λ_ (_:Unit) (_:α)=>ZA (.inl ())) (λ_=>ZA o) i xs ()=ZA o
 | [],i=>rfl
 |x::xs,i=>by simp only[wa];exact LI xs (i+1)
theorem Dq{σ ο:Type}{body:σ->Option (σ⊕ο)}(I:Nat->σ->Prop)(hI:∀k s,I k s->∃o,body s=ZA o/\∀s',o=.inl s'->∃k',k'<k/\I k' s'):∀(N k:Nat) (s:σ),I k s->k<N->∃o,aD body N s=ZA o
 |0,k,s,_,hN=>YG
 |N+1,k,s,h,hN=>by
  obtain⟨o,hb,hn⟩:=hI k s h;simp only[aD,hb]
  cases o with
  |inr r=>exact⟨r,rfl⟩
  |inl s'=>
   obtain⟨k',hk,hi⟩:=hn s' rfl;exact Dq I hI N k' s' hi YG
theorem Dp(hn:n<NN)(h:∀i:Nat,i<n->∃o,body (i:Int)=ZA o/\∀s',o=.inl s'->s'=((i+1:Nat):Int))(he:∃r,body (n:Int)=ZA (.inr r)):∃o,aD body NN 0=ZA o:=by
 refine Dq (λk s=>∃i:Nat,i+k=n/\s=(i:Int)) ?_ NN n 0 ⟨0,YG,rfl⟩ hn
 rintro k s ⟨i,hi,rfl⟩
 rcases Wg i n with bO|Ev
 ·obtain⟨o,ho,hs⟩:=h i bO
  exact⟨o,ho,λs' e=>⟨k-1,YG,i+1,YG,hs s' e⟩⟩
 ·obtain⟨r,hr⟩:=he
  have:i=n:=YG;subst this;exact⟨_,hr,λs' e=>by cases e⟩
theorem ZaD{x:Option (Int⊕ο)}(e:x=ZA (.inl ((i+1:Nat):Int))):∃o,x=ZA o/\∀s',o=.inl s'->s'=((i+1:Nat):Int):=⟨_,e,by rintro s' h;cases h;rfl⟩
theorem UA{x:Option (Int⊕ο)}{r:ο}(e:x=ZA (.inr r)):∃o,x=ZA o/\∀s',o=.inl s'->s'=((i+1:Nat):Int):=⟨_,e,by rintro s' h;cases h⟩
theorem Lh{xs:List α}{o:ο}(h1:∀(i:Nat) x,xs[i]?=ZA x->body (i:Int)=ZA (.inl ((i+1:Nat):Int)))(h2:body (xs.length:Int)=ZA (.inr o))(hN:xs.length<NN):aD body NN 0=ZA o:=by
 refine(so (A:=Unit) (λ_ i=>i) (λ_ _ _=>ZA (.inl ())) (λ_=>ZA o) ?_ ?_ hN ()).trans (LI xs 0)
 ·intro a i x hx;rw[h1 i x hx];rfl
 ·intro a;rw[h2];rfl
theorem Le{xs:List α}{z:α}{body:Int×List α->Option ((Int×List α)⊕List α)}
 (h1:∀(i:Nat) (out:List α) x,xs[i]?=ZA x->out.length=xs.length->body ((i:Int),out)=ZA (.inl (((i+1:Nat):Int),out.set i x)))
 (h2:∀out:List α,body ((xs.length:Int),out)=ZA (.inr out)) (hN:xs.length<NN):aD body NN (0,VW xs.length z)=ZA xs:=by
 have key:∀(k i N:Nat) (out:List α),i+k=xs.length->k<N->out.length=xs.length->out.take i=xs.take i->aD body N ((i:Int),out)=ZA xs:=by
  intro k
  induction k with
  |zero=>
   intro i N out hi hk hl ht
   cases N with
   |zero=>omega
   |succ N=>
    have lS:i=xs.length:=YG;subst lS;simp only[aD,h2];have:out=xs:=by rw[<-WA (l:=out),hl,ht,WA]
    rw[this];rfl
  |succ k ih=>
   intro i N out hi hk hl ht
   cases N with
   |zero=>omega
   |succ N=>
    have bO:i<xs.length:=YG;simp only[aD,h1 i out xs[i] (VF bO) hl];refine ih (i+1) N _ YG YG Zc ?_;rw[WY,WY,Wa YG,VF bO,List.take_set_of_le (VJ i),ht]
 exact key xs.length 0 NN _ YG hN YJ YJ
theorem pJ{c:Nat->Bool}{r e:ο}(h1:∀i:Nat,i<n->(∀j,j<i->c j=ZC)->body (i:Int)=ZA (if c i=ZC then .inl ((i+1:Nat):Int)else .inr r))(h2:(∀j,j<n->c j=ZC)->body (n:Int)=ZA (.inr e))(hN:n<NN):
 aD body NN 0=ZA (if(Wq n).all c=ZC then e else r):=by
 have key:∀(k i N:Nat),i+k=n->k<N->(∀j,j<i->c j=ZC)->aD body N (i:Int)=ZA (if(Wq n).all c=ZC then e else r):=by
  intro k
  induction k with
  |zero=>
   intro i N hi hk hj
   cases N with
   |zero=>omega
   |succ N=>
    have:i=n:=YG;subst this;simp only[aD,h2 hj];show ZA e=_;rw[if_pos (VS.2 λx hx=>hj x (WQ.1 hx))]
  |succ k ih=>
   intro i N hi hk hj
   cases N with
   |zero=>omega
   |succ N=>
    simp only[aD,h1 i YG hj]
    by_cases hc:c i=ZC
    ·rw[if_pos hc]
     exact ih (i+1) N YG YG (λj yr=>by
      rcases Wg j i with h|h
      ·exact hj j h
      ·have:j=i:=YG
       rw[this];exact hc)
    ·rw[if_neg hc]
     show ZA r=_;rw[if_neg λCW=>hc (VS.1 CW i (WQ.2 YG))]
 exact key n 0 NN YG hN (λj hj=>YG)
theorem ZcK(xs:List α)(p:α->Bool)(c:Nat->Bool)(h:∀i (hi:i<xs.length),c i=p xs[i]):(Wq xs.length).all c=xs.all p:=by
 rw[Bool.eq_iff_iff,VS,VS];constructor
 ·intro H x hx
  obtain⟨i,hi,rfl⟩:=List.getElem_of_mem hx;rw[<-h i hi];exact H i (WQ.2 hi)
 ·intro H i hi
  have lS:=WQ.1 hi;rw[h i lS];exact H _ (List.getElem_mem lS)
theorem xJ{xs:List α}{p:α->Bool}{r e:ο}(h1:∀i (hi:i<xs.length),body (i:Int)=ZA (if p xs[i]=ZC then .inr r else .inl ((i+1:Nat):Int)))(h2:body (xs.length:Int)=ZA (.inr e))(hN:xs.length<NN):
 aD body NN 0=ZA (if xs.any p=ZC then r else e):=by
 rw[pJ (n:=xs.length) (c:=λi=>(xs[i]?.map λx=>!p x).getD ZC) (r:=r) (e:=e) (λi hi _=>?_) (λ_=>h2) hN,ZcK xs (λx=>!p x) _ (λi hi=>by simp[hi])]
 ·rw[List.all_eq_not_any_not]
  cases hb:xs.any p with
  |true=>simp[hb]
  |false=>simp[hb]
 ·rw[h1 i hi]
  simp only[VF hi,Wo,Ww]
  cases p xs[i]<;>rfl
structure ElT(P:Program)(t e:TypeId)(k bytes:Nat):Prop where
 ht:P.underlying t=ZA (.slice e)
 info:∃i z,P.info? e=ZA i/\i.zero=ZA z/\i.size=k/\i.bytes=bytes/\z.cells.size=k
theorem ElT.mk'{P:Program}{t e:TypeId}{k bytes:Nat}{z:Value}(ht:P.underlying t=ZA (.slice e))(h:(P.info? e).map (λi=>(i.zero,i.size,i.bytes))=ZA (ZA z,k,bytes))(hz:z.cells.size=k):ElT P t e k bytes:=by
 obtain⟨i,h1,h2,h3,h4⟩:=info_parts h;exact⟨ht,i,z,h1,h2,h3,h4,hz⟩
theorem Own.form[eo α]{B E:Nat}{xs:List α}(h:Own w B E v xs):∃A c,v=.slice A xs.length c/\xs.length<=c/\c<=maxLen:=by
 rcases h.2 with⟨hv,h0⟩ |⟨g,cap,cur,hv,_,_,xt,Kd,_⟩
 ·exact⟨ZB,0,by rw[hv,h0],YG,by unfold maxLen;omega⟩
 ·exact⟨_,cap,hv,xt,Kd⟩
theorem Own.Zih[eo α](w:World)(B E:Nat):Own w B E (.slice ZB 0 0) ([]:List α):=World.ownsRow_nil _ _ _ _
theorem Own.empty[eo α](w:World)(B E c:Nat)(cur:Array Value)(hB:B<=w.heap.size)(hm:c<=maxLen)(hs:cur.size=c*eo.k α):
 Own (w.alloc (.cells cur E)) B E (.slice (ZA ⟨w.heap.size,0,ZB⟩) 0 c) ([]:List α):=World.ownsRow_made w cur c hB hm hs
theorem Own.more[eo α]{B B' E:Nat}{xs:List α}(h:Own w B E v xs)(hB:B'<=B):Own w B' E v xs:=by
 refine⟨h.1,?_⟩
 rcases h.2 with h2|⟨g,cap,cur,hv,hb,r⟩
 ·exact .inl h2
 ·exact .inr ⟨g,cap,cur,hv,YG,r⟩
theorem Own.down[eo α]{w0 W w:World}{E:Nat}{xs:List α}(h:Own w W.heap.size E v xs)(hu:Up w0 W):Own w w0.heap.size E v xs:=h.more hu.size
theorem Up.le(h:Up w0 w):w0.heap.size<=w.heap.size:=h.size
theorem Own.grown[eo α]{B E:Nat}{xs:List α}{row:Option Nat}(h:Own w B E v xs)(hg:w.grownBy w' row)(dX:v.ownBlock=ZB\/v.ownBlock≠row):Own w' B E v xs:=
 World.ownsRow.kept h hg dX
theorem Rd.one[eo α](w:World)(T:TypeId)(x:α)(B:Nat)(hB:w.heap.size<B):Rd (w.alloc (.cells (eo.cells x).toArray T)) B (ZA ⟨w.heap.size,0,ZB⟩) [x]:=by
 intro _;refine⟨w.heap.size,0,rfl,hB,λj u hu=>?_⟩
 rw[Zen]at hu
 rw[VY,cell_of_row _ _ j _ T (0,0) (heap_alloc_new w _)]
 simpa using hu
theorem Zds(b o j:Nat):(⟨b,o,ZB⟩:Addr).add j=⟨b,o+j,ZB⟩:=by unfold Addr.add;split<;>simp_all
theorem Ch[eo α]{P:Program}(w:World){t ty e:Nat}{i:TypeInfo}(ht:P.underlying t=ZA (.slice e))(hi:P.info? e=ZA i){base:Nat}(sA:Own w base e v ys)(c:Nat):
 (Builtin.append_ #[t,t] ty #[v,.slice ZB 0 c]).run P w=.ok v w:=by
 rcases sA.2 with⟨rfl,h0⟩ |⟨g,cap,cur,rfl,_,_,xt,_⟩
 ·simp[Builtin.append_,run_underlying ht,sizeOf,typeInfo,hi,Builtin.lenOf,Builtin.firstCells]
 ·simp[Builtin.append_,run_underlying ht,sizeOf,typeInfo,hi,Builtin.lenOf,Builtin.firstCells,xt,storeCells]
theorem Kz[eo α]{P:Program}(w:World){t ty e bytes:Nat}(T:ElT P t e (eo.k α) bytes){base:Nat}(sA:Own w base e v ys)
 {c:Nat} {xs:List α} (hr:Rd w B A xs) (rU:(ys.length+xs.length)*bytes<=140737488355328) (h63:ys.length+xs.length<=maxLen) (PC:base<=w.heap.size):
 ∃v' w',(Builtin.append_ #[t,t] ty #[v,.slice A xs.length c]).run P w=.ok v' w'/\Own w' base e v' (ys++xs)/\w.grownBy w' v.ownBlock/\(v'.ownBlock=v.ownBlock\/v'.ownBlock=ZA w.heap.size):=by
 obtain⟨i,z,hi,hz,hs,hb,hzs⟩:=T.info
 cases A with
 |none=>
  have hx:xs=[]:=by
   rcases Classical.em (xs=[])with h|h
   ·exact h
   ·obtain⟨_,_,h',_⟩:=hr h
    cases h'
  subst hx;have kn:=Ch (P:=P) w (ty:=ty) T.ht hi sA c;exact⟨v,w,by simpa using kn,by simpa using sA,⟨rfl,rfl,rfl,VJ _,λ_ _ _=>rfl⟩,.inl rfl⟩
 |some ad=>
  have Vn:∀j u,(flat xs)[j]?=ZA u->w.cell? (ad.add j)=ZA u:=by
   intro j u hu;have dX:xs≠[]:=by rintro rfl;simp[flat]at hu
   obtain⟨b,off,hA',_,hc⟩:=hr dX;injection hA' with hA'
   subst hA';rw[Zds];exact hc j u hu
  obtain⟨v',w',kn,h2,h3,_,h5⟩:=run_append_own_at (P:=P) w base t ty e i z (eo.k α) bytes T.ht hi hz hs hb hzs eo.pos v ys.length (flat ys) sA ad xs.length c (flat xs) (ux xs) Vn (Ms xs) h63 rU PC;refine⟨v',w',kn,?_,h3,h5⟩;have e1:(ys++xs).length=ys.length+xs.length:=List.length_append;unfold Own;rw[e1,Ps];exact h2
theorem Up.Zkq[eo α]{base e:Nat}(h:Up w0 w)(hg:w.grownBy w' v.ownBlock)(sA:Own w base e v ys)(hb:w0.heap.size<=base):Up w0 w':=
 Below.grown h hg h.size (λk hk=>Wb hb (World.ownsRow.lt sA k hk).1)
theorem N9[eo α]{P:Program}{o:Oper}{a:Act}{K:Act->World->Prop}{Q:Exit->Act->World->Prop}{t e bytes:Nat}(T:ElT P t e (eo.k α) bytes)
 (s x:Operand) (ho:o.op=.call { callee:=.builtin .append,args:=#[s,x],argTypes:=#[t,t]})
 {base:Nat} (hs:a.eval s=v) (sA:Own w base e v ys)
 {c:Nat} {xs:List α} (n:Nat) (hx:a.eval x=.slice A n c) (hn:n=xs.length) (hr:Rd w B A xs)
 (rU:(ys.length+xs.length)*bytes<=140737488355328) (h63:ys.length+xs.length<=maxLen) (PC:base<=w.heap.size)
 (h:∀v' w',Own w' base e v' (ys++xs)->w.grownBy w' v.ownBlock->(v'.ownBlock=v.ownBlock\/v'.ownBlock=ZA w.heap.size)->(∀w0,w0.heap.size<=base->Up w0 w->Up w0 w')->K (a.put o.dst v') w'):
 o.wp P a w K Q:=by
 subst hn;obtain⟨v',w',kn,h2,h3,h4⟩:=Kz (P:=P) w (ty:=o.type) (c:=c) T sA hr rU h63 PC;unfold Oper.wp execOp;simp only[ho,resolve,invoke,builtin,Sem.run_bind,Sem.run_pure,Result.andThen_ok,List.map_toArray,Wh,List.map_nil,hs,hx,kn];exact h v' w' h2 h3 h4 λw0 hb hu=>Up.Zkq hu h3 sA hb
theorem kA[eo α]{P:Program}{o:Oper}{a:Act}{Q:Exit->Act->World->Prop}{t e bytes:Nat}(T:ElT P t e (eo.k α) bytes)
 (hgd:o.guard=ZB) (s x:Operand) (ho:o.op=.call { callee:=.builtin .append,args:=#[s,x],argTypes:=#[t,t]})
 {base:Nat} (hs:a.eval s=v) (sA:Own w base e v ys)
 {c:Nat} {xs:List α} (n:Nat) (hx:a.eval x=.slice A n c) (hn:n=xs.length) (hr:Rd w B A xs)
 (rU:(ys.length+xs.length)*bytes<=140737488355328) (h63:ys.length+xs.length<=maxLen) (PC:base<=w.heap.size)
 (h:∀v' w',Own w' base e v' (ys++xs)->w.grownBy w' v.ownBlock->(v'.ownBlock=v.ownBlock\/v'.ownBlock=ZA w.heap.size)->(∀w0,w0.heap.size<=base->Up w0 w->Up w0 w')->wpList P ops Q rest (a.put o.dst v') w'):
 wpList P ops Q (o::rest) a w:=
 wpList_plain hgd λ_ hK=>N9 T s x ho hs sA n hx hn hr rU h63 PC λv' w' h2 h3 h4 h5=>hK _ _ (h v' w' h2 h3 h4 h5)
def Mo:Nat->Nat->ByteArray->ByteArray
 |0,_,s=>s
 |f+1,m,s=>if 0<m then Mo f (m / 10) (strOfNums [48+(m:Int) % 10]++s)else s
def bQ(k:Int):ByteArray:=⟨#[109]⟩++Mo k.toNat k.toNat ⟨#[]⟩
def bg(k:Int):Option ByteArray:=if 1<=k/\k<=1099511627776 then ZA (bQ k)else ZB
theorem jx(k:Int)(w:World)(h0:1<=k)(h1:k<=1099511627776):Calls prog 85 #[ZF ZG k] w λe w'=>e=.returned (.string (bQ k))/\Up w w':=by
 go_enter func85,ntmps85
 have hk:¬k<=0:=YG
 go_wp2
 go_loopw [3,0] (λout kk wr=>∃(m f:Nat) (s:ByteArray),kk=ZF ZG m/\out=.string s/\s.size+m<=1099511627777/\m<=f/\Mo f m s=Mo k.toNat k.toNat ⟨#[]⟩/\Up w wr) (λ_ kk _=>(intOf kk).toNat)
 case atStart=>exact⟨k.toNat,k.toNat,⟨#[]⟩,by congr 1;omega,rfl,by show(0:Nat)+k.toNat<=_;omega,VJ _,rfl,by(repeat(first|exact Up.rfl' _|(refine Up.al _ ?_) |(refine Up.dr _ ?_) |(refine Up.pE ?_) |(refine Up.sc ?_ YL _) |(refine Up.step YO ?_)))⟩
 case round=>
  obtain⟨m,f,s,rfl,rfl,hm,hmf,hd,hb⟩:=hrel
  by_cases bO:0<m
  ·obtain⟨f,rfl⟩:∃f',f=f'+1:=⟨f-1,YG⟩
   have yL:Mo f (m / 10) (strOfNums [48+(m:Int) % 10]++s)=Mo k.toNat k.toNat ⟨#[]⟩:=by rw[<-hd];simp only[Mo,bO,if_true]
   have CZ:=run_convert_bytes_arg (P:=prog) (wr.alloc (.cells #[.int .u8 (48+(m:Int) % 10)] 5)) 22 5 Tryz.underlying22 Tryz.underlying5 wr.heap.size 0 1 1 [48+(m:Int) % 10] rfl (λi hi=>(by obtain rfl:i=0:=YG;simp[go_sem])) 9 Tryz.underlying9
   have uV:(strOfNums [48+(m:Int) % 10]).size=1:=by simp[strOfNums,ByteArray.size]
   go_wp2
   exact⟨⟨m / 10,f,_,by congr 1,rfl,by rw[ByteArray.size_append,uV];omega,YG,yL,by(repeat(first|exact Up.rfl' _|(refine Up.al _ ?_) |(refine Up.dr _ ?_) |(refine Up.pE ?_) |(refine Up.sc ?_ YL _) |(refine Up.step YO ?_)))⟩,by simp[intOf];omega⟩
  ·obtain rfl:m=0:=YG
   go_wp2
   go_ret
   have yL:s=Mo k.toNat k.toNat ⟨#[]⟩:=by rw[<-hd];cases f<;>simp[Mo]
   exact⟨by rw[yL];rfl,hb⟩
theorem Zlo{x y:Value}(h:cN w E (.v x) y):y=x:=by
 cases h with
 |c h=>cases h with
  |v _ _=>rfl
theorem EN(k:Int){r:ByteArray}(H:bg k=ZA r):cq prog 85 [vi k] [] (vs r) []:=by
 unfold bg at H
 split at H
 case isFalse=>cases H
 rename_i ji;obtain rfl:=VG H;intro S β w vs ω hk hl ha;obtain⟨x,hx0,hr⟩:=ha 0 _ rfl;have hv:vs=#[x]:=by
  have h1:vs.size=1:=hl;apply Array.ext (by simp[h1])
  intro i h2 h3;have:i=0:=YG;subst this;have:=(Array.getElem?_eq_some_iff.1 hx0).2
  simpa using this
 subst hv;obtain rfl:=Zlo hr;refine(jx k w ji.1 ji.2).mono ?_;rintro e w' ⟨rfl,hu⟩;have zr:∀l B,β l=ZA B->False:=λl B hB=>by
  obtain⟨mb,hmb⟩:=hk.dom l B hB;simp at hmb
 exact⟨_,E1 S β 0,rfl,⟨⟨hu.os,hu.tape,hu.output,hu.size,λb hb _=>hu.block b hb⟩,λb hb=>Nat.lt_of_lt_of_le (hk.sz b hb) hu.size,λl B hB=>(zr l B hB).elim,λl l' B B' hB=>(zr l B hB).elim,λl hl=>hk.used l hl,λl B hB=>(zr l B hB).elim,λl mb h=>(by simp at h),λl B hB=>(zr l B hB).elim,hk.tab,λ_ _ h=>h.elim⟩,λb h=>h,λb h=>.inl h,⟨λl B hl=>absurd hl (WE l),λ_ _ h=>h.elim⟩,.c (.v _ rfl)⟩
instance (k:Int):CT prog (bg k):=⟨85,[vi k],[],λr=>vs r,λr=>[],EN k⟩
set_option maxRecDepth 4000
theorem ZeV{n i:Int}{A B:Option α}{F:α->Option β}{P:Program}{m:Mem}{k:IntKind}{KR:PV->Prop}(H:(cond (ZE (i=n)) A B).bind F=ZA r)(h1:A.bind F=ZA r->cI P m T (.ms l) (.v (.int k n)) KR)(h2:B.bind F=ZA r->cI P m T (.ms l) (.v (.int k i)) KR):cI P m T (.ms l) (.v (.int k i)) KR:=by
 by_cases h:i=n
 ·subst h;exact h1 (by simpa using H)
 ·exact h2 (by simpa[h]using H)
theorem ZdY{m m':Mem}{T:TK}(hm:look m k=ZA ⟨T,k',es⟩)(hc:(es.all λcs=>cs.all uW)=ZC)(hd:dropped (yx rs) m' k):qq (yx rs) m m' (.ms k) (.sl es):=
 .fms k ⟨T,k',es⟩ (jq.1 hm) (λcs h q hq=>VS.1 (VS.1 hc cs h) q hq) hd
theorem ZhJ{P:Program}{m:Mem}{T':TK}{k:IntKind}{n:Int}{KR:PV->Prop}(hm:look m l=ZA ⟨T',k',es⟩)(hn:ZE (0<=n/\n<es.length)=ZC)(hp:0<fW P T)(hk:k'=fW P T)(hK:KR (.be l n.toNat 0)):cI P m T (.ms l) (.v (.int k n)) KR:=by
 obtain⟨e,hu,he⟩:=xA hp;rw[he]at hk
 have hn:=YA hn;simp only[cI,hu,mQ,hm];exact⟨hn.1,hn.2,hk,hK⟩
@[go_sem] theorem Zl3{P:Program}{m:Mem}{s d:TypeId}{K:PV->Prop}:uT P m s d (.ms l) K=(match P.underlying s,P.underlying d with
 |some (.slice e),ZA .string=>P.underlying e=ZA (.int .u8)/\live m l λmb=>mb.k=1/\match xg mb.es with
  |some ns=>K (.v (.string (strOfNums ns)))
  |none=>False
 |_,_=>False):=dP rfl
@[go_sem] theorem Zmp:xg []=ZA []:=dP rfl
@[go_sem] theorem Zmo{n:Int}:xg ([.v (.int .u8 n)]::es)=(xg es).map (n::·):=dP rfl
def Zjn(n:Nat)(hi:Int)(ny b:Nat):Bool:=ZE (0<=hi/\hi<=(n:Int)/\0<n)&&bB (n+ny) b
theorem Zg0{P:Program}{m:Mem}{KA:PV->Mem->Prop}[dx α]{xs ys:List α}{ν l e k n b A B:Nat}{hi:Int}(ji:Zjn xs.length hi ys.length b=ZC)(hu:P.underlying T=ZA (.slice e))(hz:pz P e=ZA zc)(hb:P.bytesOf e=b)(hc:P.cellsOf e=n)(hl:look m l=ZA ⟨e,k,xs.map dx.c⟩)(BO:rE m x=ZA (ys.map dx.c))
 (Au:zc.length=n) (hp:ZE (0<n)=ZC) (hf:∀x:α,(dx.c x).length=n) (hk:k=n) (hA:A=0) (hB:B=hi.toNat) (hK:KA (.ms ν) (py (m.set l ZB) ν ⟨e,k,(cZ xs 0 hi++ys).map dx.c⟩)):fV P ν m T (.ss l A B) x KA:=by
 subst hb hc hA hB hk;unfold Zjn at ji
 rw[Bool.and_eq_true]at ji
 obtain⟨h1,h2⟩:=ji;have h1:=YA h1;have h2:=YA h2;have dX:¬xs.map dx.c=[]:=λh=>by have:=congrArg Yi h;simp only[VX,VO]at this;omega
 have hle:hi.toNat<=xs.length:=YG;simp only[fV,hu,hz,BO,mQ,hl,VX];refine⟨Au,YA hp,λcs gl=>?_,trivial,rfl,trivial,⟨hle,dX⟩,YG,?_,?_⟩
 ·obtain⟨y,_,rfl⟩:=V6.1 gl
  exact hf y
 ·exact Wb (Nat.mul_le_mul_right _ YG) h2.2
 ·have e1:List.take hi.toNat (xs.map dx.c)++ys.map dx.c=(cZ xs 0 hi++ys).map dx.c:=by
   unfold cZ;simp only[Int.toNat_zero,Ys,Nat.sub_zero,List.map_append,List.map_take]
  rw[e1];exact hK
theorem ZgY{P:Program}{m:Mem}{KA:PV->Mem->Prop}[dx α]{xs ys:List α}{ν l e k n b:Nat}(ji:bB (xs.length+ys.length) b=ZC)(hy:ys.length=1)(hu:P.underlying T=ZA (.slice e))(hz:pz P e=ZA zc)(hb:P.bytesOf e=b)(hc:P.cellsOf e=n)(hl:look m l=ZA ⟨e,k,xs.map dx.c⟩)(BO:rE m x=ZA [cs])
 (xk:cs.length=n) (Au:zc.length=n) (hp:ZE (0<n)=ZC) (hk:k=n) (hK:KA (.ms ν) (py (m.set l ZB) ν ⟨e,k,xs.map dx.c++[cs]⟩)):fV P ν m T (.ms l) x KA:=by
 subst hk;subst hb;have rh:=YA ji;rw[hy]at rh
 simp only[fV,hu,hz,BO,mQ,hl,VX,VL,VO,hc];refine⟨Au,YA hp,λds Vi=>?_,rfl,trivial,rh.1,rh.2,hK⟩
 rw[V8]at Vi
 subst Vi;exact xk
theorem ZdD{P:Program}{m:Mem}{KA:PV->Mem->Prop}{f:FuncId}{r:PV}(hs:DQ m ps (λqs=>cq P f qs [] r m1))(hw:m1.length<=wd)(hm:∀mb,ZA mb∈m1->∀cs∈mb.es,∀p∈cs,er ZC p\/mb.T.kd.isSome=ZC/\zx p=ZC)(hg:tt ZC r)(hK:KA (DJ (sig [] ν) r) (jy (sig [] ν) ν m1 m)):rz P io wd ν f ps m KA:=
 .inl ⟨r,m1,hs,hw,hm,hg,hK⟩
class ZgL{α:Type}(f:α->List PV):Prop where
 h:∀x,∀q∈f x,PY q=ZC\/zx q=ZC
theorem xK[hf:tr f]{xs:List α}:zx (.sl (xs.map f))=true:=by
 simp only[zx,VS];intro cs gl p hp;obtain⟨x,_,rfl⟩:=V6.1 gl;exact hf.h x p hp
instance :ZgL aY:=⟨λx q h=>by simp only[aY,VM,VP,or_false]at h;(repeat' (first|(rcases h with rfl|h;first|exact .inl rfl|exact .inr xK) |(subst h;first|exact .inl rfl|exact .inr xK)))⟩
instance :ZgL bq:=⟨λx q h=>by simp only[bq,VM,VP,or_false]at h;(repeat' (first|(rcases h with rfl|h;first|exact .inl rfl|exact .inr xK) |(subst h;first|exact .inl rfl|exact .inr xK)))⟩
instance :ZgL ZK:=⟨λx q h=>by simp only[ZK,VM,VP,or_false]at h;(repeat' (first|(rcases h with rfl|h;first|exact .inl rfl|exact .inr xK) |(subst h;first|exact .inl rfl|exact .inr xK)))⟩
theorem ZkG:∀mb,ZA mb∈([]:Mem)->∀cs∈mb.es,∀p∈cs,er ZC p\/mb.T.kd.isSome=ZC/\zx p=true:=by intro mb h;cases h
theorem ZeF[tr f]{T:TK}{xs:List α}:∀mb,ZA mb∈([ZA ⟨T,k,xs.map f⟩]:Mem)->∀cs∈mb.es,∀p∈cs,er ZC p\/mb.T.kd.isSome=ZC/\zx p=true:=
 λmb h cs hc p hp=>.inl (GV mb h cs hc p hp)
theorem ZeE[hf:ZgL f]{t t':TypeId}{xs:List α}:∀mb,ZA mb∈([ZA ⟨⟨t,ZA t'⟩,k,xs.map f⟩]:Mem)->∀cs∈mb.es,∀p∈cs,er ZC p\/mb.T.kd.isSome=ZC/\zx p=true:=by
 intro mb h cs hc p hp;simp only[V8,VR]at h
 subst h;obtain⟨x,_,rfl⟩:=V6.1 hc
 rcases hf.h x p hp with h|h
 ·exact .inl (IG h)
 ·exact .inr ⟨rfl,h⟩
theorem Znc{x:Option MB}{m:Mem}(h1:∀mb,ZA mb∈([x]:Mem)->∀cs∈mb.es,∀p∈cs,er ZC p\/mb.T.kd.isSome=ZC/\zx p=ZC)(h2:∀mb,ZA mb∈m->∀cs∈mb.es,∀p∈cs,er ZC p\/mb.T.kd.isSome=ZC/\zx p=ZC):∀mb,ZA mb∈(x::m)->∀cs∈mb.es,∀p∈cs,er ZC p\/mb.T.kd.isSome=ZC/\zx p=true:=by
 intro mb h
 rcases VM.1 h with h|h
 ·exact h1 mb (by simp[h])
 ·exact h2 mb h
theorem ZhD{m:Mem}(h2:∀mb,ZA mb∈m->∀cs∈mb.es,∀p∈cs,er ZC p\/mb.T.kd.isSome=ZC/\zx p=ZC):∀mb,ZA mb∈((ZB:Option MB)::m)->∀cs∈mb.es,∀p∈cs,er ZC p\/mb.T.kd.isSome=ZC/\zx p=true:=by
 intro mb h
 rcases VM.1 h with h|h
 ·cases h
 ·exact h2 mb h
theorem kf{p:Prop}(h:p:=by(repeat(first|exact ZkG|exact ZeF|exact ZeE|(refine Znc ZeF ?_) |(refine Znc ZeE ?_) |(refine ZhD ?_)));(first|done|fail)):p:=h
theorem ZnU{t t':TypeId}:(TK.mk t (ZA t')).st [.ms l]=TK.mk t (ZA t'):=dP rfl
attribute [go_sem] ZnU
theorem Zbg{m m':Mem}[hf:dB f]{t t':TypeId}{x:α}{xs:List α}(hm:Nf 0 cs=ZA (l,j))(h1:kd1 m)(hl:look m l=ZA ⟨T2,k2,es2⟩)(ht:T2.t=t')(h:uw ρ m m' cs (f x)):
 zm ρ m m' ⟨⟨t,ZA t'⟩,k,(xs.map f).set n cs⟩ ⟨⟨t,ZA t'⟩,k,(xs.set n x).map f⟩:=by
 by_cases hn:n<xs.length
 ·exact KQ hn hm h1 hl ht h
 ·rw[Yx (by simpa using hn),Yx YG]
  exact Ei
theorem Zg9{m m':Mem}{t t':TypeId}:zm ρ m m' ⟨TK.of t,k,[]⟩ ⟨⟨t,ZA t'⟩,k,([]:List α).map f⟩:=⟨⟨rfl,rfl,.inr trivial⟩,λ_ _ _ _ i ds j l hi=>by simp at hi⟩
def ZnF:PV->Bool
 |.sl (_::_)=>ZD
 |_=>ZC
theorem Zbf{m m':Mem}{t t':TypeId}{x:α}(hf:(f x).all ZnF=ZC)(h:uw ρ m m' cs (f x)):zm ρ m m' ⟨TK.of t,k,VW n cs⟩ ⟨⟨t,ZA t'⟩,k,(VW n x).map f⟩:=
 ⟨⟨rfl,rfl,.inr (Is h)⟩,λ_ _ T hT i ds j l hi hj dX=>by
  have lS:(List.map f (VW n x))[i]?=ZA ds:=hi;rw[VZ]at lS
  obtain⟨y,hy,rfl⟩:=VT.1 lS;obtain rfl:y=x:=by
   have:=VI hy;exact(List.mem_replicate.1 this).2
  have h2:=VS.1 hf _ (VI hj)
  cases l with
  |nil=>exact absurd rfl dX
  |cons a b=>cases h2⟩
end Go.Proofs.YtbalgkakkoocjaaGreat
