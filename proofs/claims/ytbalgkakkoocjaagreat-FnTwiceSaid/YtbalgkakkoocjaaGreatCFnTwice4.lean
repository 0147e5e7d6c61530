/- A part of the proof of the statement in the last file of this claim: texts on the language of the program and on its functions. No condition. -/
import Derived.Test.YtbalgkakkoocjaaGreatProg
import Derived.Test.YtbalgkakkoocjaaGreatCFnTwice3
import Derived.Test.YtbalgkakkoocjaaGreatChecked
import Derived.Lib.SmallJoins
import Derived.IntWalk
set_option linter.unusedVariables false
set_option linter.unusedSimpArgs false
set_option linter.unusedSectionVars false
open List renaming range→WO,all_eq_true→V5,mem_range→WW,replicate→WA,length_cons→VX,mem_of_getElem?→VW,getElem?_map→Wj,getElem?_eq_some_iff→VU,getElem?_set_self→Wl,mem_map→WS,length_map→Wg,length_nil→VY,mem_singleton→Wc,mem_cons→V4,not_mem_nil→V7,length_set→WL
open Option.some renaming injEq→V1,inj→VV
open Nat renaming zero_add→Wb,lt_or_ge→WB
open Option renaming map_eq_some_iff→Ww,bind_some→VS,map_some→Wr,getD_some→Ws
namespace Go.Proofs.YtbalgkakkoocjaaGreat
open Go.RowKit
set_option maxRecDepth 10000
variable {Fh base i j k k' k2 l n nu r wd ν ν':Nat}{JJ cs ds ps zc:List PV}{KD:List LE→List PV→Mem→Prop}{T T':TypeId}{T2:TK}{b io:Bool}{d:Option Tmp}{e':Exit}{es es2 tA:List (List PV)}{fl:List Nat}{g g':List LE}{hi lo:Option PV}{o:Op}{oo:Oper}{op:BinOp}{ops:Array Oper}{p p' x x' y':PV}{rest:List Oper}{y:List PV→Prop}{α β:Type}{ρ:Nat→Option Nat}{A B:Option α}{f:α→List PV}
@[go_sem] theorem tq2:Tryz.prog.cellsOf 2=1∧Tryz.prog.bytesOf 2=8∧pz Tryz.prog 2=some [.v (.int .i64 0)]:=by and_intros<;>kernel_rfl
@[go_sem] theorem tq3:Tryz.prog.cellsOf 3=1∧Tryz.prog.bytesOf 3=8∧pz Tryz.prog 3=some [.v (.int .i64 0)]:=by and_intros<;>kernel_rfl
@[go_sem] theorem tq4:Tryz.prog.cellsOf 4=1∧Tryz.prog.bytesOf 4=1∧pz Tryz.prog 4=some [.v (.bool false)]:=by and_intros<;>kernel_rfl
@[go_sem] theorem tq5:Tryz.prog.cellsOf 5=1∧Tryz.prog.bytesOf 5=1∧pz Tryz.prog 5=some [.v (.int .u8 0)]:=by and_intros<;>kernel_rfl
@[go_sem] theorem tq9:Tryz.prog.cellsOf 9=1∧Tryz.prog.bytesOf 9=16∧pz Tryz.prog 9=some [.v (.string ⟨#[]⟩)]:=by and_intros<;>kernel_rfl
@[go_sem] theorem ZgD:Tryz.prog.cellsOf 12=1∧Tryz.prog.bytesOf 12=8∧pz Tryz.prog 12=some [.v (.int .u64 0)]:=by and_intros<;>kernel_rfl
@[go_sem] theorem ZgE:Tryz.prog.cellsOf 21=1∧Tryz.prog.bytesOf 21=4∧pz Tryz.prog 21=some [.v (.int .i32 0)]:=by and_intros<;>kernel_rfl
@[go_sem] theorem ZgF:Tryz.prog.cellsOf 22=1∧Tryz.prog.bytesOf 22=24∧pz Tryz.prog 22=some [.v (.slice none 0 0)]∧ga Tryz.prog 22=1:=by and_intros<;>kernel_rfl
@[go_sem] theorem ZgG:Tryz.prog.cellsOf 24=1∧Tryz.prog.bytesOf 24=24∧pz Tryz.prog 24=some [.v (.slice none 0 0)]∧ga Tryz.prog 24=6:=by and_intros<;>kernel_rfl
@[go_sem] theorem ZgH:Tryz.prog.cellsOf 25=1∧Tryz.prog.bytesOf 25=24∧pz Tryz.prog 25=some [.v (.slice none 0 0)]∧ga Tryz.prog 25=1:=by and_intros<;>kernel_rfl
@[go_sem] theorem ZgI:Tryz.prog.cellsOf 26=3∧Tryz.prog.bytesOf 26=56∧pz Tryz.prog 26=some [.v (.slice none 0 0),.v (.slice none 0 0),.v (.int .i64 0)]∧Tryz.prog.eqGuardType Tryz.prog.depth 26=false∧Tryz.prog.stoodInHeld 26=false:=by and_intros<;>kernel_rfl
@[go_sem] theorem ZgJ:Tryz.prog.cellsOf 27=3∧Tryz.prog.bytesOf 27=56∧pz Tryz.prog 27=some [.v (.slice none 0 0),.v (.slice none 0 0),.v (.int .i64 0)]∧Tryz.prog.eqGuardType Tryz.prog.depth 27=false∧Tryz.prog.stoodInHeld 27=false:=by and_intros<;>kernel_rfl
@[go_sem] theorem ZgK:Tryz.prog.cellsOf 28=1∧Tryz.prog.bytesOf 28=24∧pz Tryz.prog 28=some [.v (.slice none 0 0)]∧ga Tryz.prog 28=11:=by and_intros<;>kernel_rfl
@[go_sem] theorem ZgL:Tryz.prog.cellsOf 29=1∧Tryz.prog.bytesOf 29=24∧pz Tryz.prog 29=some [.v (.slice none 0 0)]∧ga Tryz.prog 29=4:=by and_intros<;>kernel_rfl
@[go_sem] theorem ZgM:Tryz.prog.cellsOf 30=1∧Tryz.prog.bytesOf 30=24∧pz Tryz.prog 30=some [.v (.slice none 0 0)]∧ga Tryz.prog 30=2:=by and_intros<;>kernel_rfl
@[go_sem] theorem ZgN:Tryz.prog.cellsOf 31=1∧Tryz.prog.bytesOf 31=24∧pz Tryz.prog 31=some [.v (.slice none 0 0)]∧ga Tryz.prog 31=6:=by and_intros<;>kernel_rfl
@[go_sem] theorem ZgO:Tryz.prog.cellsOf 32=10∧Tryz.prog.bytesOf 32=192∧pz Tryz.prog 32=some [.v (.slice none 0 0),.v (.slice none 0 0),.v (.int .i64 0),.v (.slice none 0 0),.v (.slice none 0 0),.v (.slice none 0 0),.v (.int .i64 0),.v (.slice none 0 0),.v (.slice none 0 0),.v (.int .i64 0)]∧Tryz.prog.eqGuardType Tryz.prog.depth 32=false∧Tryz.prog.stoodInHeld 32=false:=by and_intros<;>kernel_rfl
@[go_sem] theorem ZgP:Tryz.prog.cellsOf 33=10∧Tryz.prog.bytesOf 33=192∧pz Tryz.prog 33=some [.v (.slice none 0 0),.v (.slice none 0 0),.v (.int .i64 0),.v (.slice none 0 0),.v (.slice none 0 0),.v (.slice none 0 0),.v (.int .i64 0),.v (.slice none 0 0),.v (.slice none 0 0),.v (.int .i64 0)]∧Tryz.prog.eqGuardType Tryz.prog.depth 33=false∧Tryz.prog.stoodInHeld 33=false:=by and_intros<;>kernel_rfl
@[go_sem] theorem ZgQ:Tryz.prog.cellsOf 34=1∧Tryz.prog.bytesOf 34=24∧pz Tryz.prog 34=some [.v (.slice none 0 0)]∧ga Tryz.prog 34=2:=by and_intros<;>kernel_rfl
@[go_sem] theorem ZgR:Tryz.prog.cellsOf 35=1∧Tryz.prog.bytesOf 35=24∧pz Tryz.prog 35=some [.v (.slice none 0 0)]∧ga Tryz.prog 35=4:=by and_intros<;>kernel_rfl
@[go_sem] theorem ZgS:Tryz.prog.cellsOf 36=1∧Tryz.prog.bytesOf 36=24∧pz Tryz.prog 36=some [.v (.slice none 0 0)]∧ga Tryz.prog 36=7:=by and_intros<;>kernel_rfl
@[go_sem] theorem ZgT:Tryz.prog.cellsOf 37=1∧Tryz.prog.bytesOf 37=24∧pz Tryz.prog 37=some [.v (.slice none 0 0)]∧ga Tryz.prog 37=4:=by and_intros<;>kernel_rfl
@[go_sem] theorem ZgU:Tryz.prog.cellsOf 38=1∧Tryz.prog.bytesOf 38=24∧pz Tryz.prog 38=some [.v (.slice none 0 0)]∧ga Tryz.prog 38=13:=by and_intros<;>kernel_rfl
@[go_sem] theorem ZgV:Tryz.prog.cellsOf 39=16∧Tryz.prog.bytesOf 39=336∧pz Tryz.prog 39=some [.v (.slice none 0 0),.v (.slice none 0 0),.v (.int .i64 0),.v (.slice none 0 0),.v (.slice none 0 0),.v (.slice none 0 0),.v (.int .i64 0),.v (.slice none 0 0),.v (.slice none 0 0),.v (.int .i64 0),.v (.slice none 0 0),.v (.slice none 0 0),.v (.slice none 0 0),.v (.slice none 0 0),.v (.slice none 0 0),.v (.slice none 0 0)]∧Tryz.prog.eqGuardType Tryz.prog.depth 39=false∧Tryz.prog.stoodInHeld 39=false:=by and_intros<;>kernel_rfl
@[go_sem] theorem ZgW:Tryz.prog.cellsOf 40=16∧Tryz.prog.bytesOf 40=336∧pz Tryz.prog 40=some [.v (.slice none 0 0),.v (.slice none 0 0),.v (.int .i64 0),.v (.slice none 0 0),.v (.slice none 0 0),.v (.slice none 0 0),.v (.int .i64 0),.v (.slice none 0 0),.v (.slice none 0 0),.v (.int .i64 0),.v (.slice none 0 0),.v (.slice none 0 0),.v (.slice none 0 0),.v (.slice none 0 0),.v (.slice none 0 0),.v (.slice none 0 0)]∧Tryz.prog.eqGuardType Tryz.prog.depth 40=false∧Tryz.prog.stoodInHeld 40=false:=by and_intros<;>kernel_rfl
@[go_sem] theorem ZgX:Tryz.prog.cellsOf 41=3∧Tryz.prog.bytesOf 41=32∧pz Tryz.prog 41=some [.v (.int .i64 0),.v (.int .i64 0),.v (.string ⟨#[]⟩)]∧Tryz.prog.eqGuardType Tryz.prog.depth 41=false∧Tryz.prog.stoodInHeld 41=false:=by and_intros<;>kernel_rfl
@[go_sem] theorem VP:Tryz.prog.cellsOf 42=3∧Tryz.prog.bytesOf 42=32∧pz Tryz.prog 42=some [.v (.int .i64 0),.v (.int .i64 0),.v (.string ⟨#[]⟩)]∧Tryz.prog.eqGuardType Tryz.prog.depth 42=false∧Tryz.prog.stoodInHeld 42=false:=by and_intros<;>kernel_rfl
@[go_sem] theorem ZgY:Tryz.prog.cellsOf 43=7∧Tryz.prog.bytesOf 43=88∧pz Tryz.prog 43=some [.v (.int .i64 0),.v (.int .i64 0),.v (.string ⟨#[]⟩),.v (.string ⟨#[]⟩),.v (.int .i64 0),.v (.slice none 0 0),.v (.int .i64 0)]∧Tryz.prog.eqGuardType Tryz.prog.depth 43=false∧Tryz.prog.stoodInHeld 43=false:=by and_intros<;>kernel_rfl
@[go_sem] theorem ZgZ:Tryz.prog.cellsOf 44=7∧Tryz.prog.bytesOf 44=88∧pz Tryz.prog 44=some [.v (.int .i64 0),.v (.int .i64 0),.v (.string ⟨#[]⟩),.v (.string ⟨#[]⟩),.v (.int .i64 0),.v (.slice none 0 0),.v (.int .i64 0)]∧Tryz.prog.eqGuardType Tryz.prog.depth 44=false∧Tryz.prog.stoodInHeld 44=false:=by and_intros<;>kernel_rfl
@[go_sem] theorem Zg0:Tryz.prog.cellsOf 45=2∧Tryz.prog.bytesOf 45=16∧pz Tryz.prog 45=some [.v (.int .i64 0),.v (.int .i64 0)]∧Tryz.prog.eqGuardType Tryz.prog.depth 45=false∧Tryz.prog.stoodInHeld 45=false:=by and_intros<;>kernel_rfl
@[go_sem] theorem Ke:Tryz.prog.cellsOf 46=2∧Tryz.prog.bytesOf 46=16∧pz Tryz.prog 46=some [.v (.int .i64 0),.v (.int .i64 0)]∧Tryz.prog.eqGuardType Tryz.prog.depth 46=false∧Tryz.prog.stoodInHeld 46=false:=by and_intros<;>kernel_rfl
@[go_sem] theorem Zg1:Tryz.prog.cellsOf 47=13∧Tryz.prog.bytesOf 47=136∧pz Tryz.prog 47=some [.v (.int .i64 0),.v (.int .i64 0),.v (.int .i64 0),.v (.string ⟨#[]⟩),.v (.string ⟨#[]⟩),.v (.int .i64 0),.v (.slice none 0 0),.v (.int .i64 0),.v (.int .i64 0),.v (.int .i64 0),.v (.int .i64 0),.v (.int .i64 0),.v (.int .i64 0)]∧Tryz.prog.eqGuardType Tryz.prog.depth 47=false∧Tryz.prog.stoodInHeld 47=false:=by and_intros<;>kernel_rfl
@[go_sem] theorem Zg2:Tryz.prog.cellsOf 48=13∧Tryz.prog.bytesOf 48=136∧pz Tryz.prog 48=some [.v (.int .i64 0),.v (.int .i64 0),.v (.int .i64 0),.v (.string ⟨#[]⟩),.v (.string ⟨#[]⟩),.v (.int .i64 0),.v (.slice none 0 0),.v (.int .i64 0),.v (.int .i64 0),.v (.int .i64 0),.v (.int .i64 0),.v (.int .i64 0),.v (.int .i64 0)]∧Tryz.prog.eqGuardType Tryz.prog.depth 48=false∧Tryz.prog.stoodInHeld 48=false:=by and_intros<;>kernel_rfl
@[go_sem] theorem Zg3:Tryz.prog.cellsOf 54=1∧Tryz.prog.bytesOf 54=24∧pz Tryz.prog 54=some [.v (.slice none 0 0)]∧ga Tryz.prog 54=6:=by and_intros<;>kernel_rfl
@[go_sem] theorem Zg4:Tryz.prog.cellsOf 55=3∧Tryz.prog.bytesOf 55=56∧pz Tryz.prog 55=some [.v (.slice none 0 0),.v (.slice none 0 0),.v (.int .i64 0)]∧Tryz.prog.eqGuardType Tryz.prog.depth 55=false∧Tryz.prog.stoodInHeld 55=false:=by and_intros<;>kernel_rfl
@[go_sem] theorem Zg5:Tryz.prog.cellsOf 56=3∧Tryz.prog.bytesOf 56=56∧pz Tryz.prog 56=some [.v (.slice none 0 0),.v (.slice none 0 0),.v (.int .i64 0)]∧Tryz.prog.eqGuardType Tryz.prog.depth 56=false∧Tryz.prog.stoodInHeld 56=false:=by and_intros<;>kernel_rfl
@[go_sem] theorem Zg6:Tryz.prog.cellsOf 57=1∧Tryz.prog.bytesOf 57=24∧pz Tryz.prog 57=some [.v (.slice none 0 0)]∧ga Tryz.prog 57=11:=by and_intros<;>kernel_rfl
@[go_sem] theorem Zg7:Tryz.prog.cellsOf 58=1∧Tryz.prog.bytesOf 58=24∧pz Tryz.prog 58=some [.v (.slice none 0 0)]∧ga Tryz.prog 58=4:=by and_intros<;>kernel_rfl
@[go_sem] theorem Zg8:Tryz.prog.cellsOf 59=1∧Tryz.prog.bytesOf 59=24∧pz Tryz.prog 59=some [.v (.slice none 0 0)]∧ga Tryz.prog 59=2:=by and_intros<;>kernel_rfl
@[go_sem] theorem Zg9:Tryz.prog.cellsOf 60=1∧Tryz.prog.bytesOf 60=24∧pz Tryz.prog 60=some [.v (.slice none 0 0)]∧ga Tryz.prog 60=6:=by and_intros<;>kernel_rfl
@[go_sem] theorem Zha:Tryz.prog.cellsOf 61=10∧Tryz.prog.bytesOf 61=192∧pz Tryz.prog 61=some [.v (.slice none 0 0),.v (.slice none 0 0),.v (.int .i64 0),.v (.slice none 0 0),.v (.slice none 0 0),.v (.slice none 0 0),.v (.int .i64 0),.v (.slice none 0 0),.v (.slice none 0 0),.v (.int .i64 0)]∧Tryz.prog.eqGuardType Tryz.prog.depth 61=false∧Tryz.prog.stoodInHeld 61=false:=by and_intros<;>kernel_rfl
@[go_sem] theorem Zhb:Tryz.prog.cellsOf 62=10∧Tryz.prog.bytesOf 62=192∧pz Tryz.prog 62=some [.v (.slice none 0 0),.v (.slice none 0 0),.v (.int .i64 0),.v (.slice none 0 0),.v (.slice none 0 0),.v (.slice none 0 0),.v (.int .i64 0),.v (.slice none 0 0),.v (.slice none 0 0),.v (.int .i64 0)]∧Tryz.prog.eqGuardType Tryz.prog.depth 62=false∧Tryz.prog.stoodInHeld 62=false:=by and_intros<;>kernel_rfl
@[go_sem] theorem Zhc:Tryz.prog.cellsOf 63=1∧Tryz.prog.bytesOf 63=24∧pz Tryz.prog 63=some [.v (.slice none 0 0)]∧ga Tryz.prog 63=2:=by and_intros<;>kernel_rfl
@[go_sem] theorem Zhd:Tryz.prog.cellsOf 64=1∧Tryz.prog.bytesOf 64=24∧pz Tryz.prog 64=some [.v (.slice none 0 0)]∧ga Tryz.prog 64=4:=by and_intros<;>kernel_rfl
@[go_sem] theorem Zhe:Tryz.prog.cellsOf 65=1∧Tryz.prog.bytesOf 65=24∧pz Tryz.prog 65=some [.v (.slice none 0 0)]∧ga Tryz.prog 65=7:=by and_intros<;>kernel_rfl
@[go_sem] theorem Zhf:Tryz.prog.cellsOf 66=1∧Tryz.prog.bytesOf 66=24∧pz Tryz.prog 66=some [.v (.slice none 0 0)]∧ga Tryz.prog 66=4:=by and_intros<;>kernel_rfl
@[go_sem] theorem Zhg:Tryz.prog.cellsOf 67=1∧Tryz.prog.bytesOf 67=24∧pz Tryz.prog 67=some [.v (.slice none 0 0)]∧ga Tryz.prog 67=13:=by and_intros<;>kernel_rfl
@[go_sem] theorem Zhh:Tryz.prog.cellsOf 68=16∧Tryz.prog.bytesOf 68=336∧pz Tryz.prog 68=some [.v (.slice none 0 0),.v (.slice none 0 0),.v (.int .i64 0),.v (.slice none 0 0),.v (.slice none 0 0),.v (.slice none 0 0),.v (.int .i64 0),.v (.slice none 0 0),.v (.slice none 0 0),.v (.int .i64 0),.v (.slice none 0 0),.v (.slice none 0 0),.v (.slice none 0 0),.v (.slice none 0 0),.v (.slice none 0 0),.v (.slice none 0 0)]∧Tryz.prog.eqGuardType Tryz.prog.depth 68=false∧Tryz.prog.stoodInHeld 68=false:=by and_intros<;>kernel_rfl
@[go_sem] theorem Zhi:Tryz.prog.cellsOf 69=16∧Tryz.prog.bytesOf 69=336∧pz Tryz.prog 69=some [.v (.slice none 0 0),.v (.slice none 0 0),.v (.int .i64 0),.v (.slice none 0 0),.v (.slice none 0 0),.v (.slice none 0 0),.v (.int .i64 0),.v (.slice none 0 0),.v (.slice none 0 0),.v (.int .i64 0),.v (.slice none 0 0),.v (.slice none 0 0),.v (.slice none 0 0),.v (.slice none 0 0),.v (.slice none 0 0),.v (.slice none 0 0)]∧Tryz.prog.eqGuardType Tryz.prog.depth 69=false∧Tryz.prog.stoodInHeld 69=false:=by and_intros<;>kernel_rfl
@[go_sem] theorem Zhj:Tryz.prog.cellsOf 70=3∧Tryz.prog.bytesOf 70=32∧pz Tryz.prog 70=some [.v (.int .i64 0),.v (.int .i64 0),.v (.string ⟨#[]⟩)]∧Tryz.prog.eqGuardType Tryz.prog.depth 70=false∧Tryz.prog.stoodInHeld 70=false:=by and_intros<;>kernel_rfl
@[go_sem] theorem Zhk:Tryz.prog.cellsOf 71=7∧Tryz.prog.bytesOf 71=88∧pz Tryz.prog 71=some [.v (.int .i64 0),.v (.int .i64 0),.v (.string ⟨#[]⟩),.v (.string ⟨#[]⟩),.v (.int .i64 0),.v (.slice none 0 0),.v (.int .i64 0)]∧Tryz.prog.eqGuardType Tryz.prog.depth 71=false∧Tryz.prog.stoodInHeld 71=false:=by and_intros<;>kernel_rfl
@[go_sem] theorem Zhl:Tryz.prog.cellsOf 72=7∧Tryz.prog.bytesOf 72=88∧pz Tryz.prog 72=some [.v (.int .i64 0),.v (.int .i64 0),.v (.string ⟨#[]⟩),.v (.string ⟨#[]⟩),.v (.int .i64 0),.v (.slice none 0 0),.v (.int .i64 0)]∧Tryz.prog.eqGuardType Tryz.prog.depth 72=false∧Tryz.prog.stoodInHeld 72=false:=by and_intros<;>kernel_rfl
@[go_sem] theorem Zhm:Tryz.prog.cellsOf 73=2∧Tryz.prog.bytesOf 73=16∧pz Tryz.prog 73=some [.v (.int .i64 0),.v (.int .i64 0)]∧Tryz.prog.eqGuardType Tryz.prog.depth 73=false∧Tryz.prog.stoodInHeld 73=false:=by and_intros<;>kernel_rfl
@[go_sem] theorem Zhn:Tryz.prog.cellsOf 74=13∧Tryz.prog.bytesOf 74=136∧pz Tryz.prog 74=some [.v (.int .i64 0),.v (.int .i64 0),.v (.int .i64 0),.v (.string ⟨#[]⟩),.v (.string ⟨#[]⟩),.v (.int .i64 0),.v (.slice none 0 0),.v (.int .i64 0),.v (.int .i64 0),.v (.int .i64 0),.v (.int .i64 0),.v (.int .i64 0),.v (.int .i64 0)]∧Tryz.prog.eqGuardType Tryz.prog.depth 74=false∧Tryz.prog.stoodInHeld 74=false:=by and_intros<;>kernel_rfl
@[go_sem] theorem Zho:Tryz.prog.cellsOf 75=13∧Tryz.prog.bytesOf 75=136∧pz Tryz.prog 75=some [.v (.int .i64 0),.v (.int .i64 0),.v (.int .i64 0),.v (.string ⟨#[]⟩),.v (.string ⟨#[]⟩),.v (.int .i64 0),.v (.slice none 0 0),.v (.int .i64 0),.v (.int .i64 0),.v (.int .i64 0),.v (.int .i64 0),.v (.int .i64 0),.v (.int .i64 0)]∧Tryz.prog.eqGuardType Tryz.prog.depth 75=false∧Tryz.prog.stoodInHeld 75=false:=by and_intros<;>kernel_rfl
@[go_sem] theorem ZfT:Tryz.prog.cellsOf 103=2∧Tryz.prog.bytesOf 103=32∧pz Tryz.prog 103=some [.v (.string ⟨#[]⟩),.v (.string ⟨#[]⟩)]∧Tryz.prog.eqGuardType Tryz.prog.depth 103=false∧Tryz.prog.stoodInHeld 103=false:=by and_intros<;>kernel_rfl
@[go_sem] theorem NA:Tryz.prog.cellsOf 104=2∧Tryz.prog.bytesOf 104=32∧pz Tryz.prog 104=some [.v (.string ⟨#[]⟩),.v (.string ⟨#[]⟩)]∧Tryz.prog.eqGuardType Tryz.prog.depth 104=false∧Tryz.prog.stoodInHeld 104=false:=by and_intros<;>kernel_rfl
@[go_sem] theorem ZfU:Tryz.prog.cellsOf 106=4∧Tryz.prog.bytesOf 106=32∧pz Tryz.prog 106=some [.v (.int .i64 0),.v (.int .i64 0),.v (.int .i64 0),.v (.int .i64 0)]∧Tryz.prog.eqGuardType Tryz.prog.depth 106=false∧Tryz.prog.stoodInHeld 106=false:=by and_intros<;>kernel_rfl
@[go_sem] theorem NB:Tryz.prog.cellsOf 107=4∧Tryz.prog.bytesOf 107=32∧pz Tryz.prog 107=some [.v (.int .i64 0),.v (.int .i64 0),.v (.int .i64 0),.v (.int .i64 0)]∧Tryz.prog.eqGuardType Tryz.prog.depth 107=false∧Tryz.prog.stoodInHeld 107=false:=by and_intros<;>kernel_rfl
@[go_sem] theorem ZfV:Tryz.prog.cellsOf 110=4∧Tryz.prog.bytesOf 110=32∧pz Tryz.prog 110=some [.v (.int .i64 0),.v (.int .i64 0),.v (.int .i64 0),.v (.int .i64 0)]∧Tryz.prog.eqGuardType Tryz.prog.depth 110=false∧Tryz.prog.stoodInHeld 110=false:=by and_intros<;>kernel_rfl
@[go_sem] theorem NC:Tryz.prog.cellsOf 111=4∧Tryz.prog.bytesOf 111=32∧pz Tryz.prog 111=some [.v (.int .i64 0),.v (.int .i64 0),.v (.int .i64 0),.v (.int .i64 0)]∧Tryz.prog.eqGuardType Tryz.prog.depth 111=false∧Tryz.prog.stoodInHeld 111=false:=by and_intros<;>kernel_rfl
@[go_sem] theorem ZfW:Tryz.prog.cellsOf 138=3∧Tryz.prog.bytesOf 138=40∧pz Tryz.prog 138=some [.v (.slice none 0 0),.v (.int .i64 0),.v (.int .i64 0)]∧Tryz.prog.eqGuardType Tryz.prog.depth 138=false∧Tryz.prog.stoodInHeld 138=false:=by and_intros<;>kernel_rfl
@[go_sem] theorem ZfX:Tryz.prog.cellsOf 139=3∧Tryz.prog.bytesOf 139=40∧pz Tryz.prog 139=some [.v (.slice none 0 0),.v (.int .i64 0),.v (.int .i64 0)]∧Tryz.prog.eqGuardType Tryz.prog.depth 139=false∧Tryz.prog.stoodInHeld 139=false:=by and_intros<;>kernel_rfl
@[go_sem] theorem ZfY:Tryz.prog.cellsOf 154=11∧Tryz.prog.bytesOf 154=128∧pz Tryz.prog 154=some [.v (.string ⟨#[]⟩),.v (.string ⟨#[]⟩),.v (.int .i64 0),.v (.int .i64 0),.v (.int .i64 0),.v (.int .i64 0),.v (.slice none 0 0),.v (.int .i64 0),.v (.int .i64 0),.v (.string ⟨#[]⟩),.v (.int .i64 0)]∧Tryz.prog.eqGuardType Tryz.prog.depth 154=false∧Tryz.prog.stoodInHeld 154=false:=by and_intros<;>kernel_rfl
@[go_sem] theorem ZfZ:Tryz.prog.cellsOf 155=11∧Tryz.prog.bytesOf 155=128∧pz Tryz.prog 155=some [.v (.string ⟨#[]⟩),.v (.string ⟨#[]⟩),.v (.int .i64 0),.v (.int .i64 0),.v (.int .i64 0),.v (.int .i64 0),.v (.slice none 0 0),.v (.int .i64 0),.v (.int .i64 0),.v (.string ⟨#[]⟩),.v (.int .i64 0)]∧Tryz.prog.eqGuardType Tryz.prog.depth 155=false∧Tryz.prog.stoodInHeld 155=false:=by and_intros<;>kernel_rfl
@[go_sem] theorem Zf0:Tryz.prog.cellsOf 173=6∧Tryz.prog.bytesOf 173=64∧pz Tryz.prog 173=some [.v (.string ⟨#[]⟩),.v (.string ⟨#[]⟩),.v (.int .i64 0),.v (.int .i64 0),.v (.int .i64 0),.v (.int .i64 0)]∧Tryz.prog.eqGuardType Tryz.prog.depth 173=false∧Tryz.prog.stoodInHeld 173=false:=by and_intros<;>kernel_rfl
@[go_sem] theorem ND:Tryz.prog.cellsOf 174=6∧Tryz.prog.bytesOf 174=64∧pz Tryz.prog 174=some [.v (.string ⟨#[]⟩),.v (.string ⟨#[]⟩),.v (.int .i64 0),.v (.int .i64 0),.v (.int .i64 0),.v (.int .i64 0)]∧Tryz.prog.eqGuardType Tryz.prog.depth 174=false∧Tryz.prog.stoodInHeld 174=false:=by and_intros<;>kernel_rfl
@[go_sem] theorem Zf1:Tryz.prog.cellsOf 176=4∧Tryz.prog.bytesOf 176=32∧pz Tryz.prog 176=some [.v (.int .i64 0),.v (.int .i64 0),.v (.int .i64 0),.v (.int .i64 0)]∧Tryz.prog.eqGuardType Tryz.prog.depth 176=false∧Tryz.prog.stoodInHeld 176=false:=by and_intros<;>kernel_rfl
@[go_sem] theorem NF:Tryz.prog.cellsOf 177=4∧Tryz.prog.bytesOf 177=32∧pz Tryz.prog 177=some [.v (.int .i64 0),.v (.int .i64 0),.v (.int .i64 0),.v (.int .i64 0)]∧Tryz.prog.eqGuardType Tryz.prog.depth 177=false∧Tryz.prog.stoodInHeld 177=false:=by and_intros<;>kernel_rfl
@[go_sem] theorem Zf2:Tryz.prog.cellsOf 180=6∧Tryz.prog.bytesOf 180=56∧pz Tryz.prog 180=some [.v (.int .i64 0),.v (.int .i64 0),.v (.int .i64 0),.v (.string ⟨#[]⟩),.v (.int .i64 0),.v (.int .i64 0)]∧Tryz.prog.eqGuardType Tryz.prog.depth 180=false∧Tryz.prog.stoodInHeld 180=false:=by and_intros<;>kernel_rfl
@[go_sem] theorem NG:Tryz.prog.cellsOf 181=6∧Tryz.prog.bytesOf 181=56∧pz Tryz.prog 181=some [.v (.int .i64 0),.v (.int .i64 0),.v (.int .i64 0),.v (.string ⟨#[]⟩),.v (.int .i64 0),.v (.int .i64 0)]∧Tryz.prog.eqGuardType Tryz.prog.depth 181=false∧Tryz.prog.stoodInHeld 181=false:=by and_intros<;>kernel_rfl
@[go_sem] theorem Zf3:Tryz.prog.cellsOf 188=2∧Tryz.prog.bytesOf 188=32∧pz Tryz.prog 188=some [.v (.string ⟨#[]⟩),.v (.string ⟨#[]⟩)]∧Tryz.prog.eqGuardType Tryz.prog.depth 188=false∧Tryz.prog.stoodInHeld 188=false:=by and_intros<;>kernel_rfl
@[go_sem] theorem Zf4:Tryz.prog.cellsOf 198=4∧Tryz.prog.bytesOf 198=32∧pz Tryz.prog 198=some [.v (.int .i64 0),.v (.int .i64 0),.v (.int .i64 0),.v (.int .i64 0)]∧Tryz.prog.eqGuardType Tryz.prog.depth 198=false∧Tryz.prog.stoodInHeld 198=false:=by and_intros<;>kernel_rfl
@[go_sem] theorem Zf5:Tryz.prog.cellsOf 200=4∧Tryz.prog.bytesOf 200=32∧pz Tryz.prog 200=some [.v (.int .i64 0),.v (.int .i64 0),.v (.int .i64 0),.v (.int .i64 0)]∧Tryz.prog.eqGuardType Tryz.prog.depth 200=false∧Tryz.prog.stoodInHeld 200=false:=by and_intros<;>kernel_rfl
@[go_sem] theorem Zf6:Tryz.prog.cellsOf 217=1∧Tryz.prog.bytesOf 217=24∧pz Tryz.prog 217=some [.v (.slice none 0 0)]∧ga Tryz.prog 217=1:=by and_intros<;>kernel_rfl
@[go_sem] theorem Zf7:Tryz.prog.cellsOf 258=11∧Tryz.prog.bytesOf 258=128∧pz Tryz.prog 258=some [.v (.string ⟨#[]⟩),.v (.string ⟨#[]⟩),.v (.int .i64 0),.v (.int .i64 0),.v (.int .i64 0),.v (.int .i64 0),.v (.slice none 0 0),.v (.int .i64 0),.v (.int .i64 0),.v (.string ⟨#[]⟩),.v (.int .i64 0)]∧Tryz.prog.eqGuardType Tryz.prog.depth 258=false∧Tryz.prog.stoodInHeld 258=false:=by and_intros<;>kernel_rfl
@[go_sem] theorem Zf8:Tryz.prog.cellsOf 259=11∧Tryz.prog.bytesOf 259=128∧pz Tryz.prog 259=some [.v (.string ⟨#[]⟩),.v (.string ⟨#[]⟩),.v (.int .i64 0),.v (.int .i64 0),.v (.int .i64 0),.v (.int .i64 0),.v (.slice none 0 0),.v (.int .i64 0),.v (.int .i64 0),.v (.string ⟨#[]⟩),.v (.int .i64 0)]∧Tryz.prog.eqGuardType Tryz.prog.depth 259=false∧Tryz.prog.stoodInHeld 259=false:=by and_intros<;>kernel_rfl
@[go_sem] theorem Zf9:Tryz.prog.cellsOf 261=6∧Tryz.prog.bytesOf 261=56∧pz Tryz.prog 261=some [.v (.int .i64 0),.v (.int .i64 0),.v (.int .i64 0),.v (.string ⟨#[]⟩),.v (.int .i64 0),.v (.int .i64 0)]∧Tryz.prog.eqGuardType Tryz.prog.depth 261=false∧Tryz.prog.stoodInHeld 261=false:=by and_intros<;>kernel_rfl
@[go_sem] theorem Zga:Tryz.prog.cellsOf 262=6∧Tryz.prog.bytesOf 262=56∧pz Tryz.prog 262=some [.v (.int .i64 0),.v (.int .i64 0),.v (.int .i64 0),.v (.string ⟨#[]⟩),.v (.int .i64 0),.v (.int .i64 0)]∧Tryz.prog.eqGuardType Tryz.prog.depth 262=false∧Tryz.prog.stoodInHeld 262=false:=by and_intros<;>kernel_rfl
@[go_sem] theorem Zgb:Tryz.prog.cellsOf 268=4∧Tryz.prog.bytesOf 268=32∧pz Tryz.prog 268=some [.v (.int .i64 0),.v (.int .i64 0),.v (.int .i64 0),.v (.int .i64 0)]∧Tryz.prog.eqGuardType Tryz.prog.depth 268=false∧Tryz.prog.stoodInHeld 268=false:=by and_intros<;>kernel_rfl
@[go_sem] theorem Zgc:Tryz.prog.cellsOf 269=4∧Tryz.prog.bytesOf 269=32∧pz Tryz.prog 269=some [.v (.int .i64 0),.v (.int .i64 0),.v (.int .i64 0),.v (.int .i64 0)]∧Tryz.prog.eqGuardType Tryz.prog.depth 269=false∧Tryz.prog.stoodInHeld 269=false:=by and_intros<;>kernel_rfl
@[go_sem] theorem Zgd:Tryz.prog.cellsOf 277=1∧Tryz.prog.bytesOf 277=8∧pz Tryz.prog 277=some [.v (.int .u64 0)]:=by and_intros<;>kernel_rfl
@[go_sem] theorem Zge:Tryz.prog.cellsOf 281=1∧Tryz.prog.bytesOf 281=24∧pz Tryz.prog 281=some [.v (.slice none 0 0)]∧ga Tryz.prog 281=1:=by and_intros<;>kernel_rfl
@[go_sem] theorem Zgf:Tryz.prog.cellsOf 301=6∧Tryz.prog.bytesOf 301=64∧pz Tryz.prog 301=some [.v (.string ⟨#[]⟩),.v (.string ⟨#[]⟩),.v (.int .i64 0),.v (.int .i64 0),.v (.int .i64 0),.v (.int .i64 0)]∧Tryz.prog.eqGuardType Tryz.prog.depth 301=false∧Tryz.prog.stoodInHeld 301=false:=by and_intros<;>kernel_rfl
@[go_sem] theorem Zgg:Tryz.prog.cellsOf 309=1∧Tryz.prog.bytesOf 309=24∧pz Tryz.prog 309=some [.v (.slice none 0 0)]∧ga Tryz.prog 309=1:=by and_intros<;>kernel_rfl
@[go_sem] theorem Zgh:Tryz.prog.cellsOf 360=1∧Tryz.prog.bytesOf 360=4∧pz Tryz.prog 360=some [.v (.int .u32 0)]:=by and_intros<;>kernel_rfl
@[go_sem] theorem Zgi:Tryz.prog.cellsOf 362=1∧Tryz.prog.bytesOf 362=8∧pz Tryz.prog 362=some [.v (.int .u64 0)]:=by and_intros<;>kernel_rfl
attribute [go_sem] Tryz.underlying2 Tryz.underlying3 Tryz.underlying4 Tryz.underlying5 Tryz.underlying9 Tryz.underlying12 Tryz.underlying21 Tryz.underlying22 Tryz.underlying24 Tryz.underlying25 Tryz.underlying26 Tryz.underlying27 Tryz.underlying28 Tryz.underlying29 Tryz.underlying30 Tryz.underlying31 Tryz.underlying32 Tryz.underlying33 Tryz.underlying34 Tryz.underlying35 Tryz.underlying36 Tryz.underlying37 Tryz.underlying38 Tryz.underlying39 Tryz.underlying40 Tryz.underlying41 Tryz.underlying42 Tryz.underlying43 Tryz.underlying44 Tryz.underlying45 Tryz.underlying46 Tryz.underlying47 Tryz.underlying48 Tryz.underlying54 Tryz.underlying55 Tryz.underlying56 Tryz.underlying57 Tryz.underlying58 Tryz.underlying59 Tryz.underlying60 Tryz.underlying61 Tryz.underlying62 Tryz.underlying63 Tryz.underlying64 Tryz.underlying65 Tryz.underlying66 Tryz.underlying67 Tryz.underlying68 Tryz.underlying69 Tryz.underlying70 Tryz.underlying71 Tryz.underlying72 Tryz.underlying73 Tryz.underlying74 Tryz.underlying75 Tryz.underlying103 Tryz.underlying104 Tryz.underlying106 Tryz.underlying107 Tryz.underlying110 Tryz.underlying111 Tryz.underlying138 Tryz.underlying139 Tryz.underlying154 Tryz.underlying155 Tryz.underlying173 Tryz.underlying174 Tryz.underlying176 Tryz.underlying177 Tryz.underlying180 Tryz.underlying181 Tryz.underlying188 Tryz.underlying198 Tryz.underlying200 Tryz.underlying217 Tryz.underlying258 Tryz.underlying259 Tryz.underlying261 Tryz.underlying262 Tryz.underlying268 Tryz.underlying269 Tryz.underlying277 Tryz.underlying281 Tryz.underlying301 Tryz.underlying309 Tryz.underlying360 Tryz.underlying362
theorem Gx {P : Program} (h : (match P.funcs[k]? with | some f => f.body.isSome && !(f.name == "runtime.NumGoroutine") | none => false) = true) : xH P k := by
 split at h
 ·rename_i f e
  simp only[Bool.and_eq_true,Bool.not_eq_true']at h
  exact⟨f,e,h.1,h.2⟩
 ·cases h
theorem fb0 : (WO 315).all (fun k => decide (k < 2) || match Tryz.prog.funcs[k]? with | some f => f.body.isSome && !(f.name == "runtime.NumGoroutine") | none => false) = true := by kernel_rfl
@[go_sem] theorem fr0(h:2≤k)(h2:k<315):xH Tryz.prog k:=Gx (by
 have:=V5.1 fb0 k (WW.2 h2)
 rw[decide_eq_false (by omega)]at this
 exact this)
theorem fb1 : (WO 330).all (fun k => decide (k < 319) || match Tryz.prog.funcs[k]? with | some f => f.body.isSome && !(f.name == "runtime.NumGoroutine") | none => false) = true := by kernel_rfl
@[go_sem] theorem fr1(h:319≤k)(h2:k<330):xH Tryz.prog k:=Gx (by
 have:=V5.1 fb1 k (WW.2 h2)
 rw[decide_eq_false (by omega)]at this
 exact this)
theorem fb2 : (WO 384).all (fun k => decide (k < 339) || match Tryz.prog.funcs[k]? with | some f => f.body.isSome && !(f.name == "runtime.NumGoroutine") | none => false) = true := by kernel_rfl
@[go_sem] theorem fr2(h:339≤k)(h2:k<384):xH Tryz.prog k:=Gx (by
 have:=V5.1 fb2 k (WW.2 h2)
 rw[decide_eq_false (by omega)]at this
 exact this)
abbrev aG(x:Int):List PV:=[vi x]
abbrev jH(x:ByteArray):List PV:=[vs x]
abbrev Ap(x:Bool):List PV:=[vb x]
@[ext] structure dh where
 ax:Int
 fz:Int
 aV:ByteArray
 deriving DecidableEq
abbrev tr(x:dh):List PV:=[vi x.ax,vi x.fz,vs x.aV]
@[ext] structure a8 where
 label:dh
 ar:ByteArray
 ab:Int
 cq:List Int
 value:Int
 deriving DecidableEq
abbrev bS(x:a8):List PV:=[vi x.label.ax,vi x.label.fz,vs x.label.aV,vs x.ar,vi x.ab,.sl (x.cq.map aG),vi x.value]
@[ext] structure bL where
 first:ByteArray
 last:ByteArray
 deriving DecidableEq
abbrev cK(x:bL):List PV:=[vs x.first,vs x.last]
@[ext] structure bN where
 iY:Int
 ax:Int
 kI:Int
 kJ:Int
 deriving DecidableEq
abbrev cO(x:bN):List PV:=[vi x.iY,vi x.ax,vi x.kI,vi x.kJ]
@[ext] structure bM where
 ar:ByteArray
 aV:ByteArray
 start:Int
 lT:Int
 tI:Int
 fy:Int
 deriving DecidableEq
abbrev bp(x:bM):List PV:=[vs x.ar,vs x.aV,vi x.start,vi x.lT,vi x.tI,vi x.fy]
@[ext] structure aj where
 ay:List bM
 off:List Int
 change:Int
 deriving DecidableEq
abbrev bA(x:aj):List PV:=[.sl (x.ay.map bp),.sl (x.off.map aG),vi x.change]
@[ext] structure au where
 bx:Int
 day:Int
 deriving DecidableEq
abbrev aS(x:au):List PV:=[vi x.bx,vi x.day]
@[ext] structure ao where
 bk:Int
 bf:au
 ab:Int
 deriving DecidableEq
abbrev aB(x:ao):List PV:=[vi x.bk,vi x.bf.bx,vi x.bf.day,vi x.ab]
@[ext] structure br where
 bk:Int
 aO:Int
 kind:Int
 place:ByteArray
 bf:au
 deriving DecidableEq
abbrev bt(x:br):List PV:=[vi x.bk,vi x.aO,vi x.kind,vs x.place,vi x.bf.bx,vi x.bf.day]
@[ext] structure az where
 ar:ByteArray
 aV:ByteArray
 ax:Int
 ab:Int
 aO:Int
 dX:Int
 aE:List au
 aJ:Int
 state:Int
 place:ByteArray
 bD:Int
 deriving DecidableEq
abbrev bc(x:az):List PV:=[vs x.ar,vs x.aV,vi x.ax,vi x.ab,vi x.aO,vi x.dX,.sl (x.aE.map aS),vi x.aJ,vi x.state,vs x.place,vi x.bD]
@[ext] structure av where
 aa:aj
 ah:List az
 aq:List ao
 ae:List au
 now:Int
 aH:List br
 skip:List Int
 bd:Int
 deriving DecidableEq
abbrev fK(x:av):List PV:=[.sl (x.aa.ay.map bp),.sl (x.aa.off.map aG),vi x.aa.change,.sl (x.ah.map bc),.sl (x.aq.map aB),.sl (x.ae.map aS),vi x.now,.sl (x.aH.map bt),.sl (x.skip.map aG),vi x.bd]
@[ext] structure aW where
 order:Int
 kind:Int
 bz:Int
 aO:Int
 deriving DecidableEq
abbrev bO(x:aW):List PV:=[vi x.order,vi x.kind,vi x.bz,vi x.aO]
@[ext] structure cg where
 kind:Int
 aT:a8
 order:Int
 bz:Int
 bH:Int
 bf:au
 deriving DecidableEq
abbrev ig(x:cg):List PV:=[vi x.kind,vi x.aT.label.ax,vi x.aT.label.fz,vs x.aT.label.aV,vs x.aT.ar,vi x.aT.ab,.sl (x.aT.cq.map aG),vi x.aT.value,vi x.order,vi x.bz,vi x.bH,vi x.bf.bx,vi x.bf.day]
@[ext] structure aM where
 world:av
 aY:List bL
 ba:List bN
 aN:List Int
 aK:List a8
 lines:List aW
 aF:List cg
 deriving DecidableEq
abbrev lk(x:aM):List PV:=[.sl (x.world.aa.ay.map bp),.sl (x.world.aa.off.map aG),vi x.world.aa.change,.sl (x.world.ah.map bc),.sl (x.world.aq.map aB),.sl (x.world.ae.map aS),vi x.world.now,.sl (x.world.aH.map bt),.sl (x.world.skip.map aG),vi x.world.bd,.sl (x.aY.map cK),.sl (x.ba.map cO),.sl (x.aN.map aG),.sl (x.aK.map bS),.sl (x.lines.map bO),.sl (x.aF.map ig)]
@[ext] structure HZ where
 id:Int
 dest:Int
 deriving DecidableEq
abbrev vl(x:HZ):List PV:=[vi x.id,vi x.dest]
@[ext] structure KC where
 cell:Int
 fy:Int
 held:List HZ
 deriving DecidableEq
abbrev xo(x:KC):List PV:=[vi x.cell,vi x.fy,.sl (x.held.map vl)]
@[ext] structure KE where
 cell:Int
 wait:List HZ
 deriving DecidableEq
abbrev xp(x:KE):List PV:=[vi x.cell,.sl (x.wait.map vl)]
@[ext] structure Mh where
 Zek:List HZ
 ZaQ:List KC
 Zbs:List KE
 Zfx:List Int
 now:Int
 deriving DecidableEq
abbrev wg(x:Mh):List PV:=[.sl (x.Zek.map vl),.sl (x.ZaQ.map xo),.sl (x.Zbs.map xp),.sl (x.Zfx.map aG),vi x.now]
@[ext] structure Qe where
 id:Int
 own:Int
 fy:Int
 in_:Int
 box:Bool
 ZbP:Bool
 deriving DecidableEq
abbrev vm(x:Qe):List PV:=[vi x.id,vi x.own,vi x.fy,vi x.in_,vb x.box,vb x.ZbP]
@[ext] structure Mg where
 places:List ByteArray
 Fv:List au
 deriving DecidableEq
abbrev we(x:Mg):List PV:=[.sl (x.places.map jH),.sl (x.Fv.map aS)]
/-! Zcl the Po ZgB not go Zgw. -/
@[congr] theorem Zd6{P:Program}{K:List PV→Mem→Prop}{t:List PV}{t':List PV}{m:Mem}{m':Mem}(uW:t=t')(qj:m=m'):sa P ops K rest t m=sa P ops K rest t' m':=by subst uW qj;rfl
@[congr] theorem ZcA{P:Program}{t:List PV}{t':List PV}{m:Mem}{m':Mem}(uW:t=t')(qj:m=m')(h_g:g=g'):j2 P wd base fl ops KD i rest g t m=j2 P wd base fl ops KD i rest g' t' m':=by subst uW qj h_g;rfl
@[congr] theorem Zer{P:Program}{K:List PV→Mem→Prop}{t:List PV}{t':List PV}{m:Mem}{m':Mem}(uW:t=t')(Rb:p=p')(qj:m=m'):nxt P ops K rest t d p m=nxt P ops K rest t' d p' m':=by subst uW Rb qj;rfl
@[congr] theorem Zep{P:Program}{t:List PV}{t':List PV}{m:Mem}{m':Mem}(uW:t=t')(Rb:p=p')(qj:m=m')(h_g:g=g'):nxd P wd base fl ops KD i rest g t d p m=nxd P wd base fl ops KD i rest g' t' d p' m':=by subst uW Rb qj h_g;rfl
@[congr] theorem Zez{P:Program}{K:List PV→Mem→Prop}{m:Mem}{m':Mem}{t:List PV}{t':List PV}(qj:m=m')(uW:t=t'):rgo P ops K rest d o m t=rgo P ops K rest d o m' t':=by subst qj uW;rfl
@[congr] theorem Zev{P:Program}{K:List PV→Mem→Prop}{m:Mem}{m':Mem}{t:List PV}{t':List PV}(qj:m=m')(uW:t=t'):pgo P ops K rest d m t=pgo P ops K rest d m' t':=by subst qj uW;rfl
@[congr] theorem Zey{P:Program}{m:Mem}{m':Mem}{t:List PV}{t':List PV}(qj:m=m')(uW:t=t'):rge P wd base fl ops KD i rest g oo m t=rge P wd base fl ops KD i rest g oo m' t':=by subst qj uW;rfl
@[congr] theorem Zeq{P:Program}{t t':List PV}{ρ:List Nat}{m m':Mem}(uW:t=t')(Rb:p=p')(qj:m=m')(h_n:ν=ν'):nxe P wd base fl ops KD i rest g oo ν t ρ p m=nxe P wd base fl ops KD i rest g oo ν' t' ρ p' m':=by subst uW Rb qj h_n;rfl
@[congr] theorem Zd5{P:Program}{t t':List PV}{m m':Mem}{K:List Nat→PV→Mem→Prop}(h_n:ν=ν')(uW:t=t')(qj:m=m'):LN P wd ν o t m K=LN P wd ν' o t' m' K:=by subst h_n uW qj;rfl
@[congr] theorem Zes{P:Program}{f:FuncId}{m m':Mem}{K:List Nat→PV→Mem→Prop}(h_n:ν=ν')(Rb:ps=JJ)(qj:m=m'):pIO P wd ν f ps m K=pIO P wd ν' f JJ m' K:=by subst h_n Rb qj;rfl
@[congr] theorem Zex{P:Program}{m:Mem}{m':Mem}{t:List PV}{t':List PV}(qj:m=m')(uW:t=t'):rgd P wd base fl ops KD i rest g oo m t=rgd P wd base fl ops KD i rest g oo m' t':=by subst qj uW;rfl
@[congr] theorem Zeu{P:Program}{m:Mem}{m':Mem}{t:List PV}{t':List PV}(qj:m=m')(uW:t=t'):pgd P wd base fl ops KD i rest g oo m t=pgd P wd base fl ops KD i rest g oo m' t':=by subst qj uW;rfl
@[congr] theorem Zcv{b':Bool}{n:List PV→Prop}{t:List PV}{t':List PV}(h_b:b=b')(uW:t=t'):tP b y n t i=tP b' y n t' i:=by subst h_b uW;rfl
@[congr] theorem Zeo{t:List PV}{t':List PV}{n:List PV→Prop}(Rb:p=p')(uW:t=t'):gdV p i t b y n=gdV p' i t' b y n:=by subst Rb uW;rfl
@[congr] theorem ZfM{t:List PV}{t':List PV}{n:List PV→Prop}(uW:t=t'):gd d t b y n=gd d t' b y n:=by subst uW;rfl
@[congr] theorem Zcx{P:Program}{cs:Option (List PV)}{pS:Option (List PV)}{K:PV→Prop}(Za3:cs=pS):rR P T cs K=rR P T pS K:=by subst Za3;rfl
@[congr] theorem ZdY{P:Program}{y:PV}{K:PV→Prop}(yw:x=x')(Ol:y=y'):Jt P op T x y K=Jt P op T x' y' K:=by subst yw Ol;rfl
@[congr] theorem Zet{op:UnOp}{K:PV→Prop}(yw:x=x'):pUn op x K=pUn op x' K:=by subst yw;rfl
@[congr] theorem Zb3{P:Program}{m:Mem}{m':Mem}{U:TypeId}{K:PV→Prop}(qj:m=m')(yw:x=x'):rK P m T U x K=rK P m' T U x' K:=by subst qj yw;rfl
@[congr] theorem Zb6{P:Program}{m:Mem}{m':Mem}{lo':Option PV}{lV:Option PV}{K:PV→Prop}(qj:m=m')(yw:x=x')(ZeJ:lo=lo')(ZeI:hi=lV):kA P m T x lo hi K=kA P m' T x' lo' lV K:=by subst qj yw ZeJ ZeI;rfl
@[congr] theorem S9{P:Program}{m:Mem}{m':Mem}{K:PV→Prop}(qj:m=m')(yw:x=x'):kz P m T x i K=kz P m' T x' i K:=by subst qj yw;rfl
@[congr] theorem Zb4{P:Program}{K:PV→Prop}(yw:x=x'):vJ P T x i K=vJ P T x' i K:=by subst yw;rfl
@[congr] theorem Ta{P:Program}{m:Mem}{m':Mem}{y:PV}{K:PV→Prop}(qj:m=m')(yw:x=x')(Ol:y=y'):cQ P m T x y K=cQ P m' T x' y' K:=by subst qj yw Ol;rfl
@[congr] theorem Zb5{P:Program}{y:PV}{K:PV→Prop}(yw:x=x')(Ol:y=y'):sJ P T x y K=sJ P T x' y' K:=by subst yw Ol;rfl
@[congr] theorem Zd1{K:PV→Prop}(yw:x=x'):Jw i x K=Jw i x' K:=by subst yw;rfl
@[congr] theorem Zb2{P:Program}{ps:List (Nat×PV)}{JJ:List (Nat×PV)}{K:PV→Prop}(Gi:ps=JJ):vI P T ps K=vI P T JJ K:=by subst Gi;rfl
@[congr] theorem Zd2{P:Program}{m:Mem}{m':Mem}{K:PV→Prop}(qj:m=m')(yw:x=x'):wZ P m T x K=wZ P m' T x' K:=by subst qj yw;rfl
@[congr] theorem ZaP{K:PV→Prop}(Gi:ps=JJ):qw b ps K=qw b JJ K:=by subst Gi;rfl
@[congr] theorem ZdX{ov:Option Value}{ov':Option Value}{K:PV→Prop}(ZeK:ov=ov'):GH ov K=GH ov' K:=by subst ZeK;rfl
@[congr] theorem Zen{P:Program}{pS:List PV}{ds':List PV}{K:PV→Prop}(Za3:cs=pS)(ZeH:ds=ds'):uV P op T cs ds K=uV P op T pS ds' K:=by subst Za3 ZeH;rfl
@[congr] theorem Zd3{m:Mem}{m':Mem}{K:PV→Prop}(qj:m=m')(yw:x=x'):Ek m x K=Ek m' x' K:=by subst qj yw;rfl
@[congr] theorem Zcz{y:PV}{z:PV}{z':PV}{K:PV→Prop}(yw:x=x')(Ol:y=y')(h_z:z=z'):Fj x y z K=Fj x' y' z' K:=by subst yw Ol h_z;rfl
@[congr] theorem Zcw{P:Program}{f:FuncId}{m:Mem}{m':Mem}{KA:PV→Mem→Prop}(Gi:ps=JJ)(qj:m=m')(zF:nu=Fh):pT P io wd nu f ps m KA=pT P io wd Fh f JJ m' KA:=by subst Gi qj zF;rfl
@[congr] theorem ZdZ{m:Mem}{m':Mem}{ocs:Option (List PV)}{ZdC:Option (List PV)}{KA:PV→Mem→Prop}(zF:nu=Fh)(qj:m=m')(ZcT:ocs=ZdC):zU nu m T ocs KA=zU Fh m' T ZdC KA:=by subst zF qj ZcT;rfl
@[congr] theorem Qw{P:Program}{m:Mem}{m':Mem}{ps:List (Nat×PV)}{JJ:List (Nat×PV)}{KA:PV→Mem→Prop}(zF:nu=Fh)(qj:m=m')(Gi:ps=JJ):mR P nu m T k ps KA=mR P Fh m' T k JJ KA:=by subst zF qj Gi;rfl
@[congr] theorem Zcy{P:Program}{m:Mem}{m':Mem}{y:PV}{KA:PV→Mem→Prop}(zF:nu=Fh)(qj:m=m')(yw:x=x')(Ol:y=y'):vK P nu m T x y KA=vK P Fh m' T x' y' KA:=by subst zF qj yw Ol;rfl
@[congr] theorem Zb7{P:Program}{m:Mem}{m':Mem}{y:PV}{KA:PV→Mem→Prop}(qj:m=m')(yw:x=x')(Ol:y=y'):vL P m T x y KA=vL P m' T x' y' KA:=by subst qj yw Ol;rfl
@[congr] theorem ZaO{P:Program}{m:Mem}{m':Mem}{y:PV}{KA:PV→Mem→Prop}(zF:nu=Fh)(qj:m=m')(yw:x=x')(Ol:y=y'):fZ P nu m T x y KA=fZ P Fh m' T x' y' KA:=by subst zF qj yw Ol;rfl
@[congr] theorem Zd0{P:Program}{m:Mem}{m':Mem}{KA:PV→Mem→Prop}(zF:nu=Fh)(Rb:p=p')(Gi:ps=JJ)(qj:m=m'):U3 P io wd nu p ps m KA=U3 P io wd Fh p' JJ m' KA:=by subst zF Rb Gi qj;rfl
@[congr] theorem Zd4{P:Program}{t:List PV}{t':List PV}{m:Mem}{m':Mem}{KA:PV→Mem→Prop}(zF:nu=Fh)(uW:t=t')(qj:m=m'):iW P io wd nu o t m KA=iW P io wd Fh o t' m' KA:=by subst zF uW qj;rfl
@[congr] theorem ZdW{ZdD:List Oper}{K:List PV→Mem→Prop}{t:List PV}{t':List PV}{m:Mem}{m':Mem}(uW:t=t')(qj:m=m'):Oa ZdD K g t m=Oa ZdD K g t' m':=by subst uW qj;rfl
@[congr] theorem Zew{P:Program}{n0:Nat}{code:Code}{Q:Exit→List PV→Mem→Prop}{t:List PV}{t':List PV}{m:Mem}{m':Mem}(uW:t=t')(qj:m=m'):qH P n0 code Q t m=qH P n0 code Q t' m':=by subst uW qj;rfl
@[congr] theorem ZcB{K:List PV→Mem→Prop}{Q:Exit→List PV→Mem→Prop}{e:Exit}{t:List PV}{t':List PV}{m:Mem}{m':Mem}(uW:t=t')(qj:m=m')(h_e:e=e'):rB K Q e t m=rB K Q e' t' m':=by subst uW qj h_e;rfl
@[congr] theorem Zb1{id:Nat}{Q:Exit→List PV→Mem→Prop}{e:Exit}{t:List PV}{t':List PV}{m:Mem}{m':Mem}(uW:t=t')(qj:m=m')(h_e:e=e'):vh id Q e t m=vh id Q e' t' m':=by subst uW qj h_e;rfl
class dB(α:Type) where
 c:α→List PV
instance:dB Int:=⟨aG⟩
instance:dB ByteArray:=⟨jH⟩
instance:dB Bool:=⟨Ap⟩
section
variable {P:Program} {n0:Nat} {Q:Exit→List PV→Mem→Prop} {t t':List PV} {m m':Mem} {K:List PV→Mem→Prop} {KR:PV→Prop} {KA:PV→Mem→Prop}
theorem NR{σ ο β:Type}{s:σ}{F:σ→Option β}{K:ο→Option β}{r:β}(h:(some (Sum.inl s)).bind (bl F K)=some r):F s=some r:=h
theorem F6{σ ο β:Type}{o:ο}{F:σ→Option β}{K:ο→Option β}:(some (Sum.inr o)).bind (bl F K)=K o:=ec rfl
theorem TE{α β γ δ:Type}{o:β}{F:α→Option γ}{G:β→Option γ}{K:γ→Option δ}:(bl F G (Sum.inr o)).bind K=(G o).bind K:=ec rfl
theorem TD{α β γ δ:Type}{o:α}{F:α→Option γ}{G:β→Option γ}{K:γ→Option δ}:(bl F G (Sum.inl o)).bind K=(F o).bind K:=ec rfl
theorem NP{G:Prop}{K:α→Option β}{r:β}(h:(cond b A B).bind K=some r)(hb:b=true)(k:A.bind K=some r→G):G:=k (Hc1 h hb)
theorem NQ{G:Prop}{K:α→Option β}{r:β}(h:(cond b A B).bind K=some r)(hb:b=false)(k:B.bind K=some r→G):G:=k (Hc2 h hb)
theorem Q7{c:Bool}{y n:List PV→Prop}(h:tP c y n t i):tP c y n t i:=h
theorem Zbp{i:PV}(h:cQ P m T (.sl es) i KR):cQ P m T (.sl es) i KR:=h
def Zfp(n bytes:Int):Bool:=decide (0≤n∧n≤1099511627776∧bytes*n≤140737488355328)
theorem mkS{x y:PV}(h:vK P ν m T x y KA):vK P ν m T x y KA:=h
theorem Li{T e k ν:Nat}{n b:Int}(ik:Zfp n b=true)(hu:P.underlying T=some (.slice e))(hz:pz P e=some zc)(hb:(P.bytesOf e:Int)=b)(hc:P.cellsOf e=k)(uZ:zc.length=k)(hp:decide (0<k)=true)(hK:KA (.ms ν) (nV m ν ⟨e,k,WA n.toNat zc⟩)):vK P ν m T (vi n) (vi n) KA:=by
 subst hb hc
 have pd:=of_decide_eq_true ik
 simp only[vK,hu,hz]
 exact⟨trivial,pd.1,of_decide_eq_true hp,uZ,pd.2.1,pd.2.2,hK⟩
theorem wu{ρ:Nat→Option Nat}:∀{cs:List PV},(∀q∈cs,qE q=true)→rX ρ m m' cs cs
 | [],_=>trivial
 |c::cs,h=>⟨.c c (h c List.mem_cons_self),wu fun q hq=>h q (List.mem_cons_of_mem _ hq)⟩
theorem Iz{α:Type}{f:α→List PV}[hf:dH f]{ρ:Nat→Option Nat}:∀{xs:List α},yo ρ m m' (xs.map f) (xs.map f)
 | []=>trivial
 |x::xs=>⟨wu (hf.h x),Iz⟩
theorem tG{α:Type}{f:α→List PV}[hf:dH f]{ρ:Nat→Option Nat}{cs:List PV}{x:α}(h:rX ρ m m' cs (f x)):∀{xs:List α} {n:Nat},yo ρ m m' ((xs.map f).set n cs) ((xs.set n x).map f)
 | [],_=>trivial
 |y::ys,0=>⟨h,Iz⟩
 |y::ys,n+1=>⟨wu (hf.h y),tG h⟩
theorem IA{α:Type}{f:α→List PV}{ρ:Nat→Option Nat}{cs:List PV}{x:α}(h:rX ρ m m' cs (f x)):∀{n:Nat},yo ρ m m' (WA n cs) ((WA n x).map f)
 |0=>trivial
 |n+1=>⟨h,IA h⟩
theorem wq{α:Type}{f:α→List PV}[hf:dH f]{ρ:Nat→Option Nat}{cs:List PV}{x:α}(h:rX ρ m m' cs (f x)):∀{xs:List α},yo ρ m m' (xs.map f++[cs]) ((xs++[x]).map f)
 | []=>⟨h,trivial⟩
 |y::ys=>⟨wu (hf.h y),wq h⟩
theorem yn[dH f]{T k n:Nat}{x:α}{xs:List α}(h:rX ρ m m' cs (f x)):yp ρ m m' ⟨T,k,(xs.map f).set n cs⟩ ⟨T,k,(xs.set n x).map f⟩:=⟨⟨rfl,rfl,.inr (tG h)⟩,fun _ _=>Cp rfl⟩
theorem Iu{T k n:Nat}{x:α}(h:rX ρ m m' cs (f x)):yp ρ m m' ⟨T,k,WA n cs⟩ ⟨T,k,(WA n x).map f⟩:=⟨⟨rfl,rfl,.inr (IA h)⟩,fun _ _=>Cp rfl⟩
theorem ZaR{T k:Nat}(h:yo ρ m m' es tA):yp ρ m m' ⟨T,k,es⟩ ⟨T,k,tA⟩:=⟨⟨rfl,rfl,.inr h⟩,fun _ _=>Cp rfl⟩
theorem QD:yo ρ m m' [] []:=trivial
theorem QC(h:rX ρ m m' cs ds)(h':yo ρ m m' es tA):yo ρ m m' (cs::es) (ds::tA):=⟨h,h'⟩
theorem Is{T:TK}:yp ρ m m' ⟨T,k,[]⟩ ⟨T,k,[]⟩:=⟨⟨rfl,rfl,.inr trivial⟩,fun _ _=>EJ⟩
theorem Iv{T k:Nat}{a b c d:List PV}(h:yo ρ m m' (a::b::es) (c::d::tA)):yp ρ m m' ⟨T,k,a::b::es⟩ ⟨T,k,c::d::tA⟩:=ZaR h
theorem EH[dH f]{T k:Nat}{x:α}{xs:List α}(h:rX ρ m m' cs (f x)):yp ρ m m' ⟨T,k,xs.map f++[cs]⟩ ⟨T,k,(xs++[x]).map f⟩:=⟨⟨rfl,rfl,.inr (wq h)⟩,fun _ _=>Cp rfl⟩
/-! Keyed rows. -/
def Zbt:Option MB→Bool
 |some mb=>mb.T.kd.isSome
 |none=>false
def R9(m:Mem):Bool:=decide ((m.filter Zbt).length≤1)
theorem filter_one{α:Type}{p:α→Bool}:∀{l:List α} {i j:Nat} {x y:α},(l.filter p).length≤1→l[i]?=some x→l[j]?=some y→p x=true→p y=true→i=j
 | [],i,j,x,y,_,h1,_,_,_=>by simp at h1
 |a::l,i,j,x,y,h,h1,h2,hx,hy=>by
  cases hp:p a with
  |false=>
   rw[List.filter_cons_of_neg (by simp[hp])]at h
   cases i with
   |zero=>simp at h1;subst h1;rw[hp]at hx;cases hx
   |succ i=>
    cases j with
    |zero=>simp at h2;subst h2;rw[hp]at hy;cases hy
    |succ j=>exact congrArg Nat.succ (filter_one (l:=l) (p:=p) h (x:=x) (y:=y) (by simpa using h1) (by simpa using h2) hx hy)
  |true=>
   rw[List.filter_cons_of_pos hp,VX]at h
   have h0:l.filter p=[]:=List.length_eq_zero_iff.1 (by omega)
   have no:∀{k:Nat} {z:α},l[k]?=some z→p z=true→False:=fun {k z} hk hz=>by
    have hm:z∈l.filter p:=List.mem_filter.2 ⟨VW hk,hz⟩
    rw[h0]at hm
    cases hm
   cases i with
   |succ i=>exact(no (by simpa using h1) hx).elim
   |zero=>
    cases j with
    |succ j=>exact(no (by simpa using h2) hy).elim
    |zero=>rfl
def Jg:Nat→List PV→Option (Nat×Nat)
 |_,[]=>none
 |j,.ms l::cs=>if cs.all Jj=true then some (l,j)else none
 |_,.ss ..::_=>none
 |j,_::cs=>Jg (j+1) cs
theorem R0{o l j:Nat}(h:Jg o cs=some (l,j)):∃j0,j=o+j0∧cs[j0]?=some (.ms l)∧∀(i:Nat) (p:PV),cs[i]?=some p→i=j0∨Jj p=true:=by
 induction cs generalizing o with
 |nil=>cases h
 |cons p cs ih=>
  cases p with
  |ms k=>
   simp only[Jg]at h
   split at h
   ·rename_i hc
    simp only[V1,Prod.mk.injEq]at h
    obtain⟨rfl,rfl⟩:=h
    refine⟨0,rfl,rfl,fun i p hp=>?_⟩
    cases i with
    |zero=>exact .inl rfl
    |succ i=>exact .inr (V5.1 hc p (VW (by simpa using hp)))
   ·cases h
  |ss a b c=>simp[Jg]at h
  |_=>
   have h':Jg (o+1) cs=some (l,j):=h
   obtain⟨j0,e,h1,h2⟩:=ih h'
   refine⟨j0+1,by omega,by simpa using h1,fun i q hq=>?_⟩
   cases i with
   |zero=>
    right
    simp only[List.getElem?_cons_zero,V1]at hq
    subst hq
    rfl
   |succ i=>
    rcases h2 i q (by simpa using hq)with h|h
    ·left;omega
    ·exact .inr h
theorem Lm(h:qE p=true):Jj p=true:=by
 cases p with
 |ms=>cases h
 |ss=>cases h
 |_=>rfl
theorem Mx{t t':TypeId}(h:yo ρ m m' es tA)(hn:es[n]?=some cs)(ho:∀(i:Nat) (ds:List PV),es[i]?=some ds→i≠n→∀p∈ds,Jj p=true)
 (hm:Jg 0 cs=some (l,j)) (h1:R9 m=true) (hl:look m l=some ⟨T2,k2,es2⟩) (ht:T2.t=t') {k0:Nat} (xz:m[k0]?=some (some ⟨⟨t,some t'⟩,k,es⟩)):N6 ρ m m' ⟨⟨t,some t'⟩,k,es⟩ ⟨⟨t,some t'⟩,k',tA⟩:=by
 obtain⟨j0,ej,g1,g2⟩:=R0 hm
 rw[Wb]at ej
 subst ej
 intro T1 hT i ds j1 e hi hj iw
 have hT':some t'=some T1:=hT
 obtain⟨TO,c1,c2⟩:=(sB h).2 i ds hi
 obtain⟨p,p1,p2⟩:=(tH c2).2 j1 _ hj
 by_cases hms:Jj p=true
 ·have:=Mw p2 hms iw
  subst this
  exact .inl ⟨hT,TO,c1,p1⟩
 ·right
  have uC:i=n:=by
   rcases Nat.decEq i n with h|h
   ·exact absurd (ho i TO c1 h p (VW p1)) hms
   ·exact h
  subst uC
  rw[hn]at c1
  obtain rfl:=VV c1
  have hj1:j1=j:=by
   rcases g2 j1 p p1 with h|h
   ·exact h
   ·exact absurd h hms
  subst hj1
  rw[g1]at p1
  obtain rfl:=VV p1
  have Zff:∀q',ZaB m l q'→q'=(t,i,j1):=by
   rintro q' ⟨l',nW,T',i',pS,j',a1,a2,a3,a4,rfl⟩
   have e:l'=k0:=filter_one (p:=Zbt) (of_decide_eq_true h1) a1 xz (by simp[Zbt,a2]) rfl
   subst e
   rw[xz]at a1
   obtain rfl:(⟨⟨t,some t'⟩,k,es⟩:MB)=nW:=by simpa using a1
   have lV:i'=i:=by
    rcases Nat.decEq i' i with h|h
    ·have:=ho i' pS a3 h _ (VW a4);cases this
    ·exact h
   subst lV
   rw[hn]at a3
   obtain rfl:=VV a3
   rcases g2 j' _ a4 with h|h
   ·rw[h]
   ·cases h
  generalize hq:PV.sl e=q at p2
  cases p2 with
  |fms _ mk AB hc hd=>
   have:=ji.1 hl
   rw[AB]at this
   obtain rfl:mk=⟨T2,k2,es2⟩:=by simpa using this
   refine⟨_,l,_,hn,g1,⟨⟨k0,_,t',i,_,j1,xz,rfl,hn,g1,rfl⟩,Zff⟩,AB,?_,?_,hd⟩
   ·rw[←VV hT'];exact ht
   ·simpa using hq.symm
  |un=>cases hq
  |c _ h=>cases h
  |ms=>cases hq
theorem Ck[hf:dH f]{t t':TypeId}{x:α}{xs:List α}(hm:Jg 0 cs=some (l,j))(h1:R9 m=true)(hl:look m l=some ⟨T2,k2,es2⟩)(ht:T2.t=t')(h:rX ρ m m' cs (f x)):
 yp ρ m m' ⟨⟨t,some t'⟩,k,xs.map f++[cs]⟩ ⟨⟨t,some t'⟩,k,(xs++[x]).map f⟩:=by
 refine⟨⟨rfl,rfl,.inr (wq h)⟩,fun k0 xz=>Mx (n:=xs.length) (cs:=cs) (wq h) (by simp) (fun i ds hi iw p hp=>?_) hm h1 hl ht xz⟩
 rcases WB i xs.length with bF|yz
 ·rw[List.getElem?_append_left (by simpa using bF),Wj]at hi
  obtain⟨y,_,rfl⟩:=Ww.1 hi
  exact Lm (hf.h y p hp)
 ·have:=(VU.1 hi).1
  simp at this
  omega
theorem EF[hf:dH f]{t t':TypeId}{x:α}{xs:List α}(hn:n<xs.length)(hm:Jg 0 cs=some (l,j))(h1:R9 m=true)(hl:look m l=some ⟨T2,k2,es2⟩)(ht:T2.t=t')(h:rX ρ m m' cs (f x)):
 yp ρ m m' ⟨⟨t,some t'⟩,k,(xs.map f).set n cs⟩ ⟨⟨t,some t'⟩,k,(xs.set n x).map f⟩:=by
 refine⟨⟨rfl,rfl,.inr (tG h)⟩,fun k0 xz=>Mx (n:=n) (cs:=cs) (tG h) (Wl (by simpa using hn)) (fun i ds hi iw p hp=>?_) hm h1 hl ht xz⟩
 rw[List.getElem?_set_ne (Ne.symm iw),Wj]at hi
 obtain⟨y,_,rfl⟩:=Ww.1 hi
 exact Lm (hf.h y p hp)
theorem EG[hf:dH f]{T:TK}{x:α}{xs:List α}(hn:cs.all Jj=true)(h:rX ρ m m' cs (f x)):yp ρ m m' ⟨T,k,(xs.map f).set n cs⟩ ⟨T,k,(xs.set n x).map f⟩:=by
 refine⟨⟨rfl,rfl,.inr (tG h)⟩,fun _ _=>ZaS (tG h) fun ds MN p hp=>?_⟩
 rcases List.mem_or_eq_of_mem_set MN with MN|rfl
 ·obtain⟨y,_,rfl⟩:=WS.1 MN
  exact Lm (hf.h y p hp)
 ·exact V5.1 hn p hp
theorem Zbo{i:PV}(h:cQ P m T (.ms l) i KR):cQ P m T (.ms l) i KR:=h
theorem Gu[dB α]{xs:List α}{x:α}{T':TK}{i:Int}{k:IntKind}(h:aC xs i=some x)(hm:look m l=some ⟨T',k',xs.map dB.c⟩)(hp:0<ga P T)(hk:k'=ga P T)(hK:KR (.be l i.toNat 0)):cQ P m T (.ms l) (.v (.int k i)) KR:=Zbr h hm hp hk hK
theorem qm{xs:List α}{x:α}{i:Int}(h:aC xs i=some x):(xs.map f)[i.toNat]?=some (f x):=by
 rw[Wj,(iH h).2];rfl
theorem Aj[dB α]{xs:List α}{l h:Int}(ik:gA l h xs.length=true)(hm:look m r=some ⟨T',k,xs.map dB.c⟩)(PS:GL lo 0=some l)(hhi:GL hi xs.length=some h)(hp:0<ga P T)(hk:k=ga P T)(hK:KR (.ss r l.toNat h.toNat)):kA P m T (.ms r) lo hi KR:=by
 obtain⟨e,hu,he⟩:=tK hp
 rw[he]at hp hk
 have pd:=of_decide_eq_true ik
 simp only[kA,hu,mh,hm,Wg,PS,hhi]
 exact⟨pd.1,pd.2.1,pd.2.2,hp,hk,hK⟩
theorem ZbU[dB α]{xs:List α}{a b:Int}(hm:look m r=some ⟨T',k,xs.map dB.c⟩):px m (.ss r a.toNat b.toNat)=some ((cD xs a b).map dB.c):=by
 have h:=ji.1 hm
 simp only[px,h,oJ,oU,cD]
theorem uH[dB α]{xs:List α}{r k A B:Nat}{a b:Int}(hm:look m r=some ⟨T',k,xs.map dB.c⟩)(hA:A=a.toNat)(hB:B=b.toNat):px m (.ss r A B)=some ((cD xs a b).map dB.c):=by subst hA hB;exact ZbU hm
theorem ER(h:cs.all qE=true):ln false (.ag cs):=fun c hc=>tQ (V5.1 h c hc)
theorem KX(h:cs.all HE=true):ln true (.ag cs):=fun c hc=>IS (V5.1 h c hc)
theorem ES(h:ps.all CL=true):ln false (.tu ps):=fun c hc=>(yF (σ:=id) (V5.1 h c hc)).2.1
theorem Zbn{s:ByteArray}{i:PV}(h:sJ P T (.v (.string s)) i KR):sJ P T (.v (.string s)) i KR:=h
theorem ZbT(h:kA P m T x lo hi KR):kA P m T x lo hi KR:=h
theorem ZaI{x y:PV}(h:fZ P ν m T x y KA):fZ P ν m T x y KA:=h
theorem Qu{f:FuncId}(h:pT P io wd ν f ps m KA):pT P io wd ν f ps m KA:=h
theorem ZbC{o:Option Value}(h:GH o KR):GH o KR:=h
theorem RT{c:Code}(h:qH P n0 (.loop c) Q t m):qH P n0 (.loop c) Q t m:=h
theorem ZcF(h:jy n0 t m t' m'):jy n0 t m t' m':=h
theorem all_nil{p:α→Prop}:(∀x∈([]:List α),p x)=True:=by simp
theorem all_cons{p:α→Prop}{a:α}{as_:List α}:(∀x∈a::as_,p x)=(p a∧∀x∈as_,p x):=by simp
theorem ZbJ:Kv m (.rp cs)=some cs:=ec rfl
theorem F2[dB α]{xs ys:List α}{ν l e k n b:Nat}(ik:bo (xs.length+ys.length) b=true)(hu:P.underlying T=some (.slice e))(hz:pz P e=some zc)(hb:P.bytesOf e=b)(hc:P.cellsOf e=n)(hl:look m l=some ⟨e,k,xs.map dB.c⟩)(xE:px m x=some (ys.map dB.c))
 (uZ:zc.length=n) (hp:decide (0<n)=true) (hf:∀x:α,(dB.c x).length=n) (hk:k=n) (hK:KA (.ms ν) (nV (m.set l none) ν ⟨e,k,(xs++ys).map dB.c⟩)):fZ P ν m T (.ms l) x KA:=by
 subst hb hc
 exact ZaK ik hu hz xE hl uZ (of_decide_eq_true hp) hf hk hK
theorem F1[dB α]{xs ys:List α}{ν l e k n b t':Nat}(ik:bo (xs.length+ys.length) b=true)(hy:ys.length=1)(hu:P.underlying T=some (.slice e))(hz:pz P e=some zc)(hb:P.bytesOf e=b)(hc:P.cellsOf e=n)(hl:look m l=some ⟨⟨e,some t'⟩,k,xs.map dB.c⟩)(xE:px m x=some [cs])
 (rD:cs.all OU=true) (qD:cs.length=n) (uZ:zc.length=n) (hp:decide (0<n)=true) (hk:k=n) (hK:KA (.ms ν) (nV (m.set l none) ν ⟨⟨e,some t'⟩,k,xs.map dB.c++[cs]⟩)):fZ P ν m T (.ms l) x KA:=by
 subst hk
 subst hb
 have pd:=of_decide_eq_true ik
 rw[hy]at pd
 simp only[fZ,hu,hz,xE,mh,hl,Wg,VX,VY,hc]
 refine⟨uZ,of_decide_eq_true hp,fun ds MN=>?_,trivial,trivial,pd.1,pd.2,?_⟩
 ·rw[Wc]at MN
  subst MN;exact qD
 ·have e:(⟨e,some t'⟩:TK).P0 [cs]=⟨e,some t'⟩:=by
   unfold TK.P0 TK.stb
   simp only[List.all_cons,List.all_nil,Bool.and_true,rD,if_true]
  rw[e];exact hK
theorem F3[dB α]{ys:List α}{ν e n b:Nat}(ik:bo ys.length b=true)(hu:P.underlying T=some (.slice e))(hz:pz P e=some zc)(hb:P.bytesOf e=b)(hc:P.cellsOf e=n)(xE:px m x=some (ys.map dB.c))
 (uZ:zc.length=n) (hp:decide (0<n)=true) (hf:∀x:α,(dB.c x).length=n) (hK:KA (.ms ν) (nV m ν ⟨e,n,ys.map dB.c⟩)):fZ P ν m T (.v (.slice none 0 0)) x KA:=by
 subst hb hc
 exact ZaL ik hu hz xE uZ (of_decide_eq_true hp) hf hK
theorem xB:∀mb,some mb∈([]:Mem)→∀cs∈mb.es,∀p∈cs,cE b p:=by intro mb h;cases h
theorem qk[dH f]{T:TK}{xs:List α}:∀mb,some mb∈([some ⟨T,k,xs.map f⟩]:Mem)→∀cs∈mb.es,∀p∈cs,cE false p:=by
 intro mb h
 simp only[Wc,V1]at h
 subst h
 exact of_eq_true Oi
theorem ta[rN f]{T:TK}{xs:List α}:∀mb,some mb∈([some ⟨T,k,xs.map f⟩]:Mem)→∀cs∈mb.es,∀p∈cs,cE true p:=by
 intro mb h
 simp only[Wc,V1]at h
 subst h
 exact of_eq_true Oj
theorem wT{x:Option MB}{m:Mem}(h1:∀mb,some mb∈([x]:Mem)→∀cs∈mb.es,∀p∈cs,cE b p)(h2:∀mb,some mb∈m→∀cs∈mb.es,∀p∈cs,cE b p):∀mb,some mb∈(x::m)→∀cs∈mb.es,∀p∈cs,cE b p:=by
 intro mb h
 rcases V4.1 h with h|h
 ·exact h1 mb (by simp[h])
 ·exact h2 mb h
end
theorem ZdN{qs:List PV}:(TK.of n).st qs=TK.of n:=ec rfl
theorem ZdM{t t':TypeId}{x:Value}:(TK.mk t (some t')).st [.v x]=TK.mk t (some t'):=ec rfl
theorem ZbV:(TK.of n).P0 es=TK.of n:=ec rfl
attribute [go_sem] ZdN ZdM ZbV KB Kz ZbJ ZdL ZdK Gg Gf ZdG ZdF ZdE BA Bn Vp Vf Q6 Q5 Sq Vh Vg By Pa Sp Sn Vn Vo Bz RD Oz O9 Ve Uc Ub ZaY ZaX ZaZ Pf Pe Br T7 yr T9 ZaT T8 QZ O6 JH U5 U4 O7 O5 Eo LG O8 GZ LL C4 LI C5 LJ G0 LH En Sj Sl Sk LF Sh Be C6 LM JG O4 Si OX ZbI tw tv Zbw Zbv UT UU Zby Zbx ZbS ZbQ ZbR ZbH ZbG Dx Dz Dy Fs Pm LV pt nG oJ oU Jt TA pUn kz vJ Jw wZ qw rR D1 zU pc vL Ek jf gC uL wQ sY ur VS Wg if_true if_false Bool.false_eq_true List.map_cons List.map_nil List.toList_toArray beq_self_eq_true ite_self Int.toNat_natCast true_and and_true VY List.nil_append List.append_nil Wb List.drop_zero List.drop_succ_cons List.take_zero List.take_succ_cons VX List.cons_append Wr List.replicate_zero Bool.not_true Bool.not_false Ad uF qz sN iX mU Fj CZ rK GL Option.map_none vI w9 mR chunk xk all_cons all_nil Nat.zero_lt_succ Nat.lt_add_one and_self
instance:dH aG:=⟨fun x q h=>by simp only[aG,Wc]at h;subst h;rfl⟩
instance:rN aG:=⟨fun x q h=>by simp only[aG,Wc]at h;subst h;rfl⟩
instance:dH jH:=⟨fun x q h=>by simp only[jH,Wc]at h;subst h;rfl⟩
instance:rN jH:=⟨fun x q h=>by simp only[jH,Wc]at h;subst h;rfl⟩
instance:dH Ap:=⟨fun x q h=>by simp only[Ap,Wc]at h;subst h;rfl⟩
instance:rN Ap:=⟨fun x q h=>by simp only[Ap,Wc]at h;subst h;rfl⟩
structure YB8 where
 v:Int
deriving DecidableEq
def cB8(x:YB8):List PV:=[v8 x.v]
instance:dB YB8:=⟨cB8⟩
instance:dH cB8:=⟨fun x q h=>by simp only[cB8,Wc]at h;subst h;rfl⟩
instance:rN cB8:=⟨fun x q h=>by simp only[cB8,Wc]at h;subst h;rfl⟩
structure aP where
 b:List YB8
 i:Int
 h:Int
deriving DecidableEq
def zx(x:aP):List PV:=[.sl (x.b.map cB8),vi x.i,vi x.h]
instance:dB aP:=⟨zx⟩
instance:dH zx:=⟨fun x q h=>by simp only[zx,V4,V7,or_false]at h;(repeat' (first|(rcases h with rfl|h;rfl) |(subst h;rfl)))⟩
instance:dB dh:=⟨tr⟩
instance:dH tr:=⟨fun x q h=>by simp only[tr,V4,V7,or_false]at h;(repeat' (first|(rcases h with rfl|h;rfl) |(subst h;rfl)))⟩
instance:rN tr:=⟨fun x q h=>by simp only[tr,V4,V7,or_false]at h;(repeat' (first|(rcases h with rfl|h;rfl) |(subst h;rfl)))⟩
instance:dB a8:=⟨bS⟩
instance:dH bS:=⟨fun x q h=>by simp only[bS,V4,V7,or_false]at h;(repeat' (first|(rcases h with rfl|h;rfl) |(subst h;rfl)))⟩
instance:dB bL:=⟨cK⟩
instance:dH cK:=⟨fun x q h=>by simp only[cK,V4,V7,or_false]at h;(repeat' (first|(rcases h with rfl|h;rfl) |(subst h;rfl)))⟩
instance:rN cK:=⟨fun x q h=>by simp only[cK,V4,V7,or_false]at h;(repeat' (first|(rcases h with rfl|h;rfl) |(subst h;rfl)))⟩
instance:dB bN:=⟨cO⟩
instance:dH cO:=⟨fun x q h=>by simp only[cO,V4,V7,or_false]at h;(repeat' (first|(rcases h with rfl|h;rfl) |(subst h;rfl)))⟩
instance:rN cO:=⟨fun x q h=>by simp only[cO,V4,V7,or_false]at h;(repeat' (first|(rcases h with rfl|h;rfl) |(subst h;rfl)))⟩
instance:dB bM:=⟨bp⟩
instance:dH bp:=⟨fun x q h=>by simp only[bp,V4,V7,or_false]at h;(repeat' (first|(rcases h with rfl|h;rfl) |(subst h;rfl)))⟩
instance:rN bp:=⟨fun x q h=>by simp only[bp,V4,V7,or_false]at h;(repeat' (first|(rcases h with rfl|h;rfl) |(subst h;rfl)))⟩
instance:dB aj:=⟨bA⟩
instance:dH bA:=⟨fun x q h=>by simp only[bA,V4,V7,or_false]at h;(repeat' (first|(rcases h with rfl|h;rfl) |(subst h;rfl)))⟩
instance:dB au:=⟨aS⟩
instance:dH aS:=⟨fun x q h=>by simp only[aS,V4,V7,or_false]at h;(repeat' (first|(rcases h with rfl|h;rfl) |(subst h;rfl)))⟩
instance:rN aS:=⟨fun x q h=>by simp only[aS,V4,V7,or_false]at h;(repeat' (first|(rcases h with rfl|h;rfl) |(subst h;rfl)))⟩
instance:dB ao:=⟨aB⟩
instance:dH aB:=⟨fun x q h=>by simp only[aB,V4,V7,or_false]at h;(repeat' (first|(rcases h with rfl|h;rfl) |(subst h;rfl)))⟩
instance:rN aB:=⟨fun x q h=>by simp only[aB,V4,V7,or_false]at h;(repeat' (first|(rcases h with rfl|h;rfl) |(subst h;rfl)))⟩
instance:dB br:=⟨bt⟩
instance:dH bt:=⟨fun x q h=>by simp only[bt,V4,V7,or_false]at h;(repeat' (first|(rcases h with rfl|h;rfl) |(subst h;rfl)))⟩
instance:rN bt:=⟨fun x q h=>by simp only[bt,V4,V7,or_false]at h;(repeat' (first|(rcases h with rfl|h;rfl) |(subst h;rfl)))⟩
instance:dB az:=⟨bc⟩
instance:dH bc:=⟨fun x q h=>by simp only[bc,V4,V7,or_false]at h;(repeat' (first|(rcases h with rfl|h;rfl) |(subst h;rfl)))⟩
instance:dB av:=⟨fK⟩
instance:dH fK:=⟨fun x q h=>by simp only[fK,V4,V7,or_false]at h;(repeat' (first|(rcases h with rfl|h;rfl) |(subst h;rfl)))⟩
instance:dB aW:=⟨bO⟩
instance:dH bO:=⟨fun x q h=>by simp only[bO,V4,V7,or_false]at h;(repeat' (first|(rcases h with rfl|h;rfl) |(subst h;rfl)))⟩
instance:rN bO:=⟨fun x q h=>by simp only[bO,V4,V7,or_false]at h;(repeat' (first|(rcases h with rfl|h;rfl) |(subst h;rfl)))⟩
instance:dB cg:=⟨ig⟩
instance:dH ig:=⟨fun x q h=>by simp only[ig,V4,V7,or_false]at h;(repeat' (first|(rcases h with rfl|h;rfl) |(subst h;rfl)))⟩
instance:dB aM:=⟨lk⟩
instance:dH lk:=⟨fun x q h=>by simp only[lk,V4,V7,or_false]at h;(repeat' (first|(rcases h with rfl|h;rfl) |(subst h;rfl)))⟩
instance:dB HZ:=⟨vl⟩
instance:dH vl:=⟨fun x q h=>by simp only[vl,V4,V7,or_false]at h;(repeat' (first|(rcases h with rfl|h;rfl) |(subst h;rfl)))⟩
instance:rN vl:=⟨fun x q h=>by simp only[vl,V4,V7,or_false]at h;(repeat' (first|(rcases h with rfl|h;rfl) |(subst h;rfl)))⟩
instance:dB KC:=⟨xo⟩
instance:dH xo:=⟨fun x q h=>by simp only[xo,V4,V7,or_false]at h;(repeat' (first|(rcases h with rfl|h;rfl) |(subst h;rfl)))⟩
instance:dB KE:=⟨xp⟩
instance:dH xp:=⟨fun x q h=>by simp only[xp,V4,V7,or_false]at h;(repeat' (first|(rcases h with rfl|h;rfl) |(subst h;rfl)))⟩
instance:dB Mh:=⟨wg⟩
instance:dH wg:=⟨fun x q h=>by simp only[wg,V4,V7,or_false]at h;(repeat' (first|(rcases h with rfl|h;rfl) |(subst h;rfl)))⟩
instance:dB Qe:=⟨vm⟩
instance:dH vm:=⟨fun x q h=>by simp only[vm,V4,V7,or_false]at h;(repeat' (first|(rcases h with rfl|h;rfl) |(subst h;rfl)))⟩
instance:rN vm:=⟨fun x q h=>by simp only[vm,V4,V7,or_false]at h;(repeat' (first|(rcases h with rfl|h;rfl) |(subst h;rfl)))⟩
instance:dB Mg:=⟨we⟩
instance:dH we:=⟨fun x q h=>by simp only[we,V4,V7,or_false]at h;(repeat' (first|(rcases h with rfl|h;rfl) |(subst h;rfl)))⟩
attribute [go_sem] aG jH Ap cB8 zx tr bS cK cO bp bA aS aB bt bc fK bO ig lk vl xo xp wg vm we dB.c
theorem IK{a b a2 b2:Int}:Cr Tryz.prog (n+3) 46 [vi a,vi b] [vi a2,vi b2]=some (decide ((⟨a,b⟩:au)=(⟨a2,b2⟩:au))):=by
 simp only[Cr,Tryz.underlying3,Tryz.underlying46,Ke,Program.fieldsOf,go_sem]
 simp[Ke,tq3]
 try rfl
@[go_sem] theorem ZcK{a b a2 b2:Int}{KR:PV→Prop}:uV Tryz.prog .eql 46 [vi a,vi b] [vi a2,vi b2] KR=KR (vb (decide ((⟨a,b⟩:au)=(⟨a2,b2⟩:au)))):=by unfold uV;rw[show(10000:Nat)=9997+3 from rfl,IK,Tryz.underlying46];simp only[Ke,true_and]
@[go_sem] theorem Zdw{a b a2 b2:Int}{KR:PV→Prop}:uV Tryz.prog .neq 46 [vi a,vi b] [vi a2,vi b2] KR=KR (vb (!decide ((⟨a,b⟩:au)=(⟨a2,b2⟩:au)))):=by unfold uV;rw[show(10000:Nat)=9997+3 from rfl,IK,Tryz.underlying46];simp only[Ke,true_and]
theorem Av{a b c d a2 b2 c2 d2:Int}:Cr Tryz.prog (n+3) 177 [vi a,vi b,vi c,vi d] [vi a2,vi b2,vi c2,vi d2]=some (decide ((⟨a,⟨b,c⟩,d⟩:ao)=(⟨a2,⟨b2,c2⟩,d2⟩:ao))):=by
 simp only[Cr,Tryz.underlying3,Tryz.underlying177,NF,Tryz.underlying46,Ke,Program.fieldsOf,go_sem]
 simp[NF,Ke,tq3]
 try rfl
@[go_sem] theorem Zaj{a b c d a2 b2 c2 d2:Int}{KR:PV→Prop}:uV Tryz.prog .eql 177 [vi a,vi b,vi c,vi d] [vi a2,vi b2,vi c2,vi d2] KR=KR (vb (decide ((⟨a,⟨b,c⟩,d⟩:ao)=(⟨a2,⟨b2,c2⟩,d2⟩:ao)))):=by unfold uV;rw[show(10000:Nat)=9997+3 from rfl,Av,Tryz.underlying177];simp only[NF,true_and]
@[go_sem] theorem Zav{a b c d a2 b2 c2 d2:Int}{KR:PV→Prop}:uV Tryz.prog .neq 177 [vi a,vi b,vi c,vi d] [vi a2,vi b2,vi c2,vi d2] KR=KR (vb (!decide ((⟨a,⟨b,c⟩,d⟩:ao)=(⟨a2,⟨b2,c2⟩,d2⟩:ao)))):=by unfold uV;rw[show(10000:Nat)=9997+3 from rfl,Av,Tryz.underlying177];simp only[NF,true_and]
end Go.Proofs.YtbalgkakkoocjaaGreat
namespace Go.Proofs.YtbalgkakkoocjaaGreat
set_option maxRecDepth 10000
open Go.ChangeShapes Go.WideShapes Go.ChangeAt Go.RowKit Go.Deep
theorem decP_b8:ZaC Tryz.prog 5 cB8 (fun x=>0≤x.v∧x.v≤255):=by
 intro H enc w base spare held fuel cs x h
 obtain⟨n,rfl,_,hw⟩:=DataW.trod_int Tryz.underlying5 h
 refine⟨⟨n⟩,wL rfl (.v _ rfl),?_⟩
 simp[Lit.wf,IntKind.min,IntKind.max,IntKind.signed,IntKind.bits]at hw
 exact⟨by show 0≤n;omega,by show n≤255;omega⟩
theorem cells_b8:Tryz.prog.cellsOf 5=1:=by kernel_rfl
end Go.Proofs.YtbalgkakkoocjaaGreat
namespace Go.Proofs.YtbalgkakkoocjaaGreat
set_option maxRecDepth 10000
open Go.RowKit
variable {KA:List Nat→PV→Mem→Prop}{KR:PV→Prop}{P:Program}{Q:Exit→List PV→Mem→Prop}{R α β γ ο:Type}{cs ds ps t t':List PV}{draw io:Bool}{i k n n0 wd ν:Nat}{m m' m0:Mem}{ops:Array Oper}{p:Prop}{rs:List (Option Nat)}{s:ByteArray}{ρ:List Nat}{σ:Nat→Nat}{A:Option R}{F:Unit→Option α}{G:ο→Option β}{J:Option (ο⊕α)}{K:α→Option β}{M:ο→Mem}{T:ο→List PV}{body:Int→Option (Int⊕ο)}{r:β}{x:Option (Int⊕ο)}
theorem aQ{n:Int}(h:-9223372036854775808≤n∧n≤9223372036854775807):aL n=n:=IntWalk.i64_in n h
theorem bI(hi:i<n)(hn:n≤1152921504606846976):aL ((i:Int)+1)=((i+1:Nat):Int):=by
 rw[aQ (by omega)];omega
theorem aR{xs:List α}:aC xs (i:Int)=xs[i]?:=by
 unfold aC;rw[if_pos (by omega)];simp
theorem pR{b:Bool}(h:b=true):cL b=some ():=by subst h;rfl
def tx{A α ο:Type}(F:Nat→A→α→Option (A⊕ο))(E:A→Option ο):Nat→List α→A→Option ο
 |_,[],a=>E a
 |i,x::xs,a=>(F i a x).bind (bl (fun a'=>tx F E (i+1) xs a') some)
theorem E4{A α σ ο:Type}{xs:List α}{body:σ→Option (σ⊕ο)}{mk:A→Int→σ}{F:Nat→A→α→Option (A⊕ο)}{E:A→Option ο}
 (h1:∀a (i:Nat) x,xs[i]?=some x→body (mk a i)=(F i a x).bind (bl (fun a'=>some (.inl (mk a' ((i+1:Nat):Int)))) (fun r=>some (.inr r))))
 (h2:∀a,body (mk a (xs.length:Int))=(E a).bind fun r=>some (.inr r)):
 ∀(ys:List α) (i:Nat) (N:Nat) (a:A),xs.drop i=ys→i≤xs.length→ys.length<N→aD body N (mk a i)=tx F E i ys a
 | [],i,0,a,_,_,hN=>by omega
 | [],i,N+1,a,hd,hi,hN=>by
  have:i=xs.length:=by have:=congrArg List.length hd;simp at this;omega
  subst this
  simp only[aD,tx,h2]
  cases E a<;>rfl
 |y::ys,i,0,a,_,_,hN=>by simp at hN
 |y::ys,i,N+1,a,hd,hi,hN=>by
  have hy:xs[i]?=some y:=by
   have:=congrArg (fun l=>l[0]?) hd
   simpa using this
  have bF:i<xs.length:=(VU.1 hy).1
  have vt:xs.drop (i+1)=ys:=by
   have:=congrArg (List.drop 1) hd
   simpa[List.drop_drop]using this
  simp only[aD,tx,h1 a i y hy]
  cases hF:F i a y with
  |none=>rfl
  |some o=>
   cases o with
   |inl a'=>
    show aD body N (mk a' ((i+1:Nat):Int))=tx F E (i+1) ys a'
    exact E4 h1 h2 ys (i+1) N a' vt bF (by simp at hN;omega)
   |inr r=>rfl
theorem qS{A α σ ο:Type}{xs:List α}{body:σ→Option (σ⊕ο)}{N:Nat}(mk:A→Int→σ)(F:Nat→A→α→Option (A⊕ο))(E:A→Option ο)
 (h1:∀a (i:Nat) x,xs[i]?=some x→body (mk a i)=(F i a x).bind (bl (fun a'=>some (.inl (mk a' ((i+1:Nat):Int)))) (fun r=>some (.inr r))))
 (h2:∀a,body (mk a (xs.length:Int))=(E a).bind fun r=>some (.inr r)) (hN:xs.length<N) (a:A):aD body N (mk a 0)=tx F E 0 xs a:=
 E4 h1 h2 xs 0 N a rfl (Nat.zero_le _) hN
theorem yN{σ ο:Type}{body:σ→Option (σ⊕ο)}(I:Nat→σ→Prop)(hI:∀k s,I k s→∃o,body s=some o∧∀s',o=.inl s'→∃k',k'<k∧I k' s'):∀(N k:Nat) (s:σ),I k s→k<N→∃o,aD body N s=some o
 |0,k,s,_,hN=>by omega
 |N+1,k,s,h,hN=>by
  obtain⟨o,hb,hn⟩:=hI k s h
  simp only[aD,hb]
  cases o with
  |inr r=>exact⟨r,rfl⟩
  |inl s'=>
   obtain⟨k',hk,hi⟩:=hn s' rfl
   exact yN I hI N k' s' hi (by omega)
theorem yM(hn:n<NN)(h:∀i:Nat,i<n→∃o,body (i:Int)=some o∧∀s',o=.inl s'→s'=((i+1:Nat):Int))(he:∃r,body (n:Int)=some (.inr r)):∃o,aD body NN 0=some o:=by
 refine yN (fun k s=>∃i:Nat,i+k=n∧s=(i:Int)) ?_ NN n 0 ⟨0,by omega,rfl⟩ hn
 rintro k s ⟨i,hi,rfl⟩
 rcases WB i n with bF|yz
 ·obtain⟨o,ho,hs⟩:=h i bF
  exact⟨o,ho,fun s' e=>⟨k-1,by omega,i+1,by omega,hs s' e⟩⟩
 ·obtain⟨r,hr⟩:=he
  have:i=n:=by omega
  subst this
  exact⟨_,hr,fun s' e=>by cases e⟩
theorem DI(e:x=some (.inl ((i+1:Nat):Int))):∃o,x=some o∧∀s',o=.inl s'→s'=((i+1:Nat):Int):=⟨_,e,by rintro s' h;cases h;rfl⟩
theorem DJ{r:ο}(e:x=some (.inr r)):∃o,x=some o∧∀s',o=.inl s'→s'=((i+1:Nat):Int):=⟨_,e,by rintro s' h;cases h⟩
theorem oa{c:Nat→Bool}{r e:ο}(h1:∀i:Nat,i<n→(∀j,j<i→c j=true)→body (i:Int)=some (if c i=true then .inl ((i+1:Nat):Int)else .inr r))(h2:(∀j,j<n→c j=true)→body (n:Int)=some (.inr e))(hN:n<NN):
 aD body NN 0=some (if(WO n).all c=true then e else r):=by
 have key:∀(k i N:Nat),i+k=n→k<N→(∀j,j<i→c j=true)→aD body N (i:Int)=some (if(WO n).all c=true then e else r):=by
  intro k
  induction k with
  |zero=>
   intro i N hi hk hj
   cases N with
   |zero=>omega
   |succ N=>
    have:i=n:=by omega
    subst this
    simp only[aD,h2 hj]
    show some e=_
    rw[if_pos (V5.2 fun x hx=>hj x (WW.1 hx))]
  |succ k ih=>
   intro i N hi hk hj
   cases N with
   |zero=>omega
   |succ N=>
    simp only[aD,h1 i (by omega) hj]
    by_cases hc:c i=true
    ·rw[if_pos hc]
     exact ih (i+1) N (by omega) (by omega) (fun j wv=>by
      rcases WB j i with h|h
      ·exact hj j h
      ·have:j=i:=by omega
       rw[this];exact hc)
    ·rw[if_neg hc]
     show some r=_
     rw[if_neg fun tt=>hc (V5.1 tt i (WW.2 (by omega)))]
 exact key n 0 NN (by omega) hN (fun j hj=>by omega)
theorem Pj(xs:List α)(p:α→Bool)(c:Nat→Bool)(h:∀i (hi:i<xs.length),c i=p xs[i]):(WO xs.length).all c=xs.all p:=by
 rw[Bool.eq_iff_iff,V5,V5]
 constructor
 ·intro H x hx
  obtain⟨i,hi,rfl⟩:=List.getElem_of_mem hx
  rw[←h i hi];exact H i (WW.2 hi)
 ·intro H i hi
  have lV:=WW.1 hi
  rw[h i lV];exact H _ (List.getElem_mem lV)
theorem tV{xs:List α}{p:α→Bool}{r e:ο}(h1:∀i (hi:i<xs.length),body (i:Int)=some (if p xs[i]=true then .inr r else .inl ((i+1:Nat):Int)))(h2:body (xs.length:Int)=some (.inr e))(hN:xs.length<NN):
 aD body NN 0=some (if xs.any p=true then r else e):=by
 rw[oa (n:=xs.length) (c:=fun i=>(xs[i]?.map fun x=>!p x).getD true) (r:=r) (e:=e) (fun i hi _=>?_) (fun _=>h2) hN,Pj xs (fun x=>!p x) _ (fun i hi=>by simp[hi])]
 ·rw[List.all_eq_not_any_not]
  cases hb:xs.any p with
  |true=>simp[hb]
  |false=>simp[hb]
 ·rw[h1 i hi]
  simp only[List.getElem?_eq_getElem hi,Wr,Ws]
  cases p xs[i]<;>rfl
def A8(t:List PV)(m:Mem):Option Unit:=some ()
theorem jy.trans{t t1 t2:List PV}{m m1 m2:Mem}(h:jy n0 t m t1 m1)(k:jy n0 t1 m1 t2 m2):jy n0 t m t2 m2:=by
 induction h with
 |one h=>exact .two h k
 |two h h' ih=>exact .two h (ih k)
theorem G7{t T:List PV}{m M:Mem}
 (H:((A8 T M).bind F).bind K=some r) (hc:jy n0 t m T M) (hk:(F ()).bind K=some r→qH P n0 (.region i ops draw) Q T M):qH P n0 (.region i ops draw) Q t m:=by
 rcases hk H with h|⟨t1,m1,h1,h2⟩
 ·exact .inr ⟨T,M,hc,h⟩
 ·exact .inr ⟨t1,m1,hc.trans h1,h2⟩
def ll(wd:Nat)(fl:List Nat):Option Unit:=some ()
theorem De{fl:List Nat}{id:Nat}{ops:List Oper}
 (H:((ll wd fl).bind F).bind K=some r) (I5:decide (0<wd)=true) (h1:P.follows .mixedOrders=true) (hk:(F ()).bind K=some r→j2 P wd m.length fl ops.toArray (Oa ops (Q .normal)) 0 ops [] t m):qH P n0 (.region id ops.toArray true) Q t m:=Ph I5 h1 (hk H)
theorem EI{f:α→List PV}[dH f]{xs:List α}{x:α}{k k' n:Nat}{T:TK}(hm:look m k=some ⟨T,k',(xs.map f).set n cs⟩)(hc:f x=cs)(hd:dropped (cT rs) m' k):oH (cT rs) m m' (.ms k) (.sl ((xs.set n x).map f)):=by
 subst hc
 refine Cl (f:=f) (xs:=xs.set n x) (T:=T) (k':=k') ?_ hd
 rw[hm,List.map_set]
theorem Iy{f:α→List PV}[dH f]{xs:List α}{a b:Int}{k k' A B:Nat}{T:TK}(hm:look m k=some ⟨T,k',xs.map f⟩)(hA:A=a.toNat)(hB:B=b.toNat)(hd:dropped (cT rs) m' k):oH (cT rs) m m' (.ss k A B) (.sl ((cD xs a b).map f)):=by
 subst hA hB
 have:=oH.fss (ρ:=cT rs) (m:=m) (m':=m') k a.toNat b.toNat ⟨T,k',xs.map f⟩ (ji.1 hm) yZ hd
 simpa only[oJ,oU,cD]using this
def w7{α:Type}(xs:List α)(i:Int):Option α:=aC xs i
theorem rgH{xs:List α}{i:Int}{F:α→Option β}{K:β→Option γ}{r:γ}(H:((w7 xs i).bind F).bind K=some r):∃x,aC xs i=some x∧(F x).bind K=some r:=sx H
theorem rG{f:α→List PV}{xs:List α}{x:α}{i:Int}(h:aC xs i=some x):((xs.map f).set i.toNat cs)[i.toNat]?=some cs:=by
 rw[Wl]
 have:=(VU.1 (iH h).2).1
 simpa using this
theorem CI[dB α]{xs:List α}{x:α}{T:TypeId}{T':TK}{l k' n:Nat}{i:Int}{k:IntKind}(h:aC xs i=some x)(hm:look m l=some ⟨T',k',(xs.map dB.c).set n cs⟩)(hp:0<ga P T)(hk:k'=ga P T)(hK:KR (.be l i.toNat 0)):cQ P m T (.ms l) (.v (.int k i)) KR:=by
 obtain⟨h1,h2,h3⟩:=Gh h
 obtain⟨e,hu,he⟩:=tK hp
 rw[he]at hk
 simp only[cQ,hu,mh,hm,Wg,WL]
 exact⟨h1,h2,hk,hK⟩
attribute [go_sem] WL List.set_set
def A9{α:Type}(x:α)(t:α→List PV)(m:α→Mem):Option α:=some x
theorem Dg{ξ α β:Type}{x:ξ}{T:ξ→List PV}{M:ξ→Mem}{F:ξ→Option α}{K:α→Option β}{r:β}
 (H:((A9 x T M).bind F).bind K=some r) (hc:jy n0 t m (T x) (M x)) (hk:∀z,(F z).bind K=some r→qH P n0 (.region i ops draw) Q (T z) (M z)):qH P n0 (.region i ops draw) Q t m:=by
 rcases hk x H with h|⟨t1,m1,h1,h2⟩
 ·exact .inr ⟨T x,M x,hc,h⟩
 ·exact .inr ⟨t1,m1,hc.trans h1,h2⟩
def bh(ρ:List Nat):Option Unit:=some ()
theorem F8[C:CT P A]{G:R→Option α}{f:FuncId}{KA:PV→Mem→Prop}
 (H:((bh ρ).bind F).bind K=some r) (hF:F ()=A.bind G) (hf:C.f=f) (Gn:io=true) (CG:ps=C.args.map (uF (sig ρ ν))) (hq:∀q∈C.args,kb false q∧yR C.m0.length q=true) (hn:ρ.Nodup) (uC:oZ (sig ρ ν) m C.m0.length ρ C.m0)
 (hlen:∀y,C.m0.length≤(C.mem y).length∧(C.mem y).length-C.m0.length≤wd) (hm:∀y,∀mb,some mb∈C.mem y→∀cs∈mb.es,∀p∈cs,cE false p) (hg:∀y,ln false (C.res y))
 (hk:∀y,A=some y→(G y).bind K=some r→KA (Ad (sig ρ ν) (C.res y)) (iX (sig ρ ν) ν ((C.mem y).drop ρ.length) (kC (sig ρ ν) ρ (C.mem y) m))):pT P io wd ν f ps m KA:=by
 have H':(F ()).bind K=some r:=H
 rw[hF]at H'
 obtain⟨y,hy,H2⟩:=sx H'
 subst hf
 exact .inr ⟨ρ,C.m0,C.args,C.res y,C.mem y,.inl Gn,C.ok hy,(hlen y).1,(hlen y).2,CG,hq,hn,uC,hm y,hg y,hk y hy H2⟩
theorem Cb[C:CT P A]{G:R→Option α}{f:FuncId}
 (H:((bh ρ).bind F).bind K=some r) (hF:F ()=A.bind G) (hf:C.f=f) (CG:ps=C.args.map (uF (sig ρ ν))) (hq:∀q∈C.args,kb false q∧yR C.m0.length q=true) (hn:ρ.Nodup) (uC:oZ (sig ρ ν) m C.m0.length ρ C.m0)
 (hlen:∀y,C.m0.length≤(C.mem y).length∧(C.mem y).length-C.m0.length≤wd) (hm:∀y,∀mb,some mb∈C.mem y→∀cs∈mb.es,∀p∈cs,cE false p) (hg:∀y,ln false (C.res y))
 (hk:∀y,A=some y→(G y).bind K=some r→KA ρ (Ad (sig ρ ν) (C.res y)) (iX (sig ρ ν) ν ((C.mem y).drop ρ.length) (kC (sig ρ ν) ρ (C.mem y) m))):pIO P wd ν f ps m KA:=by
 have H':(F ()).bind K=some r:=H
 rw[hF]at H'
 obtain⟨y,hy,H2⟩:=sx H'
 subst hf
 exact⟨ρ,C.m0,C.args,C.res y,C.mem y,C.ok hy,(hlen y).1,(hlen y).2,CG,hq,hn,uC,hm y,hg y,hk y hy H2⟩
def P6:Prop:=True
theorem Pp(H:((bh ρ).bind F).bind K=some r):P6:=trivial
theorem ZbM{f:FuncId}{KA:PV→Mem→Prop}(h:P6)(hk:pT P io wd ν f ps m KA):pT P io wd ν f ps m KA:=hk
theorem Sz{f:FuncId}(h:P6)(hk:pIO P wd ν f ps m KA):pIO P wd ν f ps m KA:=hk
theorem qO:oZ σ m n [] []:=trivial
theorem RX{p:PV}(h:qE p=true):rI n p=true:=by
 cases p with
 |fn f cs=>
  simp only[qE,V5]at h
  simp only[rI,V5]
  intro c hc
  have:=h c hc
  cases c<;>simp_all[qn,sV]
 |_=>simp_all[qE,qn,rI,sV]
theorem qN{f:α→List PV}[hf:dH f]{T:TK}{n l k:Nat}{xs:List α}(hl:look m l=some ⟨T,k,xs.map f⟩)(h:oZ σ m n ρ m0):oZ σ m n (l::ρ) (some ⟨T,k,xs.map f⟩::m0):=by
 refine⟨?_,fun cs qF p hp=>?_,h⟩
 ·rw[ji.1 hl]
  simp only[mU,Fs]
 ·obtain⟨x,_,rfl⟩:=WS.1 qF
  exact⟨tQ (hf.h x p hp),RX (hf.h x p hp)⟩
theorem qP{T:TK}{n l k:Nat}{cs pS:List PV}(hl:look m l=some ⟨T,k,[pS]⟩)(hc:pS=cs.map (qz σ))(hg:∀p∈cs,cE false p∧rI n p=true)(h:oZ σ m n ρ m0):oZ σ m n (l::ρ) (some ⟨T,k,[cs]⟩::m0):=by
 subst hc
 refine⟨ji.1 hl,fun ds MN p hp=>?_,h⟩
 obtain rfl:ds=cs:=by simpa using MN
 exact hg p hp
@[irreducible] def jn{ο α:Type}(i j:Nat)(J:Option (ο⊕α))(T:ο→List PV)(M:ο→Mem):Option (ο⊕α):=J
def hdC:Code→Bool
 |.region _ _ _=>true
 |.loop _=>true
 |.seq a _=>hdC a
 |.block _ c=>hdC c
 |_=>false
def idC:Code→Nat
 |.region i _ _=>i
 |.loop c=>idC c
 |.seq a _=>idC a
 |.block _ c=>idC c
 |_=>0
theorem Dc{P:Program}{n0:Nat}:∀(c:Code),hdC c=true→∀{Q:Exit→List PV→Mem→Prop} {t T:List PV} {m M:Mem},jy n0 t m T M→qH P n0 c Q T M→qH P n0 c Q t m
 |.region i ops draw,_,Q,t,T,m,M,hc,h=>by
  rcases h with h|⟨t1,m1,h1,h2⟩
  ·exact .inr ⟨T,M,hc,h⟩
  ·exact .inr ⟨t1,m1,hc.trans h1,h2⟩
 |.loop c,_,Q,t,T,m,M,hc,h=>by
  obtain⟨I,n,t0,m0,h1,h2⟩:=h
  exact⟨I,n,t0,m0,hc.trans h1,h2⟩
 |.seq a b,hd,Q,t,T,m,M,hc,h=>Dc a hd hc h
 |.block i c,hd,Q,t,T,m,M,hc,h=>Dc c hd hc h
theorem G8{a b:Code}{F:α→Option β}{K:β→Option γ}{r:γ}
 {i j:Nat} (H:((jn i j J T M).bind (bl G F)).bind K=some r) (hd:hdC b=true) (hi:(idC a==i&&idC b==j)=true)
 (h1:∀K':List PV→Mem→Prop,(∀o t' m',(G o).bind K=some r→jy n0 t' m' (T o) (M o)→K' t' m')→J.bind (bl (fun o=>(G o).bind K) (fun v=>(F v).bind K))=some r→qH P n0 a (rB K' Q) t m)
 (h2:∀o,(G o).bind K=some r→qH P n0 b Q (T o) (M o)):qH P n0 (.seq a b) Q t m:=by
 unfold jn at H
 refine h1 (fun t m=>qH P n0 b Q t m) (fun o t' m' h hc=>Dc b hd hc (h2 o h)) ?_
 cases J with
 |none=>cases H
 |some x=>cases x<;>exact H
theorem jnX{s:ο}{F:ο→Option β}{Kp:List PV→Mem→Prop}(H:(some (Sum.inl s)).bind (bl F K)=some r)(hL:∀o t' m',F o=some r→jy n0 t' m' (T o) (M o)→Kp t' m')(hc:jy n0 t m (T s) (M s)):Kp t m:=hL s t m H hc
def Zcf:Prop:=True
theorem jnH{i j:Nat}{G:(ο⊕α)→Option β}{K:β→Option γ}{r:γ}(H:((jn i j J T M).bind G).bind K=some r):Zcf:=trivial
theorem jnS{a b:Code}(h:Zcf)(hk:qH P n0 (.seq a b) Q t m):qH P n0 (.seq a b) Q t m:=hk
theorem Kd{K K2:List PV→Mem→Prop}:rB K (rB K2 Q)=rB K Q:=by
 funext e t m
 cases e<;>rfl
theorem Pg{a b c:Code}(h:qH P n0 (.seq (.seq a b) c) Q t m):qH P n0 (.seq a (.seq b c)) Q t m:=by
 have e:qH P n0 (.seq (.seq a b) c) Q t m=qH P n0 a (rB (fun t m=>qH P n0 b (rB (fun t m=>qH P n0 c Q t m) Q) t m) (rB (fun t m=>qH P n0 c Q t m) Q)) t m:=by simp only[qH]
 rw[e,Kd]at h
 simp only[qH]
 exact h
theorem G9{a b c:Code}{F:α→Option β}{K:β→Option γ}{r:γ}
 {i j:Nat} (H:((jn i j J T M).bind (bl G F)).bind K=some r) (hd:hdC c=true) (hi:(idC a==i&&idC c==j)=true)
 (h1:∀K':List PV→Mem→Prop,(∀o t' m',(G o).bind K=some r→jy n0 t' m' (T o) (M o)→K' t' m')→J.bind (bl (fun o=>(G o).bind K) (fun v=>(F v).bind K))=some r→qH P n0 (.seq a b) (rB K' Q) t m)
 (h2:∀o,(G o).bind K=some r→qH P n0 c Q (T o) (M o)):qH P n0 (.seq a (.seq b c)) Q t m:=Pg (G8 H hd hi h1 h2)
inductive vc:PV→PV→Prop
 |r (p:PV):vc p p
 |nil (c:Nat):vc (.v (.slice none 0 c)) (.sl [])
 |un (p:PV):vc p .un
inductive A6:List PV→List PV→Prop
 |n:A6 [] []
 |c {p q:PV} {ps qs:List PV} (h:vc p q) (k:A6 ps qs):A6 (p::ps) (q::qs)
inductive BN:PV→PV→Prop
 |c {p q:PV} (h:vc p q):BN p q
 |ag {cs ds:List PV} (h:A6 cs ds):BN (.ag cs) (.ag ds)
inductive A1:List PV→List PV→Prop
 |n:A1 [] []
 |c {p q:PV} {ps qs:List PV} (h:BN p q) (k:A1 ps qs):A1 (p::ps) (q::qs)
theorem vc.rep{w:World}{E:Env}{p q:PV}{x:Value}(h:vc p q)(hr:dL w E p x):dL w E q x:=by
 cases h with
 |r=>exact hr
 |nil c=>
  cases hr with
  |c h=>cases h with
   |v _ _=>exact .c (.nil none c)
 |un=>exact .c (.un x)
theorem A6.len(h:A6 cs ds):cs.length=ds.length:=by
 induction h with
 |n=>rfl
 |c _ _ ih=>simp[ih]
theorem A6.get(h:A6 cs ds):∀(j:Nat) (q:PV),ds[j]?=some q→∃p,cs[j]?=some p∧vc p q:=by
 induction h with
 |n=>intro j q hq;simp at hq
 |c h k ih=>
  intro j q hq
  cases j with
  |zero=>simp at hq;subst hq;exact⟨_,by simp,h⟩
  |succ j=>simpa using ih j q (by simpa using hq)
theorem BN.rep{w:World}{E:Env}{p q:PV}{x:Value}(h:BN p q)(hr:dL w E p x):dL w E q x:=by
 cases h with
 |c h=>exact h.rep hr
 |ag h=>
  obtain⟨vs,rfl,hl,h1,hc⟩:=dL.qg hr
  exact .ag _ vs (by rw[hl,h.len]) h1 fun j p y hp hy=>by
   obtain⟨p',Rv,hs⟩:=h.get j p hp
   exact hs.rep (hc j p' y Rv hy)
theorem A1.len(h:A1 cs ds):cs.length=ds.length:=by
 induction h with
 |n=>rfl
 |c _ _ ih=>simp[ih]
theorem A1.get(h:A1 cs ds):∀(j:Nat) (q:PV),ds[j]?=some q→∃p,cs[j]?=some p∧BN p q:=by
 induction h with
 |n=>intro j q hq;simp at hq
 |c h k ih=>
  intro j q hq
  cases j with
  |zero=>simp at hq;subst hq;exact⟨_,by simp,h⟩
  |succ j=>simpa using ih j q (by simpa using hq)
theorem iZ.ZdS{f:FuncId}{ps qs:List PV}{r:PV}{m1:Mem}(h:iZ P f qs m0 r m1)(hs:A1 ps qs):iZ P f ps m0 r m1:=by
 intro S β w vs ω ik hl ha
 refine h S β w vs ω ik (by rw[hl,hs.len]) fun i q hq=>?_
 obtain⟨p,hp,hv⟩:=hs.get i q hq
 obtain⟨x,hx,hr⟩:=ha i p hp
 exact⟨x,hx,hv.rep hr⟩
def UF:PV→Bool
 |.ms _=>true
 |p=>qE p
def Zas:PV→Bool
 |.ag cs=>cs.all UF
 |.tu _=>false
 |p=>UF p
theorem IT{p:PV}(h:UF p=true):cE false p:=by
 cases p with
 |ms l=>simp[cE]
 |_=>exact tQ h
theorem zC(h:cs.all UF=true):ln false (.ag cs):=fun c hc=>IT (V5.1 h c hc)
theorem zD(h:ps.all Zas=true):ln false (.tu ps):=by
 intro c hc
 have:=V5.1 h c hc
 cases c with
 |ag cs=>exact fun d hd=>IT (V5.1 this d hd)
 |tu vs=>simp[Zas]at this
 |fn f cs=>exact tQ (c:=.fn f cs) this
 |_=>simp[kb,cE]
theorem Au{ρ:Nat→Option Nat}{c:Nat}:oH ρ m m' (.v (.slice none 0 c)) (.sl []):=.M3 c
theorem AQ{rs rr:List (Option Nat)}{T:TK}{mm:Mem}(hk:decide (0<k)=true)(h:dV rs m m' rr mm):dV rs m m' (none::rr) (some ⟨T,k,[]⟩::mm):=⟨⟨rfl,of_decide_eq_true hk⟩,h⟩
theorem RU:mi 0 i rs m=true:=rfl
theorem RV{mb:MB}(h:mi n (i+1) rs m=true):mi (n+1) i (some i::rs) (some mb::m)=true:=by simp[mi,h]
theorem RW(h:mi n (i+1) rs m=true):mi (n+1) i (none::rs) (none::m)=true:=by simpa[mi]using h
theorem QE(hl:mi n0 0 [] []=true)(hT:oI (cT []) m [] t t')(hM:dV [] m [] [] [])(hi:pg []=true):jy n0 t m t' []:=jz hT hM hi hl
theorem QF{a:Option MB}(r0:Option Nat)(hl:mi n0 0 [r0] [a]=true)(hT:oI (cT [r0]) m [a] t t')(hM:dV [r0] m [a] [r0] [a])(hi:pg [r0]=true):jy n0 t m t' [a]:=jz hT hM hi hl
theorem QG{a b:Option MB}(r0 r1:Option Nat)(hl:mi n0 0 [r0,r1] [a,b]=true)(hT:oI (cT [r0,r1]) m [a,b] t t')(hM:dV [r0,r1] m [a,b] [r0,r1] [a,b])(hi:pg [r0,r1]=true):jy n0 t m t' [a,b]:=jz hT hM hi hl
theorem QH{a b c:Option MB}(r0 r1 r2:Option Nat)(hl:mi n0 0 [r0,r1,r2] [a,b,c]=true)(hT:oI (cT [r0,r1,r2]) m [a,b,c] t t')(hM:dV [r0,r1,r2] m [a,b,c] [r0,r1,r2] [a,b,c])(hi:pg [r0,r1,r2]=true):jy n0 t m t' [a,b,c]:=jz hT hM hi hl
theorem QI{a b c d:Option MB}(r0 r1 r2 r3:Option Nat)(hl:mi n0 0 [r0,r1,r2,r3] [a,b,c,d]=true)(hT:oI (cT [r0,r1,r2,r3]) m [a,b,c,d] t t')(hM:dV [r0,r1,r2,r3] m [a,b,c,d] [r0,r1,r2,r3] [a,b,c,d])(hi:pg [r0,r1,r2,r3]=true):jy n0 t m t' [a,b,c,d]:=jz hT hM hi hl
theorem QJ{a b c d e:Option MB}(r0 r1 r2 r3 r4:Option Nat)(hl:mi n0 0 [r0,r1,r2,r3,r4] [a,b,c,d,e]=true)(hT:oI (cT [r0,r1,r2,r3,r4]) m [a,b,c,d,e] t t')(hM:dV [r0,r1,r2,r3,r4] m [a,b,c,d,e] [r0,r1,r2,r3,r4] [a,b,c,d,e])(hi:pg [r0,r1,r2,r3,r4]=true):jy n0 t m t' [a,b,c,d,e]:=jz hT hM hi hl
theorem QK{a b c d e f:Option MB}(r0 r1 r2 r3 r4 r5:Option Nat)(hl:mi n0 0 [r0,r1,r2,r3,r4,r5] [a,b,c,d,e,f]=true)(hT:oI (cT [r0,r1,r2,r3,r4,r5]) m [a,b,c,d,e,f] t t')(hM:dV [r0,r1,r2,r3,r4,r5] m [a,b,c,d,e,f] [r0,r1,r2,r3,r4,r5] [a,b,c,d,e,f])(hi:pg [r0,r1,r2,r3,r4,r5]=true):jy n0 t m t' [a,b,c,d,e,f]:=jz hT hM hi hl
theorem QL{a b c d e f g:Option MB}(r0 r1 r2 r3 r4 r5 r6:Option Nat)(hl:mi n0 0 [r0,r1,r2,r3,r4,r5,r6] [a,b,c,d,e,f,g]=true)(hT:oI (cT [r0,r1,r2,r3,r4,r5,r6]) m [a,b,c,d,e,f,g] t t')(hM:dV [r0,r1,r2,r3,r4,r5,r6] m [a,b,c,d,e,f,g] [r0,r1,r2,r3,r4,r5,r6] [a,b,c,d,e,f,g])(hi:pg [r0,r1,r2,r3,r4,r5,r6]=true):jy n0 t m t' [a,b,c,d,e,f,g]:=jz hT hM hi hl
theorem QM{a b c d e f g h:Option MB}(r0 r1 r2 r3 r4 r5 r6 r7:Option Nat)(hl:mi n0 0 [r0,r1,r2,r3,r4,r5,r6,r7] [a,b,c,d,e,f,g,h]=true)(hT:oI (cT [r0,r1,r2,r3,r4,r5,r6,r7]) m [a,b,c,d,e,f,g,h] t t')(hM:dV [r0,r1,r2,r3,r4,r5,r6,r7] m [a,b,c,d,e,f,g,h] [r0,r1,r2,r3,r4,r5,r6,r7] [a,b,c,d,e,f,g,h])(hi:pg [r0,r1,r2,r3,r4,r5,r6,r7]=true):jy n0 t m t' [a,b,c,d,e,f,g,h]:=jz hT hM hi hl
theorem QN{a b c d e f g h i:Option MB}(r0 r1 r2 r3 r4 r5 r6 r7 r8:Option Nat)(hl:mi n0 0 [r0,r1,r2,r3,r4,r5,r6,r7,r8] [a,b,c,d,e,f,g,h,i]=true)(hT:oI (cT [r0,r1,r2,r3,r4,r5,r6,r7,r8]) m [a,b,c,d,e,f,g,h,i] t t')(hM:dV [r0,r1,r2,r3,r4,r5,r6,r7,r8] m [a,b,c,d,e,f,g,h,i] [r0,r1,r2,r3,r4,r5,r6,r7,r8] [a,b,c,d,e,f,g,h,i])(hi:pg [r0,r1,r2,r3,r4,r5,r6,r7,r8]=true):jy n0 t m t' [a,b,c,d,e,f,g,h,i]:=jz hT hM hi hl
theorem My{a b c d e f g h i j:Option MB}(r0 r1 r2 r3 r4 r5 r6 r7 r8 r9:Option Nat)(hl:mi n0 0 [r0,r1,r2,r3,r4,r5,r6,r7,r8,r9] [a,b,c,d,e,f,g,h,i,j]=true)(hT:oI (cT [r0,r1,r2,r3,r4,r5,r6,r7,r8,r9]) m [a,b,c,d,e,f,g,h,i,j] t t')(hM:dV [r0,r1,r2,r3,r4,r5,r6,r7,r8,r9] m [a,b,c,d,e,f,g,h,i,j] [r0,r1,r2,r3,r4,r5,r6,r7,r8,r9] [a,b,c,d,e,f,g,h,i,j])(hi:pg [r0,r1,r2,r3,r4,r5,r6,r7,r8,r9]=true):jy n0 t m t' [a,b,c,d,e,f,g,h,i,j]:=jz hT hM hi hl
theorem Mz{a b c d e f g h i j k:Option MB}(r0 r1 r2 r3 r4 r5 r6 r7 r8 r9 mJ:Option Nat)(hl:mi n0 0 [r0,r1,r2,r3,r4,r5,r6,r7,r8,r9,mJ] [a,b,c,d,e,f,g,h,i,j,k]=true)(hT:oI (cT [r0,r1,r2,r3,r4,r5,r6,r7,r8,r9,mJ]) m [a,b,c,d,e,f,g,h,i,j,k] t t')(hM:dV [r0,r1,r2,r3,r4,r5,r6,r7,r8,r9,mJ] m [a,b,c,d,e,f,g,h,i,j,k] [r0,r1,r2,r3,r4,r5,r6,r7,r8,r9,mJ] [a,b,c,d,e,f,g,h,i,j,k])(hi:pg [r0,r1,r2,r3,r4,r5,r6,r7,r8,r9,mJ]=true):jy n0 t m t' [a,b,c,d,e,f,g,h,i,j,k]:=jz hT hM hi hl
theorem MA{a b c d e f g h i j k l:Option MB}(r0 r1 r2 r3 r4 r5 r6 r7 r8 r9 mJ nD:Option Nat)(hl:mi n0 0 [r0,r1,r2,r3,r4,r5,r6,r7,r8,r9,mJ,nD] [a,b,c,d,e,f,g,h,i,j,k,l]=true)(hT:oI (cT [r0,r1,r2,r3,r4,r5,r6,r7,r8,r9,mJ,nD]) m [a,b,c,d,e,f,g,h,i,j,k,l] t t')(hM:dV [r0,r1,r2,r3,r4,r5,r6,r7,r8,r9,mJ,nD] m [a,b,c,d,e,f,g,h,i,j,k,l] [r0,r1,r2,r3,r4,r5,r6,r7,r8,r9,mJ,nD] [a,b,c,d,e,f,g,h,i,j,k,l])(hi:pg [r0,r1,r2,r3,r4,r5,r6,r7,r8,r9,mJ,nD]=true):jy n0 t m t' [a,b,c,d,e,f,g,h,i,j,k,l]:=jz hT hM hi hl
theorem fh{b:Bool}{T:TK}{es:List (List PV)}(h:∀cs∈es,∀p∈cs,cE b p):∀mb,some mb∈([some ⟨T,k,es⟩]:Mem)→∀cs∈mb.es,∀p∈cs,cE b p:=by
 intro mb hm
 simp only[Wc,V1]at hm
 subst hm
 exact h
theorem uD{b:Bool}(h2:∀mb,some mb∈m→∀cs∈mb.es,∀p∈cs,cE b p):∀mb,some mb∈((none:Option MB)::m)→∀cs∈mb.es,∀p∈cs,cE b p:=by
 intro mb h
 rcases V4.1 h with h|h
 ·cases h
 ·exact h2 mb h
theorem Zdb{T:TK}{b:Bool}:∀mb,some mb∈([some ⟨T,k,[]⟩]:Mem)→∀cs∈mb.es,∀p∈cs,cE b p:=fh (by simp)
theorem P5(h:(none:Option α).bind K=some r):False:=by cases h
theorem EN{a b a2 b2:Int}{c c2:ByteArray}:Cr Tryz.prog (n+3) 42 [vi a,vi b,vs c] [vi a2,vi b2,vs c2]=some (decide ((⟨a,b,c⟩:dh)=(⟨a2,b2,c2⟩:dh))):=by
 simp only[Cr,Tryz.underlying3,Tryz.underlying42,VP,Tryz.underlying9,Program.fieldsOf,go_sem]
 simp[VP,tq3,tq9]
 rw[baB];rfl
@[go_sem] theorem Zb8{a b a2 b2:Int}{c c2:ByteArray}:uV Tryz.prog .eql 42 [vi a,vi b,vs c] [vi a2,vi b2,vs c2] KR=KR (vb (decide ((⟨a,b,c⟩:dh)=(⟨a2,b2,c2⟩:dh)))):=by unfold uV;rw[show(10000:Nat)=9997+3 from rfl,EN,Tryz.underlying42];simp only[VP,true_and]
@[go_sem] theorem Zb9{a b a2 b2:Int}{c c2:ByteArray}:uV Tryz.prog .neq 42 [vi a,vi b,vs c] [vi a2,vi b2,vs c2] KR=KR (vb (!decide ((⟨a,b,c⟩:dh)=(⟨a2,b2,c2⟩:dh)))):=by unfold uV;rw[show(10000:Nat)=9997+3 from rfl,EN,Tryz.underlying42];simp only[VP,true_and]
theorem MH{a a2:ByteArray}{b b2:ByteArray}{c c2:Int}{d d2:Int}{e e2:Int}{f f2:Int}:Cr Tryz.prog (n+3) 174 [vs a,vs b,vi c,vi d,vi e,vi f] [vs a2,vs b2,vi c2,vi d2,vi e2,vi f2]=some (decide ((⟨a,b,c,d,e,f⟩:bM)=(⟨a2,b2,c2,d2,e2,f2⟩:bM))):=by
 simp only[Cr,Tryz.underlying3,Tryz.underlying174,ND,Tryz.underlying9,Program.fieldsOf,go_sem]
 simp[ND,tq3,tq9,baB]
 rfl
@[go_sem] theorem Zd8{a a2:ByteArray}{b b2:ByteArray}{c c2:Int}{d d2:Int}{e e2:Int}{f f2:Int}:uV Tryz.prog .eql 174 [vs a,vs b,vi c,vi d,vi e,vi f] [vs a2,vs b2,vi c2,vi d2,vi e2,vi f2] KR=KR (vb (decide ((⟨a,b,c,d,e,f⟩:bM)=(⟨a2,b2,c2,d2,e2,f2⟩:bM)))):=by unfold uV;rw[show(10000:Nat)=9997+3 from rfl,MH,Tryz.underlying174];simp only[ND,true_and]
@[go_sem] theorem Zd9{a a2:ByteArray}{b b2:ByteArray}{c c2:Int}{d d2:Int}{e e2:Int}{f f2:Int}:uV Tryz.prog .neq 174 [vs a,vs b,vi c,vi d,vi e,vi f] [vs a2,vs b2,vi c2,vi d2,vi e2,vi f2] KR=KR (vb (!decide ((⟨a,b,c,d,e,f⟩:bM)=(⟨a2,b2,c2,d2,e2,f2⟩:bM)))):=by unfold uV;rw[show(10000:Nat)=9997+3 from rfl,MH,Tryz.underlying174];simp only[ND,true_and]
theorem IJ{a a2:Int}{b b2:Int}{c c2:Int}{d d2:ByteArray}{e e2:Int}{f f2:Int}:Cr Tryz.prog (n+3) 181 [vi a,vi b,vi c,vs d,vi e,vi f] [vi a2,vi b2,vi c2,vs d2,vi e2,vi f2]=some (decide ((⟨a,b,c,d,⟨e,f⟩⟩:br)=(⟨a2,b2,c2,d2,⟨e2,f2⟩⟩:br))):=by
 simp only[Cr,Tryz.underlying3,Tryz.underlying181,NG,Tryz.underlying46,Ke,Tryz.underlying9,Program.fieldsOf,go_sem]
 simp[NG,Ke,tq3,tq9,baB]
 rfl
@[go_sem] theorem ZcJ{a a2:Int}{b b2:Int}{c c2:Int}{d d2:ByteArray}{e e2:Int}{f f2:Int}:uV Tryz.prog .eql 181 [vi a,vi b,vi c,vs d,vi e,vi f] [vi a2,vi b2,vi c2,vs d2,vi e2,vi f2] KR=KR (vb (decide ((⟨a,b,c,d,⟨e,f⟩⟩:br)=(⟨a2,b2,c2,d2,⟨e2,f2⟩⟩:br)))):=by unfold uV;rw[show(10000:Nat)=9997+3 from rfl,IJ,Tryz.underlying181];simp only[NG,true_and]
@[go_sem] theorem Zdv{a a2:Int}{b b2:Int}{c c2:Int}{d d2:ByteArray}{e e2:Int}{f f2:Int}:uV Tryz.prog .neq 181 [vi a,vi b,vi c,vs d,vi e,vi f] [vi a2,vi b2,vi c2,vs d2,vi e2,vi f2] KR=KR (vb (!decide ((⟨a,b,c,d,⟨e,f⟩⟩:br)=(⟨a2,b2,c2,d2,⟨e2,f2⟩⟩:br)))):=by unfold uV;rw[show(10000:Nat)=9997+3 from rfl,IJ,Tryz.underlying181];simp only[NG,true_and]
set_option maxRecDepth 4000
theorem Ix{ρ:Nat→Option Nat}{f:FuncId}(h:rX ρ m m' cs ds):oH ρ m m' (.fn f cs) (.fn f ds):=by
 have key:∀(cs ds:List PV),rX ρ m m' cs ds→ds.length=cs.length∧∀(j:Nat) (p r:PV),cs[j]?=some p→ds[j]?=some r→oH ρ m m' p r:=by
  intro cs
  induction cs with
  |nil=>intro ds h;cases ds with
   |nil=>exact⟨rfl,by simp⟩
   |cons d ds=>exact h.elim
  |cons c cs ih=>intro ds h;cases ds with
   |nil=>exact h.elim
   |cons d ds=>
    obtain⟨h1,h2⟩:=h
    obtain⟨k1,k2⟩:=ih ds h2
    refine⟨by simp[k1],fun j p r hp hr=>?_⟩
    cases j with
    |zero=>simp at hp hr;subst hp hr;exact h1
    |succ j=>simp at hp hr;exact k2 j p r hp hr
 obtain⟨a,b⟩:=key cs ds h
 exact .fn f cs ds a b
theorem wC{xs:List α}{y:α}{c:α→List PV}(h:aC xs (n:Int)=some y):(xs.map c)[n]?=some (c y):=by
 unfold aC at h
 rw[if_pos (Int.natCast_nonneg n),Int.toNat_natCast]at h
 rw[Wj,h];rfl
theorem OI{a b c i y:Int}(h:aC [a,b,c] i=some y):([[PV.v (.int .i64 a)],[PV.v (.int .i64 b)],[PV.v (.int .i64 c)]]:List (List PV))[i.toNat]?=some [PV.v (.int .i64 y)]:=by
 have:([[PV.v (.int .i64 a)],[PV.v (.int .i64 b)],[PV.v (.int .i64 c)]]:List (List PV))=[a,b,c].map aG:=rfl
 rw[this];exact qm h
theorem E9{a b c y:ByteArray}{i:Int}(h:aC [a,b,c] i=some y):([[PV.v (.string a)],[PV.v (.string b)],[PV.v (.string c)]]:List (List PV))[i.toNat]?=some [PV.v (.string y)]:=by
 have:([[PV.v (.string a)],[PV.v (.string b)],[PV.v (.string c)]]:List (List PV))=[a,b,c].map jH:=rfl
 rw[this];exact qm h
theorem GP{f:FuncId}{K:PV→Mem→Prop}(h1:∀c∈cs,qQ c=true)(h2:xH P f)(h3:pT P io wd ν f (ps++cs) m K):U3 P io wd ν (.fn f cs) ps m K:=⟨h1,h2,h3⟩
def Aq(x:List Int):List PV:=[.sl (x.map aG)]
instance:dB (List Int):=⟨Aq⟩
instance:dH Aq:=⟨fun x q h=>by simp only[Aq,Wc]at h;subst h;rfl⟩
attribute [go_sem] Aq
theorem xc(h:p:=by(try simp only[Kz,KB]);(with_reducible refine ZcF ?_);(first|(with_reducible apply QE) |(with_reducible apply QF) |(with_reducible apply QG) |(with_reducible apply QH) |(with_reducible apply QI) |(with_reducible apply QJ) |(with_reducible apply QK) |(with_reducible apply QL) |(with_reducible apply QM) |(with_reducible apply QN) |(with_reducible apply My) |(with_reducible apply Mz) |(with_reducible apply MA));(repeat' (first       |(with_reducible exact RU) |(with_reducible refine RV ?_) |(with_reducible refine RW ?_) |(with_reducible refine MC ?_)       |(with_reducible refine QP ?_ ?_)       |(with_reducible exact ID)       |(with_reducible exact Gb rfl)       |exact Gb rfl       |(with_reducible exact IB)       |(with_reducible refine QO ?_ ?_)       |exact .c _ rfl       |exact .un _       |exact Mv rfl rfl       |exact Mu rfl rfl       |exact Au|exact Cn       |exact Cm rfl rfl       |(refine Cl rfl ?_) |(refine EI rfl rfl ?_) |(refine Iy rfl rfl rfl ?_)       |(refine Iw rfl rfl ?_)       |(with_reducible refine Ix ?_) |(with_reducible refine MD ?_)       |(with_reducible refine ME ?_)       |(with_reducible exact EE)       |(with_reducible refine Mt ?_ ?_)       |(with_reducible refine Ms ?_)       |(with_reducible refine QA ?_)       |(with_reducible refine QQ ?_)       |(with_reducible exact Ds)       |(refine AP rfl ?_ ?_)       |(refine AQ rfl ?_) |(refine Dr rfl ?_)       |(with_reducible refine AO ?_)       |(with_reducible refine It ?_)       |(with_reducible exact Is)       |(with_reducible refine Iv ?_)       |(with_reducible exact QD)       |(with_reducible refine QC ?_ ?_)       |(with_reducible exact wo)       |(with_reducible refine yn ?_)       |exact wo       |(refine yn ?_)       |(refine Iu ?_)       |(refine EH ?_)       |(refine EG rfl ?_)       |(refine Ck rfl rfl rfl rfl ?_)       |(refine EF ?_ rfl rfl rfl rfl ?_)       |(simp only[aG,jH,Ap,cB8,zx,tr,bS,cK,cO,bp,bA,aS,aB,bt,bc,fK,bO,ig,lk,vl,xo,xp,wg,vm,we])       |(with_unfolding_all rfl)));(all_goals first|(exact xq rfl) |exact none);(first|done|fail)):p:=h
theorem xf(h:p:=by(first|exact xB|(repeat(first|exact qk|exact ta|exact Zdb|(refine wT qk ?_) |(refine wT ta ?_) |(refine wT Zdb ?_) |exact fh (by simp[cE,qQ]) |(refine uD ?_) |(refine wT (fh (by simp[cE,qQ])) ?_))));(first|done|fail)):p:=h
theorem xs(h:p:=by((refine iZ.ZdS (CT.ok hy) ?_);(repeat' (first|exact A1.n|(refine A1.c ?_ ?_) |exact BN.c (vc.r _) |(refine BN.ag ?_) |exact A6.n|(refine A6.c ?_ ?_) |exact vc.r _|exact vc.nil _|exact vc.un _)));(first|done|fail)):p:=h
theorem dU(h:p:=by
 (simp only[List.length_cons,List.length_nil,Nat.reduceAdd,Nat.reduceSub,List.replicate_succ,List.replicate_zero,List.cons_append,List.nil_append,go_sem]);
 repeat' (first
  |((with_reducible refine GP ?_ ?_ ?_);(focus (simp[qQ]));(focus (simp only[go_sem]));(simp only[List.cons_append,List.nil_append]))
  |((with_reducible refine De H rfl (by kernel_rfl) ?_);(clear H;intro H;simp only[go_sem,Nat.reduceAdd,Nat.reduceSub,Nat.reduceMul,Nat.reduceLT,Nat.reduceLeDiff,Nat.reduceEqDiff,if_true,eq_self]))
  |((with_reducible refine Sz (Pp H) ?_);(refine Cb H rfl rfl ?_ ?_ ?_ ?_ ?_ ?_ ?_ ?_);(focus (first|rfl|(simp only[CT.args,List.map_cons,List.map_nil,uF,qz,sN,Dz,Dy,Dx];done)));(focus (simp[CT.args,CT.m0,kb,cE,yR,rI,sV,qQ]));(focus (first|exact List.nodup_nil|decide));(focus ((simp only[CT.m0]);(repeat' (first|exact qO|(refine qN (by rfl) ?_) |(refine qP (by rfl) (by rfl) (by simp[cE,rI,sV,qQ]) ?_)))));(focus (intro y_;simp[CT.mem,CT.m0]));(focus (intro y_;(simp only[CT.mem]);(repeat(first|exact xB|exact qk|exact ta|(refine wT qk ?_) |(refine wT (fh (by simp[cE,qQ])) ?_) |exact fh (by simp[cE,qQ]) |(refine uD ?_)))));(focus (intro y_;(simp[CT.res,ln,kb,cE,qQ])));(clear H;intro y_ hy H;simp only[CT.res,CT.mem,kC,List.drop_succ_cons,List.drop_zero,Option.map_none,go_sem,Nat.reduceAdd,Nat.reduceSub,Nat.reduceMul,Nat.reduceLT,Nat.reduceLeDiff,Nat.reduceEqDiff,if_true,eq_self]))
  |((with_reducible refine jnS (jnH H) ?_);(first|((refine G9 H ?_ ?_ (fun K_ hL H=>?_) (fun o_ H=>?_));(focus (decide +kernel));(focus (decide +kernel))) |((refine G8 H ?_ ?_ (fun K_ hL H=>?_) (fun o_ H=>?_));(focus (decide +kernel));(focus (decide +kernel)))))
  |((with_reducible refine ZbM (Pp H) ?_);(refine F8 H rfl rfl rfl ?_ ?_ ?_ ?_ ?_ ?_ ?_ ?_);(focus (first|rfl|(simp only[CT.args,List.map_cons,List.map_nil,uF,qz,sN,Dz,Dy,Dx];done)));(focus (simp[CT.args,CT.m0,kb,cE,yR,rI,sV,qQ]));(focus (first|exact List.nodup_nil|decide));(focus ((simp only[CT.m0]);(repeat' (first|exact qO|(refine qN (by rfl) ?_) |(refine qP (by rfl) (by rfl) (by simp[cE,rI,sV,qQ]) ?_)))));(focus (intro y_;simp[CT.mem,CT.m0]));(focus (intro y_;(simp only[CT.mem]);(repeat(first|exact xB|exact qk|exact ta|(refine wT qk ?_) |(refine wT (fh (by simp[cE,qQ])) ?_) |exact fh (by simp[cE,qQ]) |(refine uD ?_)))));(focus (intro y_;(simp[CT.res,ln,kb,cE,qQ])));(clear H;intro y_ hy H;simp only[CT.res,CT.mem,kC,List.drop_succ_cons,List.drop_zero,Option.map_none,go_sem,Nat.reduceAdd,Nat.reduceSub,Nat.reduceMul,Nat.reduceLT,Nat.reduceLeDiff,Nat.reduceEqDiff,if_true,eq_self]))
  |((with_reducible refine Dg H ?_ ?_);(focus (exact xc));(clear H;intro z_ H))
  |((with_reducible refine G7 H ?_ ?_);(focus (exact xc));(clear H;intro H))
  |((with_reducible refine Hc ?_);intro K_ hK)
  |((with_reducible refine zZ ?_))
  |((with_reducible refine xP ?_);simp only[go_sem,Nat.reduceAdd,Nat.reduceSub,Nat.reduceMul,Nat.reduceLT,Nat.reduceLeDiff,Nat.reduceEqDiff,if_true,eq_self])
  |((with_reducible refine Dh ?_);(try simp only[jf,gC]))
  |((with_reducible refine Df ?_);(simp only[uL,sY,jf,gC,if_true,if_false,eq_self,Nat.reduceEqDiff,Nat.one_ne_zero,Nat.zero_ne_one]);(try simp only[F6,TE,TD]at H))
  |((with_reducible refine Ha ?_);(try simp only[wQ,ur]))
  |((with_reducible refine hQ _ _ ?_);(try simp only[F6,TE,TD]at H);replace H:=NS H;subst H;simp only[Fin,Dl,Ei,go_sem,Nat.reduceAdd,Nat.reduceSub,Nat.reduceMul,Nat.reduceLT,Nat.reduceLeDiff,Nat.reduceEqDiff,if_true,eq_self];exact xc)
  |((with_reducible refine cR _ _ ?_);(try simp only[F6,TE,TD]at H);replace H:=NS H;subst H;simp only[Fin,Dl,Ei,go_sem,Nat.reduceAdd,Nat.reduceSub,Nat.reduceMul,Nat.reduceLT,Nat.reduceLeDiff,Nat.reduceEqDiff,if_true,eq_self];exact xc)
  |((with_reducible refine Q7 ?_);(refine vp (fun hg=>NP H hg ?_) (fun hg=>NQ H hg ?_))<;>(clear H;intro H;simp only[go_sem,Nat.reduceAdd,Nat.reduceSub,Nat.reduceMul,Nat.reduceLT,Nat.reduceLeDiff,Nat.reduceEqDiff,if_true,eq_self]))
  |((with_reducible refine Aa ?_);simp only[Br,Gg,Gf,yr];(first|(with_reducible refine Ci ?_) |(with_reducible refine Ch ?_) |((refine vo (fun hg=>NP H hg ?_) (fun hg=>NQ H hg ?_))<;>(clear H;intro H))))
  |((with_reducible refine Zbp ?_);replace H:=sx H;obtain⟨y_,hy,H⟩:=H;(with_reducible apply K8 hy);(focus (first|(simp only[go_sem];done) |(simp only[go_sem];decide)));(focus (first|rfl|(simp only[go_sem];rfl)));simp only[go_sem,Nat.reduceAdd,Nat.reduceSub,Nat.reduceMul,Nat.reduceLT,Nat.reduceLeDiff,Nat.reduceEqDiff,if_true,eq_self])
  |((with_reducible refine Zbo ?_);replace H:=sx H;obtain⟨y_,hy,H⟩:=H;(first|(refine Gu hy (by rfl) (by first|(simp only[go_sem];done) |(simp only[go_sem];decide)) (by first|rfl|(simp only[go_sem];rfl)) ?_) |(refine CI hy (by rfl) (by first|(simp only[go_sem];done) |(simp only[go_sem];decide)) (by first|rfl|(simp only[go_sem];rfl)) ?_));simp only[go_sem,Nat.reduceAdd,Nat.reduceSub,Nat.reduceMul,Nat.reduceLT,Nat.reduceLeDiff,Nat.reduceEqDiff,if_true,eq_self])
  |((with_reducible refine Zbn ?_);replace H:=sx H;obtain⟨y_,hy,H⟩:=H;(with_reducible apply Gv hy);(focus (simp only[go_sem]));simp only[go_sem,Nat.reduceAdd,Nat.reduceSub,Nat.reduceMul,Nat.reduceLT,Nat.reduceLeDiff,Nat.reduceEqDiff,if_true,eq_self])
  |((with_reducible refine Qu ?_);replace H:=sx H;obtain⟨y_,hy,H⟩:=H;(first|((with_reducible apply sk);(focus (exact CT.ok hy));(focus (simp[CL,qE,qn]));(focus (exact Nat.le_of_ble_eq_true rfl));(focus (exact xf));(focus (first|exact ER rfl|exact ES rfl|exact zC rfl|exact zD rfl|exact(fun h=>(by cases h)) |(simp[CT.res,ln,kb,cE,qQ])));(simp only[CT.res,CT.mem,go_sem,Nat.reduceAdd,Nat.reduceSub,Nat.reduceMul,Nat.reduceLT,Nat.reduceLeDiff,Nat.reduceEqDiff,if_true,eq_self])) |((with_reducible apply sk);(focus (exact xs));(focus (simp[CL,qE,qn]));(focus (exact Nat.le_of_ble_eq_true rfl));(focus (exact xf));(focus (first|exact ER rfl|exact ES rfl|exact zC rfl|exact zD rfl|exact(fun h=>(by cases h)) |(simp[CT.res,ln,kb,cE,qQ])));(simp only[CT.res,CT.mem,go_sem,Nat.reduceAdd,Nat.reduceSub,Nat.reduceMul,Nat.reduceLT,Nat.reduceLeDiff,Nat.reduceEqDiff,if_true,eq_self])) |((with_reducible apply zw);(focus (first|(simp only[rU,sR,rA,sQ,nG,tw,tv,pt,oJ,oU,List.forall_mem_nil,true_and,and_true,if_true];(first|exact CT.ok hy|(simp only[all_nil,all_cons,qE,qn,true_and,and_true,if_true];exact CT.ok hy))) |(simp only[rU,sR,rA,sQ,nG,tw,tv,pt,oJ,oU,List.forall_mem_nil,true_and,and_true,if_true];(first|(exact xs) |(simp only[all_nil,all_cons,qE,qn,true_and,and_true,if_true];(exact xs)))) |(simp only[rU,sR,rA,sQ,nG,tw,tv,pt,oJ,oU,List.forall_mem_nil,true_and,and_true,if_true];(exact xs))));(focus (exact Nat.le_of_ble_eq_true rfl));(focus (exact xf));(focus (first|exact KX rfl|exact(fun _=>rfl) |(simp[CT.res,ln,kb,cE,HE])));(simp only[CT.res,CT.mem,go_sem,Nat.reduceAdd,Nat.reduceSub,Nat.reduceMul,Nat.reduceLT,Nat.reduceLeDiff,Nat.reduceEqDiff,if_true,eq_self]))))
  |((with_reducible refine ZbT ?_);replace H:=AY H;obtain⟨hc,H⟩:=H;(first|((with_reducible apply DA hc);(focus rfl);(focus rfl);(focus (first|(simp only[go_sem];done) |(simp only[go_sem];decide)));(focus (first|rfl|(intro x_;rfl)));simp only[go_sem,Nat.reduceAdd,Nat.reduceSub,Nat.reduceMul,Nat.reduceLT,Nat.reduceLeDiff,Nat.reduceEqDiff,if_true,eq_self]) |((refine Aj hc (by rfl) (by rfl) (by rfl) (by first|(simp only[go_sem];done) |(simp only[go_sem];decide)) (by first|rfl|(simp only[go_sem];rfl)) ?_);simp only[go_sem,Nat.reduceAdd,Nat.reduceSub,Nat.reduceMul,Nat.reduceLT,Nat.reduceLeDiff,Nat.reduceEqDiff,if_true,eq_self]) |((with_reducible apply Ak hc);(focus rfl);(focus rfl);(focus (simp only[go_sem]));simp only[go_sem,Nat.reduceAdd,Nat.reduceSub,Nat.reduceMul,Nat.reduceLT,Nat.reduceLeDiff,Nat.reduceEqDiff,if_true,eq_self])))
  |((with_reducible refine ZaI ?_);replace H:=AY H;obtain⟨hc,H⟩:=H;(first|(refine F2 hc (by first|(simp only[go_sem];done) |(simp only[go_sem];rfl)) (by first|(simp only[go_sem];done) |(simp only[go_sem];rfl)) (by first|(simp only[go_sem];done) |(simp only[go_sem];rfl)) (by first|(simp only[go_sem];done) |(simp only[go_sem];rfl)) (by rfl) (by first|rfl|exact uH (by rfl) (by rfl) (by rfl)) rfl rfl (by intro x_;rfl) rfl ?_) |(refine F3 hc (by first|(simp only[go_sem];done) |(simp only[go_sem];rfl)) (by first|(simp only[go_sem];done) |(simp only[go_sem];rfl)) (by first|(simp only[go_sem];done) |(simp only[go_sem];rfl)) (by first|(simp only[go_sem];done) |(simp only[go_sem];rfl)) (by first|rfl|exact uH (by rfl) (by rfl) (by rfl)) rfl rfl (by intro x_;rfl) ?_) |(refine F1 hc rfl (by first|(simp only[go_sem];done) |(simp only[go_sem];rfl)) (by first|(simp only[go_sem];done) |(simp only[go_sem];rfl)) (by first|(simp only[go_sem];done) |(simp only[go_sem];rfl)) (by first|(simp only[go_sem];done) |(simp only[go_sem];rfl)) (by rfl) (by rfl) (by rfl) (by rfl) rfl rfl (by rfl) ?_));simp only[go_sem,Nat.reduceAdd,Nat.reduceSub,Nat.reduceMul,Nat.reduceLT,Nat.reduceLeDiff,Nat.reduceEqDiff,if_true,eq_self])
  |((with_reducible refine mkS ?_);replace H:=AY H;obtain⟨hc,H⟩:=H;(refine Li hc (by first|(simp only[go_sem];done) |(simp only[go_sem];rfl)) (by first|(simp only[go_sem];done) |(simp only[go_sem];rfl)) (by first|(simp only[go_sem];done) |(simp only[go_sem];rfl)) (by first|(simp only[go_sem];done) |(simp only[go_sem];rfl)) rfl rfl ?_);simp only[go_sem,Nat.reduceAdd,Nat.reduceSub,Nat.reduceMul,Nat.reduceLT,Nat.reduceLeDiff,Nat.reduceEqDiff,if_true,eq_self])
  |((with_reducible refine ZbC ?_);(first|(with_reducible refine rJ (by decide) ?_) |(replace H:=AY H;obtain⟨hc,H⟩:=H;(first|(refine rJ hc ?_) |(refine rJ (of_decide_eq_true hc) ?_) |(refine rJ ⟨rfl,of_decide_eq_true hc⟩ ?_))));simp only[go_sem,Nat.reduceAdd,Nat.reduceSub,Nat.reduceMul,Nat.reduceLT,Nat.reduceLeDiff,Nat.reduceEqDiff,if_true,eq_self])
  |((with_reducible refine RT ?_);(refine Ab (Hlp H) ?_ ?_);(focus (simp only[bm.T,bm.M,Kz,KB];exact xc));(clear H;intro n_ s_ H K_ hL;replace H:=Hrd H;simp only[bm.T,bm.M,Kz,KB]))
  |((with_reducible refine Dd (by kernel_rfl) ?_);simp only[go_sem,Nat.reduceAdd,Nat.reduceSub,Nat.reduceMul,Nat.reduceLT,Nat.reduceLeDiff,Nat.reduceEqDiff,if_true,eq_self])
  |((with_reducible refine xr (by kernel_rfl) ?_);(try simp only[jf,gC]))
  |((with_reducible refine hK _ _ ?_);clear hK)
  |(clear hK;(with_reducible refine hK _ _ ?_);clear hK)
  |(clear hK;clear hK;(with_reducible refine hK _ _ ?_);clear hK)
  |(clear hK;clear hK;clear hK;(with_reducible refine hK _ _ ?_);clear hK)
  |(clear hK;clear hK;clear hK;clear hK;(with_reducible refine hK _ _ ?_);clear hK)
  |(clear hK;clear hK;clear hK;clear hK;clear hK;(with_reducible refine hK _ _ ?_);clear hK)
  |((with_reducible refine And.intro ?_ ?_);omega)
  |(simp only[BA,By,Bz,Bn];simp only[go_sem,Nat.reduceAdd,Nat.reduceSub,Nat.reduceMul,Nat.reduceLT,Nat.reduceLeDiff,Nat.reduceEqDiff,if_true,eq_self])
  |((first|simp only[OI hy,Option.map_some,List.drop_zero,go_sem] |simp only[E9 hy,Option.map_some,List.drop_zero,go_sem] |simp only[wC hy,qm hy,rG hy,go_sem,Nat.reduceAdd,Nat.reduceSub,Nat.reduceMul,Nat.reduceLT,Nat.reduceLeDiff,Nat.reduceEqDiff,if_true,eq_self] |simp only[qm hy,rG hy,go_sem,Nat.reduceAdd,Nat.reduceSub,Nat.reduceMul,Nat.reduceLT,Nat.reduceLeDiff,Nat.reduceEqDiff,if_true,eq_self]))
  |((with_reducible replace H:=NR H);(with_reducible refine hL _ _ _ H ?_);(try simp only[bm.T,bm.M,Kz,KB]);exact xc)
  |((with_reducible replace H:=NR H);clear hL;(with_reducible refine hL _ _ _ H ?_);(try simp only[bm.T,bm.M,Kz,KB]);exact xc)
  |((with_reducible refine jnX H hL ?_);exact xc)
  |(with_reducible exact(P5 H).elim)
  |((with_reducible replace H:=rgH H);obtain⟨y_,hy,H⟩:=H;(first|simp only[OI hy,Option.map_some,List.drop_zero,go_sem] |simp only[E9 hy,Option.map_some,List.drop_zero,go_sem] |simp only[wC hy,qm hy,rG hy,go_sem,Nat.reduceAdd,Nat.reduceSub,Nat.reduceMul,Nat.reduceLT,Nat.reduceLeDiff,Nat.reduceEqDiff,if_true,eq_self] |simp only[qm hy,rG hy,go_sem,Nat.reduceAdd,Nat.reduceSub,Nat.reduceMul,Nat.reduceLT,Nat.reduceLeDiff,Nat.reduceEqDiff,if_true,eq_self])))):p:=h
set_option maxHeartbeats 16000000
def dw(s:ByteArray)(s0:Int):Option (Int⊕(Unit⊕Bool)):=
 cond (decide (s0<(s.size:Int)))
 ((D2 s s0).bind fun y1=>
 cond (decide (y1<65))
 (some (.inr (.inr false)))
 ((D2 s s0).bind fun y2=>
 cond (decide (90<y2))
 (some (.inr (.inr false)))
 (some (.inl (aL (s0+1))))))
 (some (.inr (.inl ())))
instance (s:ByteArray):bm (dw s):=⟨fun s0=>(vs s::.un::.un::vi s0::(U 19 [])),fun s0=>[]⟩
def dI(s:ByteArray):Option Bool:=
 (aD (dw s) NN 0).bind (bl (fun o0=>
 some (decide ((s.size:Int)=3))) (fun r=>some r))
instance (s:ByteArray):CT Tryz.prog (dI s):=⟨192,[vs s],[],fun r=>vb r,fun r=>[],fun H=>by replace H:=H0 H;unfold dI at H;exact aA Tryz.func192 rfl Tryz.ntmps192 Tryz.results192 fun Q hQ cR=>dU⟩
def bg(x:Int)(least:Int)(iE:Int):Option Bool:=
 cond (decide (least≤x))
 (some (decide (x≤iE)))
 (some false)
instance (x:Int)(least:Int)(iE:Int):CT Tryz.prog (bg x least iE):=⟨135,[vi x,vi least,vi iE],[],fun r=>vb r,fun r=>[],fun H=>by replace H:=H0 H;unfold bg at H;exact aA Tryz.func135 rfl Tryz.ntmps135 Tryz.results135 fun Q hQ cR=>dU⟩
def nQ(s:ByteArray)(s0:Int):Option (Int⊕(Unit⊕Bool)):=
 cond (decide (s0<3))
 ((D2 s s0).bind fun y1=>
 (bg (IntKind.i64.wrap y1) 65 90).bind fun y2=>
 cond (!y2)
 (some (.inr (.inr false)))
 (some (.inl (aL (s0+1)))))
 (some (.inr (.inl ())))
instance (s:ByteArray):bm (nQ s):=⟨fun s0=>(vs s::.un::.un::vi s0::(U 13 [])),fun s0=>[]⟩
def cM(s:ByteArray):Option Bool:=
 cond (!decide ((s.size:Int)=3))
 (some false)
 ((aD (nQ s) NN 0).bind (bl (fun o0=>
 some true) (fun r=>some r)))
instance (s:ByteArray):CT Tryz.prog (cM s):=⟨224,[vs s],[],fun r=>vb r,fun r=>[],fun H=>by replace H:=H0 H;unfold cM at H;exact aA Tryz.func224 rfl Tryz.ntmps224 Tryz.results224 fun Q hQ cR=>dU⟩
def aZ(n:Int)(low:Int)(high:Int):Option Bool:=
 cond (decide (low≤n))
 (some (decide (n≤high)))
 (some false)
instance (n:Int)(low:Int)(high:Int):CT Tryz.prog (aZ n low high):=⟨105,[vi n,vi low,vi high],[],fun r=>vb r,fun r=>[],fun H=>by replace H:=H0 H;unfold aZ at H;exact aA Tryz.func105 rfl Tryz.ntmps105 Tryz.results105 fun Q hQ cR=>dU⟩
theorem sS(n l h:Int):aZ n l h=some (decide (l≤n)&&decide (n≤h)):=by
 unfold aZ;cases decide (l≤n)<;>rfl
theorem dt(n l h:Int):bg n l h=some (decide (l≤n)&&decide (n≤h)):=by
 unfold bg;cases decide (l≤n)<;>rfl
theorem fV:@aZ=@bg:=by funext n l h;rw[sS,dt]
theorem Ud{i c:Int}(h:D2 s i=some c):0≤c∧c≤255:=by
 unfold D2 at h
 split at h
 ·cases h
  unfold B9
  cases hb:s[i.toNat]? with
  |none=>simp
  |some b=>
   have:=b.toNat_lt
   simp only[Wr,Ws]
   omega
 ·cases h
theorem O3(hs:s.size=3):dw s=nQ s:=by
 funext i
 unfold dw nQ
 rw[hs]
 cases hi:decide (i<3)with
 |false=>simp[hi]
 |true=>
  simp only[show((3:Nat):Int)=3 from rfl,hi,cond_true]
  cases hg:D2 s i with
  |none=>rfl
  |some y=>
   obtain⟨h0,h1⟩:=Ud hg
   simp only[VS,hg]
   rw[show IntKind.i64.wrap y=y from aQ (by omega),dt]
   simp only[VS]
   by_cases h2:y<65
   ·simp[h2,show ¬(65≤y)by omega]
   ·by_cases h3:90<y
    ·simp[h2,h3,show ¬(y≤90)by omega]
    ·simp[h2,h3,show 65≤y by omega,show y≤90 by omega]
theorem Og(h:i<s.size):∃c,D2 s (i:Int)=some c:=by
 unfold D2;exact⟨_,if_pos ⟨by omega,by omega⟩⟩
theorem JD(hs:s.size≤1152921504606846000):∀(k i N:Nat),i+k=s.size→k<N→∃o,aD (dw s) N (i:Int)=some o∧(o=.inl ()∨o=.inr false):=by
 intro k
 induction k with
 |zero=>
  intro i N hi hk
  cases N with
  |zero=>omega
  |succ N=>exact⟨.inl (),by simp[aD,dw,show ¬((i:Int)<s.size)by omega],.inl rfl⟩
 |succ k ih=>
  intro i N hi hk
  cases N with
  |zero=>omega
  |succ N=>
   obtain⟨c,hc⟩:=Og (s:=s) (i:=i) (by omega)
   have hw:=bI (i:=i) (n:=s.size) (by omega) (by omega)
   by_cases h2:c<65
   ·exact⟨.inr false,by simp[aD,dw,show(i:Int)<s.size by omega,hc,h2],.inr rfl⟩
   ·by_cases h3:90<c
    ·exact⟨.inr false,by simp[aD,dw,show(i:Int)<s.size by omega,hc,h2,h3],.inr rfl⟩
    ·obtain⟨o,ho,hoo⟩:=ih (i+1) N (by omega) (by omega)
     refine⟨o,?_,hoo⟩
     simp only[aD,dw,decide_eq_true (show(i:Int)<s.size by omega),cond_true,hc,VS,decide_eq_false h2,decide_eq_false h3,cond_false,hw]
     exact ho
theorem n9(hs:s.size≤1152921504606846000):dI s=cM s∧∃b,cM s=some b:=by
 obtain⟨o,ho,hoo⟩:=JD hs s.size 0 NN (by omega) (by unfold NN;omega)
 have zn:aD (dw s) NN 0=some o:=ho
 by_cases h3:s.size=3
 ·have e:cM s=(aD (dw s) NN 0).bind (bl (fun _=>some true) (fun r=>some r)):=by
   unfold cM;rw[O3 h3,h3];rfl
  have e2:dI s=(aD (dw s) NN 0).bind (bl (fun _=>some (decide ((s.size:Int)=3))) (fun r=>some r)):=rfl
  rw[e,e2,zn,h3]
  rcases hoo with rfl|rfl
  ·exact⟨rfl,_,rfl⟩
  ·exact⟨rfl,_,rfl⟩
 ·have e:cM s=some false:=by unfold cM;rw[decide_eq_false (by omega)];rfl
  have e2:dI s=some false:=by
   unfold dI;rw[zn]
   rcases hoo with rfl|rfl
   ·show some _=some _;rw[decide_eq_false (by omega)]
   ·rfl
  exact⟨by rw[e,e2],_,e⟩
def xl:Nat:=1152921504606846000
end Go.Proofs.YtbalgkakkoocjaaGreat
