/- A part of the proof of the statement in the last file of this claim: texts on the language of the program and on its functions. No condition. -/
import Derived.Test.YtbalgkakkoocjaaGreatCJ23
import Derived.Test.YtbalgkakkoocjaaGreatCJ1
set_option linter.unusedVariables false
set_option linter.unusedSimpArgs false
set_option linter.unusedSectionVars false
open Go.Value renaming int->ZF
open Go.IntKind renaming i64->ZG
open Go renaming undef->ZH
open Option renaming some->ZA,none->ZB
open Bool renaming true->ZC,false->ZD
open Decidable renaming decide->ZE
open Go.Proofs.Tryz
set_option maxHeartbeats 40000000
namespace Go.Proofs.YtbalgkakkoocjaaGreat
set_option maxRecDepth 10000
open Go.RowKit
set_option maxRecDepth 100000 in
theorem Hl(x:ZI)(t:ZJ)(hy:fT x 1048576=ZA (-1)){n0 n1 n3 n4 n5 n7 n8 n10 n11 n12 n13 n14 n15 nu:Value}(w:World)(hR:cr w (dV w) x n0 n1 n3 n4 n5 n7 n8 n10 n11 n12 n13 n14 n15)(hT:cf w (dV w) (.sl (t.av.bb.map aI)) nu):
 Calls prog 4 #[.agg #[n0,n1,ZF ZG x.world.aa.change,n3,n4,n5,ZF ZG x.world.now,n7,n8,ZF ZG x.world.aT,n10,n11,n12,n13,n14,n15],.agg #[ZF ZG t.kind,ZF ZG t.av.label.ax,ZF ZG t.av.label.bZ,.string t.av.label.aX,.string t.av.ar,ZF ZG t.av.ab,nu,ZF ZG t.av.value,ZF ZG t.order,ZF ZG t.bh,ZF ZG t.bn,ZF ZG t.aV.bG,ZF ZG t.aV.day]] w λe w'=>e=.returned (.bool ZC)/\Up w w':=by
 go_enter func4,ntmps4
 go_wp2_with fail
 generalize Bw:World.alloc (World.alloc w _) _=wb;have wJ:Up w wb:=by rw[<-Bw];(repeat(first|exact Up.rfl' _|(refine Up.al _ ?_) |(refine Up.dr _ ?_) |(refine Up.pE ?_) |(refine Up.sc ?_ YV _) |(refine Up.step YO ?_)))
 refine(ua hy (hR.up wJ)).mono ?_;rintro e w0 ⟨rfl,Bq⟩
 go_wp2_with fail
 go_ret
 exact⟨rfl,Up.step Bq wJ⟩
set_option maxRecDepth 100000 in
theorem Hm(x:ZI)(t:ZJ){y:Int}(hy:fT x 1048576=ZA y)(hy0:¬y<0)(hz:gQ t y=ZA (-1)){n0 n1 n3 n4 n5 n7 n8 n10 n11 n12 n13 n14 n15 nu:Value}(w:World)(hR:cr w (dV w) x n0 n1 n3 n4 n5 n7 n8 n10 n11 n12 n13 n14 n15)(hT:cf w (dV w) (.sl (t.av.bb.map aI)) nu):
 Calls prog 4 #[.agg #[n0,n1,ZF ZG x.world.aa.change,n3,n4,n5,ZF ZG x.world.now,n7,n8,ZF ZG x.world.aT,n10,n11,n12,n13,n14,n15],.agg #[ZF ZG t.kind,ZF ZG t.av.label.ax,ZF ZG t.av.label.bZ,.string t.av.label.aX,.string t.av.ar,ZF ZG t.av.ab,nu,ZF ZG t.av.value,ZF ZG t.order,ZF ZG t.bh,ZF ZG t.bn,ZF ZG t.aV.bG,ZF ZG t.aV.day]] w λe w'=>e=.returned (.bool ZC)/\Up w w':=by
 go_enter func4,ntmps4
 go_wp2_with fail
 generalize Bw:World.alloc (World.alloc w _) _=wb;have wJ:Up w wb:=by rw[<-Bw];(repeat(first|exact Up.rfl' _|(refine Up.al _ ?_) |(refine Up.dr _ ?_) |(refine Up.pE ?_) |(refine Up.sc ?_ YV _) |(refine Up.step YO ?_)))
 have hbs:wb.heap.size=w.heap.size+2:=by rw[<-Bw];simp
 have hA:nM wb w.heap.size n0 n1 (ZF ZG x.world.aa.change) n3 n4 n5 (ZF ZG x.world.now) n7 n8 (ZF ZG x.world.aT) n10 n11 n12 n13 n14 n15:=nM.row (T:=69) YG (by rw[<-Bw];exact(heap_alloc_old _ _ YJ).trans (heap_alloc_new w _))
 have hC:Cq wb (w.heap.size+1) (ZF ZG t.kind) (ZF ZG t.av.label.ax) (ZF ZG t.av.label.bZ) (.string t.av.label.aX) (.string t.av.ar) (ZF ZG t.av.ab) nu (ZF ZG t.av.value) (ZF ZG t.order) (ZF ZG t.bh) (ZF ZG t.bn) (ZF ZG t.aV.bG) (ZF ZG t.aV.day):=Cq.row (T:=75) YG (by rw[<-Bw];exact Br YJ _)
 have HR:=hR.up wJ;have HT:=hT.uU wJ;clear Bw;refine(ua hy HR).mono ?_;rintro e w0 ⟨rfl,Bq⟩;have c_l:=(hC.up Bq).load;simp[go_sem]at c_l
 go_wp2_with fail
 refine(ZaG hz (HT.uU Bq)).mono ?_;rintro e w1 ⟨rfl,uQ⟩
 go_wp2_with fail
 go_ret
 exact⟨rfl,Up.step uQ (Up.step Bq wJ)⟩
end Go.Proofs.YtbalgkakkoocjaaGreat
