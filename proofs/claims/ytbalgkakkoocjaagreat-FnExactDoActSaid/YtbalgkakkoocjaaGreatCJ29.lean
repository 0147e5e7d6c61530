/- A part of the proof of the statement in the last file of this claim: texts on the language of the program and on its functions. No condition. -/
import Derived.Test.YtbalgkakkoocjaaGreatCJ24
import Derived.Test.YtbalgkakkoocjaaGreatCJ28
import Derived.Test.YtbalgkakkoocjaaGreatCJ1
set_option linter.unusedVariables false
set_option linter.unusedSimpArgs false
set_option linter.unusedSectionVars false
open Go.Value renaming int->ZF
open Go.IntKind renaming i64->ZG
open Go renaming undef->ZH
open Option renaming some->ZA,none->ZB
open Bool renaming true->ZC,false->ZD
open Decidable renaming decide->ZE
open Go.Proofs.Tryz
set_option maxHeartbeats 40000000
namespace Go.Proofs.YtbalgkakkoocjaaGreat
set_option maxRecDepth 10000
open Go.RowKit
set_option maxRecDepth 100000 in
theorem FnExactDoAct_walk(x:ZI)(t:ZJ)(ok:okOffice x)(okA:okAct t){n0 n1 n3 n4 n5 n7 n8 n10 n11 n12 n13 n14 n15 nu:Value}(w:World)(hR:cr w (dV w) x n0 n1 n3 n4 n5 n7 n8 n10 n11 n12 n13 n14 n15)(hT:cf w (dV w) (.sl (t.av.bb.map aI)) nu):
 Calls prog 4 #[.agg #[n0,n1,ZF ZG x.world.aa.change,n3,n4,n5,ZF ZG x.world.now,n7,n8,ZF ZG x.world.aT,n10,n11,n12,n13,n14,n15],.agg #[ZF ZG t.kind,ZF ZG t.av.label.ax,ZF ZG t.av.label.bZ,.string t.av.label.aX,.string t.av.ar,ZF ZG t.av.ab,nu,ZF ZG t.av.value,ZF ZG t.order,ZF ZG t.bh,ZF ZG t.bn,ZF ZG t.aV.bG,ZF ZG t.aV.day]] w λe w'=>e=.returned (.bool ZC)/\Up w w':=by
 rcases Ve ok with hy|⟨y,hy,hy0,hy1,ht⟩
 ·exact Hl x t hy w hR hT
 rcases Zhq okA hy0 hy1 with hz|⟨z,hz,hz0,hta⟩
 ·exact Hm x t hy hy0 hz w hR hT
 have yT:=Fk ht;have Ex:=ZdL hta;obtain⟨g,b,IP,Vk,Gi,C8⟩:=Zed ht hta;have Gp:=OF.Vx ht;have Dg:=Zej (Jh ht);have Kk:=Zke (Cc hta);have Gm:t.av.bb.length<=1048576:=(Cc (p:=t.av) hta).bb
 go_enter func4,ntmps4
 go_wp2_with fail
 generalize Bw:World.alloc (World.alloc w _) _=wb;have wJ:Up w wb:=by rw[<-Bw];(repeat(first|exact Up.rfl' _|(refine Up.al _ ?_) |(refine Up.dr _ ?_) |(refine Up.pE ?_) |(refine Up.sc ?_ YV _) |(refine Up.step YO ?_)))
 have hbs:wb.heap.size=w.heap.size+2:=by rw[<-Bw];simp
 have hA:nM wb w.heap.size n0 n1 (ZF ZG x.world.aa.change) n3 n4 n5 (ZF ZG x.world.now) n7 n8 (ZF ZG x.world.aT) n10 n11 n12 n13 n14 n15:=nM.row (T:=69) YG (by rw[<-Bw];exact(heap_alloc_old _ _ YJ).trans (heap_alloc_new w _))
 have hC:Cq wb (w.heap.size+1) (ZF ZG t.kind) (ZF ZG t.av.label.ax) (ZF ZG t.av.label.bZ) (.string t.av.label.aX) (.string t.av.ar) (ZF ZG t.av.ab) nu (ZF ZG t.av.value) (ZF ZG t.order) (ZF ZG t.bh) (ZF ZG t.bn) (ZF ZG t.aV.bG) (ZF ZG t.aV.day):=Cq.row (T:=75) YG (by rw[<-Bw];exact Br YJ _)
 have HR:=hR.up wJ;have HT:=hT.uU wJ;clear Bw;refine(ua hy HR).mono ?_;rintro e w0 ⟨rfl,Bq⟩;have c_l:=(hC.up Bq).load;simp[go_sem]at c_l
 go_wp2_with fail
 refine(ZaG hz (HT.uU Bq)).mono ?_;rintro e w1 ⟨rfl,uQ⟩;clear c_l;have hV1:Up wb w1:=Up.step uQ Bq
 go_upto_if 26 with(fail)
 go_cut [4]from 17 to 34 (λsb wv=>sb=.bool ZD/\Up wb wv)
 case first=>
  go_wp2_with fail
  go_meet
  exact⟨rfl,hV1⟩
 case rest=>
 obtain⟨rfl,hV2⟩:=hcut;obtain⟨w2,tH⟩:∃q,q=wc:=⟨_,rfl⟩;subst tH;rename_i PI;refine PI _ _ ?_;exact Hg x t g b z n0 n1 n3 n4 n5 n7 n8 n10 n11 n12 n13 n14 n15 nu w wb wJ hA hC HR HT yT Ex IP Gi C8 Gp Dg Kk Gm Vk w2 hV2 u17 u18 u19 u20 u21 u22 u23 u24 u25 u26 u27 u28 u29 u30 u31 u32 u33 u34 rfl
end Go.Proofs.YtbalgkakkoocjaaGreat
