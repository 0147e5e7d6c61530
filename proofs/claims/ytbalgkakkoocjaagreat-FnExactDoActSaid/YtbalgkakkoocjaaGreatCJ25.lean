/- A part of the proof of the statement in the last file of this claim: texts on the language of the program and on its functions. No condition. -/
import Derived.Test.YtbalgkakkoocjaaGreatCJ23
import Derived.Test.YtbalgkakkoocjaaGreatCJ1
set_option linter.unusedVariables false
set_option linter.unusedSimpArgs false
set_option linter.unusedSectionVars false
open Go.Value renaming int->ZF
open Go.IntKind renaming i64->ZG
open Go renaming undef->ZH
open Option renaming some->ZA,none->ZB
open Bool renaming true->ZC,false->ZD
open Decidable renaming decide->ZE
open Go.Proofs.Tryz
set_option maxHeartbeats 40000000
namespace Go.Proofs.YtbalgkakkoocjaaGreat
set_option maxRecDepth 10000
open Go.RowKit
set_option maxRecDepth 100000 in
theorem Hj(x:ZI)(t:ZJ)(g:ZI)(b z:Int)(n0 n1 n3 n4 n5 n7 n8 n10 n11 n12 n13 n14 n15 nu:Value)(w wb:World)(wJ:Up w wb)(hA:nM wb w.heap.size n0 n1 (ZF ZG x.world.aa.change) n3 n4 n5 (ZF ZG x.world.now) n7 n8 (ZF ZG x.world.aT) n10 n11 n12 n13 n14 n15)(hC:Cq wb (w.heap.size+1) (ZF ZG t.kind) (ZF ZG t.av.label.ax) (ZF ZG t.av.label.bZ) (.string t.av.label.aX) (.string t.av.ar) (ZF ZG t.av.ab) nu (ZF ZG t.av.value) (ZF ZG t.order) (ZF ZG t.bh) (ZF ZG t.bn) (ZF ZG t.aV.bG) (ZF ZG t.aV.day))(HR:cr wb (dV wb) x n0 n1 n3 n4 n5 n7 n8 n10 n11 n12 n13 n14 n15)(HT:cf wb (dV wb) (.sl (t.av.bb.map aI)) (nu))(yT:cG x=ZA x)(Ex:fu t=ZA t)(IP:dT x t=ZA (g,b))(Gi:bJ g g=ZA ZC)(C8:gJ g 1)(Gp:gJ x 1)(Dg:bJ x x=ZA ZC)(Kk:fB t t=ZA ZC)(Gm:t.av.bb.length<=1048576)(wz:World)(zb:Nat)(yz yA yB yC yD yE yF od oe og oh oi oj:Value)(BM:Up wb wz)(IZ:nM wz zb yz yA (ZF ZG g.world.aa.change) yB yC yD (ZF ZG g.world.now) yE yF (ZF ZG g.world.aT) od oe og oh oi oj)(uV:cr wz (dV wz) g yz yA yB yC yD yE yF od oe og oh oi oj)(wx wy wg:World)(xb gb:Nat)(oX oG:ve)(Ab Ac Ad Ae Af Ag Ah qk ql qm qn qo qp wq wu wA wB wC wD wE lr lu lx ly lz lA:Value)(GR:Up wz wx)(hX:nM wx xb Ab Ac (ZF ZG x.world.aa.change) Ad Ae Af (ZF ZG x.world.now) Ag Ah (ZF ZG x.world.aT) qk ql qm qn qo qp)(Gk:jh wz wx x oX Ab Ac Ad Ae Af Ag Ah qk ql qm qn qo qp)(hxn:¬oX.D x xb)(hxb:wz.heap.size<=xb)(tb:Nat)(BX:cL)(tv:Value)(EC:Up wx wy)(hY:Cq wy tb (ZF ZG t.kind) (ZF ZG t.av.label.ax) (ZF ZG t.av.label.bZ) (.string t.av.label.aX) (.string t.av.ar) (ZF ZG t.av.ab) tv (ZF ZG t.av.value) (ZF ZG t.order) (ZF ZG t.bh) (ZF ZG t.bn) (ZF ZG t.aV.bG) (ZF ZG t.aV.day))(EA:iL wx wy t BX tv)(hyn:¬xT BX tb)(yU:wx.heap.size<=tb)(Eu:Up wy wg)(Gh:nM wg gb wq wu (ZF ZG g.world.aa.change) wA wB wC (ZF ZG g.world.now) wD wE (ZF ZG g.world.aT) lr lu lx ly lz lA)(Gj:jh wy wg g oG wq wu wA wB wC wD wE lr lu lx ly lz lA)(Ew:¬oG.D g gb)(hgb:wy.heap.size<=gb)(Aa:World)(II:Up wb Aa)(IY:Up wz Aa)(ZeR:Cq Aa tb (ZF ZG t.kind) (ZF ZG t.av.label.ax) (ZF ZG t.av.label.bZ) (.string t.av.label.aX) (.string t.av.ar) (ZF ZG t.av.ab) tv (ZF ZG t.av.value) (ZF ZG t.order) (ZF ZG t.bh) (ZF ZG t.bn) (ZF ZG t.aV.bG) (ZF ZG t.aV.day))(IX:iL wx Aa t BX tv)(IT:jh wy Aa g oG wq wu wA wB wC wD wE lr lu lx ly lz lA)(IM:nM Aa gb wq wu (ZF ZG g.world.aa.change) wA wB wC (ZF ZG g.world.now) wD wE (ZF ZG g.world.aT) lr lu lx ly lz lA)(FH FI FJ FK FL FM FN FO FP FQ FR FT FU FV FW u32 FX FY RG RH RI RJ RK RL RM RN RO RQ u45 u46 u47 u48 u49 u50 u51 u52 u53 u54 u55 u56 u57 u58 u59 u60 u61 u62 u63 u64 u65 u66:Value){Q:Exit->Act->World->Prop}(hQ:Q=bodyPost prog Tryz.f4 λe w'=>e=.returned (.bool ZC)/\Up w w'):
 (sF 15 Tryz.f4).wp prog Q ⟨#[.agg #[n0,n1,ZF ZG x.world.aa.change,n3,n4,n5,ZF ZG x.world.now,n7,n8,ZF ZG x.world.aT,n10,n11,n12,n13,n14,n15],.agg #[ZF ZG t.kind,ZF ZG t.av.label.ax,ZF ZG t.av.label.bZ,.string t.av.label.aX,.string t.av.ar,ZF ZG t.av.ab,nu,ZF ZG t.av.value,ZF ZG t.order,ZF ZG t.bh,ZF ZG t.bn,ZF ZG t.aV.bG,ZF ZG t.aV.day],.pointer (ZA ⟨w.heap.size,0,ZB⟩),.pointer (ZA ⟨w.heap.size+1,0,ZB⟩),.bool ZD,ZF ZG z,.pointer (ZA ⟨zb,0,ZB⟩),ZF ZG b,.pointer (ZA ⟨xb,0,ZB⟩),.pointer (ZA ⟨tb,0,ZB⟩),.pointer (ZA ⟨gb,0,ZB⟩),ZF ZG b,ZF ZG (yc x 1),ZH,ZH,ZH,ZH,FH,FI,FJ,FK,FL,FM,FN,FO,FP,FQ,FR,FT,FU,FV,FW,u32,FX,FY,RG,RH,RI,RJ,RK,RL,RM,RN,RO,RQ,u45,u46,u47,u48,u49,u50,u51,u52,u53,u54,u55,u56,u57,u58,u59,u60,u61,u62,u63,u64,u65,u66,ZH,ZH,ZH,ZH,ZH,ZH,ZH,ZH,ZH,ZH,ZH,ZH,ZH,ZH,ZH,ZH,ZH,ZH,ZH,ZH,ZH,ZH,ZH,ZH,ZH,ZH,ZH,ZH,ZH,ZH,ZH,ZH,ZH,ZH,ZH,ZH,ZH,ZH,ZH,ZH,ZH,ZH,ZH,ZH,ZH,ZH,ZH,ZH,ZH,ZH,ZH,ZH],[]⟩ Aa:=by
 simp only[sF,wS,Tryz.f4];subst hQ;have z1:=BM.size;have z2:=GR.size;have z3:=EC.size;have z9:=hX.lt;have z4:=Eu.size;have z8:=Gh.lt;have y1:∀q,oX.D x q->wz.heap.size<=q/\q<wx.heap.size:=λq hq=>⟨Gk.new q hq,Gk.go.lt hq⟩
 have y2:∀q,xT BX q->wx.heap.size<=q/\q<wy.heap.size:=λq hq=>⟨EA.ge hq,EA.lt hq⟩
 have y3:∀q,oG.D g q->wy.heap.size<=q/\q<wg.heap.size:=λq hq=>⟨Gj.new q hq,Gj.go.lt hq⟩
 have hk2:1<=yc x 1:=by have:=Gp.ks;omega
 have hk1:yc x 1<=900000000:=Gp.top;have y_l:=(ZeR).load;simp[go_sem]at y_l
 go_wp2_with fail
 refine(Zb4 IX _ Gm hk2 hk1).mono ?_;rintro e w14 ⟨rfl,MT⟩;clear y_l;have J5:¬yc x 1+(t.av.bb.length:Int)<0:=YG;have Zkt:=II.zZ MT (λq hq=>by have:=y2 q hq;omega)
 have Ta:=IY.zZ MT (λq hq=>by have:=y2 q hq;omega)
 have ZeN:=IT.zZ MT (λq hq Ki=>by have:=y2 q Ki;have:=y3 q hq;omega)
 have Zez:=IM.zZ MT (λhq=>by have:=y2 _ hq;omega)
 have Ej:=(Zez).load;simp[go_sem]at Ej
 have RY:=(IZ.up Ta).load;simp[go_sem]at RY
 go_wp2_with fail
 refine(pG Gi ZeN.rep (uV.up Ta)).mono ?_;rintro e w15 ⟨rfl,MC⟩;clear Ej RY;have Zku:=Up.step MC Zkt;have ZkX:=Up.step MC Ta;have ZkN:=ZeN.up MC;have ZeA:=Zez.up MC;have Ej:=(ZeA).load;simp[go_sem]at Ej
 go_wp2_with fail
 refine(jh.mark ZkN C8 _ _ _).mono ?_;rintro e w16 ⟨rfl,ZeI,S6⟩;clear Ej;have Zkv:=Zku.zZ S6 (λq hq=>by have:=hq.1;omega)
 have ZkY:=ZkX.zZ S6 (λq hq=>by have:=hq.1;omega)
 have ZeB:=ZeA.zZ S6 (λhq=>Ew hq.2.2)
 have IW:¬yc g 1<0:=by have:=C8.ks;omega
 have Ej:=(ZeB).load;simp[go_sem]at Ej
 go_upto_region 26 with(fail)
 go_cut [14]from 67 to 88 (λsq wv=>sq=ZF ZG (yc g 1)/\Up w16 wv)
 case first=>
  go_wp2_with fail
  refine(vk C8 ZeI).mono ?_;rintro e BE ⟨rfl,Et⟩
  go_wp2_with fail
  go_meet
  exact⟨rfl,Et⟩
 case rest=>
 obtain⟨rfl,Et⟩:=hcut;obtain⟨BE,tH⟩:∃q,q=wc:=⟨_,rfl⟩;subst tH;clear Ej;have CU:=Up.step Et Zkv;have Tb:=Up.step Et ZkY;have SX:=ZeI.up Et;have SQ:=ZeB.up Et;rename_i PI;refine PI _ _ ?_;exact Hk x t g b z n0 n1 n3 n4 n5 n7 n8 n10 n11 n12 n13 n14 n15 nu w wb wJ hA hC HR HT yT Ex IP Gi C8 Gp Dg Kk Gm wz zb yz yA yB yC yD yE yF od oe og oh oi oj BM IZ uV wx wy wg xb gb oX oG Ab Ac Ad Ae Af Ag Ah qk ql qm qn qo qp wq wu wA wB wC wD wE lr lu lx ly lz lA GR hX Gk hxn hxb tb BX tv EC hY EA hyn yU Eu Gh Gj Ew hgb Aa II IY ZeR IX IT IM BE CU Tb SX SQ FH FI FJ FK FL FM FN FO FP FQ FR FT FU FV FW u32 FX FY RG RH RI RJ RK RL RM RN RO RQ u45 u46 u47 u48 u49 u50 u51 u52 u53 u54 u55 u56 u57 u58 u59 u60 u61 u62 u63 u64 u65 u66 u67 u68 u69 u70 u71 u72 u73 u74 u75 u76 u77 u78 u79 u80 u81 u82 u83 u84 u85 u86 u87 u88 rfl
end Go.Proofs.YtbalgkakkoocjaaGreat
