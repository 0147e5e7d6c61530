/- A part of the proof of the statement in the last file of this claim: texts on the language of the program and on its functions. No condition. -/
import Derived.Test.YtbalgkakkoocjaaGreatCJ32
import Derived.Test.YtbalgkakkoocjaaGreatCJ33
import Derived.Test.YtbalgkakkoocjaaGreatCJ36
import Derived.Test.YtbalgkakkoocjaaGreatCJ13
import Derived.Test.YtbalgkakkoocjaaGreatCJ1
set_option linter.unusedVariables false
set_option linter.unusedSimpArgs false
set_option linter.unusedSectionVars false
open Go.Value renaming int->ZF
open Go.IntKind renaming i64->ZG
open Go renaming undef->ZH
open Option renaming some->ZA,none->ZB
open Bool renaming true->ZC,false->ZD
open Decidable renaming decide->ZE
open Go.Proofs.Tryz
set_option maxHeartbeats 40000000
namespace Go.Proofs.YtbalgkakkoocjaaGreat
set_option maxRecDepth 10000
open Go.RowKit
def wS:Nat->Code->Code
 |n+1,.seq _ b=>wS n b
 |_,c=>c
def sF(n:Nat)(f:Func):Code:=match f.body with
 |some c=>wS n c
 |none=>.ret
set_option maxRecDepth 100000 in
theorem Ga(x:ZI)(l:List ZJ)(g:ZI)(b z:Int)(n0 n1 n3 n4 n5 n7 n8 n10 n11 n12 n13 n14 n15:Value)(nA:Option Addr)(nc:Nat)(w wb:World)(wJ:Up w wb)(hA:nM wb w.heap.size n0 n1 (ZF ZG x.world.aa.change) n3 n4 n5 (ZF ZG x.world.now) n7 n8 (ZF ZG x.world.aT) n10 n11 n12 n13 n14 n15)(HR:cr wb (dV wb) x n0 n1 n3 n4 n5 n7 n8 n10 n11 n12 n13 n14 n15)(HT:cf wb (dV wb) (.sl (l.map ZK)) (.slice nA l.length nc))(yT:cG x=ZA x)(Ex:gO l=ZA l)(IP:gq x l=ZA (g,b))(Gi:bJ g g=ZA ZC)(C8:gJ g 1)(Gp:gJ x 1)(Dg:bJ x x=ZA ZC)(Kk:fP l l=ZA ZC)(AY:l.length<=1048576)(Gm:∀a∈l,a.av.bb.length<=1048576)(hkn:tn (yc x 1) l<=1000000000)(wz:World)(zb:Nat)(yz yA yB yC yD yE yF od oe og oh oi oj:Value)(BM:Up wb wz)(IZ:nM wz zb yz yA (ZF ZG g.world.aa.change) yB yC yD (ZF ZG g.world.now) yE yF (ZF ZG g.world.aT) od oe og oh oi oj)(uV:cr wz (dV wz) g yz yA yB yC yD yE yF od oe og oh oi oj)(wx wy wg:World)(xb gb:Nat)(oX oG:ve)(Ab Ac Ad Ae Af Ag Ah qk ql qm qn qo qp wq wu wA wB wC wD wE lr lu lx ly lz lA:Value)(GR:Up wz wx)(hX:nM wx xb Ab Ac (ZF ZG x.world.aa.change) Ad Ae Af (ZF ZG x.world.now) Ag Ah (ZF ZG x.world.aT) qk ql qm qn qo qp)(Gk:jh wz wx x oX Ab Ac Ad Ae Af Ag Ah qk ql qm qn qo qp)(hxn:¬oX.D x xb)(hxb:wz.heap.size<=xb)(tu:Nat->Value)(tW:Nat->cL)(tB:cL)(tX:Option Addr)(tc:Nat)(EC:Up wx wy)(EA:xe wx wy l tu tW tB (.slice tX l.length tc))(Eu:Up wy wg)(Gh:nM wg gb wq wu (ZF ZG g.world.aa.change) wA wB wC (ZF ZG g.world.now) wD wE (ZF ZG g.world.aT) lr lu lx ly lz lA)(Gj:jh wy wg g oG wq wu wA wB wC wD wE lr lu lx ly lz lA)(Ew:¬oG.D g gb)(hgb:wy.heap.size<=gb)(Aa:World)(II:Up wb Aa)(IY:Up wz Aa)(IX:xe wx Aa l tu tW tB (.slice tX l.length tc))(IT:jh wy Aa g oG wq wu wA wB wC wD wE lr lu lx ly lz lA)(IM:nM Aa gb wq wu (ZF ZG g.world.aa.change) wA wB wC (ZF ZG g.world.now) wD wE (ZF ZG g.world.aT) lr lu lx ly lz lA)(BE:World)(CU:Up wb BE)(Tb:Up wz BE)(SX:cr BE (dV BE) (Tu g 1) wq wu wA wB wC wD wE lr lu lx ly lz lA)(SQ:nM BE gb wq wu (ZF ZG g.world.aa.change) wA wB wC (ZF ZG g.world.now) wD wE (ZF ZG g.world.aT) lr lu lx ly lz lA)(FH FI FJ FK FL FM FN FO FP FQ FR FT FU FV FW u32 FX FY RG RH RI RJ RK RL RM RN RO RQ u45 u46 u47 u48 u49 u50 u51 u52 u53 u54 u55 u56 u57 u58 u59 u60 u61 u62 u63 u64 u65 u66 u67 u68 u69 u70 u71 u72 u73 u74 u75 u76 u77 u78 u79 u80 u81 u82 u83 u84 u85 u86 u87 u88:Value){Q:Exit->Act->World->Prop}(hQ:Q=bodyPost prog Tryz.f5 λe w'=>e=.returned (.bool ZC)/\Up w w'):
 (sF 21 Tryz.f5).wp prog Q ⟨#[.agg #[n0,n1,ZF ZG x.world.aa.change,n3,n4,n5,ZF ZG x.world.now,n7,n8,ZF ZG x.world.aT,n10,n11,n12,n13,n14,n15],.slice nA l.length nc,.pointer (ZA ⟨w.heap.size,0,ZB⟩),ZH,.bool ZD,ZF ZG z,.pointer (ZA ⟨zb,0,ZB⟩),ZF ZG b,.pointer (ZA ⟨xb,0,ZB⟩),.slice tX l.length tc,.pointer (ZA ⟨gb,0,ZB⟩),ZF ZG b,ZF ZG (tn (yc x 1) l),ZF ZG (yc g 1),ZF ZG (yc g 1),ZH,ZH,FH,FI,FJ,FK,FL,FM,FN,FO,FP,FQ,FR,FT,FU,FV,FW,u32,FX,FY,RG,RH,RI,RJ,RK,RL,RM,RN,RO,RQ,u45,u46,u47,u48,u49,u50,u51,u52,u53,u54,u55,u56,u57,u58,u59,u60,u61,u62,u63,u64,u65,u66,u67,u68,u69,u70,u71,u72,u73,u74,u75,u76,u77,u78,u79,u80,u81,u82,u83,u84,u85,u86,u87,u88,ZH,ZH,ZH,ZH,ZH,ZH,ZH,ZH,ZH,ZH,ZH,ZH,ZH,ZH,ZH,ZH,ZH,ZH,ZH,ZH,ZH,ZH,ZH,ZH,ZH,ZH,ZH,ZH,ZH,ZH],[]⟩ BE:=by
 simp only[sF,wS,Tryz.f5];subst hQ;have IW:¬yc g 1<0:=by have:=C8.ks;omega
 have a_l:=(hA.up CU).load;simp[go_sem]at a_l
 go_upto_region 31 with(fail)
 go_cut [15,16]from 89 to 101 (λsa sb wv=>∃(hb:Nat) (rv0 rv1 rv3 rv4 rv5 rv7 rv8 Ul Um Un Uo Uq Ur:Value),sa=.pointer (ZA ⟨hb,0,ZB⟩)/\sb=ZF ZG b/\Up BE wv/\nM wv hb rv0 rv1 (ZF ZG g.world.aa.change) rv3 rv4 rv5 (ZF ZG g.world.now) rv7 rv8 (ZF ZG g.world.aT) Ul Um Un Uo Uq Ur/\cr wv (dV wv) g rv0 rv1 rv3 rv4 rv5 rv7 rv8 Ul Um Un Uo Uq Ur)
 case first=>
  go_wp2_with fail
  refine(cq.xc (CT.ok yT) rfl (OA (HR.up CU).rep)).mono ?_;rintro e w18 ⟨oT,T0,t0_,T1,t1_,T3,t3_,T4,t4_,T5,t5_,T7,t7_,T8,t8_,T10,Zqi,T11,Zqj,T12,Zqk,T13,Zql,T14,Zqm,T15,Zqn,rfl,SM,ZkO⟩;have Zo8:=Up.step SM CU
  go_wp2_with fail
  refine(cq.UQ (CT.ok Ex) rfl (OA (.c (HT.uU Zo8)))).mono ?_;rintro e w19 ⟨ru,rW,rB,rX,rc,rfl,SN,ZkS⟩
  go_wp2_with fail
  refine(cq.DD (CT.ok IP) rfl (Ec (ZkO.up SN).rep.rep (.c ZkS.rep))).mono ?_;rintro e w20 ⟨oH,R0,r0_,R1,r1_,R3,r3_,R4,r4_,R5,r5_,R7,r7_,R8,r8_,R10,ZiF,R11,ZiG,R12,ZiH,R13,ZiI,R14,ZiJ,R15,ZiK,rfl,ZbM,ZeO⟩
  go_wp2_with fail
  go_meet
  exact⟨_,.slice R0 g.world.aa.aB.length r0_,.slice R1 g.world.aa.off.length r1_,.slice R3 g.world.ae.length r3_,.slice R4 g.world.aq.length r4_,.slice R5 g.world.ah.length r5_,.slice R7 g.world.aJ.length r7_,.slice R8 g.world.skip.length r8_,.slice R10 g.aP.length ZiF,.slice R11 g.aR.length ZiG,.slice R12 g.aF.length ZiH,.slice R13 g.aG.length ZiI,.slice R14 g.lines.length ZiJ,.slice R15 g.aE.length ZiK,rfl,rfl,Up.step (Up.al _ (Up.rfl' _)) (Up.step ZbM (Up.step SN SM)),nM.row YJ (heap_alloc_new w20 _),(ZeO.up (Up.al _ (Up.rfl' _))).rep⟩
 case rest=>
 obtain⟨hb,rv0,rv1,rv3,rv4,rv5,rv7,rv8,Ul,Um,Un,Uo,Uq,Ur,rfl,rfl,hbh,hhc,hhr⟩:=hcut;obtain⟨wh,tH⟩:∃q,q=wc:=⟨_,rfl⟩;subst tH;clear a_l;have hzh:=Up.step hbh Tb;have hVh:=Up.step hbh CU;have h_l:=(hhc).load;simp[go_sem]at h_l
 have RY:=(IZ.up hzh).load;simp[go_sem]at RY
 go_wp2_with fail
 refine(pG Gi hhr (uV.up hzh)).mono ?_;rintro e w21 ⟨rfl,Zew⟩;clear h_l RY;have h21:Up BE w21:=Up.step Zew hbh;have Ej:=(SQ.up h21).load;simp[go_sem]at Ej
 go_wp2_with fail
 refine(vk C8 (SX.up h21)).mono ?_;rintro e w22 ⟨rfl,ZkA⟩
 go_wp2_with fail
 go_ret
 exact⟨rfl,Up.step (Up.step ZkA (Up.step Zew hVh)) wJ⟩
end Go.Proofs.YtbalgkakkoocjaaGreat
