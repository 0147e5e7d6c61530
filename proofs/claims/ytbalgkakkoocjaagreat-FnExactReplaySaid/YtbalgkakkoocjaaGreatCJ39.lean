/- A part of the proof of the statement in the last file of this claim: texts on the language of the program and on its functions. No condition. -/
import Derived.Test.YtbalgkakkoocjaaGreatCJ38
import Derived.Test.YtbalgkakkoocjaaGreatCJ1
set_option linter.unusedVariables false
set_option linter.unusedSimpArgs false
set_option linter.unusedSectionVars false
open Go.Value renaming int->ZF
open Go.IntKind renaming i64->ZG
open Go renaming undef->ZH
open Option renaming some->ZA,none->ZB
open Bool renaming true->ZC,false->ZD
open Decidable renaming decide->ZE
open Go.Proofs.Tryz
set_option maxHeartbeats 40000000
namespace Go.Proofs.YtbalgkakkoocjaaGreat
open Nat renaming le_refl->VJ
set_option maxRecDepth 10000
open Go.RowKit
set_option maxRecDepth 100000 in
theorem F6(x:ZI)(l:List ZJ)(g:ZI)(b z:Int)(n0 n1 n3 n4 n5 n7 n8 n10 n11 n12 n13 n14 n15:Value)(nA:Option Addr)(nc:Nat)(w wb:World)(wJ:Up w wb)(hA:nM wb w.heap.size n0 n1 (ZF ZG x.world.aa.change) n3 n4 n5 (ZF ZG x.world.now) n7 n8 (ZF ZG x.world.aT) n10 n11 n12 n13 n14 n15)(HR:cr wb (dV wb) x n0 n1 n3 n4 n5 n7 n8 n10 n11 n12 n13 n14 n15)(HT:cf wb (dV wb) (.sl (l.map ZK)) (.slice nA l.length nc))(yT:cG x=ZA x)(Ex:gO l=ZA l)(IP:gq x l=ZA (g,b))(Gi:bJ g g=ZA ZC)(C8:gJ g 1)(Gp:gJ x 1)(Dg:bJ x x=ZA ZC)(Kk:fP l l=ZA ZC)(AY:l.length<=1048576)(Gm:∀a∈l,a.av.bb.length<=1048576)(hkn:tn (yc x 1) l<=1000000000)(wz:World)(zb:Nat)(yz yA yB yC yD yE yF od oe og oh oi oj:Value)(BM:Up wb wz)(IZ:nM wz zb yz yA (ZF ZG g.world.aa.change) yB yC yD (ZF ZG g.world.now) yE yF (ZF ZG g.world.aT) od oe og oh oi oj)(uV:cr wz (dV wz) g yz yA yB yC yD yE yF od oe og oh oi oj)(wx wy wg:World)(xb gb:Nat)(oX oG:ve)(Ab Ac Ad Ae Af Ag Ah qk ql qm qn qo qp wq wu wA wB wC wD wE lr lu lx ly lz lA:Value)(GR:Up wz wx)(hX:nM wx xb Ab Ac (ZF ZG x.world.aa.change) Ad Ae Af (ZF ZG x.world.now) Ag Ah (ZF ZG x.world.aT) qk ql qm qn qo qp)(Gk:jh wz wx x oX Ab Ac Ad Ae Af Ag Ah qk ql qm qn qo qp)(hxn:¬oX.D x xb)(hxb:wz.heap.size<=xb)(tu:Nat->Value)(tW:Nat->cL)(tB:cL)(tX:Option Addr)(tc:Nat)(EC:Up wx wy)(EA:xe wx wy l tu tW tB (.slice tX l.length tc))(Eu:Up wy wg)(Gh:nM wg gb wq wu (ZF ZG g.world.aa.change) wA wB wC (ZF ZG g.world.now) wD wE (ZF ZG g.world.aT) lr lu lx ly lz lA)(Gj:jh wy wg g oG wq wu wA wB wC wD wE lr lu lx ly lz lA)(Ew:¬oG.D g gb)(hgb:wy.heap.size<=gb)(FH FI FJ FK FL FM FN FO FP FQ FR FT FU FV FW u32 FX FY RG RH RI RJ RK RL RM RN RO RQ:Value){Q:Exit->Act->World->Prop}(hQ:Q=bodyPost prog Tryz.f5 λe w'=>e=.returned (.bool ZC)/\Up w w'):
 (sF 10 Tryz.f5).wp prog Q ⟨#[.agg #[n0,n1,ZF ZG x.world.aa.change,n3,n4,n5,ZF ZG x.world.now,n7,n8,ZF ZG x.world.aT,n10,n11,n12,n13,n14,n15],.slice nA l.length nc,.pointer (ZA ⟨w.heap.size,0,ZB⟩),ZH,.bool ZD,ZF ZG z,.pointer (ZA ⟨zb,0,ZB⟩),ZF ZG b,.pointer (ZA ⟨xb,0,ZB⟩),.slice tX l.length tc,.pointer (ZA ⟨gb,0,ZB⟩),ZF ZG b,ZH,ZH,ZH,ZH,ZH,FH,FI,FJ,FK,FL,FM,FN,FO,FP,FQ,FR,FT,FU,FV,FW,u32,FX,FY,RG,RH,RI,RJ,RK,RL,RM,RN,RO,RQ,ZH,ZH,ZH,ZH,ZH,ZH,ZH,ZH,ZH,ZH,ZH,ZH,ZH,ZH,ZH,ZH,ZH,ZH,ZH,ZH,ZH,ZH,ZH,ZH,ZH,ZH,ZH,ZH,ZH,ZH,ZH,ZH,ZH,ZH,ZH,ZH,ZH,ZH,ZH,ZH,ZH,ZH,ZH,ZH,ZH,ZH,ZH,ZH,ZH,ZH,ZH,ZH,ZH,ZH,ZH,ZH,ZH,ZH,ZH,ZH,ZH,ZH,ZH,ZH,ZH,ZH,ZH,ZH,ZH,ZH,ZH,ZH,ZH,ZH],[]⟩ wg:=by
 simp only[sF,wS,Tryz.f5];subst hQ;have z1:=BM.size;have z2:=GR.size;have z3:=EC.size;have z9:=hX.lt;have z4:=Eu.size;have z8:=Gh.lt;have y1:∀q,oX.D x q->wz.heap.size<=q/\q<wx.heap.size:=λq hq=>⟨Gk.new q hq,Gk.go.lt hq⟩
 have y2:∀q,DA l tW tB q->wx.heap.size<=q/\q<wy.heap.size:=λq hq=>⟨EA.new q hq,EA.row.lt hq⟩
 have y3:∀q,oG.D g q->wy.heap.size<=q/\q<wg.heap.size:=λq hq=>⟨Gj.new q hq,Gj.go.lt hq⟩
 have hzg:Up wz wg:=Up.step Eu (Up.step EC GR);have hVg:=Up.step hzg BM;have hXy:=hX.up EC;have hoy:=Gk.up EC;have Ej:=(Gh).load;simp[go_sem]at Ej
 have RY:=(IZ.up hzg).load;simp[go_sem]at RY
 go_wp2_with fail
 refine(pG Gi Gj.rep (uV.up hzg)).mono ?_;rintro e w8 ⟨rfl,hb8⟩;clear Ej RY;have hy8:Up wy w8:=Up.step hb8 Eu;have hV8:=Up.step hb8 hVg;have hA8:=hA.up hV8;have hX8:=hXy.up hy8;have ho8:=hoy.up hy8
 go_upto_region 14 with(fail)
 have P6:∀w',Up w8 w'->(w'.cell? ⟨xb,0,ZB⟩=ZA (Ab)/\w'.cell? ⟨xb,1,ZB⟩=ZA (Ac)/\w'.cell? ⟨xb,2,ZB⟩=ZA (ZF ZG x.world.aa.change)/\w'.cell? ⟨xb,3,ZB⟩=ZA (Ad)/\w'.cell? ⟨xb,4,ZB⟩=ZA (Ae)/\w'.cell? ⟨xb,5,ZB⟩=ZA (Af)/\w'.cell? ⟨xb,6,ZB⟩=ZA (ZF ZG x.world.now)/\w'.cell? ⟨xb,7,ZB⟩=ZA (Ag)/\w'.cell? ⟨xb,8,ZB⟩=ZA (Ah)/\w'.cell? ⟨xb,9,ZB⟩=ZA (ZF ZG x.world.aT)/\w'.cell? ⟨xb,10,ZB⟩=ZA (qk)/\w'.cell? ⟨xb,11,ZB⟩=ZA (ql)/\w'.cell? ⟨xb,12,ZB⟩=ZA (qm)/\w'.cell? ⟨xb,13,ZB⟩=ZA (qn)/\w'.cell? ⟨xb,14,ZB⟩=ZA (qo)/\w'.cell? ⟨xb,15,ZB⟩=ZA (qp)/\w'.cell? ⟨w.heap.size,0,ZB⟩=ZA (n0)/\w'.cell? ⟨w.heap.size,1,ZB⟩=ZA (n1)/\w'.cell? ⟨w.heap.size,2,ZB⟩=ZA (ZF ZG x.world.aa.change)/\w'.cell? ⟨w.heap.size,3,ZB⟩=ZA (n3)/\w'.cell? ⟨w.heap.size,4,ZB⟩=ZA (n4)/\w'.cell? ⟨w.heap.size,5,ZB⟩=ZA (n5)/\w'.cell? ⟨w.heap.size,6,ZB⟩=ZA (ZF ZG x.world.now)/\w'.cell? ⟨w.heap.size,7,ZB⟩=ZA (n7)/\w'.cell? ⟨w.heap.size,8,ZB⟩=ZA (n8)/\w'.cell? ⟨w.heap.size,9,ZB⟩=ZA (ZF ZG x.world.aT)/\w'.cell? ⟨w.heap.size,10,ZB⟩=ZA (n10)/\w'.cell? ⟨w.heap.size,11,ZB⟩=ZA (n11)/\w'.cell? ⟨w.heap.size,12,ZB⟩=ZA (n12)/\w'.cell? ⟨w.heap.size,13,ZB⟩=ZA (n13)/\w'.cell? ⟨w.heap.size,14,ZB⟩=ZA (n14)/\w'.cell? ⟨w.heap.size,15,ZB⟩=ZA (n15)):=λw' hu=>by
  have nF:=hX8.up hu;have pd:=hA8.up hu;exact⟨nF.c0,nF.c1,nF.c2,nF.c3,nF.c4,nF.c5,nF.c6,nF.c7,nF.c8,nF.c9,nF.OK,nF.OL,nF.OM,nF.c13,nF.c14,nF.c15,pd.c0,pd.c1,pd.c2,pd.c3,pd.c4,pd.c5,pd.c6,pd.c7,pd.c8,pd.c9,pd.OK,pd.OL,pd.OM,pd.c13,pd.c14,pd.c15⟩
 go_region_held3 (λw'=>w'.cell? ⟨xb,0,ZB⟩=ZA (Ab)/\w'.cell? ⟨xb,1,ZB⟩=ZA (Ac)/\w'.cell? ⟨xb,2,ZB⟩=ZA (ZF ZG x.world.aa.change)/\w'.cell? ⟨xb,3,ZB⟩=ZA (Ad)/\w'.cell? ⟨xb,4,ZB⟩=ZA (Ae)/\w'.cell? ⟨xb,5,ZB⟩=ZA (Af)/\w'.cell? ⟨xb,6,ZB⟩=ZA (ZF ZG x.world.now)/\w'.cell? ⟨xb,7,ZB⟩=ZA (Ag)/\w'.cell? ⟨xb,8,ZB⟩=ZA (Ah)/\w'.cell? ⟨xb,9,ZB⟩=ZA (ZF ZG x.world.aT)/\w'.cell? ⟨xb,10,ZB⟩=ZA (qk)/\w'.cell? ⟨xb,11,ZB⟩=ZA (ql)/\w'.cell? ⟨xb,12,ZB⟩=ZA (qm)/\w'.cell? ⟨xb,13,ZB⟩=ZA (qn)/\w'.cell? ⟨xb,14,ZB⟩=ZA (qo)/\w'.cell? ⟨xb,15,ZB⟩=ZA (qp)/\w'.cell? ⟨w.heap.size,0,ZB⟩=ZA (n0)/\w'.cell? ⟨w.heap.size,1,ZB⟩=ZA (n1)/\w'.cell? ⟨w.heap.size,2,ZB⟩=ZA (ZF ZG x.world.aa.change)/\w'.cell? ⟨w.heap.size,3,ZB⟩=ZA (n3)/\w'.cell? ⟨w.heap.size,4,ZB⟩=ZA (n4)/\w'.cell? ⟨w.heap.size,5,ZB⟩=ZA (n5)/\w'.cell? ⟨w.heap.size,6,ZB⟩=ZA (ZF ZG x.world.now)/\w'.cell? ⟨w.heap.size,7,ZB⟩=ZA (n7)/\w'.cell? ⟨w.heap.size,8,ZB⟩=ZA (n8)/\w'.cell? ⟨w.heap.size,9,ZB⟩=ZA (ZF ZG x.world.aT)/\w'.cell? ⟨w.heap.size,10,ZB⟩=ZA (n10)/\w'.cell? ⟨w.heap.size,11,ZB⟩=ZA (n11)/\w'.cell? ⟨w.heap.size,12,ZB⟩=ZA (n12)/\w'.cell? ⟨w.heap.size,13,ZB⟩=ZA (n13)/\w'.cell? ⟨w.heap.size,14,ZB⟩=ZA (n14)/\w'.cell? ⟨w.heap.size,15,ZB⟩=ZA (n15))
  (first|exact P6 _ YH |go_keep)
  (first
   |(go_at_call 13;refine(cq.xc (CT.ok yT) rfl (OA (HR.up (Up.step YH hV8)).rep)).mono ?_;rintro e w9 ⟨oQ,Q0,q0_,Q1,q1_,Q3,q3_,Q4,q4_,Q5,q5_,Q7,q7_,Q8,q8_,Q10,Zp4,Q11,Zp5,Q12,Zp6,Q13,Zp7,Q14,Zp8,Q15,Zp9,rfl,hb9,ho9⟩)
   |(go_at_call 15;refine(pG Dg (ho8.up YH).rep (ho9.up YH).rep).mono ?_;rintro e w10 ⟨rfl,Zpg⟩))
 have Ge:Up w8 w10:=by(repeat(first|exact Up.rfl' _|(refine Up.al _ ?_) |(refine Up.dr _ ?_) |(refine Up.pE ?_) |(refine Up.sc ?_ YL _) |(refine Up.step YO ?_)))
 have ZbK:=Up.step Ge hV8;have ZbQ:=Up.step Ge hy8;clear P6
 go_wp2_with fail
 refine(cq.UQ (CT.ok Ex) rfl (OA (.c (HT.uU ZbK)))).mono ?_;rintro e w11 ⟨qu,qW,qB,qX,qc,rfl,Zkz,ZkR⟩
 go_wp2_with fail
 refine(Zeh Kk (EA.up (Up.step Zkz ZbQ)).rep ZkR.rep).mono ?_;rintro e w12 ⟨rfl,ZmZ⟩;have K1:Up w10 w12:=Up.step ZmZ Zkz;have Zks:=Up.step K1 ZbK;have PQ:=Up.step K1 ZbQ;have ML:Up wg w12:=Up.step K1 (Up.step Ge hb8);have ZkW:=Up.step ML hzg;have z6:=ML.size;have x_l:=(hXy.up PQ).load;simp[go_sem]at x_l
 go_upto_region 19 with(fail)
 go_cut [12]from 45 to 66 (λsk wv=>sk=ZF ZG (yc x 1)/\Up wb wv/\Up wz wv/\xe wx wv l tu tW tB (.slice tX l.length tc)/\jh wy wv g oG wq wu wA wB wC wD wE lr lu lx ly lz lA/\nM wv gb wq wu (ZF ZG g.world.aa.change) wA wB wC (ZF ZG g.world.now) wD wE (ZF ZG g.world.aT) lr lu lx ly lz lA)
 case first=>
  go_wp2_with fail
  refine(jh.mark (hoy.up PQ) Gp _ _ _).mono ?_;rintro e Aa ⟨rfl,_,Gn⟩
  go_wp2_with fail
  go_meet
  exact⟨rfl,Zks.zZ Gn (λq hq=>by have:=y1 q hq.2.2;omega),ZkW.zZ Gn (λq hq=>by have:=y1 q hq.2.2;omega),(EA.up PQ).zZ Gn (λq hq Ki=>by have:=y1 q Ki.2.2;have:=y2 q hq;omega),(Gj.up ML).zZ Gn (λq hq Ki=>by have:=y1 q Ki.2.2;have:=y3 q hq;omega),(Gh.up ML).zZ Gn (λhq=>by have:=y1 _ hq.2.2;omega)⟩
 case rest=>
 obtain⟨rfl,II,IY,IX,IT,IM⟩:=hcut;obtain⟨Aa,tH⟩:∃q,q=wc:=⟨_,rfl⟩;subst tH;clear x_l;rename_i PI;refine PI _ _ ?_;exact F9 x l g b z n0 n1 n3 n4 n5 n7 n8 n10 n11 n12 n13 n14 n15 nA nc w wb wJ hA HR HT yT Ex IP Gi C8 Gp Dg Kk AY Gm hkn wz zb yz yA yB yC yD yE yF od oe og oh oi oj BM IZ uV wx wy wg xb gb oX oG Ab Ac Ad Ae Af Ag Ah qk ql qm qn qo qp wq wu wA wB wC wD wE lr lu lx ly lz lA GR hX Gk hxn hxb tu tW tB tX tc EC EA Eu Gh Gj Ew hgb Aa II IY IX IT IM FH FI FJ FK FL FM FN FO FP FQ FR FT FU FV FW u32 FX FY RG RH RI RJ RK RL RM RN RO RQ u45 u46 u47 u48 u49 u50 u51 u52 u53 u54 u55 u56 u57 u58 u59 u60 u61 u62 u63 u64 u65 u66 rfl
end Go.Proofs.YtbalgkakkoocjaaGreat
