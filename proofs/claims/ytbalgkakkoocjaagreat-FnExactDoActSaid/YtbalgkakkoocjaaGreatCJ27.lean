/- A part of the proof of the statement in the last file of this claim: texts on the language of the program and on its functions. No condition. -/
import Derived.Test.YtbalgkakkoocjaaGreatCJ26
import Derived.Test.YtbalgkakkoocjaaGreatCJ1
set_option linter.unusedVariables false
set_option linter.unusedSimpArgs false
set_option linter.unusedSectionVars false
open Go.Value renaming int->ZF
open Go.IntKind renaming i64->ZG
open Go renaming undef->ZH
open Option renaming some->ZA,none->ZB
open Bool renaming true->ZC,false->ZD
open Decidable renaming decide->ZE
open Go.Proofs.Tryz
set_option maxHeartbeats 40000000
namespace Go.Proofs.YtbalgkakkoocjaaGreat
set_option maxRecDepth 10000
open Go.RowKit
set_option maxRecDepth 100000 in
theorem Hh(x:ZI)(t:ZJ)(g:ZI)(b z:Int)(n0 n1 n3 n4 n5 n7 n8 n10 n11 n12 n13 n14 n15 nu:Value)(w wb:World)(wJ:Up w wb)(hA:nM wb w.heap.size n0 n1 (ZF ZG x.world.aa.change) n3 n4 n5 (ZF ZG x.world.now) n7 n8 (ZF ZG x.world.aT) n10 n11 n12 n13 n14 n15)(hC:Cq wb (w.heap.size+1) (ZF ZG t.kind) (ZF ZG t.av.label.ax) (ZF ZG t.av.label.bZ) (.string t.av.label.aX) (.string t.av.ar) (ZF ZG t.av.ab) nu (ZF ZG t.av.value) (ZF ZG t.order) (ZF ZG t.bh) (ZF ZG t.bn) (ZF ZG t.aV.bG) (ZF ZG t.aV.day))(HR:cr wb (dV wb) x n0 n1 n3 n4 n5 n7 n8 n10 n11 n12 n13 n14 n15)(HT:cf wb (dV wb) (.sl (t.av.bb.map aI)) (nu))(yT:cG x=ZA x)(Ex:fu t=ZA t)(IP:dT x t=ZA (g,b))(Gi:bJ g g=ZA ZC)(C8:gJ g 1)(Gp:gJ x 1)(Dg:bJ x x=ZA ZC)(Kk:fB t t=ZA ZC)(Gm:t.av.bb.length<=1048576)(wz:World)(zb:Nat)(yz yA yB yC yD yE yF od oe og oh oi oj:Value)(BM:Up wb wz)(IZ:nM wz zb yz yA (ZF ZG g.world.aa.change) yB yC yD (ZF ZG g.world.now) yE yF (ZF ZG g.world.aT) od oe og oh oi oj)(uV:cr wz (dV wz) g yz yA yB yC yD yE yF od oe og oh oi oj)(FH FI FJ FK FL FM FN FO FP FQ FR FT FU FV FW u32 FX FY:Value){Q:Exit->Act->World->Prop}(hQ:Q=bodyPost prog Tryz.f4 λe w'=>e=.returned (.bool ZC)/\Up w w'):
 (sF 7 Tryz.f4).wp prog Q ⟨#[.agg #[n0,n1,ZF ZG x.world.aa.change,n3,n4,n5,ZF ZG x.world.now,n7,n8,ZF ZG x.world.aT,n10,n11,n12,n13,n14,n15],.agg #[ZF ZG t.kind,ZF ZG t.av.label.ax,ZF ZG t.av.label.bZ,.string t.av.label.aX,.string t.av.ar,ZF ZG t.av.ab,nu,ZF ZG t.av.value,ZF ZG t.order,ZF ZG t.bh,ZF ZG t.bn,ZF ZG t.aV.bG,ZF ZG t.aV.day],.pointer (ZA ⟨w.heap.size,0,ZB⟩),.pointer (ZA ⟨w.heap.size+1,0,ZB⟩),.bool ZD,ZF ZG z,.pointer (ZA ⟨zb,0,ZB⟩),ZF ZG b,ZH,ZH,ZH,ZH,ZH,ZH,ZH,ZH,ZH,FH,FI,FJ,FK,FL,FM,FN,FO,FP,FQ,FR,FT,FU,FV,FW,u32,FX,FY,ZH,ZH,ZH,ZH,ZH,ZH,ZH,ZH,ZH,ZH,ZH,ZH,ZH,ZH,ZH,ZH,ZH,ZH,ZH,ZH,ZH,ZH,ZH,ZH,ZH,ZH,ZH,ZH,ZH,ZH,ZH,ZH,ZH,ZH,ZH,ZH,ZH,ZH,ZH,ZH,ZH,ZH,ZH,ZH,ZH,ZH,ZH,ZH,ZH,ZH,ZH,ZH,ZH,ZH,ZH,ZH,ZH,ZH,ZH,ZH,ZH,ZH,ZH,ZH,ZH,ZH,ZH,ZH,ZH,ZH,ZH,ZH,ZH,ZH,ZH,ZH,ZH,ZH,ZH,ZH,ZH,ZH,ZH,ZH],[]⟩ wz:=by
 simp only[sF,wS,Tryz.f4];subst hQ;have hcb:=BM.size;have a_l:=(hA.up BM).load;simp[go_sem]at a_l
 go_upto_region 9 with(fail)
 go_cut [8]from 35 to 36 (λsa wv=>∃(xb:Nat) (oX:ve) (Ab Ac Ad Ae Af Ag Ah qk ql qm qn qo qp:Value),sa=.pointer (ZA ⟨xb,0,ZB⟩)/\Up wz wv/\nM wv xb Ab Ac (ZF ZG x.world.aa.change) Ad Ae Af (ZF ZG x.world.now) Ag Ah (ZF ZG x.world.aT) qk ql qm qn qo qp/\jh wz wv x oX Ab Ac Ad Ae Af Ag Ah qk ql qm qn qo qp/\¬oX.D x xb/\wz.heap.size<=xb)
 case first=>
  go_wp2_with fail
  refine(cq.xc (CT.ok yT) rfl (Fa (HR.up BM).rep)).mono ?_;rintro e w5 ⟨oX,X0,Bb,X1,Bc,X3,Bd,X4,Be,X5,Bf,X7,Bg,X8,Bh,AP,qT,AQ,qU,AR,qV,AS,qY,AT,qZ,AU,ra,rfl,hb5,ho5⟩
  go_wp2_with fail
  go_meet
  exact⟨_,oX,.slice X0 x.world.aa.aB.length Bb,.slice X1 x.world.aa.off.length Bc,.slice X3 x.world.ae.length Bd,.slice X4 x.world.aq.length Be,.slice X5 x.world.ah.length Bf,.slice X7 x.world.aJ.length Bg,.slice X8 x.world.skip.length Bh,.slice AP x.aP.length qT,.slice AQ x.aR.length qU,.slice AR x.aF.length qV,.slice AS x.aG.length qY,.slice AT x.lines.length qZ,.slice AU x.aE.length ra,rfl,Up.step (Up.al _ (Up.rfl' _)) hb5,nM.row YJ (heap_alloc_new w5 _),ho5.up (Up.al _ (Up.rfl' _)),ho5.top,hb5.size⟩
 case rest=>
 obtain⟨xb,oX,Ab,Ac,Ad,Ae,Af,Ag,Ah,qk,ql,qm,qn,qo,qp,rfl,GR,hX,Gk,hxn,hxb⟩:=hcut;obtain⟨wx,tH⟩:∃q,q=wc:=⟨_,rfl⟩;subst tH;clear a_l;have hVx:=Up.step GR BM;have c_l:=(hC.up hVx).load;simp[go_sem]at c_l
 go_upto_region 10 with(fail)
 go_cut [9]from 35 to 38 (λsa wv=>∃(tb:Nat) (BX:cL) (tv:Value),sa=.pointer (ZA ⟨tb,0,ZB⟩)/\Up wx wv/\Cq wv tb (ZF ZG t.kind) (ZF ZG t.av.label.ax) (ZF ZG t.av.label.bZ) (.string t.av.label.aX) (.string t.av.ar) (ZF ZG t.av.ab) tv (ZF ZG t.av.value) (ZF ZG t.order) (ZF ZG t.bh) (ZF ZG t.bn) (ZF ZG t.aV.bG) (ZF ZG t.aV.day)/\iL wx wv t BX tv/\¬xT BX tb/\wx.heap.size<=tb)
 case first=>
  go_wp2_with fail
  refine(cq.ZgP (CT.ok Ex) (S:=dV _) (λ_ h=>h) rfl (Fa (uc (HT.uU hVx)))).mono ?_
  rintro e w6 ⟨BX,tX,tx_,rfl,hb6,ht6⟩
  go_wp2_with fail
  go_meet
  exact⟨_,BX,_,rfl,Up.step (Up.al _ (Up.rfl' _)) hb6,Cq.row YJ (heap_alloc_new w6 _),ht6.up (Up.al _ (Up.rfl' _)),λh=>Nat.lt_irrefl _ (ht6.lt h),hb6.size⟩
 case rest=>
 obtain⟨tb,BX,tv,rfl,EC,hY,EA,hyn,yU⟩:=hcut;obtain⟨wy,tH⟩:∃q,q=wc:=⟨_,rfl⟩;subst tH;clear c_l;have hoy:=Gk.up EC;have x_l:=(hX.up EC).load;simp[go_sem]at x_l
 have y_l:=(hY).load;simp[go_sem]at y_l
 go_upto_region 11 with(fail)
 go_cut [10,11]from 35 to 44 (λsa sb wv=>∃(gb:Nat) (oG:ve) (wq wu wA wB wC wD wE lr lu lx ly lz lA:Value),sa=.pointer (ZA ⟨gb,0,ZB⟩)/\sb=ZF ZG b/\Up wy wv/\nM wv gb wq wu (ZF ZG g.world.aa.change) wA wB wC (ZF ZG g.world.now) wD wE (ZF ZG g.world.aT) lr lu lx ly lz lA/\jh wy wv g oG wq wu wA wB wC wD wE lr lu lx ly lz lA/\¬oG.D g gb/\wy.heap.size<=gb)
 case first=>
  go_wp2_with fail
  refine(cq.DD (CT.ok IP) rfl (Ec hoy.rep.rep (uc EA.rep))).mono ?_;rintro e w7 ⟨oG,Y0,y0_,Y1,y1_,Y3,y3_,Y4,y4_,Y5,y5_,Y7,y7_,Y8,y8_,Y10,ZlO,Y11,ZlP,Y12,ZlQ,Y13,ZlR,Y14,ZlS,Y15,ZlT,rfl,Eu,ho7⟩
  go_wp2_with fail
  go_meet
  exact⟨_,oG,.slice Y0 g.world.aa.aB.length y0_,.slice Y1 g.world.aa.off.length y1_,.slice Y3 g.world.ae.length y3_,.slice Y4 g.world.aq.length y4_,.slice Y5 g.world.ah.length y5_,.slice Y7 g.world.aJ.length y7_,.slice Y8 g.world.skip.length y8_,.slice Y10 g.aP.length ZlO,.slice Y11 g.aR.length ZlP,.slice Y12 g.aF.length ZlQ,.slice Y13 g.aG.length ZlR,.slice Y14 g.lines.length ZlS,.slice Y15 g.aE.length ZlT,rfl,rfl,Up.step (Up.al _ (Up.rfl' _)) Eu,nM.row YJ (heap_alloc_new w7 _),ho7.up (Up.al _ (Up.rfl' _)),ho7.top,Eu.size⟩
 case rest=>
 obtain⟨gb,oG,wq,wu,wA,wB,wC,wD,wE,lr,lu,lx,ly,lz,lA,rfl,rfl,Eu,Gh,Gj,Ew,hgb⟩:=hcut;obtain⟨wg,tH⟩:∃q,q=wc:=⟨_,rfl⟩;subst tH;clear x_l;clear y_l;rename_i PI;refine PI _ _ ?_;exact Hi x t g b z n0 n1 n3 n4 n5 n7 n8 n10 n11 n12 n13 n14 n15 nu w wb wJ hA hC HR HT yT Ex IP Gi C8 Gp Dg Kk Gm wz zb yz yA yB yC yD yE yF od oe og oh oi oj BM IZ uV wx wy wg xb gb oX oG Ab Ac Ad Ae Af Ag Ah qk ql qm qn qo qp wq wu wA wB wC wD wE lr lu lx ly lz lA GR hX Gk hxn hxb tb BX tv EC hY EA hyn yU Eu Gh Gj Ew hgb FH FI FJ FK FL FM FN FO FP FQ FR FT FU FV FW u32 FX FY u35 u36 u37 u38 u39 u40 u41 u42 u43 u44 rfl
end Go.Proofs.YtbalgkakkoocjaaGreat
