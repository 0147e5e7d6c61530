/- A part of the proof of the statement in the last file of this claim: texts on the language of the program and on its functions. No condition. -/
import Derived.Test.YtbalgkakkoocjaaGreatCJ40
import Derived.Test.YtbalgkakkoocjaaGreatCJ1
set_option linter.unusedVariables false
set_option linter.unusedSimpArgs false
set_option linter.unusedSectionVars false
open Go.Value renaming int->ZF
open Go.IntKind renaming i64->ZG
open Go renaming undef->ZH
open Option renaming some->ZA,none->ZB
open Bool renaming true->ZC,false->ZD
open Decidable renaming decide->ZE
open Go.Proofs.Tryz
set_option maxHeartbeats 40000000
namespace Go.Proofs.YtbalgkakkoocjaaGreat
set_option maxRecDepth 10000
open Go.RowKit
set_option maxRecDepth 100000 in
theorem FnExactReplay_walk(x:ZI)(l:List ZJ)(ok:okOffice x)(okL:okS okAct l){n0 n1 n3 n4 n5 n7 n8 n10 n11 n12 n13 n14 n15 nu:Value}(w:World)(hR:cr w (dV w) x n0 n1 n3 n4 n5 n7 n8 n10 n11 n12 n13 n14 n15)(hT:cf w (dV w) (.sl (l.map ZK)) nu):
 Calls prog 5 #[.agg #[n0,n1,ZF ZG x.world.aa.change,n3,n4,n5,ZF ZG x.world.now,n7,n8,ZF ZG x.world.aT,n10,n11,n12,n13,n14,n15],nu] w λe w'=>e=.returned (.bool ZC)/\Up w w':=by
 obtain⟨nA,nc,rfl⟩:=bT hT;rw[List.length_map]at hT⊢
 rcases Ve ok with hy|⟨y,hy,hy0,hy1,ht⟩
 ·go_enter func5,ntmps5
  go_wp2_with fail
  generalize Bw:World.alloc w _=wb;have wJ:Up w wb:=by rw[<-Bw];(repeat(first|exact Up.rfl' _|(refine Up.al _ ?_) |(refine Up.dr _ ?_) |(refine Up.pE ?_) |(refine Up.sc ?_ YV _) |(refine Up.step YO ?_)))
  refine(ua hy (hR.up wJ)).mono ?_;rintro e w0 ⟨rfl,Bq⟩
  go_wp2_with fail
  go_ret
  exact⟨rfl,Up.step Bq wJ⟩
 rcases Zhr okL hy0 hy1 with hz|⟨z,hz,hz0,hta⟩
 ·go_enter func5,ntmps5
  go_wp2_with fail
  generalize Bw:World.alloc w _=wb;have wJ:Up w wb:=by rw[<-Bw];(repeat(first|exact Up.rfl' _|(refine Up.al _ ?_) |(refine Up.dr _ ?_) |(refine Up.pE ?_) |(refine Up.sc ?_ YV _) |(refine Up.step YO ?_)))
  have hbs:wb.heap.size=w.heap.size+1:=by rw[<-Bw];simp
  have hA:nM wb w.heap.size n0 n1 (ZF ZG x.world.aa.change) n3 n4 n5 (ZF ZG x.world.now) n7 n8 (ZF ZG x.world.aT) n10 n11 n12 n13 n14 n15:=nM.row (T:=69) YG (by rw[<-Bw];exact heap_alloc_new w _)
  have HR:=hR.up wJ;have HT:=hT.uU wJ;clear Bw;refine(ua hy HR).mono ?_;rintro e w0 ⟨rfl,Bq⟩
  go_wp2_with fail
  refine(Rx hz (HT.uU Bq)).mono ?_;rintro e w1 ⟨rfl,uQ⟩
  go_wp2_with fail
  go_ret
  exact⟨rfl,Up.step uQ (Up.step Bq wJ)⟩
 have AY:l.length<=1048576:=by have:=gB eJ l;omega
 have hpf:∀a∈l,PF a.av:=λa h=>Cc (p:=a.av) Zr
 have yT:=Fk ht;have Ex:=Za6 hta;obtain⟨g,b,IP,Vk,Gi,C8⟩:=ZcP ht hta;have Gp:=OF.Vx ht;have Dg:=Zej (Jh ht);have Kk:fP l l=ZA true:=Pn l AY λy hy=>Zke (hpf y hy)
 have Gm:∀a∈l,a.av.bb.length<=1048576:=λa h=>(hpf a h).bb
 have hkn:tn (yc x 1) l<=1000000000:=by
  have h1:=Gp.top;have h2:=Ng l (yc x 1);have h3:=DT (f:=λo:ZJ=>o.av.bb.length) (t:=eJ) (os:=l) λo=>by unfold eJ cS;omega
  have h4:qJ eJ l=l.length+(l.map eJ).sum:=rfl;omega
 go_enter func5,ntmps5
 go_wp2_with fail
 generalize Bw:World.alloc w _=wb;have wJ:Up w wb:=by rw[<-Bw];(repeat(first|exact Up.rfl' _|(refine Up.al _ ?_) |(refine Up.dr _ ?_) |(refine Up.pE ?_) |(refine Up.sc ?_ YV _) |(refine Up.step YO ?_)))
 have hbs:wb.heap.size=w.heap.size+1:=by rw[<-Bw];simp
 have hA:nM wb w.heap.size n0 n1 (ZF ZG x.world.aa.change) n3 n4 n5 (ZF ZG x.world.now) n7 n8 (ZF ZG x.world.aT) n10 n11 n12 n13 n14 n15:=nM.row (T:=69) YG (by rw[<-Bw];exact heap_alloc_new w _)
 have HR:=hR.up wJ;have HT:=hT.uU wJ;clear Bw;refine(ua hy HR).mono ?_;rintro e w0 ⟨rfl,Bq⟩
 go_wp2_with fail
 refine(Rx hz (HT.uU Bq)).mono ?_;rintro e w1 ⟨rfl,uQ⟩;have hV1:Up wb w1:=Up.step uQ Bq;have hW1:Up w w1:=Up.step hV1 wJ;have sV1:wb.heap.size<=w1.heap.size:=hV1.size;have hA1:=hA.up hV1;have a_l:=(hA1).load;simp[go_sem]at a_l
 go_upto_region 8 with(fail)
 go_cut [6,7]from 17 to 34 (λsa sb wv=>∃(zb:Nat) (yz yA yB yC yD yE yF od oe og oh oi oj:Value),sa=.pointer (ZA ⟨zb,0,ZB⟩)/\sb=ZF ZG b/\Up wb wv/\nM wv zb yz yA (ZF ZG g.world.aa.change) yB yC yD (ZF ZG g.world.now) yE yF (ZF ZG g.world.aT) od oe og oh oi oj/\cr wv (dV wv) g yz yA yB yC yD yE yF od oe og oh oi oj)
 case first=>
  go_wp2_with fail
  refine(cq.xc (CT.ok yT) rfl (OA (HR.up hV1).rep)).mono ?_;rintro e w2 ⟨oP,P0,p0_,P1,p1_,P3,p3_,P4,p4_,P5,p5_,P7,p7_,P8,p8_,P10,ZpU,P11,ZpV,P12,ZpW,P13,ZpX,P14,ZpY,P15,ZpZ,rfl,xj,IU⟩;have hV2:=Up.step xj hV1
  go_wp2_with fail
  refine(cq.UQ (CT.ok Ex) rfl (OA (.c (HT.uU hV2)))).mono ?_;rintro e w3 ⟨pu,pW,pB,pX,pc,rfl,Oe,ht3⟩;have hV3:=Up.step Oe hV2
  go_wp2_with fail
  refine(cq.ZfC (CT.ok Vk) rfl (Ec (IU.up Oe).rep.rep (.c ht3.rep))).mono ?_;rintro e w4 ⟨S0,s0_,S1,s1_,S3,s3_,S4,s4_,S5,s5_,S7,s7_,S8,s8_,S10,Zls,S11,Zlt,S12,Zlu,S13,Zlv,S14,Zlw,S15,Zlx,rfl,hb4,hs4⟩;have hV4:=Up.step hb4 hV3
  go_wp2_with fail
  go_meet
  exact⟨_,.slice S0 g.world.aa.aB.length s0_,.slice S1 g.world.aa.off.length s1_,.slice S3 g.world.ae.length s3_,.slice S4 g.world.aq.length s4_,.slice S5 g.world.ah.length s5_,.slice S7 g.world.aJ.length s7_,.slice S8 g.world.skip.length s8_,.slice S10 g.aP.length Zls,.slice S11 g.aR.length Zlt,.slice S12 g.aF.length Zlu,.slice S13 g.aG.length Zlv,.slice S14 g.lines.length Zlw,.slice S15 g.aE.length Zlx,rfl,rfl,Up.step (Up.al _ (Up.rfl' _)) hV4,nM.row YJ (heap_alloc_new w4 _),hs4.up (Up.al _ (Up.rfl' _))⟩
 case rest=>
 obtain⟨zb,yz,yA,yB,yC,yD,yE,yF,od,oe,og,oh,oi,oj,rfl,rfl,BM,IZ,uV⟩:=hcut;obtain⟨wz,tH⟩:∃q,q=wc:=⟨_,rfl⟩;subst tH;clear a_l;rename_i PI;refine PI _ _ ?_;exact F2 x l g b z n0 n1 n3 n4 n5 n7 n8 n10 n11 n12 n13 n14 n15 nA nc w wb wJ hA HR HT yT Ex IP Gi C8 Gp Dg Kk AY Gm hkn wz zb yz yA yB yC yD yE yF od oe og oh oi oj BM IZ uV u17 u18 u19 u20 u21 u22 u23 u24 u25 u26 u27 u28 u29 u30 u31 u32 u33 u34 rfl
end Go.Proofs.YtbalgkakkoocjaaGreat
