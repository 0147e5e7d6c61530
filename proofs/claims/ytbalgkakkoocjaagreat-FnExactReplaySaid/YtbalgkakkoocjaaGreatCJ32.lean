/- A part of the proof of the statement in the last file of this claim: texts on the language of the program and on its functions. No condition. -/
import Derived.Test.YtbalgkakkoocjaaGreatCJ15
import Derived.Test.YtbalgkakkoocjaaGreatCJ1
set_option linter.unusedVariables false
set_option linter.unusedSimpArgs false
set_option linter.unusedSectionVars false
open Go.Value renaming int->ZF
open Go.IntKind renaming i64->ZG
open Go renaming undef->ZH
open Option renaming some->ZA,none->ZB
open Bool renaming true->ZC,false->ZD
open Decidable renaming decide->ZE
set_option maxHeartbeats 40000000
namespace Go.Proofs.YtbalgkakkoocjaaGreat
set_option maxRecDepth 10000
open Go.RowKit
set_option maxRecDepth 100000
theorem cq.ZfC{P:Program}{f:FuncId}{args:List PV}{x:ZI}{z1:Value}(h:cq P f args [] (.tu [.ag (ZM x),.v z1]) []){w:World}{vs:Array Value}(hl:vs.size=args.length)(ha:∀(i:Nat) (p:PV),args[i]?=ZA p->∃x,vs[i]?=ZA x/\cN w (E1 (dV w) (λ_=>ZB) 0) p x):
 Calls P f vs w λe a=>∃(X0:Option Addr) (Bb:Nat) (X1:Option Addr) (Bc:Nat) (X3:Option Addr) (Bd:Nat) (X4:Option Addr) (Be:Nat) (X5:Option Addr) (Bf:Nat) (X7:Option Addr) (Bg:Nat) (X8:Option Addr) (Bh:Nat) (AP:Option Addr) (qT:Nat) (AQ:Option Addr) (qU:Nat) (AR:Option Addr) (qV:Nat) (AS:Option Addr) (qY:Nat) (AT:Option Addr) (qZ:Nat) (AU:Option Addr) (ra:Nat),e=.returned (.tuple #[.agg #[.slice X0 x.world.aa.aB.length Bb,.slice X1 x.world.aa.off.length Bc,ZF ZG x.world.aa.change,.slice X3 x.world.ae.length Bd,.slice X4 x.world.aq.length Be,.slice X5 x.world.ah.length Bf,ZF ZG x.world.now,.slice X7 x.world.aJ.length Bg,.slice X8 x.world.skip.length Bh,ZF ZG x.world.aT,.slice AP x.aP.length qT,.slice AQ x.aR.length qU,.slice AR x.aF.length qV,.slice AS x.aG.length qY,.slice AT x.lines.length qZ,.slice AU x.aE.length ra],z1])/\Up w a/\cr a (dV a) x (.slice X0 x.world.aa.aB.length Bb) (.slice X1 x.world.aa.off.length Bc) (.slice X3 x.world.ae.length Bd) (.slice X4 x.world.aq.length Be) (.slice X5 x.world.ah.length Bf) (.slice X7 x.world.aJ.length Bg) (.slice X8 x.world.skip.length Bh) (.slice AP x.aP.length qT) (.slice AQ x.aR.length qU) (.slice AR x.aF.length qV) (.slice AS x.aG.length qY) (.slice AT x.lines.length qZ) (.slice AU x.aE.length ra):=by
 refine(h (dV w) (λ_=>ZB) w vs (λ_ _=>False) (Ji w) hl ha).mono ?_
 rintro e a ⟨v,E,rfl,hk,_,_,_,hr0⟩;obtain⟨u,rfl,hr⟩:=NS hr0;have hu:=wm hk;obtain⟨vs,rfl,hl,h1,hv⟩:=hr.pb;have hvl:vs.size=16:=hl;have aO:∀{j:Nat} {p:PV},j<16->[PV.sl (x.world.aa.aB.map br),.sl (x.world.aa.off.map aI),vi x.world.aa.change,.sl (x.world.ae.map aY),.sl (x.world.aq.map aC),.sl (x.world.ah.map aS),vi x.world.now,.sl (x.world.aJ.map bt),.sl (x.world.skip.map aI),vi x.world.aT,.sl (x.aP.map b6),.sl (x.aR.map b9),.sl (x.aF.map aI),.sl (x.aG.map bq),.sl (x.lines.map bD),.sl (x.aE.map ZK)][j]?=ZA p->∃x,vs[j]?=ZA x/\cN a E p x:=λ{j p} hj hp=>⟨vs[j]' YG,Array.getElem?_eq_getElem _,hv j p _ hp (Array.getElem?_eq_getElem _)⟩
 obtain⟨x0,y0,z0⟩:=aO (j:=0) YG rfl;obtain⟨x1,y1,z1⟩:=aO (j:=1) YG rfl;obtain⟨x2,y2,z2⟩:=aO (j:=2) YG rfl;obtain⟨x3,y3,z3⟩:=aO (j:=3) YG rfl;obtain⟨x4,y4,z4⟩:=aO (j:=4) YG rfl;obtain⟨x5,y5,z5⟩:=aO (j:=5) YG rfl;obtain⟨x6,y6,z6⟩:=aO (j:=6) YG rfl;obtain⟨x7,y7,z7⟩:=aO (j:=7) YG rfl;obtain⟨x8,y8,z8⟩:=aO (j:=8) YG rfl;obtain⟨x9,y9,z9⟩:=aO (j:=9) YG rfl;obtain⟨x10,eE,UJ⟩:=aO (j:=10) YG rfl;obtain⟨x11,oq,z11⟩:=aO (j:=11) YG rfl;obtain⟨x12,sj,z12⟩:=aO (j:=12) YG rfl;obtain⟨x13,re,z13⟩:=aO (j:=13) YG rfl;obtain⟨x14,px,z14⟩:=aO (j:=14) YG rfl;obtain⟨x15,tl,z15⟩:=aO (j:=15) YG rfl;have hvs:vs=#[x0,x1,x2,x3,x4,x5,x6,x7,x8,x9,x10,x11,x12,x13,x14,x15]:=by
  apply Array.ext (by simp[hvl])
  intro i hi h3;have e:=λ{j:Nat} {y:Value} (h:vs[j]?=ZA y)=>(Array.getElem?_eq_some_iff.1 h).2
  match i,hi with
  |0,_=>simpa using e y0
  |1,_=>simpa using e y1
  |2,_=>simpa using e y2
  |3,_=>simpa using e y3
  |4,_=>simpa using e y4
  |5,_=>simpa using e y5
  |6,_=>simpa using e y6
  |7,_=>simpa using e y7
  |8,_=>simpa using e y8
  |9,_=>simpa using e y9
  |10,_=>simpa using e eE
  |11,_=>simpa using e oq
  |12,_=>simpa using e sj
  |13,_=>simpa using e re
  |14,_=>simpa using e px
  |15,_=>simpa using e tl
  |i+16,hi=>omega
 obtain⟨rfl,_⟩:=z2.cF;obtain⟨rfl,_⟩:=z6.cF;obtain⟨rfl,_⟩:=z9.cF;have ex:∀{es:List (List PV)} {y:Value},cN a E (.sl es) y->cf a (dV a) (.sl es) y:=λh=>(Zao h).ext (λb hb=>hk.sz b hb) λ_ _ _=>rfl
 have hq:cr a (dV a) x x0 x1 x3 x4 x5 x7 x8 x10 x11 x12 x13 x14 x15:=⟨⟨ex z0,ex z1,ex z3,ex z4,ex z5,ex z7,ex z8⟩,ex UJ,ex z11,ex z12,ex z13,ex z14,ex z15⟩;rw[hvs];clear hvs y0 y1 y2 y3 y4 y5 y6 y7 y8 y9 eE oq sj re px tl z0 z1 z3 z4 z5 z7 z8 UJ z11 z12 z13 z14 z15;obtain⟨X0,Bb,e0⟩:=bT hq.w_.r0;obtain⟨X1,Bc,e1⟩:=bT hq.w_.r1;obtain⟨X3,Bd,e3⟩:=bT hq.w_.r3;obtain⟨X4,Be,e4⟩:=bT hq.w_.r4;obtain⟨X5,Bf,e5⟩:=bT hq.w_.r5;obtain⟨X7,Bg,e7⟩:=bT hq.w_.r7;obtain⟨X8,Bh,e8⟩:=bT hq.w_.r8;obtain⟨AP,qT,e10⟩:=bT hq.r10;obtain⟨AQ,qU,e11⟩:=bT hq.r11;obtain⟨AR,qV,e12⟩:=bT hq.r12;obtain⟨AS,qY,e13⟩:=bT hq.r13;obtain⟨AT,qZ,e14⟩:=bT hq.r14;obtain⟨AU,ra,e15⟩:=bT hq.r15;rw[List.length_map]at e0 e1 e3 e4 e5 e7 e8 e10 e11 e12 e13 e14 e15
 subst e0 e1 e3 e4 e5 e7 e8 e10 e11 e12 e13 e14 e15;exact⟨X0,Bb,X1,Bc,X3,Bd,X4,Be,X5,Bf,X7,Bg,X8,Bh,AP,qT,AQ,qU,AR,qV,AS,qY,AT,qZ,AU,ra,rfl,hu,hq⟩
end Go.Proofs.YtbalgkakkoocjaaGreat
