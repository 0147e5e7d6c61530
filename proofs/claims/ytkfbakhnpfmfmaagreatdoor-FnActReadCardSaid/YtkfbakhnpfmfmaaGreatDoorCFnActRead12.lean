/- A part of the proof of the statement in the last file of this claim: texts on the language of the program and on its functions. No condition. -/
import Derived.Test.YtkfbakhnpfmfmaaGreatDoorCFnActRead4
import Derived.Test.YtkfbakhnpfmfmaaGreatDoorCFnActRead6
set_option linter.unusedVariables false
set_option linter.unusedSimpArgs false
set_option linter.unusedSectionVars false
namespace Go.Proofs.YtkfbakhnpfmfmaaGreatDoor
set_option maxRecDepth 10000
open Go.RowKit
set_option linter.unusedVariables false
set_option maxHeartbeats 16000000
def ZeQ (code:List YB8) (s0:Int × Int):Option ((Int × Int) ⊕ Int):=
 cond (decide (s0.2<(code.length:Int)))
 (cond (decide (s0.2<4000))
 ((getI code s0.2).bind fun y1=>
 some (.inl ((IntKind.i64.wrap (BitVec.ofInt IntKind.i64.bits (w64 ((w64 ((w64 (s0.1*167))+(IntKind.i64.wrap y1.v)))+29)) &&& BitVec.ofInt IntKind.i64.bits 1073741823).toNat),(w64 (s0.2+1)))))
 (some (.inr s0.1)))
 (some (.inr s0.1))
instance (code:List YB8):Z1 (ZeQ code):=⟨fun s0=>(.sl (code.map cB8)::.un::.un::vi s0.1::vi s0.2::(U 28 [])),fun s0=>[]⟩
def Zeb (code:List YB8):Option Zp:=
 (Zj (ZeQ code) NN ((w64 (744201+(w64 (3*(code.length:Int))))),0)).bind (fun o0=>
 some (⟨code,0,o0⟩:Zp))
instance (code:List YB8):CT Tryz.prog (Zeb code):=⟨57,[.sl (code.map cB8)],[],fun r=>.be 0 0 0,fun r=>[some ⟨.of 102,3,[[.sl (r.b.map cB8),vi r.i,vi r.h]]⟩],fun H=>by replace H:=H0 H; unfold Zeb at H; exact Zd Tryz.func57 rfl Tryz.ntmps57 Tryz.results57 fun Q hQ hQn=>wk3⟩
def Zdw (y3:Int × Zp) (y4:Int × Zp) (y5:Int × Zp) (y6:Int × Zp) (s0:(List YB8) × Int × Int × ByteArray × ByteArray):Option (((List YB8) × Int × Int × ByteArray × ByteArray) ⊕ ((List YB8) × Int × Int × ByteArray × ByteArray)):=
 cond (decide (s0.2.2.2.1=s0.2.2.2.2))
 ((rhoM [0,3]).bind fun _=>
 (ZcI (⟨s0.1,s0.2.1,s0.2.2.1⟩:Zp) ([⟨#[65,77,83]⟩,⟨#[66,82,85]⟩,⟨#[67,68,71]⟩])).bind fun y7=>
 cond (decide (s0.2.2.2.1=y7.1))
 (some (.inl (y7.2.1.b,y7.2.1.i,y7.2.1.h,⟨#[68,85,66]⟩,y7.1)))
 (some (.inl (y7.2.1.b,y7.2.1.i,y7.2.1.h,s0.2.2.2.1,y7.1))))
 (some (.inr (s0.1,s0.2.1,s0.2.2.1,s0.2.2.2.1,s0.2.2.2.2)))
instance (y3:Int × Zp) (y4:Int × Zp) (y5:Int × Zp) (y6:Int × Zp):Z1 (Zdw y3 y4 y5 y6):=⟨fun s0=>(.be 0 0 0::.un::.be 1 0 0::.be 2 0 0::(U 43 [])),fun s0=>[some ⟨.of 102,3,[[.sl (s0.1.map cB8),vi s0.2.1,vi s0.2.2.1]]⟩,some ⟨.of 133,6,[[vs (⟨#[]⟩),vs (⟨#[]⟩),vi 0,vi 0,vi 0,vi 0]]⟩,some ⟨.of 133,6,[[vs s0.2.2.2.1,vs s0.2.2.2.2,vi (w64 (30*y3.1)),vi (w64 (30*(w64 (1+y4.1)))),vi (w64 (1+y5.1)),vi (w64 (1000*y6.1))]]⟩]⟩
def ZdF (c:Zp):Option (YLeg × Zp):=
 (rhoM [0]).bind fun _=>
 (Zav c).bind fun y1=>
 (rhoM [0]).bind fun _=>
 (Zav y1.2).bind fun y2=>
 (rhoM [0]).bind fun _=>
 (Zb y2.2 48).bind fun y3=>
 (rhoM [0]).bind fun _=>
 (Zb y3.2 40).bind fun y4=>
 (rhoM [0]).bind fun _=>
 (Zb y4.2 127).bind fun y5=>
 (rhoM [0]).bind fun _=>
 (Zb y5.2 60).bind fun y6=>
 (Zj (Zdw y3 y4 y5 y6) NN (y6.2.b,y6.2.i,y6.2.h,y1.1,y2.1)).bind (fun o0=>
 (rhoM [0]).bind fun _=>
 (ZN (⟨o0.1,o0.2.1,o0.2.2.1⟩:Zp) 2).bind fun y8=>
 cond y8.1
 ((rhoM [0]).bind fun _=>
 (ZN y8.2 9).bind fun y9=>
 cond y9.1
 ((rhoM [0,3]).bind fun _=>
 (ZL y9.2 ([1,1440,4320])).bind fun y10=>
 some ((⟨o0.2.2.2.1,o0.2.2.2.2,(w64 (30*y3.1)),y10.1,127,(w64 (1000*y6.1))⟩:YLeg),y10.2.1))
 (some ((⟨o0.2.2.2.1,o0.2.2.2.2,(w64 (30*y3.1)),(w64 (30*(w64 (1+y4.1)))),127,(w64 (1000*y6.1))⟩:YLeg),y9.2)))
 ((rhoM [0]).bind fun _=>
 (ZN y8.2 9).bind fun y11=>
 cond y11.1
 ((rhoM [0,3]).bind fun _=>
 (ZL y11.2 ([1,1440,4320])).bind fun y12=>
 some ((⟨o0.2.2.2.1,o0.2.2.2.2,(w64 (30*y3.1)),y12.1,(w64 (1+y5.1)),(w64 (1000*y6.1))⟩:YLeg),y12.2.1))
 (some ((⟨o0.2.2.2.1,o0.2.2.2.2,(w64 (30*y3.1)),(w64 (30*(w64 (1+y4.1)))),(w64 (1+y5.1)),(w64 (1000*y6.1))⟩:YLeg),y11.2))))
instance (c:Zp):CT Tryz.prog (ZdF c):=⟨144,[.be 0 0 0],[some ⟨.of 102,3,[[.sl (c.b.map cB8),vi c.i,vi c.h]]⟩],fun r=>.ag [vs r.1.from_,vs r.1.to_,vi r.1.start,vi r.1.takes,vi r.1.days,vi r.1.room],fun r=>[some ⟨.of 102,3,[[.sl (r.2.b.map cB8),vi r.2.i,vi r.2.h]]⟩],fun H=>by replace H:=H0 H; unfold ZdF at H; exact Zd Tryz.func144 rfl Tryz.ntmps144 Tryz.results144 fun Q hQ hQn=>wk7⟩
def Zc6 (most:Int) (y1:Int × Zp) (s0:Int × (List YB8) × Int × Int × (List YLeg)):Option ((Int × (List YB8) × Int × Int × (List YLeg)) ⊕ ((List YB8) × Int × Int × (List YLeg))):=
 cond (decide (0<s0.1))
 ((rhoM [0]).bind fun _=>
 (ZdF (⟨s0.2.1,s0.2.2.1,s0.2.2.2.1⟩:Zp)).bind fun y3=>
 (chk (Z9 ((s0.2.2.2.2:List YLeg).length+([y3.1]:List YLeg).length) 64)).bind fun _=>
 (rhoM [0]).bind fun _=>
 (ZN y3.2 3).bind fun y4=>
 cond y4.1
 (cond (decide ((((s0.2.2.2.2:List YLeg)++[y3.1]).length:Int)<most))
 ((getI ((s0.2.2.2.2:List YLeg)++[y3.1]) (w64 ((((s0.2.2.2.2:List YLeg)++[y3.1]).length:Int)-1))).bind fun y5=>
 (getI ((s0.2.2.2.2:List YLeg)++[y3.1]) (w64 ((((s0.2.2.2.2:List YLeg)++[y3.1]).length:Int)-1))).bind fun y6=>
 (drwL 8 [3]).bind fun _=>
 (rhoM [0]).bind fun _=>
 (Zb y4.2 20).bind fun y7=>
 (chk (Z9 ((((s0.2.2.2.2:List YLeg)++[y3.1]):List YLeg).length+([(⟨y5.to_,y6.from_,(Int.tmod (w64 (y3.1.start+(w64 (60*y7.1)))) 1440),y3.1.takes,y3.1.days,y3.1.room⟩:YLeg)]:List YLeg).length) 64)).bind fun _=>
 some (.inl ((w64 (s0.1-1)),y7.2.b,y7.2.i,y7.2.h,((((s0.2.2.2.2:List YLeg)++[y3.1]):List YLeg)++[(⟨y5.to_,y6.from_,(Int.tmod (w64 (y3.1.start+(w64 (60*y7.1)))) 1440),y3.1.takes,y3.1.days,y3.1.room⟩:YLeg)]))))
 (some (.inl ((w64 (s0.1-1)),y4.2.b,y4.2.i,y4.2.h,((s0.2.2.2.2:List YLeg)++[y3.1])))))
 (some (.inl ((w64 (s0.1-1)),y4.2.b,y4.2.i,y4.2.h,((s0.2.2.2.2:List YLeg)++[y3.1])))))
 (some (.inr (s0.2.1,s0.2.2.1,s0.2.2.2.1,s0.2.2.2.2)))
instance (most:Int) (y1:Int × Zp):Z1 (Zc6 most y1):=⟨fun s0=>(.be 0 0 0::vi most::.un::.un::.be 1 0 0::.be 2 0 0::vi s0.1::(U 74 [])),fun s0=>[some ⟨.of 102,3,[[.sl (s0.2.1.map cB8),vi s0.2.2.1,vi s0.2.2.2.1]]⟩,some ⟨.of 80,3,[[.v (.slice none 0 0),.v (.slice none 0 0),vi 0]]⟩,some ⟨.of 80,3,[[.ms 3,.v (.slice none 0 0),vi (w64 (15*y1.1))]]⟩,some ⟨.of 133,6,s0.2.2.2.2.map cLeg⟩]⟩
def Zdh (c:Zp) (most:Int):Option (Za × Zp):=
 (rhoM [0]).bind fun _=>
 (Zb c 9).bind fun y1=>
 (rhoM [0]).bind fun _=>
 (Zb y1.2 most).bind fun y2=>
 (Zj (Zc6 most y1) NN ((w64 (1+y2.1)),y2.2.b,y2.2.i,y2.2.h,[])).bind (fun o0=>
 (rhoM [0]).bind fun _=>
 (ZN (⟨o0.1,o0.2.1,o0.2.2.1⟩:Zp) 2).bind fun y8=>
 cond y8.1
 ((rhoM [0]).bind fun _=>
 (Zb y8.2 3).bind fun y9=>
 (rhoM [0]).bind fun _=>
 (Zb y9.2 4).bind fun y10=>
 some ((⟨o0.2.2.2,[y9.1,(w64 (3+y10.1))],(w64 (15*y1.1))⟩:Za),y10.2))
 (some ((⟨o0.2.2.2,[],(w64 (15*y1.1))⟩:Za),y8.2)))
instance (c:Zp) (most:Int):CT Tryz.prog (Zdh c most):=⟨111,[.be 0 0 0,vi most],[some ⟨.of 102,3,[[.sl (c.b.map cB8),vi c.i,vi c.h]]⟩],fun r=>.ag [.ms 1,.ms 2,vi r.1.change],fun r=>[some ⟨.of 102,3,[[.sl (r.2.b.map cB8),vi r.2.i,vi r.2.h]]⟩,some ⟨.of 133,6,r.1.legs.map cLeg⟩,some ⟨.of 3,1,r.1.off.map cInt⟩],fun H=>by replace H:=H0 H; unfold Zdh at H; exact Zd Tryz.func111 rfl Tryz.ntmps111 Tryz.results111 fun Q hQ hQn=>wk7⟩
def Zbj (c:Zp):Option ((List Int) × Zp):=
 (rhoM [0]).bind fun _=>
 (Zb c 5).bind fun y1=>
 cond (decide (y1.1=0))
 (some ([25,50,100],y1.2))
 (cond (decide (y1.1=1))
 (some ([10],y1.2))
 (cond (decide (y1.1=2))
 (some ([0,100],y1.2))
 (cond (decide (y1.1=3))
 (some ([0],y1.2))
 (cond (decide (y1.1=4))
 (some ([1,1,2,3,50,100],y1.2))
 (none)))))
instance (c:Zp):CT Tryz.prog (Zbj c):=⟨114,[.be 0 0 0],[some ⟨.of 102,3,[[.sl (c.b.map cB8),vi c.i,vi c.h]]⟩],fun r=>.sl (r.1.map cInt),fun r=>[some ⟨.of 102,3,[[.sl (r.2.b.map cB8),vi r.2.i,vi r.2.h]]⟩],fun H=>by replace H:=H0 H; unfold Zbj at H; exact Zd Tryz.func114 rfl Tryz.ntmps114 Tryz.results114 fun Q hQ hQn=>wk7⟩
end Go.Proofs.YtkfbakhnpfmfmaaGreatDoor
