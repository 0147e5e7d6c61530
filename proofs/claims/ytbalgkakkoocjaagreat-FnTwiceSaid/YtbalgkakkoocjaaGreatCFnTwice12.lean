/- A part of the proof of the statement in the last file of this claim: texts on the language of the program and on its functions. No condition. -/
import Derived.Test.YtbalgkakkoocjaaGreatCFnTwice4
import Derived.Test.YtbalgkakkoocjaaGreatCFnTwice5
import Derived.Test.YtbalgkakkoocjaaGreatCFnTwice8
import Derived.Test.YtbalgkakkoocjaaGreatCFnTwice6
import Derived.Test.YtbalgkakkoocjaaGreatCFnTwice7
set_option linter.unusedVariables false
set_option linter.unusedSimpArgs false
set_option linter.unusedSectionVars false
open _root_.Int renaming toNat→Wo,tdiv→Xk
open Nat renaming le_refl→V3,min_eq_left→X4,add_mul→W6,one_mul→XM,min_eq_right→XS,mul_le_mul_right→Wu,lt_trichotomy→Xg
namespace Go.Proofs.YtbalgkakkoocjaaGreat
set_option maxRecDepth 10000
open Go.RowKit
set_option maxHeartbeats 16000000
def hZ(w:av)(fg:Int)(s0:Int×Int×Int×Int×(List bM)×(List Int)×(List az)×(List ao)×(List au)×(List Int)×(List br)):Option ((Int×Int×Int×Int×(List bM)×(List Int)×(List az)×(List ao)×(List au)×(List Int)×(List br))⊕(Int×Int×Int×(List bM)×(List Int)×(List az)×(List ao)×(List au)×(List Int)×(List br))):=
 cond (decide (s0.1<(w.ah.length:Int)))
 ((aC s0.2.2.2.2.2.2.1 s0.1).bind fun y1=>
 cond (!decide (y1.state=2))
 (some (.inl ((aL (s0.1+1)),s0.2.1,s0.2.2.1,s0.2.2.2.1,s0.2.2.2.2.1,s0.2.2.2.2.2.1,s0.2.2.2.2.2.2.1,s0.2.2.2.2.2.2.2.1,s0.2.2.2.2.2.2.2.2.1,s0.2.2.2.2.2.2.2.2.2.1,s0.2.2.2.2.2.2.2.2.2.2)))
 ((aC y1.aE y1.aJ).bind fun y2=>
 (dg (⟨s0.2.2.2.2.1,s0.2.2.2.2.2.1,w.aa.change⟩:aj) y2).bind fun y3=>
 cond (!decide (y3=fg))
 (some (.inl ((aL (s0.1+1)),s0.2.1,s0.2.2.1,s0.2.2.2.1,s0.2.2.2.2.1,s0.2.2.2.2.2.1,s0.2.2.2.2.2.2.1,s0.2.2.2.2.2.2.2.1,s0.2.2.2.2.2.2.2.2.1,s0.2.2.2.2.2.2.2.2.2.1,s0.2.2.2.2.2.2.2.2.2.2)))
 ((w7 s0.2.2.2.2.2.2.1 s0.1).bind fun y4=>
 (aC y4.aE y4.aJ).bind fun y5=>
 (w7 s0.2.2.2.2.2.2.1 s0.1).bind fun y6=>
 (aC s0.2.2.2.2.1 y5.bx).bind fun y7=>
 (w7 s0.2.2.2.2.2.2.1 s0.1).bind fun y8=>
 (A9 (s0.2.2.2.2.2.2.1.set (Wo s0.1) (⟨y6.ar,y6.aV,y6.ax,y6.ab,y6.aO,y6.dX,y6.aE,(aL (y6.aJ+1)),1,y7.aV,y6.bD⟩:az)) (fun y9=>(.be 0 0 0::vi fg::.un::.un::.be 9 0 0::vi s0.1::.be 3 (Wo s0.1) 0::.be 10 0 0::(U 10 (vi (w.ah.length:Int)::vi s0.1::(U 167 []))))) (fun y9=>[some ⟨.of 33,10,[[.ms 1,.ms 2,vi s0.2.1,.ms 3,.ms 4,.ms 5,vi s0.2.2.1,.ms 8,.ms 7,vi s0.2.2.2.1]]⟩,some ⟨.of 174,6,s0.2.2.2.2.1.map bp⟩,some ⟨.of 3,1,s0.2.2.2.2.2.1.map aG⟩,some ⟨.of 155,11,y9.map bc⟩,some ⟨.of 177,4,s0.2.2.2.2.2.2.2.1.map aB⟩,some ⟨.of 46,2,s0.2.2.2.2.2.2.2.2.1.map aS⟩,none,some ⟨.of 3,1,s0.2.2.2.2.2.2.2.2.2.1.map aG⟩,some ⟨.of 181,6,s0.2.2.2.2.2.2.2.2.2.2.map bt⟩,some ⟨.of 27,3,[[.ms 1,.ms 2,vi w.aa.change]]⟩,some ⟨.of 46,2,[[vi y5.bx,vi y5.day]]⟩])).bind fun y9=>
 (bh [0,1,2,3,4,5,8,7]).bind fun _=>
 (fq (⟨(⟨s0.2.2.2.2.1,s0.2.2.2.2.2.1,s0.2.1⟩:aj),y9,s0.2.2.2.2.2.2.2.1,s0.2.2.2.2.2.2.2.2.1,s0.2.2.1,s0.2.2.2.2.2.2.2.2.2.2,s0.2.2.2.2.2.2.2.2.2.1,s0.2.2.2.1⟩:av) (⟨(aL (s0.1+1)),fg,2,⟨#[]⟩,y5⟩:br)).bind fun dM=>
 (w7 dM.ah s0.1).bind fun jx=>
 cond (decide (jx.place=jx.aV))
 ((A9 (dM.ah.set (Wo s0.1) (⟨jx.ar,jx.aV,jx.ax,jx.ab,jx.aO,jx.dX,jx.aE,jx.aJ,3,jx.place,fg⟩:az)) (fun oV=>(.be 0 0 0::vi fg::.un::.un::.be 9 0 0::vi s0.1::.be 3 (Wo s0.1) 0::(U 11 (vi (w.ah.length:Int)::vi s0.1::(U 167 []))))) (fun oV=>[some ⟨.of 33,10,[[.ms 1,.ms 2,vi dM.aa.change,.ms 3,.ms 4,.ms 5,vi dM.now,.ms 8,.ms 7,vi dM.bd]]⟩,some ⟨.of 174,6,dM.aa.ay.map bp⟩,some ⟨.of 3,1,dM.aa.off.map aG⟩,some ⟨.of 155,11,oV.map bc⟩,some ⟨.of 177,4,dM.aq.map aB⟩,some ⟨.of 46,2,dM.ae.map aS⟩,none,some ⟨.of 3,1,dM.skip.map aG⟩,some ⟨.of 181,6,dM.aH.map bt⟩,some ⟨.of 27,3,[[.ms 1,.ms 2,vi w.aa.change]]⟩])).bind fun oV=>
 (w7 oV s0.1).bind fun lZ=>
 (bh [0,1,2,3,4,5,8,7]).bind fun _=>
 (fq (⟨dM.aa,oV,dM.aq,dM.ae,dM.now,dM.aH,dM.skip,dM.bd⟩:av) (⟨(aL (s0.1+1)),fg,4,lZ.place,(⟨0,0⟩:au)⟩:br)).bind fun kS=>
 some (.inl ((aL (s0.1+1)),kS.aa.change,kS.now,kS.bd,kS.aa.ay,kS.aa.off,kS.ah,kS.aq,kS.ae,kS.skip,kS.aH)))
 (some (.inl ((aL (s0.1+1)),dM.aa.change,dM.now,dM.bd,dM.aa.ay,dM.aa.off,dM.ah,dM.aq,dM.ae,dM.skip,dM.aH))))))
 (some (.inr (s0.2.1,s0.2.2.1,s0.2.2.2.1,s0.2.2.2.2.1,s0.2.2.2.2.2.1,s0.2.2.2.2.2.2.1,s0.2.2.2.2.2.2.2.1,s0.2.2.2.2.2.2.2.2.1,s0.2.2.2.2.2.2.2.2.2.1,s0.2.2.2.2.2.2.2.2.2.2)))
instance (w:av)(fg:Int):bm (hZ w fg):=⟨fun s0=>(.be 0 0 0::vi fg::.un::.un::.be 9 0 0::(U 13 (vi (w.ah.length:Int)::vi s0.1::(U 167 [])))),fun s0=>[some ⟨.of 33,10,[[.ms 1,.ms 2,vi s0.2.1,.ms 3,.ms 4,.ms 5,vi s0.2.2.1,.ms 8,.ms 7,vi s0.2.2.2.1]]⟩,some ⟨.of 174,6,s0.2.2.2.2.1.map bp⟩,some ⟨.of 3,1,s0.2.2.2.2.2.1.map aG⟩,some ⟨.of 155,11,s0.2.2.2.2.2.2.1.map bc⟩,some ⟨.of 177,4,s0.2.2.2.2.2.2.2.1.map aB⟩,some ⟨.of 46,2,s0.2.2.2.2.2.2.2.2.1.map aS⟩,none,some ⟨.of 3,1,s0.2.2.2.2.2.2.2.2.2.1.map aG⟩,some ⟨.of 181,6,s0.2.2.2.2.2.2.2.2.2.2.map bt⟩,some ⟨.of 27,3,[[.ms 1,.ms 2,vi w.aa.change]]⟩]⟩
def ia(w:av)(fg:Int)(o0:Int×Int×Int×(List bM)×(List Int)×(List az)×(List ao)×(List au)×(List Int)×(List br))(s1:Int×Int×Int×Int×(List bM)×(List Int)×(List az)×(List ao)×(List au)×(List Int)×(List br)):Option ((Int×Int×Int×Int×(List bM)×(List Int)×(List az)×(List ao)×(List au)×(List Int)×(List br))⊕(Int×Int×Int×(List bM)×(List Int)×(List az)×(List ao)×(List au)×(List Int)×(List br))):=
 cond (decide (s1.1<(o0.2.2.2.2.2.1.length:Int)))
 ((aC s1.2.2.2.2.2.2.1 s1.1).bind fun o9=>
 cond (decide (o9.state=1))
 (cond (decide (o9.aJ<(o9.aE.length:Int)))
 ((aC o9.aE o9.aJ).bind fun ma=>
 (dq (⟨s1.2.2.2.2.1,s1.2.2.2.2.2.1,w.aa.change⟩:aj) ma).bind fun ri=>
 cond (decide (ri=fg))
 ((w7 s1.2.2.2.2.2.2.1 s1.1).bind fun sw=>
 (A9 (s1.2.2.2.2.2.2.1.set (Wo s1.1) (⟨sw.ar,sw.aV,sw.ax,sw.ab,sw.aO,sw.dX,sw.aE,sw.aJ,2,⟨#[]⟩,sw.bD⟩:az)) (fun vW=>(.be 0 0 0::vi fg::.un::.un::.be 9 0 0::(U 3 (vi s1.1::.be 3 (Wo s1.1) 0::(U 107 (vi (o0.2.2.2.2.2.1.length:Int)::vi s1.1::(U 68 []))))))) (fun vW=>[some ⟨.of 33,10,[[.ms 1,.ms 2,vi s1.2.1,.ms 3,.ms 4,.ms 5,vi s1.2.2.1,.ms 8,.ms 7,vi s1.2.2.2.1]]⟩,some ⟨.of 174,6,s1.2.2.2.2.1.map bp⟩,some ⟨.of 3,1,s1.2.2.2.2.2.1.map aG⟩,some ⟨.of 155,11,vW.map bc⟩,some ⟨.of 177,4,s1.2.2.2.2.2.2.2.1.map aB⟩,some ⟨.of 46,2,s1.2.2.2.2.2.2.2.2.1.map aS⟩,none,some ⟨.of 3,1,s1.2.2.2.2.2.2.2.2.2.1.map aG⟩,some ⟨.of 181,6,s1.2.2.2.2.2.2.2.2.2.2.map bt⟩,some ⟨.of 27,3,[[.ms 1,.ms 2,vi w.aa.change]]⟩])).bind fun vW=>
 (ll 8 [15]).bind fun _=>
 (w7 vW s1.1).bind fun Bj=>
 (aC Bj.aE Bj.aJ).bind fun xX=>
 (bh [0,1,2,3,4,5,8,7]).bind fun _=>
 (fq (⟨(⟨s1.2.2.2.2.1,s1.2.2.2.2.2.1,s1.2.1⟩:aj),vW,s1.2.2.2.2.2.2.2.1,s1.2.2.2.2.2.2.2.2.1,s1.2.2.1,s1.2.2.2.2.2.2.2.2.2.2,s1.2.2.2.2.2.2.2.2.2.1,s1.2.2.2.1⟩:av) (⟨(aL (s1.1+1)),fg,3,⟨#[]⟩,xX⟩:br)).bind fun AX=>
 some (.inl ((aL (s1.1+1)),AX.aa.change,AX.now,AX.bd,AX.aa.ay,AX.aa.off,AX.ah,AX.aq,AX.ae,AX.skip,AX.aH)))
 (some (.inl ((aL (s1.1+1)),s1.2.1,s1.2.2.1,s1.2.2.2.1,s1.2.2.2.2.1,s1.2.2.2.2.2.1,s1.2.2.2.2.2.2.1,s1.2.2.2.2.2.2.2.1,s1.2.2.2.2.2.2.2.2.1,s1.2.2.2.2.2.2.2.2.2.1,s1.2.2.2.2.2.2.2.2.2.2))))
 (some (.inl ((aL (s1.1+1)),s1.2.1,s1.2.2.1,s1.2.2.2.1,s1.2.2.2.2.1,s1.2.2.2.2.2.1,s1.2.2.2.2.2.2.1,s1.2.2.2.2.2.2.2.1,s1.2.2.2.2.2.2.2.2.1,s1.2.2.2.2.2.2.2.2.2.1,s1.2.2.2.2.2.2.2.2.2.2))))
 (some (.inl ((aL (s1.1+1)),s1.2.1,s1.2.2.1,s1.2.2.2.1,s1.2.2.2.2.1,s1.2.2.2.2.2.1,s1.2.2.2.2.2.2.1,s1.2.2.2.2.2.2.2.1,s1.2.2.2.2.2.2.2.2.1,s1.2.2.2.2.2.2.2.2.2.1,s1.2.2.2.2.2.2.2.2.2.2))))
 (some (.inr (s1.2.1,s1.2.2.1,s1.2.2.2.1,s1.2.2.2.2.1,s1.2.2.2.2.2.1,s1.2.2.2.2.2.2.1,s1.2.2.2.2.2.2.2.1,s1.2.2.2.2.2.2.2.2.1,s1.2.2.2.2.2.2.2.2.2.1,s1.2.2.2.2.2.2.2.2.2.2)))
instance (w:av)(fg:Int)(o0:Int×Int×Int×(List bM)×(List Int)×(List az)×(List ao)×(List au)×(List Int)×(List br)):bm (ia w fg o0):=⟨fun s1=>(.be 0 0 0::vi fg::.un::.un::.be 9 0 0::(U 112 (vi (o0.2.2.2.2.2.1.length:Int)::vi s1.1::(U 68 [])))),fun s1=>[some ⟨.of 33,10,[[.ms 1,.ms 2,vi s1.2.1,.ms 3,.ms 4,.ms 5,vi s1.2.2.1,.ms 8,.ms 7,vi s1.2.2.2.1]]⟩,some ⟨.of 174,6,s1.2.2.2.2.1.map bp⟩,some ⟨.of 3,1,s1.2.2.2.2.2.1.map aG⟩,some ⟨.of 155,11,s1.2.2.2.2.2.2.1.map bc⟩,some ⟨.of 177,4,s1.2.2.2.2.2.2.2.1.map aB⟩,some ⟨.of 46,2,s1.2.2.2.2.2.2.2.2.1.map aS⟩,none,some ⟨.of 3,1,s1.2.2.2.2.2.2.2.2.2.1.map aG⟩,some ⟨.of 181,6,s1.2.2.2.2.2.2.2.2.2.2.map bt⟩,some ⟨.of 27,3,[[.ms 1,.ms 2,vi w.aa.change]]⟩]⟩
def mu(w:av)(fg:Int):Option av:=
 (aD (hZ w fg) NN (0,w.aa.change,w.now,w.bd,w.aa.ay,w.aa.off,w.ah,w.aq,w.ae,w.skip,w.aH)).bind (fun o0=>
 (aD (ia w fg o0) NN (0,o0.1,o0.2.1,o0.2.2.1,o0.2.2.2.1,o0.2.2.2.2.1,o0.2.2.2.2.2.1,o0.2.2.2.2.2.2.1,o0.2.2.2.2.2.2.2.1,o0.2.2.2.2.2.2.2.2.1,o0.2.2.2.2.2.2.2.2.2)).bind (fun o1=>
 some (⟨(⟨o1.2.2.2.1,o1.2.2.2.2.1,o1.1⟩:aj),o1.2.2.2.2.2.1,o1.2.2.2.2.2.2.1,o1.2.2.2.2.2.2.2.1,fg,o1.2.2.2.2.2.2.2.2.2,o1.2.2.2.2.2.2.2.2.1,o1.2.2.1⟩:av)))
instance (w:av)(fg:Int):CT Tryz.prog (mu w fg):=⟨209,[.be 0 0 0,vi fg],[some ⟨.of 33,10,[[.ms 1,.ms 2,vi w.aa.change,.ms 3,.ms 4,.ms 5,vi w.now,.ms 6,.ms 7,vi w.bd]]⟩,some ⟨.of 174,6,w.aa.ay.map bp⟩,some ⟨.of 3,1,w.aa.off.map aG⟩,some ⟨.of 155,11,w.ah.map bc⟩,some ⟨.of 177,4,w.aq.map aB⟩,some ⟨.of 46,2,w.ae.map aS⟩,some ⟨.of 181,6,w.aH.map bt⟩,some ⟨.of 3,1,w.skip.map aG⟩],fun r=>.tu [],fun r=>[some ⟨.of 33,10,[[.ms 1,.ms 2,vi r.aa.change,.ms 3,.ms 4,.ms 5,vi r.now,.ms 8,.ms 7,vi r.bd]]⟩,some ⟨.of 174,6,r.aa.ay.map bp⟩,some ⟨.of 3,1,r.aa.off.map aG⟩,some ⟨.of 155,11,r.ah.map bc⟩,some ⟨.of 177,4,r.aq.map aB⟩,some ⟨.of 46,2,r.ae.map aS⟩,none,some ⟨.of 3,1,r.skip.map aG⟩,some ⟨.of 181,6,r.aH.map bt⟩],fun H=>by replace H:=H0 H;unfold mu at H;exact aA Tryz.func209 rfl Tryz.ntmps209 Tryz.results209 fun Q hQ cR=>dU⟩
def cf(n:aj)(l:List ao)(ae:List au)(bx:Int)(kG:Int)(ab:Int)(s0:Int):Option (Int⊕(Unit⊕Int)):=
 cond (decide (s0≤60))
 ((cx n bx s0).bind fun y1=>
 cond y1
 ((bq n (⟨bx,s0⟩:au)).bind fun y2=>
 cond (decide (kG≤y2))
 ((df ae (⟨bx,s0⟩:au)).bind fun y3=>
 cond (!y3)
 ((aC n.ay bx).bind fun y4=>
 (cY l (⟨bx,s0⟩:au)).bind fun y5=>
 cond (decide (ab≤(aL (y4.fy-y5))))
 (some (.inr (.inr s0)))
 (some (.inl (aL (s0+1)))))
 (some (.inl (aL (s0+1)))))
 (some (.inl (aL (s0+1)))))
 (some (.inl (aL (s0+1)))))
 (some (.inr (.inl ())))
instance (n:aj)(l:List ao)(ae:List au)(bx:Int)(kG:Int)(ab:Int):bm (cf n l ae bx kG ab):=⟨fun s0=>(.un::.sl (l.map aB)::.sl (ae.map aS)::vi bx::vi kG::vi ab::.be 0 0 0::(U 6 (vi s0::(U 40 [])))),fun s0=>[some ⟨.of 27,3,[[.sl (n.ay.map bp),.sl (n.off.map aG),vi n.change]]⟩]⟩
def cz(n:aj)(l:List ao)(ae:List au)(bx:Int)(kG:Int)(ab:Int):Option Int:=
 (aD (cf n l ae bx kG ab) NN 0).bind (bl (fun o0=>
 some (-1)) (fun r=>some r))
instance (n:aj)(l:List ao)(ae:List au)(bx:Int)(kG:Int)(ab:Int):CT Tryz.prog (cz n l ae bx kG ab):=⟨344,[.ag (bA n),.sl (l.map aB),.sl (ae.map aS),vi bx,vi kG,vi ab],[],fun r=>vi r,fun r=>[],fun H=>by replace H:=H0 H;unfold cz at H;exact aA Tryz.func344 rfl Tryz.ntmps344 Tryz.results344 fun Q hQ cR=>dU⟩
def ew(n:aj)(l:List ao)(ae:List au)(ab:Int)(places:List ByteArray)(gB:List Int)(mY:Int)(s0:Int×(List Int)):Option ((Int×(List Int))⊕(List Int)):=
 cond (decide (s0.1<(n.ay.length:Int)))
 ((aC n.ay s0.1).bind fun y2=>
 (cb places y2.ar).bind fun y3=>
 (aC n.ay s0.1).bind fun y4=>
 (cb places y4.aV).bind fun y5=>
 (aC gB y3).bind fun y6=>
 cond (decide (y6<0))
 (some (.inl ((aL (s0.1+1)),s0.2)))
 ((aC gB y3).bind fun y7=>
 (cN n y7 (decide (y3=mY))).bind fun y8=>
 (cz n l ae s0.1 y8 ab).bind fun y9=>
 cond (decide (y9<0))
 (some (.inl ((aL (s0.1+1)),s0.2)))
 ((bn n (⟨s0.1,y9⟩:au)).bind fun dM=>
 (aC s0.2 y5).bind fun jx=>
 cond (decide (jx<0))
 ((aC s0.2 y5).bind fun oV=>
 some (.inl ((aL (s0.1+1)),(s0.2.set (Wo y5) dM))))
 ((aC s0.2 y5).bind fun lZ=>
 cond (decide (dM<lZ))
 ((aC s0.2 y5).bind fun kS=>
 some (.inl ((aL (s0.1+1)),(s0.2.set (Wo y5) dM))))
 (some (.inl ((aL (s0.1+1)),s0.2)))))))
 (some (.inr s0.2))
instance (n:aj)(l:List ao)(ae:List au)(ab:Int)(places:List ByteArray)(gB:List Int)(mY:Int):bm (ew n l ae ab places gB mY):=⟨fun s0=>(.un::.sl (l.map aB)::.sl (ae.map aS)::vi ab::.sl (places.map jH)::.sl (gB.map aG)::vi mY::.be 0 0 0::(U 7 (.ms 1::vi s0.1::(U 74 [])))),fun s0=>[some ⟨.of 27,3,[[.sl (n.ay.map bp),.sl (n.off.map aG),vi n.change]]⟩,some ⟨.of 3,1,s0.2.map aG⟩]⟩
def dK(n:aj)(l:List ao)(ae:List au)(ab:Int)(places:List ByteArray)(gB:List Int)(mY:Int):Option (List Int):=
 (dR gB).bind fun y1=>
 (aD (ew n l ae ab places gB mY) NN (0,y1)).bind (fun o0=>
 some o0)
instance (n:aj)(l:List ao)(ae:List au)(ab:Int)(places:List ByteArray)(gB:List Int)(mY:Int):CT Tryz.prog (dK n l ae ab places gB mY):=⟨343,[.ag (bA n),.sl (l.map aB),.sl (ae.map aS),vi ab,.sl (places.map jH),.sl (gB.map aG),vi mY],[],fun r=>.ms 0,fun r=>[some ⟨.of 3,1,r.map aG⟩],fun H=>by replace H:=H0 H;unfold dK at H;exact aA Tryz.func343 rfl Tryz.ntmps343 Tryz.results343 fun Q hQ cR=>dU⟩
def iO(n:aj)(l:List ao)(ae:List au)(ab:Int)(ay:Int)(y1:(List ByteArray))(y2:Int)(s0:Int×(List Int)):Option ((Int×(List Int))⊕(List Int)):=
 cond (decide (s0.1<ay))
 (cond (decide (s0.1<(y1.length:Int)))
 ((dK n l ae ab y1 s0.2 y2).bind fun y5=>
 some (.inl ((aL (s0.1+1)),y5)))
 (some (.inr s0.2)))
 (some (.inr s0.2))
instance (n:aj)(l:List ao)(ae:List au)(ab:Int)(ay:Int)(y1:(List ByteArray))(y2:Int):bm (iO n l ae ab ay y1 y2):=⟨fun s0=>(.un::.sl (l.map aB)::.sl (ae.map aS)::.un::.un::vi ab::vi ay::.be 0 0 0::(U 7 (.ms 1::vi y2::.ms 2::vi s0.1::(U 50 [])))),fun s0=>[some ⟨.of 27,3,[[.sl (n.ay.map bp),.sl (n.off.map aG),vi n.change]]⟩,some ⟨.of 9,1,y1.map jH⟩,some ⟨.of 3,1,s0.2.map aG⟩]⟩
def dc(n:aj)(l:List ao)(ae:List au)(fa:ByteArray)(kG:Int)(ab:Int)(ay:Int):Option (List Int):=
 (de n).bind fun y1=>
 (cb y1 fa).bind fun y2=>
 (eH n l).bind fun y3=>
 cond (!y3)
 (some ([]:List Int))
 (cond (decide (y2<0))
 (some ([]:List Int))
 (cond (decide (100000<kG))
 (some ([]:List Int))
 (cond (decide (ab<1))
 (some ([]:List Int))
 (cond (decide (ay<0))
 (some ([]:List Int))
 ((gX y1 y2 kG).bind fun y4=>
 (aD (iO n l ae ab ay y1 y2) NN (0,y4)).bind (fun o0=>
 some o0))))))
instance (n:aj)(l:List ao)(ae:List au)(fa:ByteArray)(kG:Int)(ab:Int)(ay:Int):CT Tryz.prog (dc n l ae fa kG ab ay):=⟨322,[.ag (bA n),.sl (l.map aB),.sl (ae.map aS),vs fa,vi kG,vi ab,vi ay],[],fun r=>.ms 0,fun r=>[some ⟨.of 3,1,r.map aG⟩],fun H=>by replace H:=H0 H;unfold dc at H;exact aA Tryz.func322 rfl Tryz.ntmps322 Tryz.results322 fun Q hQ cR=>dU⟩
def iU(n:aj)(l:List ao)(ae:List au)(ab:Int)(places:List ByteArray)(before:List Int)(mY:Int)(aV:Int)(ends:Int)(s0:Int):Option (Int⊕(Unit⊕au)):=
 cond (decide (s0<(n.ay.length:Int)))
 ((aC n.ay s0).bind fun y1=>
 (cb places y1.ar).bind fun y2=>
 (aC n.ay s0).bind fun y3=>
 (aC places aV).bind fun y4=>
 cond (!decide (y3.aV=y4))
 (some (.inl (aL (s0+1))))
 ((aC before y2).bind fun y5=>
 cond (decide (y5<0))
 (some (.inl (aL (s0+1))))
 ((aC before y2).bind fun y6=>
 (cN n y6 (decide (y2=mY))).bind fun y7=>
 (cz n l ae s0 y7 ab).bind fun y8=>
 cond (decide (0≤y8))
 ((bn n (⟨s0,y8⟩:au)).bind fun y9=>
 cond (decide (y9=ends))
 (some (.inr (.inr (⟨s0,y8⟩:au))))
 (some (.inl (aL (s0+1)))))
 (some (.inl (aL (s0+1)))))))
 (some (.inr (.inl ())))
instance (n:aj)(l:List ao)(ae:List au)(ab:Int)(places:List ByteArray)(before:List Int)(mY:Int)(aV:Int)(ends:Int):bm (iU n l ae ab places before mY aV ends):=⟨fun s0=>(.un::.sl (l.map aB)::.sl (ae.map aS)::vi ab::.sl (places.map jH)::.sl (before.map aG)::vi mY::vi aV::vi ends::.be 0 0 0::(U 8 (.be 1 0 0::vi s0::(U 64 [])))),fun s0=>[some ⟨.of 27,3,[[.sl (n.ay.map bp),.sl (n.off.map aG),vi n.change]]⟩,some ⟨.of 46,2,[[vi 0,vi 0]]⟩]⟩
def pn(n:aj)(l:List ao)(ae:List au)(ab:Int)(places:List ByteArray)(before:List Int)(mY:Int)(aV:Int)(ends:Int):Option au:=
 (aD (iU n l ae ab places before mY aV ends) NN 0).bind (bl (fun o0=>
 some (⟨0,0⟩:au)) (fun r=>some r))
instance (n:aj)(l:List ao)(ae:List au)(ab:Int)(places:List ByteArray)(before:List Int)(mY:Int)(aV:Int)(ends:Int):CT Tryz.prog (pn n l ae ab places before mY aV ends):=⟨323,[.ag (bA n),.sl (l.map aB),.sl (ae.map aS),vi ab,.sl (places.map jH),.sl (before.map aG),vi mY,vi aV,vi ends],[],fun r=>.ag [vi r.bx,vi r.day],fun r=>[],fun H=>by replace H:=H0 H;unfold pn at H;exact aA Tryz.func323 rfl Tryz.ntmps323 Tryz.results323 fun Q hQ cR=>dU⟩
def ft(n:aj)(l:List ao)(ae:List au)(fa:ByteArray)(oY:Int)(ab:Int)(y1:(List ByteArray))(y2:Int)(y3:Int)(y6:Int)(s0:Int):Option (Int⊕Int):=
 (dc n l ae fa oY ab s0).bind fun y7=>
 (aC y7 y3).bind fun y8=>
 cond (!decide (y8=y6))
 (some (.inl (aL (s0+1))))
 (some (.inr s0))
instance (n:aj)(l:List ao)(ae:List au)(fa:ByteArray)(oY:Int)(ab:Int)(y1:(List ByteArray))(y2:Int)(y3:Int)(y6:Int):bm (ft n l ae fa oY ab y1 y2 y3 y6):=⟨fun s0=>(.un::.sl (l.map aB)::.sl (ae.map aS)::vs fa::.un::vi oY::vi ab::.be 0 0 0::(U 8 (.ms 1::vi y2::vi y3::.un::.ms 2::vi y6::vi s0::(U 97 [])))),fun s0=>[some ⟨.of 27,3,[[.sl (n.ay.map bp),.sl (n.off.map aG),vi n.change]]⟩,some ⟨.of 9,1,y1.map jH⟩,some ⟨.of 46,2,([]:List au).map aS⟩]⟩
def dQ(n:aj)(l:List ao)(ae:List au)(fa:ByteArray)(oY:Int)(ab:Int)(y1:(List ByteArray))(y2:Int)(s1:Int×Int×Int×(List au)):Option ((Int×Int×Int×(List au))⊕(List au)):=
 cond (decide (0<s1.2.2.1))
 ((dc n l ae fa oY ab (aL (s1.2.2.1-1))).bind fun y9=>
 (pn n l ae ab y1 y9 y2 s1.1 s1.2.1).bind fun dM=>
 (cL (bo (([dM]:List au).length+(s1.2.2.2:List au).length) 16)).bind fun _=>
 (aC n.ay dM.bx).bind fun jx=>
 (cb y1 jx.ar).bind fun oV=>
 (aC y9 oV).bind fun lZ=>
 some (.inl (oV,lZ,(aL (s1.2.2.1-1)),(([dM]:List au)++s1.2.2.2))))
 (some (.inr s1.2.2.2))
instance (n:aj)(l:List ao)(ae:List au)(fa:ByteArray)(oY:Int)(ab:Int)(y1:(List ByteArray))(y2:Int):bm (dQ n l ae fa oY ab y1 y2):=⟨fun s1=>(.un::.sl (l.map aB)::.sl (ae.map aS)::vs fa::.un::vi oY::vi ab::.be 0 0 0::(U 8 (.ms 1::vi y2::vi s1.1::.un::.ms 2::vi s1.2.1::.un::vi s1.2.2.1::(U 96 [])))),fun s1=>[some ⟨.of 27,3,[[.sl (n.ay.map bp),.sl (n.off.map aG),vi n.change]]⟩,some ⟨.of 9,1,y1.map jH⟩,some ⟨.of 46,2,s1.2.2.2.map aS⟩]⟩
def bE(n:aj)(l:List ao)(ae:List au)(fa:ByteArray)(aV:ByteArray)(oY:Int)(ab:Int):Option ((List au)×Bool):=
 (de n).bind fun y1=>
 (cb y1 fa).bind fun y2=>
 (cb y1 aV).bind fun y3=>
 (dc n l ae fa oY ab (y1.length:Int)).bind fun y4=>
 cond (decide (y3<0))
 (some (([]:List au),false))
 (cond (decide ((y4.length:Int)=0))
 (some (([]:List au),false))
 ((aC y4 y3).bind fun y5=>
 cond (decide (y5<0))
 (some (([]:List au),false))
 ((aC y4 y3).bind fun y6=>
 (aD (ft n l ae fa oY ab y1 y2 y3 y6) NN 0).bind (fun o0=>
 (aD (dQ n l ae fa oY ab y1 y2) NN (y3,y6,o0,([]:List au))).bind (fun o1=>
 some (o1,true))))))
instance (n:aj)(l:List ao)(ae:List au)(fa:ByteArray)(aV:ByteArray)(oY:Int)(ab:Int):CT Tryz.prog (bE n l ae fa aV oY ab):=⟨293,[.ag (bA n),.sl (l.map aB),.sl (ae.map aS),vs fa,vs aV,vi oY,vi ab],[],fun r=>.tu [.ms 0,vb r.2],fun r=>[some ⟨.of 46,2,r.1.map aS⟩],fun H=>by replace H:=H0 H;unfold bE at H;exact aA Tryz.func293 rfl Tryz.ntmps293 Tryz.results293 fun Q hQ cR=>dU⟩
def pI(l:List ao)(b:ao)(s0:Int):Option (Int⊕Int):=
 cond (decide (s0<(l.length:Int)))
 ((aC l s0).bind fun y1=>
 (lj y1 b).bind fun y2=>
 cond y2
 (some (.inl (aL (s0+1))))
 (some (.inr s0)))
 (some (.inr s0))
instance (l:List ao)(b:ao):bm (pI l b):=⟨fun s0=>(.sl (l.map aB)::.un::.un::.be 0 0 0::.un::vi s0::(U 25 [])),fun s0=>[some ⟨.of 177,4,[[vi b.bk,vi b.bf.bx,vi b.bf.day,vi b.ab]]⟩]⟩
def nh(l:List ao)(b:ao):Option (List ao):=
 (aD (pI l b) NN 0).bind (fun o0=>
 (cL (gA 0 o0 l.length)).bind fun _=>
 (jZ (cD l 0 o0)).bind fun y3=>
 (cL (bo ((y3:List ao).length+([b]:List ao).length) 32)).bind fun _=>
 (cL (gA o0 (l.length:Int) l.length)).bind fun _=>
 (cL (bo ((((y3:List ao)++[b]):List ao).length+((cD l o0 (l.length:Int)):List ao).length) 32)).bind fun _=>
 some ((((y3:List ao)++[b]):List ao)++(cD l o0 (l.length:Int))))
instance (l:List ao)(b:ao):CT Tryz.prog (nh l b):=⟨324,[.sl (l.map aB),.ag (aB b)],[],fun r=>.ms 0,fun r=>[some ⟨.of 177,4,r.map aB⟩],fun H=>by replace H:=H0 H;unfold nh at H;exact aA Tryz.func324 rfl Tryz.ntmps324 Tryz.results324 fun Q hQ cR=>dU⟩
def lM(n:aj)(l:List ao)(bk:Int)(ab:Int)(aE:List au)(s0:Int×(List ao)):Option ((Int×(List ao))⊕(List ao)):=
 cond (decide (s0.1<(aE.length:Int)))
 ((aC aE s0.1).bind fun y3=>
 (nh s0.2 (⟨bk,y3,ab⟩:ao)).bind fun y4=>
 some (.inl ((aL (s0.1+1)),y4)))
 (some (.inr s0.2))
instance (n:aj)(l:List ao)(bk:Int)(ab:Int)(aE:List au):bm (lM n l bk ab aE):=⟨fun s0=>(.un::.sl (l.map aB)::vi bk::vi ab::.sl (aE.map aS)::.be 0 0 0::(U 6 (.ms 1::vi s0.1::(U 34 [])))),fun s0=>[some ⟨.of 27,3,[[.sl (n.ay.map bp),.sl (n.off.map aG),vi n.change]]⟩,some ⟨.of 177,4,s0.2.map aB⟩]⟩
def ck(n:aj)(l:List ao)(bk:Int)(ab:Int)(aE:List au):Option ((List ao)×Bool):=
 (jZ l).bind fun y1=>
 (eH n l).bind fun y2=>
 cond (!y2)
 (some (y1,false))
 (cond (decide (20<(aE.length:Int)))
 (some (y1,false))
 ((aD (lM n l bk ab aE) NN (0,y1)).bind (fun o0=>
 (eH n o0).bind fun y5=>
 cond (!y5)
 ((jZ l).bind fun y6=>
 some (y6,false))
 (some (o0,true)))))
instance (n:aj)(l:List ao)(bk:Int)(ab:Int)(aE:List au):CT Tryz.prog (ck n l bk ab aE):=⟨294,[.ag (bA n),.sl (l.map aB),vi bk,vi ab,.sl (aE.map aS)],[],fun r=>.tu [.ms 0,vb r.2],fun r=>[some ⟨.of 177,4,r.1.map aB⟩],fun H=>by replace H:=H0 H;unfold ck at H;exact aA Tryz.func294 rfl Tryz.ntmps294 Tryz.results294 fun Q hQ cR=>dU⟩
def iP(n:aj)(l:List ao)(bk:Int)(fJ:Int)(y1:Bool)(s0:Int×(List ao)):Option ((Int×(List ao))⊕(List ao)):=
 cond (decide (s0.1<(l.length:Int)))
 (cond (!y1)
 ((aC l s0.1).bind fun y2=>
 (cL (bo ((s0.2:List ao).length+([y2]:List ao).length) 32)).bind fun _=>
 some (.inl ((aL (s0.1+1)),((s0.2:List ao)++[y2]))))
 ((aC l s0.1).bind fun y3=>
 cond (!decide (y3.bk=bk))
 ((aC l s0.1).bind fun y4=>
 (cL (bo ((s0.2:List ao).length+([y4]:List ao).length) 32)).bind fun _=>
 some (.inl ((aL (s0.1+1)),((s0.2:List ao)++[y4]))))
 ((aC l s0.1).bind fun y5=>
 (bq n y5.bf).bind fun y6=>
 cond (decide (y6<fJ))
 ((aC l s0.1).bind fun y7=>
 (cL (bo ((s0.2:List ao).length+([y7]:List ao).length) 32)).bind fun _=>
 some (.inl ((aL (s0.1+1)),((s0.2:List ao)++[y7]))))
 (some (.inl ((aL (s0.1+1)),s0.2))))))
 (some (.inr s0.2))
instance (n:aj)(l:List ao)(bk:Int)(fJ:Int)(y1:Bool):bm (iP n l bk fJ y1):=⟨fun s0=>(.un::.sl (l.map aB)::vi bk::vi fJ::.be 0 0 0::(U 4 (.ms 1::vb y1::vi s0.1::(U 40 [])))),fun s0=>[some ⟨.of 27,3,[[.sl (n.ay.map bp),.sl (n.off.map aG),vi n.change]]⟩,some ⟨.of 177,4,s0.2.map aB⟩]⟩
def kZ(n:aj)(l:List ao)(bk:Int)(fJ:Int):Option (List ao):=
 (eH n l).bind fun y1=>
 (aD (iP n l bk fJ y1) NN (0,([]:List ao))).bind (fun o0=>
 some o0)
instance (n:aj)(l:List ao)(bk:Int)(fJ:Int):CT Tryz.prog (kZ n l bk fJ):=⟨300,[.ag (bA n),.sl (l.map aB),vi bk,vi fJ],[],fun r=>.ms 0,fun r=>[some ⟨.of 177,4,r.map aB⟩],fun H=>by replace H:=H0 H;unfold kZ at H;exact aA Tryz.func300 rfl Tryz.ntmps300 Tryz.results300 fun Q hQ cR=>dU⟩
def ka(n:aj)(bx:Int)(mO:Int)(s0:Int):Option (Int⊕(Unit⊕Int)):=
 cond (decide (s0≤60))
 ((cx n bx s0).bind fun y1=>
 cond y1
 ((bq n (⟨bx,s0⟩:au)).bind fun y2=>
 cond (decide (mO≤y2))
 (some (.inr (.inr s0)))
 (some (.inl (aL (s0+1)))))
 (some (.inl (aL (s0+1)))))
 (some (.inr (.inl ())))
instance (n:aj)(bx:Int)(mO:Int):bm (ka n bx mO):=⟨fun s0=>(.un::vi bx::vi mO::.be 0 0 0::(U 3 (vi s0::(U 18 [])))),fun s0=>[some ⟨.of 27,3,[[.sl (n.ay.map bp),.sl (n.off.map aG),vi n.change]]⟩]⟩
def jd(n:aj)(bx:Int)(mO:Int):Option Int:=
 (aD (ka n bx mO) NN 0).bind (bl (fun o0=>
 some (-1)) (fun r=>some r))
instance (n:aj)(bx:Int)(mO:Int):CT Tryz.prog (jd n bx mO):=⟨306,[.ag (bA n),vi bx,vi mO],[],fun r=>vi r,fun r=>[],fun H=>by replace H:=H0 H;unfold jd at H;exact aA Tryz.func306 rfl Tryz.ntmps306 Tryz.results306 fun Q hQ cR=>dU⟩
def nT(n:aj)(places:List ByteArray)(gB:List Int)(fa:Int)(s0:Int×(List Int)):Option ((Int×(List Int))⊕(List Int)):=
 cond (decide (s0.1<(n.ay.length:Int)))
 ((aC n.ay s0.1).bind fun y2=>
 (cb places y2.ar).bind fun y3=>
 (aC n.ay s0.1).bind fun y4=>
 (cb places y4.aV).bind fun y5=>
 (aC gB y3).bind fun y6=>
 cond (decide (y6<0))
 (some (.inl ((aL (s0.1+1)),s0.2)))
 ((aC gB y3).bind fun y7=>
 (cN n y7 (decide (y3=fa))).bind fun y8=>
 (jd n s0.1 y8).bind fun y9=>
 cond (decide (y9<0))
 (some (.inl ((aL (s0.1+1)),s0.2)))
 ((bn n (⟨s0.1,y9⟩:au)).bind fun dM=>
 (aC s0.2 y5).bind fun jx=>
 cond (decide (jx<0))
 ((aC s0.2 y5).bind fun oV=>
 some (.inl ((aL (s0.1+1)),(s0.2.set (Wo y5) dM))))
 ((aC s0.2 y5).bind fun lZ=>
 cond (decide (dM<lZ))
 ((aC s0.2 y5).bind fun kS=>
 some (.inl ((aL (s0.1+1)),(s0.2.set (Wo y5) dM))))
 (some (.inl ((aL (s0.1+1)),s0.2)))))))
 (some (.inr s0.2))
instance (n:aj)(places:List ByteArray)(gB:List Int)(fa:Int):bm (nT n places gB fa):=⟨fun s0=>(.un::.sl (places.map jH)::.sl (gB.map aG)::vi fa::.be 0 0 0::(U 4 (.ms 1::vi s0.1::(U 71 [])))),fun s0=>[some ⟨.of 27,3,[[.sl (n.ay.map bp),.sl (n.off.map aG),vi n.change]]⟩,some ⟨.of 3,1,s0.2.map aG⟩]⟩
def oD(n:aj)(places:List ByteArray)(gB:List Int)(fa:Int):Option (List Int):=
 (dR gB).bind fun y1=>
 (aD (nT n places gB fa) NN (0,y1)).bind (fun o0=>
 some o0)
instance (n:aj)(places:List ByteArray)(gB:List Int)(fa:Int):CT Tryz.prog (oD n places gB fa):=⟨369,[.ag (bA n),.sl (places.map jH),.sl (gB.map aG),vi fa],[],fun r=>.ms 0,fun r=>[some ⟨.of 3,1,r.map aG⟩],fun H=>by replace H:=H0 H;unfold oD at H;exact aA Tryz.func369 rfl Tryz.ntmps369 Tryz.results369 fun Q hQ cR=>dU⟩
def fG(n:aj)(ay:Int)(y1:(List ByteArray))(y2:Int)(s0:Int×(List Int)):Option ((Int×(List Int))⊕(List Int)):=
 cond (decide (s0.1<ay))
 (cond (decide (s0.1<(y1.length:Int)))
 ((oD n y1 s0.2 y2).bind fun y5=>
 some (.inl ((aL (s0.1+1)),y5)))
 (some (.inr s0.2)))
 (some (.inr s0.2))
instance (n:aj)(ay:Int)(y1:(List ByteArray))(y2:Int):bm (fG n ay y1 y2):=⟨fun s0=>(U 3 (vi ay::.be 0 0 0::(U 4 (.ms 1::vi y2::.ms 2::vi s0.1::(U 42 []))))),fun s0=>[some ⟨.of 27,3,[[.sl (n.ay.map bp),.sl (n.off.map aG),vi n.change]]⟩,some ⟨.of 9,1,y1.map jH⟩,some ⟨.of 3,1,s0.2.map aG⟩]⟩
def jN(n:aj)(cG:ByteArray)(mO:Int)(ay:Int):Option (List Int):=
 (de n).bind fun y1=>
 (cb y1 cG).bind fun y2=>
 (aU n).bind fun y3=>
 cond (!y3)
 (some ([]:List Int))
 (cond (decide (y2<0))
 (some ([]:List Int))
 (cond (decide (100000<mO))
 (some ([]:List Int))
 (cond (decide (ay<0))
 (some ([]:List Int))
 ((gX y1 y2 mO).bind fun y4=>
 (aD (fG n ay y1 y2) NN (0,y4)).bind (fun o0=>
 some o0)))))
instance (n:aj)(cG:ByteArray)(mO:Int)(ay:Int):CT Tryz.prog (jN n cG mO ay):=⟨346,[.ag (bA n),vs cG,vi mO,vi ay],[],fun r=>.ms 0,fun r=>[some ⟨.of 3,1,r.map aG⟩],fun H=>by replace H:=H0 H;unfold jN at H;exact aA Tryz.func346 rfl Tryz.ntmps346 Tryz.results346 fun Q hQ cR=>dU⟩
def jv(n:aj)(cG:ByteArray)(aV:ByteArray)(fJ:Int):Option Int:=
 (de n).bind fun y1=>
 (cb y1 aV).bind fun y2=>
 (jN n cG fJ (y1.length:Int)).bind fun y3=>
 cond (decide (y2<0))
 (some (-1))
 (cond (decide ((y3.length:Int)=0))
 (some (-1))
 ((aC y3 y2).bind fun y4=>
 some y4))
instance (n:aj)(cG:ByteArray)(aV:ByteArray)(fJ:Int):CT Tryz.prog (jv n cG aV fJ):=⟨325,[.ag (bA n),vs cG,vs aV,vi fJ],[],fun r=>vi r,fun r=>[],fun H=>by replace H:=H0 H;unfold jv at H;exact aA Tryz.func325 rfl Tryz.ntmps325 Tryz.results325 fun Q hQ cR=>dU⟩
def j8(n:aj)(ax:Int)(cU:ByteArray)(aV:ByteArray)(kG:Int):Option Int:=
 (jv n cU aV kG).bind fun y1=>
 cond (decide (y1<0))
 (some (-1))
 ((bg ax 1 3).bind fun y2=>
 cond (!y2)
 (some (-1))
 (cond (decide (1080<(Int.tmod y1 1440)))
 (some (aL ((aL ((aL ((aL ((IntKind.i64.wrap (Xk y1 1440))+1))+(aL ((aL (ax-1))*(aL (ax-1))))))*1440))+1080)))
 (some (aL ((aL ((aL ((IntKind.i64.wrap (Xk y1 1440))+(aL ((aL (ax-1))*(aL (ax-1))))))*1440))+1080)))))
instance (n:aj)(ax:Int)(cU:ByteArray)(aV:ByteArray)(kG:Int):CT Tryz.prog (j8 n ax cU aV kG):=⟨295,[.ag (bA n),vi ax,vs cU,vs aV,vi kG],[],fun r=>vi r,fun r=>[],fun H=>by replace H:=H0 H;unfold j8 at H;exact aA Tryz.func295 rfl Tryz.ntmps295 Tryz.results295 fun Q hQ cR=>dU⟩
end Go.Proofs.YtbalgkakkoocjaaGreat
namespace Go.Proofs.YtbalgkakkoocjaaGreat
set_option maxRecDepth 10000
open Go.RowKit Go.Lib Go.Sort
set_option maxRecDepth 100000
set_option maxHeartbeats 4000000
section
variable {α:Type} [Inhabited α] {lt:α→α→Bool}
def MI(lt:α→α→Bool)(bs n q:Nat)(d:Array α):Prop:=(∀p,p<q→SortedIn lt (p*(2*bs)) (p*(2*bs)+2*bs) d)∧∀p,2*q≤p→SortedIn lt (p*bs) (min (p*bs+bs) n) d
theorem UW(q bs:Nat):(2*q)*bs=q*(2*bs):=by rw[Nat.mul_comm 2 q,Nat.mul_assoc]
theorem MI.zero{bs n:Nat}{d:Array α}(h:Qa lt bs n d):MI lt bs n 0 d:=⟨fun p hp=>by omega,fun p _=>h p⟩
theorem MI.left{bs n q A:Nat}{d:Array α}(h:MI lt bs n q d)(hA:A=q*(2*bs))(hn:A+bs≤n):SortedIn lt A (A+bs) d:=by
 have:=h.2 (2*q) (V3 _)
 rw[UW,←hA,X4 hn]at this
 exact this
theorem MI.right{bs n q A:Nat}{d:Array α}(h:MI lt bs n q d)(hA:A=q*(2*bs)):SortedIn lt (A+bs) (min (A+2*bs) n) d:=by
 have:=h.2 (2*q+1) (by omega)
 rw[W6,XM,UW,←hA,show A+bs+bs=A+2*bs by omega]at this
 exact this
theorem MI.last{bs n q A:Nat}{d:Array α}(h:MI lt bs n q d)(hA:A=q*(2*bs))(hn:n≤A+bs):SortedIn lt A n d:=by
 have:=h.2 (2*q) (V3 _)
 rw[UW,←hA,XS hn]at this
 exact this
theorem MI.step{bs n q A:Nat}{d e:Array α}(h:MI lt bs n q d)(hA:A=q*(2*bs))(hp:PermIn A (A+2*bs) d e)(hs:SortedIn lt A (A+2*bs) e):MI lt bs n (q+1) e:=by
 refine⟨fun p hpq=>?_,fun p hpq=>?_⟩
 ·rcases Nat.lt_or_ge p q with h1|h1
  ·have h2:(p+1)*(2*bs)≤q*(2*bs):=Wu _ h1
   rw[W6,XM]at h2
   exact xT (h.1 p h1) fun k _ hk=>hp.2.1 k (.inl (by omega))
  ·have:p=q:=by omega
   subst this
   rw[←hA];exact hs
 ·have h2:(2*(q+1))*bs≤p*bs:=Wu _ hpq
  rw[UW,W6,XM]at h2
  exact xT (h.2 p (by omega)) fun k hk _=>hp.2.1 k (.inr (by omega))
theorem MI.fin{bs n q A:Nat}{d e:Array α}(h:MI lt bs n q d)(hA:A=q*(2*bs))(hn:n<A+2*bs)(hp:PermIn A n d e)(hs:SortedIn lt A n e):Qa lt (2*bs) n e:=by
 intro p
 rcases Xg p q with h1|h1|h1
 ·have h2:(p+1)*(2*bs)≤q*(2*bs):=Wu _ h1
  rw[W6,XM]at h2
  exact xT (uI (h.1 p h1) (V3 _) (Nat.min_le_left _ _)) fun k _ hk=>hp.2.1 k (.inl (by omega))
 ·subst h1
  rw[←hA,XS (by omega)];exact hs
 ·have h2:(q+1)*(2*bs)≤p*(2*bs):=Wu _ h1
  rw[W6,XM]at h2
  exact Nt (by omega)
def BI(lt:α→α→Bool)(q:Nat)(d:Array α):Prop:=∀p,p<q→SortedIn lt (p*20) (p*20+20) d
theorem BI.step{q:Nat}{d e:Array α}(h:BI lt q d)(hp:PermIn (q*20) (q*20+20) d e)(hs:SortedIn lt (q*20) (q*20+20) e):BI lt (q+1) e:=fun p hpq=>by
 by_cases h1:p=q
 ·subst h1;exact hs
 ·exact xT (h p (by omega)) fun k _ hk=>hp.2.1 k (.inl (by omega))
theorem BI.fin{q n:Nat}{d e:Array α}(h:BI lt q d)(hn:n<q*20+20)(hp:PermIn (q*20) n d e)(hs:SortedIn lt (q*20) n e):Qa lt 20 n e:=fun p=>by
 rcases Xg p q with h1|h1|h1
 ·exact xT (uI (h p h1) (V3 _) (Nat.min_le_left _ _)) fun k _ hk=>hp.2.1 k (.inl (by omega))
 ·subst h1
  exact uI hs (V3 _) (Nat.min_le_right _ _)
 ·exact Nt (by omega)
variable {enc:α→List Value} {k:Nat} {g:Nat} {T:TypeId} {cs:Nat}
variable (hk:∀x,(enc x).length=k) (f:Nat) (lb:Array Value) (sf:Nat) (sb:Array Value) (n:Nat) (hn:n<1152921504606846976) (pe:SwapSwapsK Tryz.prog sf sb enc k g 0 n)
include hk hn pe
theorem SR(hO:SWO lt)(eg:∀args w,(callFunc f args).run Tryz.prog w=.ok (.enter f args) w){d:Array α}{W:World}(hd:d.size=n)(h0:SU enc k g T cs W d W)(hL:sX f lb enc k lt g T cs n W):
 Calls Tryz.prog 317 #[LS f lb sf sb,.int .i64 n] W fun e w'=>e=.returned (.tuple #[])∧∃e,SU enc k g T cs W e w'∧PermIn 0 n d e∧SortedIn lt 0 n e:=by
 have hB:SU enc k g T cs W d (W.alloc (se f lb sf sb)):=h0.more (Up.al _ (Up.rfl' W))
 have HL:Hid (∀d' W',SU enc k g T cs (W.alloc (se f lb sf sb)) d' W'→sX f lb enc k lt g T cs n W'):=fun d' W' h'=>hL.on (hB.trans h')
 have HB:Hid (SU enc k g T cs W d (W.alloc (se f lb sf sb))):=hB
 have hI:=fun(d':Array α) (W':World) (vt:d'.size=n) (h':SU enc k g T cs W' d' W') (hL':sX f lb enc k lt g T cs n W') (a b:Nat) (Ba:a≤b) (hb:b≤n)=>Ox hk f lb sf sb n hn pe eg vt h' hL' a b Ba hb
 have hM:=fun(d':Array α) (W':World) (vt:d'.size=n) (h':SU enc k g T cs W' d' W') (hL':sX f lb enc k lt g T cs n W') (a m b:Nat)=>ZbZ hk f lb sf sb n hn pe hO eg (b-a) d' W' vt h' hL' a m b (V3 _)
 have HI:Hid _:=hI
 have HM:Hid _:=hM
 have hg:=h0.lt
 clear h0 hL hI hM
 go_enter Tryz.func317,Tryz.ntmps317
 go_wp2
 go_loopw [5,6] (fun v5 v6 wr=>∃(q:Nat) (dk:Array α),v5=.int .i64 ((q:Int)*20)∧v6=.int .i64 ((q:Int)*20+20)∧q*20≤n∧PermIn 0 n d dk∧BI lt q dk∧SU enc k g T cs (W.alloc (se f lb sf sb)) dk wr) (fun v5 v6 _=>n-(intOf v5).toNat)
 case atStart=>exact⟨0,d,by go_num,by go_num,by omega,permIn_refl _ _ _,fun p hp=>by omega,hB.self⟩
 case round=>
  obtain⟨q,dk,rfl,rfl,hq,hP,hBI,hS⟩:=hrel
  have c0:wr.cell? ⟨W.heap.size,0,none⟩=some (.func (.func f) #[] lb):=by rw[hS.AL (by simp) (by omega)];simp
  have c1:wr.cell? ⟨W.heap.size,1,none⟩=some (.func (.func sf) #[] sb):=by rw[hS.AL (by simp) (by omega)];simp
  have MN:dk.size=n:=hP.1.trans hd
  have HS:Hid (SU enc k g T cs (W.alloc (se f lb sf sb)) dk wr):=hS
  have HP:Hid (PermIn 0 n d dk):=hP
  have HBI:Hid (BI lt q dk):=hBI
  clear hS hB hP hBI
  by_cases hle:q*20+20≤n
  ·have Ut:(q:Int)*20+20≤(n:Int):=by omega
   have hc:=HI.out dk wr MN HS.out.self (HL.out dk wr HS.out) (q*20) (q*20+20) (by omega) hle
   rw[show((q*20:Nat):Int)=(q:Int)*20 by omega,show((q*20+20:Nat):Int)=(q:Int)*20+20 by omega]at hc
   go_wp2_with (go_at_call 339;refine hc.mono ?_;rintro e w' ⟨rfl,hE⟩)
   have x:=insertionSort_holds hO dk (q*20) (q*20+20) (by omega) (by omega)
   exact⟨⟨q+1,_,by congr 1<;>omega,by congr 1<;>omega,by omega,permIn_trans _ _ _ _ _ HP.out (permIn_mono _ _ _ _ _ _ (by omega) (by omega) (by omega) x.1),HBI.out.step x.1 x.2,HS.out.trans hE⟩,by simp[intOf];omega⟩
  ·have Ut:¬(q:Int)*20+20≤(n:Int):=by omega
   have hc:=HI.out dk wr MN HS.out.self (HL.out dk wr HS.out) (q*20) n hq (V3 _)
   rw[show((q*20:Nat):Int)=(q:Int)*20 by omega]at hc
   go_wp2_with (go_at_call 339;refine hc.mono ?_;rintro e w' ⟨rfl,hE⟩)
   have x:=insertionSort_holds hO dk (q*20) n (by omega) (by omega)
   have hR0:=HBI.out.fin (by omega) x.1 x.2
   have hP0:=permIn_trans _ _ _ _ _ HP.out (permIn_mono _ _ _ _ _ _ (by omega) (V3 _) (by omega) x.1)
   have hS0:=HS.out.trans hE
   clear x c0 c1
   go_loopw [4,5,6,7] (fun v4 v5 v6 v7 wr=>∃(bs:Nat) (dk:Array α),v4=.int .i64 (bs:Int)∧1≤bs∧bs≤2*n+20∧PermIn 0 n d dk∧Qa lt bs n dk∧SU enc k g T cs (W.alloc (se f lb sf sb)) dk wr) (fun v4 _ _ _ _=>n-(intOf v4).toNat)
   case atStart=>exact⟨20,_,by go_num,by omega,by omega,hP0,hR0,hS0⟩
   case round=>
    obtain⟨bs,dk2,rfl,uY,zk,hP2,hR2,D4⟩:=hrel
    have Et:Hid (PermIn 0 n d dk2):=hP2
    have HR2:Hid (Qa lt bs n dk2):=hR2
    have Eu:Hid (SU enc k g T cs (W.alloc (se f lb sf sb)) dk2 wr):=D4
    clear hP2 hR2 D4 hP0 hR0 hS0 hE Ut hle hc HS HP HBI hq
    by_cases bF:bs<n
    ·go_wp2
     go_loopw [5,6] (fun v5 v6 wr=>∃(A:Nat) (dk:Array α),v5=.int .i64 (A:Int)∧v6=.int .i64 ((A:Int)+2*(bs:Int))∧A≤n∧PermIn 0 n d dk∧(∃q,A=q*(2*bs)∧MI lt bs n q dk)∧SU enc k g T cs (W.alloc (se f lb sf sb)) dk wr) (fun v5 v6 _=>n-(intOf v5).toNat)
     case atStart=>exact⟨0,dk2,by go_num,by go_num,by omega,Et.out,⟨0,by omega,MI.zero HR2.out⟩,Eu.out⟩
     case round=>
      obtain⟨A,T4,rfl,rfl,hA,hP3,hM3,hS3⟩:=hrel
      have c0:wr.cell? ⟨W.heap.size,0,none⟩=some (.func (.func f) #[] lb):=by rw[hS3.AL (by simp) (by omega)];simp
      have c1:wr.cell? ⟨W.heap.size,1,none⟩=some (.func (.func sf) #[] sb):=by rw[hS3.AL (by simp) (by omega)];simp
      have Zc2:T4.size=n:=hP3.1.trans hd
      have HP3:Hid (PermIn 0 n d T4):=hP3
      have HM3:Hid (∃q,A=q*(2*bs)∧MI lt bs n q T4):=hM3
      have HS3:Hid (SU enc k g T cs (W.alloc (se f lb sf sb)) T4 wr):=hS3
      clear hP3 hM3 hS3
      by_cases hle:A+2*bs≤n
      ·have Ut:(A:Int)+2*(bs:Int)≤(n:Int):=by omega
       have hc:=HM.out T4 wr Zc2 HS3.out.self (HL.out T4 wr HS3.out) A (A+bs) (A+2*bs) (by omega) (by omega) hle (by obtain⟨q,h1,h2⟩:=HM3.out;exact h2.left h1 (by omega)) (by obtain⟨q,h1,h2⟩:=HM3.out;have:=h2.right h1;rwa[X4 hle]at this)
       rw[show((A+bs:Nat):Int)=(A:Int)+(bs:Int)by omega,show((A+2*bs:Nat):Int)=(A:Int)+2*(bs:Int)by omega]at hc
       go_wp2_with (go_at_call 340;refine hc.mono ?_;rintro e w' ⟨rfl,hE⟩)
       obtain⟨e,Kn,Hv,MM⟩:=hE
       exact⟨⟨A+2*bs,e,by congr 1<;>omega,by congr 1<;>omega,hle,permIn_trans _ _ _ _ _ HP3.out (permIn_mono _ _ _ _ _ _ (by omega) hle (by omega) Hv),(by obtain⟨q,h1,h2⟩:=HM3.out;exact⟨q+1,by rw[W6,XM,←h1],h2.step h1 Hv MM⟩),HS3.out.trans Kn⟩,by simp[intOf];omega⟩
      ·have Ut:¬(A:Int)+2*(bs:Int)≤(n:Int):=by omega
       by_cases hm:A+bs<n
       ·have hmz:(A:Int)+(bs:Int)<(n:Int):=by omega
        have hc:=HM.out T4 wr Zc2 HS3.out.self (HL.out T4 wr HS3.out) A (A+bs) n (by omega) (by omega) (V3 _) (by obtain⟨q,h1,h2⟩:=HM3.out;exact h2.left h1 (by omega)) (by obtain⟨q,h1,h2⟩:=HM3.out;have:=h2.right h1;rwa[XS (by omega)]at this)
        rw[show((A+bs:Nat):Int)=(A:Int)+(bs:Int)by omega]at hc
        go_wp2_with (go_at_call 340;refine hc.mono ?_;rintro e w' ⟨rfl,hE⟩)
        obtain⟨e,Kn,Hv,MM⟩:=hE
        exact⟨⟨2*bs,e,by congr 1<;>omega,by omega,by omega,permIn_trans _ _ _ _ _ HP3.out (permIn_mono _ _ _ _ _ _ (by omega) (V3 _) (by omega) Hv),(by obtain⟨q,h1,h2⟩:=HM3.out;exact h2.fin h1 (by omega) Hv MM),HS3.out.trans Kn⟩,by simp[intOf];omega⟩
       ·have hmz:¬(A:Int)+(bs:Int)<(n:Int):=by omega
        go_wp2
        exact⟨⟨2*bs,T4,by congr 1<;>omega,by omega,by omega,HP3.out,(by obtain⟨q,h1,h2⟩:=HM3.out;exact h2.fin h1 (by omega) (permIn_refl _ _ _) (h2.last h1 (by omega))),HS3.out⟩,by simp[intOf];omega⟩
    ·have yz:¬(bs:Int)<(n:Int):=by omega
     go_wp2
     go_end0
     refine⟨rfl,dk2,HB.out.trans Eu.out,Et.out,?_⟩
     have:=HR2.out 0
     rw[Nat.zero_mul,Nat.zero_add,XS (by omega)]at this
     exact this
end
end Go.Proofs.YtbalgkakkoocjaaGreat
namespace Go.Proofs.YtbalgkakkoocjaaGreat
set_option maxRecDepth 10000
open Go.RowKit
set_option maxHeartbeats 16000000
def eE(w:av)(i:Int):Option av:=
 (aC w.ah i).bind fun y1=>
 (eY y1).bind fun y2=>
 cond (decide (0<y2))
 ((aC y1.aE (aL (y2-1))).bind fun y3=>
 (bn w.aa y3).bind fun y4=>
 (fv (aL (w.now+1)) (aL (y4+w.aa.change))).bind fun y5=>
 (kZ w.aa w.aq (aL (i+1)) (aL (w.now+1))).bind fun y6=>
 (eQ w.aa y1).bind fun y7=>
 (bE w.aa y6 w.ae y7 y1.aV y5 y1.ab).bind fun y8=>
 (ck w.aa y6 (aL (i+1)) y1.ab y8.1).bind fun y9=>
 (cL (gA 0 y2 y1.aE.length)).bind fun _=>
 (cL (bo ((([]:List au):List au).length+((cD y1.aE 0 y2):List au).length) 16)).bind fun _=>
 (aC w.ah i).bind fun dM=>
 cond y9.2
 ((aC w.ah i).bind fun jx=>
 (cL (bo ((((([]:List au):List au)++(cD y1.aE 0 y2)):List au).length+(y8.1:List au).length) 16)).bind fun _=>
 (aC w.ah i).bind fun oV=>
 some (⟨w.aa,(w.ah.set (Wo i) (⟨dM.ar,dM.aV,dM.ax,dM.ab,dM.aO,dM.dX,((((([]:List au):List au)++(cD y1.aE 0 y2)):List au)++y8.1),dM.aJ,dM.state,dM.place,dM.bD⟩:az)),y9.1,w.ae,w.now,w.aH,w.skip,w.bd⟩:av))
 (some (⟨w.aa,(w.ah.set (Wo i) (⟨dM.ar,dM.aV,dM.ax,dM.ab,dM.aO,dM.dX,((([]:List au):List au)++(cD y1.aE 0 y2)),dM.aJ,dM.state,dM.place,dM.bD⟩:az)),y6,w.ae,w.now,w.aH,w.skip,w.bd⟩:av)))
 ((kZ w.aa w.aq (aL (i+1)) (aL (w.now+1))).bind fun lZ=>
 (eQ w.aa y1).bind fun kS=>
 (bE w.aa lZ w.ae kS y1.aV (aL (w.now+1)) y1.ab).bind fun o9=>
 (ck w.aa lZ (aL (i+1)) y1.ab o9.1).bind fun ma=>
 (cL (gA 0 y2 y1.aE.length)).bind fun _=>
 (cL (bo ((([]:List au):List au).length+((cD y1.aE 0 y2):List au).length) 16)).bind fun _=>
 (aC w.ah i).bind fun ri=>
 cond ma.2
 ((aC w.ah i).bind fun sw=>
 (cL (bo ((((([]:List au):List au)++(cD y1.aE 0 y2)):List au).length+(o9.1:List au).length) 16)).bind fun _=>
 (aC w.ah i).bind fun vW=>
 some (⟨w.aa,(w.ah.set (Wo i) (⟨ri.ar,ri.aV,ri.ax,ri.ab,ri.aO,ri.dX,((((([]:List au):List au)++(cD y1.aE 0 y2)):List au)++o9.1),ri.aJ,ri.state,ri.place,ri.bD⟩:az)),ma.1,w.ae,w.now,w.aH,w.skip,w.bd⟩:av))
 (some (⟨w.aa,(w.ah.set (Wo i) (⟨ri.ar,ri.aV,ri.ax,ri.ab,ri.aO,ri.dX,((([]:List au):List au)++(cD y1.aE 0 y2)),ri.aJ,ri.state,ri.place,ri.bD⟩:az)),lZ,w.ae,w.now,w.aH,w.skip,w.bd⟩:av)))
instance (w:av)(i:Int):CT Tryz.prog (eE w i):=⟨242,[.be 0 0 0,vi i],[some ⟨.of 33,10,[[.ms 1,.ms 2,vi w.aa.change,.ms 3,.ms 4,.ms 5,vi w.now,.ms 6,.ms 7,vi w.bd]]⟩,some ⟨.of 174,6,w.aa.ay.map bp⟩,some ⟨.of 3,1,w.aa.off.map aG⟩,some ⟨.of 155,11,w.ah.map bc⟩,some ⟨.of 177,4,w.aq.map aB⟩,some ⟨.of 46,2,w.ae.map aS⟩,some ⟨.of 181,6,w.aH.map bt⟩,some ⟨.of 3,1,w.skip.map aG⟩],fun r=>.tu [],fun r=>[some ⟨.of 33,10,[[.ms 1,.ms 2,vi r.aa.change,.ms 3,.ms 8,.ms 5,vi r.now,.ms 6,.ms 7,vi r.bd]]⟩,some ⟨.of 174,6,r.aa.ay.map bp⟩,some ⟨.of 3,1,r.aa.off.map aG⟩,some ⟨.of 155,11,r.ah.map bc⟩,none,some ⟨.of 46,2,r.ae.map aS⟩,some ⟨.of 181,6,r.aH.map bt⟩,some ⟨.of 3,1,r.skip.map aG⟩,some ⟨.of 177,4,r.aq.map aB⟩],fun H=>by replace H:=H0 H;unfold eE at H;exact aA Tryz.func242 rfl Tryz.ntmps242 Tryz.results242 fun Q hQ cR=>dU⟩
def iN(o:aM)(a:cg):Option (Int×aM):=
 (bg a.order 1 (o.aK.length:Int)).bind fun y1=>
 cond (!y1)
 (some (4,o))
 ((eP o.lines a.order a.bz o.world.now).bind fun y2=>
 cond (decide (a.kind=6))
 ((aC o.world.ah (aL (a.order-1))).bind fun y3=>
 cond (!decide (y3.state=3))
 (some (4,o))
 ((fw o.lines a.order y3.dX y3.bD o.aN o.world.now).bind fun y4=>
 cond (!decide (y4.2=0))
 (some (4,o))
 (some (0,(⟨o.world,o.aY,o.ba,o.aN,o.aK,y4.1,o.aF⟩:aM)))))
 (cond (!decide (y2.2=0))
 (some (4,o))
 (some (0,(⟨o.world,o.aY,o.ba,o.aN,o.aK,y2.1,o.aF⟩:aM)))))
instance (o:aM)(a:cg):CT Tryz.prog (iN o a):=⟨137,[.be 0 0 0,.ag (ig a)],[some ⟨.of 40,16,[[.sl (o.world.aa.ay.map bp),.sl (o.world.aa.off.map aG),vi o.world.aa.change,.sl (o.world.ah.map bc),.sl (o.world.aq.map aB),.sl (o.world.ae.map aS),vi o.world.now,.sl (o.world.aH.map bt),.sl (o.world.skip.map aG),vi o.world.bd,.ms 1,.ms 2,.ms 3,.ms 4,.ms 5,.ms 6]]⟩,some ⟨.of 104,2,o.aY.map cK⟩,some ⟨.of 107,4,o.ba.map cO⟩,some ⟨.of 3,1,o.aN.map aG⟩,some ⟨.of 44,7,o.aK.map bS⟩,some ⟨.of 111,4,o.lines.map bO⟩,some ⟨.of 48,13,o.aF.map ig⟩],fun r=>vi r.1,fun r=>[some ⟨.of 40,16,[[.sl (r.2.world.aa.ay.map bp),.sl (r.2.world.aa.off.map aG),vi r.2.world.aa.change,.sl (r.2.world.ah.map bc),.sl (r.2.world.aq.map aB),.sl (r.2.world.ae.map aS),vi r.2.world.now,.sl (r.2.world.aH.map bt),.sl (r.2.world.skip.map aG),vi r.2.world.bd,.ms 1,.ms 2,.ms 3,.ms 4,.ms 7,.ms 6]]⟩,some ⟨.of 104,2,r.2.aY.map cK⟩,some ⟨.of 107,4,r.2.ba.map cO⟩,some ⟨.of 3,1,r.2.aN.map aG⟩,some ⟨.of 44,7,r.2.aK.map bS⟩,none,some ⟨.of 48,13,r.2.aF.map ig⟩,some ⟨.of 111,4,r.2.lines.map bO⟩],fun H=>by replace H:=H0 H;unfold iN at H;exact aA Tryz.func137 rfl Tryz.ntmps137 Tryz.results137 fun Q hQ cR=>Mb⟩
def kQ(a:List au)(b:List au)(s0:Int):Option (Int⊕(Unit⊕Bool)):=
 cond (decide (s0<(a.length:Int)))
 ((aC a s0).bind fun y1=>
 (aC b s0).bind fun y2=>
 cond (!decide (y1=y2))
 (some (.inr (.inr false)))
 (some (.inl (aL (s0+1)))))
 (some (.inr (.inl ())))
instance (a:List au)(b:List au):bm (kQ a b):=⟨fun s0=>(.sl (a.map aS)::.sl (b.map aS)::(U 10 (vi (a.length:Int)::vi s0::(U 12 [])))),fun s0=>[]⟩
def fF(a:List au)(b:List au):Option Bool:=
 cond (!decide ((a.length:Int)=(b.length:Int)))
 (some false)
 ((aD (kQ a b) NN 0).bind (bl (fun o0=>
 some true) (fun r=>some r)))
instance (a:List au)(b:List au):CT Tryz.prog (fF a b):=⟨116,[.sl (a.map aS),.sl (b.map aS)],[],fun r=>vb r,fun r=>[],fun H=>by replace H:=H0 H;unfold fF at H;exact aA Tryz.func116 rfl Tryz.ntmps116 Tryz.results116 fun Q hQ cR=>dU⟩
def lC(a:az)(b:az):Option Bool:=
 cond (decide (a.ar=b.ar))
 (cond (decide (a.aV=b.aV))
 (cond (decide (a.ax=b.ax))
 (cond (decide (a.ab=b.ab))
 (cond (decide (a.aO=b.aO))
 (cond (decide (a.dX=b.dX))
 ((fF a.aE b.aE).bind fun y1=>
 cond y1
 (cond (decide (a.aJ=b.aJ))
 (cond (decide (a.state=b.state))
 (cond (decide (a.place=b.place))
 (some (decide (a.bD=b.bD)))
 (some false))
 (some false))
 (some false))
 (some false))
 (some false))
 (some false))
 (some false))
 (some false))
 (some false))
 (some false)
instance (a:az)(b:az):CT Tryz.prog (lC a b):=⟨113,[.ag (bc a),.ag (bc b)],[],fun r=>vb r,fun r=>[],fun H=>by replace H:=H0 H;unfold lC at H;exact aA Tryz.func113 rfl Tryz.ntmps113 Tryz.results113 fun Q hQ cR=>dU⟩
end Go.Proofs.YtbalgkakkoocjaaGreat
