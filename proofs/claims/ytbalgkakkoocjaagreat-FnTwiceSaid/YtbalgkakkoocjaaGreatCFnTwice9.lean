/- A part of the proof of the statement in the last file of this claim: texts on the language of the program and on its functions. No condition. -/
import Derived.Test.YtbalgkakkoocjaaGreatCFnTwice4
import Derived.Test.YtbalgkakkoocjaaGreatCFnTwice8
import Derived.Test.YtbalgkakkoocjaaGreatCFnTwice6
import Derived.Test.YtbalgkakkoocjaaGreatCFnTwice5
set_option linter.unusedVariables false
set_option linter.unusedSimpArgs false
set_option linter.unusedSectionVars false
namespace Go.Proofs.YtbalgkakkoocjaaGreat
set_option maxRecDepth 10000
open Go.RowKit
set_option maxHeartbeats 16000000
def iT(w:av)(i:Int):Option Bool:=
 (aC w.ah i).bind fun y1=>
 cond (!decide (y1.state=3))
 ((eY y1).bind fun y2=>
 cond (decide (y2=(y1.aE.length:Int)))
 ((eQ w.aa y1).bind fun y3=>
 some (!decide (y3=y1.aV)))
 (some false))
 (some false)
instance (w:av)(i:Int):CT Tryz.prog (iT w i):=⟨302,[.ag (fK w),vi i],[],fun r=>vb r,fun r=>[],fun H=>by replace H:=H0 H;unfold iT at H;exact aA Tryz.func302 rfl Tryz.ntmps302 Tryz.results302 fun Q hQ cR=>dU⟩
def pE(n:aj)(aE:List au)(aV:ByteArray)(s0:Int×ByteArray×Int):Option ((Int×ByteArray×Int)⊕(ByteArray⊕Bool)):=
 cond (decide (s0.2.2<(aE.length:Int)))
 ((aC aE s0.2.2).bind fun y5=>
 (dN n y5).bind fun y6=>
 cond (!y6)
 (some (.inr (.inr false)))
 ((aC n.ay y5.bx).bind fun y7=>
 cond (!decide (y7.ar=s0.2.1))
 (some (.inr (.inr false)))
 ((dq n y5).bind fun y8=>
 cond (decide (y8<s0.1))
 (some (.inr (.inr false)))
 ((aC n.ay y5.bx).bind fun y9=>
 (aC aE s0.2.2).bind fun dM=>
 (dg n dM).bind fun jx=>
 some (.inl ((aL (jx+n.change)),y9.aV,(aL (s0.2.2+1))))))))
 (some (.inr (.inl s0.2.1)))
instance (n:aj)(aE:List au)(aV:ByteArray):bm (pE n aE aV):=⟨fun s0=>(.un::.sl (aE.map aS)::.un::vs aV::vi s0.1::.be 0 0 0::(U 6 (vs s0.2.1::(U 20 (.sl (aE.map aS)::vi (aE.length:Int)::vi s0.2.2::(U 46 [])))))),fun s0=>[some ⟨.of 27,3,[[.sl (n.ay.map bp),.sl (n.off.map aG),vi n.change]]⟩]⟩
def qq(n:aj)(aE:List au)(cU:ByteArray)(aV:ByteArray)(kG:Int):Option Bool:=
 (dx n).bind fun y1=>
 (eU n).bind fun y2=>
 cond (!y2)
 (some false)
 ((bV y1 cU).bind fun y3=>
 cond (decide (y3<0))
 (some false)
 ((bV y1 aV).bind fun y4=>
 cond (decide (y4<0))
 (some false)
 ((aD (pE n aE aV) NN (kG,cU,0)).bind (bl (fun o0=>
 some (decide (o0=aV))) (fun r=>some r)))))
instance (n:aj)(aE:List au)(cU:ByteArray)(aV:ByteArray)(kG:Int):CT Tryz.prog (qq n aE cU aV kG):=⟨269,[.ag (bA n),.sl (aE.map aS),vs cU,vs aV,vi kG],[],fun r=>vb r,fun r=>[],fun H=>by replace H:=H0 H;unfold qq at H;exact aA Tryz.func269 rfl Tryz.ntmps269 Tryz.results269 fun Q hQ cR=>dU⟩
def dy(n:aj)(aE:List au)(aV:ByteArray)(s0:ByteArray×Int×Int):Option ((ByteArray×Int×Int)⊕(ByteArray⊕Bool)):=
 cond (decide (s0.2.2<(aE.length:Int)))
 ((aC aE s0.2.2).bind fun y5=>
 (dF n y5).bind fun y6=>
 cond (!y6)
 (some (.inr (.inr false)))
 ((aC aE s0.2.2).bind fun y7=>
 (aC n.ay y7.bx).bind fun y8=>
 cond (!decide (y8.ar=s0.1))
 (some (.inr (.inr false)))
 ((aC aE s0.2.2).bind fun y9=>
 (bq n y9).bind fun dM=>
 cond (decide (dM<s0.2.1))
 (some (.inr (.inr false)))
 ((aC aE s0.2.2).bind fun jx=>
 (aC n.ay jx.bx).bind fun oV=>
 (aC aE s0.2.2).bind fun lZ=>
 (bn n lZ).bind fun kS=>
 some (.inl (oV.aV,(aL (kS+n.change)),(aL (s0.2.2+1))))))))
 (some (.inr (.inl s0.1)))
instance (n:aj)(aE:List au)(aV:ByteArray):bm (dy n aE aV):=⟨fun s0=>(.un::.sl (aE.map aS)::.un::vs aV::.un::.be 0 0 0::(U 6 (vs s0.1::vi s0.2.1::vi s0.2.2::(U 78 [])))),fun s0=>[some ⟨.of 27,3,[[.sl (n.ay.map bp),.sl (n.off.map aG),vi n.change]]⟩]⟩
def eJ(n:aj)(aE:List au)(cU:ByteArray)(aV:ByteArray)(kG:Int):Option Bool:=
 (de n).bind fun y1=>
 (aU n).bind fun y2=>
 cond (!y2)
 (some false)
 ((cb y1 cU).bind fun y3=>
 cond (decide (y3<0))
 (some false)
 ((cb y1 aV).bind fun y4=>
 cond (decide (y4<0))
 (some false)
 ((aD (dy n aE aV) NN (cU,kG,0)).bind (bl (fun o0=>
 some (decide (o0=aV))) (fun r=>some r)))))
instance (n:aj)(aE:List au)(cU:ByteArray)(aV:ByteArray)(kG:Int):CT Tryz.prog (eJ n aE cU aV kG):=⟨288,[.ag (bA n),.sl (aE.map aS),vs cU,vs aV,vi kG],[],fun r=>vb r,fun r=>[],fun H=>by replace H:=H0 H;unfold eJ at H;exact aA Tryz.func288 rfl Tryz.ntmps288 Tryz.results288 fun Q hQ cR=>dU⟩
def cu(n:aj)(s:br):Option Bool:=
 (aU n).bind fun y1=>
 cond (!y1)
 (some false)
 ((bg s.bk 1 9999).bind fun y2=>
 cond (!y2)
 (some false)
 ((bg s.aO 0 100000).bind fun y3=>
 cond (!y3)
 (some false)
 (cond (decide (s.kind=1))
 (cond (decide (s.kind=1))
 ((de n).bind fun y4=>
 (cb y4 s.place).bind fun y5=>
 cond (decide (0≤y5))
 (some (decide (s.bf=(⟨0,0⟩:au))))
 (some false))
 (cond (decide (s.kind=3))
 (cond (decide (s.place=⟨#[]⟩))
 ((dF n s.bf).bind fun y6=>
 cond y6
 ((bq n s.bf).bind fun y7=>
 some (decide (s.aO≤y7)))
 (some false))
 (some false))
 (cond (decide (s.kind=2))
 (cond (decide (s.place=⟨#[]⟩))
 ((dF n s.bf).bind fun y8=>
 cond y8
 ((bn n s.bf).bind fun y9=>
 some (decide (y9≤s.aO)))
 (some false))
 (some false))
 (some false))))
 (cond (decide (s.kind=4))
 ((de n).bind fun dM=>
 (cb dM s.place).bind fun jx=>
 cond (decide (0≤jx))
 (some (decide (s.bf=(⟨0,0⟩:au))))
 (some false))
 (cond (decide (s.kind=3))
 (cond (decide (s.place=⟨#[]⟩))
 ((dF n s.bf).bind fun oV=>
 cond oV
 ((bq n s.bf).bind fun lZ=>
 some (decide (s.aO≤lZ)))
 (some false))
 (some false))
 (cond (decide (s.kind=2))
 (cond (decide (s.place=⟨#[]⟩))
 ((dF n s.bf).bind fun kS=>
 cond kS
 ((bn n s.bf).bind fun o9=>
 some (decide (o9≤s.aO)))
 (some false))
 (some false))
 (some false)))))))
instance (n:aj)(s:br):CT Tryz.prog (cu n s):=⟨222,[.ag (bA n),.ag (bt s)],[],fun r=>vb r,fun r=>[],fun H=>by replace H:=H0 H;unfold cu at H;exact aA Tryz.func222 rfl Tryz.ntmps222 Tryz.results222 fun Q hQ cR=>dU⟩
def lB(w:av)(id:Int)(y1:az)(s0:ByteArray×Int):Option ((ByteArray×Int)⊕(ByteArray⊕Bool)):=
 cond (decide (s0.2<(y1.aE.length:Int)))
 ((aC y1.aE s0.2).bind fun y9=>
 (dN w.aa y9).bind fun dM=>
 cond (!dM)
 (some (.inr (.inr false)))
 ((lA w id y9).bind fun jx=>
 cond (!jx)
 (some (.inr (.inr false)))
 ((gD y1).bind fun oV=>
 cond (decide (oV≤s0.2))
 ((eM w.ae y9).bind fun lZ=>
 cond lZ
 (some (.inr (.inr false)))
 ((aC w.aa.ay y9.bx).bind fun kS=>
 cond (decide (kS.aV=y1.aV))
 (cond (decide (s0.2<(aL ((y1.aE.length:Int)-1))))
 (some (.inr (.inr false)))
 (some (.inl (kS.aV,(aL (s0.2+1))))))
 (some (.inl (kS.aV,(aL (s0.2+1)))))))
 ((aC w.aa.ay y9.bx).bind fun o9=>
 cond (decide (o9.aV=y1.aV))
 (cond (decide (s0.2<(aL ((y1.aE.length:Int)-1))))
 (some (.inr (.inr false)))
 (some (.inl (o9.aV,(aL (s0.2+1))))))
 (some (.inl (o9.aV,(aL (s0.2+1)))))))))
 (some (.inr (.inl s0.1)))
instance (w:av)(id:Int)(y1:az):bm (lB w id y1):=⟨fun s0=>(.un::vi id::.un::.be 0 0 0::(U 3 (.be 1 0 0::vs s0.1::(U 65 (.sl (y1.aE.map aS)::vi (y1.aE.length:Int)::vi s0.2::(U 65 [])))))),fun s0=>[some ⟨.of 33,10,[[.sl (w.aa.ay.map bp),.sl (w.aa.off.map aG),vi w.aa.change,.sl (w.ah.map bc),.sl (w.aq.map aB),.sl (w.ae.map aS),vi w.now,.sl (w.aH.map bt),.sl (w.skip.map aG),vi w.bd]]⟩,some ⟨.of 155,11,[[vs y1.ar,vs y1.aV,vi y1.ax,vi y1.ab,vi y1.aO,vi y1.dX,.sl (y1.aE.map aS),vi y1.aJ,vi y1.state,vs y1.place,vi y1.bD]]⟩]⟩
def oe(w:av)(id:Int)(places:List ByteArray):Option Bool:=
 (aC w.ah (aL (id-1))).bind fun y1=>
 cond (decide (y1.ar=y1.aV))
 (some false)
 ((bV places y1.ar).bind fun y2=>
 cond (decide (y2<0))
 (some false)
 ((bV places y1.aV).bind fun y3=>
 cond (decide (y3<0))
 (some false)
 ((aZ y1.ax 1 3).bind fun y4=>
 cond (!y4)
 (some false)
 ((aZ y1.ab 1 30000).bind fun y5=>
 cond (!y5)
 (some false)
 ((aZ y1.aO 0 w.now).bind fun y6=>
 cond (!y6)
 (some false)
 ((aZ y1.dX 0 200000).bind fun y7=>
 cond (!y7)
 (some false)
 ((aZ y1.aJ 0 (y1.aE.length:Int)).bind fun y8=>
 cond (!y8)
 (some false)
 ((aD (lB w id y1) NN (y1.ar,0)).bind (bl (fun o0=>
 (qq w.aa y1.aE y1.ar o0 (aL (y1.aO+1))).bind fun ma=>
 cond ma
 ((og w y1).bind fun ri=>
 some ri)
 (some false)) (fun r=>some r))))))))))
instance (w:av)(id:Int)(places:List ByteArray):CT Tryz.prog (oe w id places):=⟨191,[.ag (fK w),vi id,.sl (places.map jH)],[],fun r=>vb r,fun r=>[],fun H=>by replace H:=H0 H;unfold oe at H;exact aA Tryz.func191 rfl Tryz.ntmps191 Tryz.results191 fun Q hQ cR=>dU⟩
def kx(w:av)(i:Int)(y1:az)(s0:ByteArray×Int):Option ((ByteArray×Int)⊕(ByteArray⊕Bool)):=
 cond (decide (s0.2<(y1.aE.length:Int)))
 ((aC y1.aE s0.2).bind fun dM=>
 (aC y1.aE s0.2).bind fun jx=>
 (cx w.aa dM.bx jx.day).bind fun oV=>
 cond (!oV)
 (some (.inr (.inr false)))
 ((aC y1.aE s0.2).bind fun lZ=>
 (mH w.aq (aL (i+1)) lZ y1.ab).bind fun kS=>
 cond (!kS)
 (some (.inr (.inr false)))
 ((aC y1.aE s0.2).bind fun o9=>
 (aC w.aa.ay o9.bx).bind fun ma=>
 cond (decide (ma.aV=y1.aV))
 (cond (decide ((aL (s0.2+1))<(y1.aE.length:Int)))
 (some (.inr (.inr false)))
 (some (.inl (ma.aV,(aL (s0.2+1))))))
 (some (.inl (ma.aV,(aL (s0.2+1))))))))
 (some (.inr (.inl s0.1)))
instance (w:av)(i:Int)(y1:az):bm (kx w i y1):=⟨fun s0=>(.un::vi i::.be 0 0 0::.un::.un::.be 1 0 0::.be 2 0 0::.un::vs s0.1::vi s0.2::(U 162 [])),fun s0=>[some ⟨.of 33,10,[[.sl (w.aa.ay.map bp),.sl (w.aa.off.map aG),vi w.aa.change,.sl (w.ah.map bc),.sl (w.aq.map aB),.sl (w.ae.map aS),vi w.now,.sl (w.aH.map bt),.sl (w.skip.map aG),vi w.bd]]⟩,some ⟨.of 27,3,[[.sl (w.aa.ay.map bp),.sl (w.aa.off.map aG),vi w.aa.change]]⟩,some ⟨.of 155,11,[[vs y1.ar,vs y1.aV,vi y1.ax,vi y1.ab,vi y1.aO,vi y1.dX,.sl (y1.aE.map aS),vi y1.aJ,vi y1.state,vs y1.place,vi y1.bD]]⟩]⟩
def iS(w:av)(y1:az)(s1:Int):Option (Int⊕(Unit⊕Bool)):=
 cond (decide (s1<(y1.aE.length:Int)))
 ((aC y1.aE s1).bind fun Bj=>
 (df w.ae Bj).bind fun xX=>
 cond xX
 (some (.inr (.inr false)))
 (some (.inl (aL (s1+1)))))
 (some (.inr (.inl ())))
instance (w:av)(y1:az):bm (iS w y1):=⟨fun s1=>(.un::.un::.be 0 0 0::(U 3 (.be 1 0 0::(U 3 (vi s1::(U 161 [])))))),fun s1=>[some ⟨.of 33,10,[[.sl (w.aa.ay.map bp),.sl (w.aa.off.map aG),vi w.aa.change,.sl (w.ah.map bc),.sl (w.aq.map aB),.sl (w.ae.map aS),vi w.now,.sl (w.aH.map bt),.sl (w.skip.map aG),vi w.bd]]⟩,some ⟨.of 155,11,[[vs y1.ar,vs y1.aV,vi y1.ax,vi y1.ab,vi y1.aO,vi y1.dX,.sl (y1.aE.map aS),vi y1.aJ,vi y1.state,vs y1.place,vi y1.bD]]⟩]⟩
def nB(w:av)(i:Int):Option Bool:=
 (aC w.ah i).bind fun y1=>
 (de w.aa).bind fun y2=>
 (cb y2 y1.ar).bind fun y3=>
 cond (decide (y3<0))
 (some false)
 ((cb y2 y1.aV).bind fun y4=>
 cond (decide (y4<0))
 (some false)
 (cond (decide (y1.ar=y1.aV))
 (some false)
 ((bg y1.ax 1 3).bind fun y5=>
 cond (!y5)
 (some false)
 ((bg y1.ab 1 30000).bind fun y6=>
 cond (!y6)
 (some false)
 ((bg y1.aO 0 w.now).bind fun y7=>
 cond (!y7)
 (some false)
 ((bg y1.dX 0 200000).bind fun y8=>
 cond (!y8)
 (some false)
 ((bg y1.aJ 0 (y1.aE.length:Int)).bind fun y9=>
 cond (!y9)
 (some false)
 ((aD (kx w i y1) NN (y1.ar,0)).bind (bl (fun o0=>
 (eJ w.aa y1.aE y1.ar o0 (aL (y1.aO+1))).bind fun ri=>
 cond (!ri)
 (some false)
 ((bW w.aa y1 w.now).bind fun sw=>
 cond (!sw)
 (some false)
 ((eY y1).bind fun vW=>
 (aD (iS w y1) NN vW).bind (bl (fun o1=>
 some true) (fun r=>some r))))) (fun r=>some r))))))))))
instance (w:av)(i:Int):CT Tryz.prog (nB w i):=⟨223,[.ag (fK w),vi i],[],fun r=>vb r,fun r=>[],fun H=>by replace H:=H0 H;unfold nB at H;exact aA Tryz.func223 rfl Tryz.ntmps223 Tryz.results223 fun Q hQ cR=>dU⟩
def lN(w:av)(s0:Int):Option (Int⊕(Unit⊕Bool)):=
 cond (decide (s0<(w.ae.length:Int)))
 ((aC w.ae s0).bind fun y4=>
 (aC w.ae s0).bind fun y5=>
 (cx w.aa y4.bx y5.day).bind fun y6=>
 cond (!y6)
 (some (.inr (.inr false)))
 ((cL (gA 0 s0 w.ae.length)).bind fun _=>
 (aC w.ae s0).bind fun y7=>
 (df (cD w.ae 0 s0) y7).bind fun y8=>
 cond y8
 (some (.inr (.inr false)))
 (some (.inl (aL (s0+1))))))
 (some (.inr (.inl ())))
instance (w:av):bm (lN w):=⟨fun s0=>(.un::.be 0 0 0::.un::vi s0::(U 135 [])),fun s0=>[some ⟨.of 33,10,[[.sl (w.aa.ay.map bp),.sl (w.aa.off.map aG),vi w.aa.change,.sl (w.ah.map bc),.sl (w.aq.map aB),.sl (w.ae.map aS),vi w.now,.sl (w.aH.map bt),.sl (w.skip.map aG),vi w.bd]]⟩]⟩
def lO(w:av)(s1:Int):Option (Int⊕(Unit⊕Bool)):=
 cond (decide (s1<(w.aH.length:Int)))
 ((aC w.aH s1).bind fun y9=>
 (cu w.aa y9).bind fun dM=>
 cond (!dM)
 (some (.inr (.inr false)))
 ((aC w.aH s1).bind fun jx=>
 cond (decide (w.now<jx.aO))
 (some (.inr (.inr false)))
 (some (.inl (aL (s1+1))))))
 (some (.inr (.inl ())))
instance (w:av):bm (lO w):=⟨fun s1=>(.un::.be 0 0 0::.un::.un::vi s1::(U 134 [])),fun s1=>[some ⟨.of 33,10,[[.sl (w.aa.ay.map bp),.sl (w.aa.off.map aG),vi w.aa.change,.sl (w.ah.map bc),.sl (w.aq.map aB),.sl (w.ae.map aS),vi w.now,.sl (w.aH.map bt),.sl (w.skip.map aG),vi w.bd]]⟩]⟩
def lP(w:av)(s2:Int×Int):Option ((Int×Int)⊕(Int⊕Bool)):=
 cond (decide (s2.2<(w.ah.length:Int)))
 ((nB w s2.2).bind fun oV=>
 cond (!oV)
 (some (.inr (.inr false)))
 ((aC w.ah s2.2).bind fun lZ=>
 some (.inl ((aL (s2.1+(lZ.aE.length:Int))),(aL (s2.2+1))))))
 (some (.inr (.inl s2.1)))
instance (w:av):bm (lP w):=⟨fun s2=>(.un::.be 0 0 0::(U 3 (vi s2.1::vi s2.2::(U 132 [])))),fun s2=>[some ⟨.of 33,10,[[.sl (w.aa.ay.map bp),.sl (w.aa.off.map aG),vi w.aa.change,.sl (w.ah.map bc),.sl (w.aq.map aB),.sl (w.ae.map aS),vi w.now,.sl (w.aH.map bt),.sl (w.skip.map aG),vi w.bd]]⟩]⟩
def fu(w:av):Option Bool:=
 (eH w.aa w.aq).bind fun y1=>
 cond (!y1)
 (some false)
 ((bg w.now 0 100000).bind fun y2=>
 cond (!y2)
 (some false)
 (cond (decide (30<(w.ah.length:Int)))
 (some false)
 (cond (decide (20<(w.ae.length:Int)))
 (some false)
 (cond (decide (200<(w.aH.length:Int)))
 (some false)
 (cond (decide (50<(w.skip.length:Int)))
 (some false)
 ((bg w.bd (w.aH.length:Int) 1000000000).bind fun y3=>
 cond (!y3)
 (some false)
 ((aD (lN w) NN 0).bind (bl (fun o0=>
 (aD (lO w) NN 0).bind (bl (fun o1=>
 (aD (lP w) NN (0,0)).bind (bl (fun o2=>
 some (decide (o2=(w.aq.length:Int)))) (fun r=>some r))) (fun r=>some r))) (fun r=>some r)))))))))
instance (w:av):CT Tryz.prog (fu w):=⟨128,[.ag (fK w)],[],fun r=>vb r,fun r=>[],fun H=>by replace H:=H0 H;unfold fu at H;exact aA Tryz.func128 rfl Tryz.ntmps128 Tryz.results128 fun Q hQ cR=>dU⟩
def ie(w:av)(s0:Int×Int):Option ((Int×Int)⊕Int):=
 cond (decide (s0.1<(w.ah.length:Int)))
 ((aC w.ah s0.1).bind fun y2=>
 cond (decide (y2.aJ=(y2.aE.length:Int)))
 (some (.inl ((aL (s0.1+1)),s0.2)))
 ((aC y2.aE y2.aJ).bind fun y3=>
 (bq w.aa y3).bind fun y4=>
 cond (decide (y2.state=2))
 ((aC y2.aE y2.aJ).bind fun y5=>
 (bn w.aa y5).bind fun y6=>
 cond (decide (s0.2<0))
 (some (.inl ((aL (s0.1+1)),y6)))
 (cond (decide (y6<s0.2))
 (some (.inl ((aL (s0.1+1)),y6)))
 (some (.inl ((aL (s0.1+1)),s0.2)))))
 (cond (decide (s0.2<0))
 (some (.inl ((aL (s0.1+1)),y4)))
 (cond (decide (y4<s0.2))
 (some (.inl ((aL (s0.1+1)),y4)))
 (some (.inl ((aL (s0.1+1)),s0.2)))))))
 (some (.inr s0.2))
instance (w:av):bm (ie w):=⟨fun s0=>(.un::.be 0 0 0::.un::vi s0.2::vi s0.1::(U 54 [])),fun s0=>[some ⟨.of 33,10,[[.sl (w.aa.ay.map bp),.sl (w.aa.off.map aG),vi w.aa.change,.sl (w.ah.map bc),.sl (w.aq.map aB),.sl (w.ae.map aS),vi w.now,.sl (w.aH.map bt),.sl (w.skip.map aG),vi w.bd]]⟩]⟩
def mF(w:av):Option Int:=
 (fu w).bind fun y1=>
 cond (!y1)
 (some (-1))
 ((aD (ie w) NN (0,(-1))).bind (fun o0=>
 some o0))
instance (w:av):CT Tryz.prog (mF w):=⟨237,[.ag (fK w)],[],fun r=>vi r,fun r=>[],fun H=>by replace H:=H0 H;unfold mF at H;exact aA Tryz.func237 rfl Tryz.ntmps237 Tryz.results237 fun Q hQ cR=>dU⟩
def hY(w:av)(y1:(List Int))(s0:Int×(List az)):Option ((Int×(List az))⊕(List az)):=
 cond (decide (s0.1<(w.ah.length:Int)))
 ((aC w.ah s0.1).bind fun y2=>
 (cL (bo ((([]:List au):List au).length+(y2.aE:List au).length) 16)).bind fun _=>
 (A8 (.un::.be 0 0 0::.be 1 0 0::.be 2 0 0::vi s0.1::.be 6 0 0::(U 59 [])) [some ⟨.of 33,10,[[.sl (w.aa.ay.map bp),.sl (w.aa.off.map aG),vi w.aa.change,.sl (w.ah.map bc),.sl (w.aq.map aB),.sl (w.ae.map aS),vi w.now,.sl (w.aH.map bt),.sl (w.skip.map aG),vi w.bd]]⟩,some ⟨.of 33,10,[[.v (.slice none 0 0),.v (.slice none 0 0),vi 0,.v (.slice none 0 0),.v (.slice none 0 0),.v (.slice none 0 0),vi 0,.v (.slice none 0 0),.v (.slice none 0 0),vi 0]]⟩,some ⟨.of 33,10,[[.ms 3,.ms 4,vi w.aa.change,.ms 5,.sl (w.aq.map aB),.sl (w.ae.map aS),vi w.now,.sl (w.aH.map bt),.sl (w.skip.map aG),vi w.bd]]⟩,some ⟨.of 174,6,((([]:List bM):List bM)++w.aa.ay).map bp⟩,some ⟨.of 3,1,y1.map aG⟩,some ⟨.of 155,11,s0.2.map bc⟩,some ⟨.of 155,11,[[vs y2.ar,vs y2.aV,vi y2.ax,vi y2.ab,vi y2.aO,vi y2.dX,.sl (((([]:List au):List au)++y2.aE).map aS),vi y2.aJ,vi y2.state,vs y2.place,vi y2.bD]]⟩]).bind fun _=>
 (cL (bo ((s0.2:List az).length+([(⟨y2.ar,y2.aV,y2.ax,y2.ab,y2.aO,y2.dX,((([]:List au):List au)++y2.aE),y2.aJ,y2.state,y2.place,y2.bD⟩:az)]:List az).length) 128)).bind fun _=>
 some (.inl ((aL (s0.1+1)),((s0.2:List az)++[(⟨y2.ar,y2.aV,y2.ax,y2.ab,y2.aO,y2.dX,((([]:List au):List au)++y2.aE),y2.aJ,y2.state,y2.place,y2.bD⟩:az)]))))
 (some (.inr s0.2))
instance (w:av)(y1:(List Int)):bm (hY w y1):=⟨fun s0=>(.un::.be 0 0 0::.be 1 0 0::.be 2 0 0::vi s0.1::(U 60 [])),fun s0=>[some ⟨.of 33,10,[[.sl (w.aa.ay.map bp),.sl (w.aa.off.map aG),vi w.aa.change,.sl (w.ah.map bc),.sl (w.aq.map aB),.sl (w.ae.map aS),vi w.now,.sl (w.aH.map bt),.sl (w.skip.map aG),vi w.bd]]⟩,some ⟨.of 33,10,[[.v (.slice none 0 0),.v (.slice none 0 0),vi 0,.v (.slice none 0 0),.v (.slice none 0 0),.v (.slice none 0 0),vi 0,.v (.slice none 0 0),.v (.slice none 0 0),vi 0]]⟩,some ⟨.of 33,10,[[.ms 3,.ms 4,vi w.aa.change,.ms 5,.sl (w.aq.map aB),.sl (w.ae.map aS),vi w.now,.sl (w.aH.map bt),.sl (w.skip.map aG),vi w.bd]]⟩,some ⟨.of 174,6,((([]:List bM):List bM)++w.aa.ay).map bp⟩,some ⟨.of 3,1,y1.map aG⟩,some ⟨.of 155,11,s0.2.map bc⟩]⟩
def ep(w:av):Option av:=
 (cL (bo ((([]:List bM):List bM).length+(w.aa.ay:List bM).length) 64)).bind fun _=>
 (dR w.aa.off).bind fun y1=>
 (aD (hY w y1) NN (0,([]:List az))).bind (fun o0=>
 (jZ w.aq).bind fun y3=>
 (cL (bo ((([]:List au):List au).length+(w.ae:List au).length) 16)).bind fun _=>
 (cL (bo ((([]:List br):List br).length+(w.aH:List br).length) 56)).bind fun _=>
 (dR w.skip).bind fun y4=>
 some (⟨(⟨((([]:List bM):List bM)++w.aa.ay),y1,w.aa.change⟩:aj),o0,y3,((([]:List au):List au)++w.ae),w.now,((([]:List br):List br)++w.aH),y4,w.bd⟩:av))
instance (w:av):CT Tryz.prog (ep w):=⟨125,[.ag (fK w)],[],fun r=>.ag [.ms 0,.ms 1,vi r.aa.change,.ms 2,.ms 3,.ms 4,vi r.now,.ms 5,.ms 6,vi r.bd],fun r=>[some ⟨.of 174,6,r.aa.ay.map bp⟩,some ⟨.of 3,1,r.aa.off.map aG⟩,some ⟨.of 155,11,r.ah.map bc⟩,some ⟨.of 177,4,r.aq.map aB⟩,some ⟨.of 46,2,r.ae.map aS⟩,some ⟨.of 181,6,r.aH.map bt⟩,some ⟨.of 3,1,r.skip.map aG⟩],fun H=>by replace H:=H0 H;unfold ep at H;exact aA Tryz.func125 rfl Tryz.ntmps125 Tryz.results125 fun Q hQ cR=>dU⟩
def kt(o:aM)(s0:Int):Option (Int⊕(Unit⊕Bool)):=
 cond (decide (s0<(o.aK.length:Int)))
 ((nR o s0).bind fun y6=>
 cond (!y6)
 (some (.inr (.inr false)))
 (some (.inl (aL (s0+1)))))
 (some (.inr (.inl ())))
instance (o:aM):bm (kt o):=⟨fun s0=>(.un::.be 0 0 0::.un::vi s0::(U 103 [])),fun s0=>[some ⟨.of 40,16,[[.sl (o.world.aa.ay.map bp),.sl (o.world.aa.off.map aG),vi o.world.aa.change,.sl (o.world.ah.map bc),.sl (o.world.aq.map aB),.sl (o.world.ae.map aS),vi o.world.now,.sl (o.world.aH.map bt),.sl (o.world.skip.map aG),vi o.world.bd,.sl (o.aY.map cK),.sl (o.ba.map cO),.sl (o.aN.map aG),.sl (o.aK.map bS),.sl (o.lines.map bO),.sl (o.aF.map ig)]]⟩]⟩
def ku(o:aM)(s1:Int):Option (Int⊕(Unit⊕Bool)):=
 cond (decide (s1<(o.lines.length:Int)))
 ((aC o.lines s1).bind fun y7=>
 cond (decide ((o.aK.length:Int)<y7.order))
 (some (.inr (.inr false)))
 ((aC o.lines s1).bind fun y8=>
 cond (decide (o.world.now<y8.aO))
 (some (.inr (.inr false)))
 (some (.inl (aL (s1+1))))))
 (some (.inr (.inl ())))
instance (o:aM):bm (ku o):=⟨fun s1=>(.un::.be 0 0 0::.un::.un::vi s1::(U 102 [])),fun s1=>[some ⟨.of 40,16,[[.sl (o.world.aa.ay.map bp),.sl (o.world.aa.off.map aG),vi o.world.aa.change,.sl (o.world.ah.map bc),.sl (o.world.aq.map aB),.sl (o.world.ae.map aS),vi o.world.now,.sl (o.world.aH.map bt),.sl (o.world.skip.map aG),vi o.world.bd,.sl (o.aY.map cK),.sl (o.ba.map cO),.sl (o.aN.map aG),.sl (o.aK.map bS),.sl (o.lines.map bO),.sl (o.aF.map ig)]]⟩]⟩
def kv(o:aM)(s2:Int):Option (Int⊕(Unit⊕Bool)):=
 cond (decide (s2<(o.aF.length:Int)))
 ((aC o.aF s2).bind fun y9=>
 (nd y9).bind fun dM=>
 cond (!dM)
 (some (.inr (.inr false)))
 (some (.inl (aL (s2+1)))))
 (some (.inr (.inl ())))
instance (o:aM):bm (kv o):=⟨fun s2=>(.un::.be 0 0 0::(U 3 (vi s2::(U 101 [])))),fun s2=>[some ⟨.of 40,16,[[.sl (o.world.aa.ay.map bp),.sl (o.world.aa.off.map aG),vi o.world.aa.change,.sl (o.world.ah.map bc),.sl (o.world.aq.map aB),.sl (o.world.ae.map aS),vi o.world.now,.sl (o.world.aH.map bt),.sl (o.world.skip.map aG),vi o.world.bd,.sl (o.aY.map cK),.sl (o.ba.map cO),.sl (o.aN.map aG),.sl (o.aK.map bS),.sl (o.lines.map bO),.sl (o.aF.map ig)]]⟩]⟩
def ld(o:aM):Option Bool:=
 (fu o.world).bind fun y1=>
 cond (!y1)
 (some false)
 ((jE o.aY).bind fun y2=>
 cond (!y2)
 (some false)
 ((kY o.ba (o.aY.length:Int)).bind fun y3=>
 cond (!y3)
 (some false)
 ((eI o.aN).bind fun y4=>
 cond (!y4)
 (some false)
 ((eh o.lines).bind fun y5=>
 cond (!y5)
 (some false)
 (cond (!decide ((o.aK.length:Int)=(o.world.ah.length:Int)))
 (some false)
 (cond (decide (150<(o.aF.length:Int)))
 (some false)
 ((aD (kt o) NN 0).bind (bl (fun o0=>
 (aD (ku o) NN 0).bind (bl (fun o1=>
 (aD (kv o) NN 0).bind (bl (fun o2=>
 some true) (fun r=>some r))) (fun r=>some r))) (fun r=>some r)))))))))
instance (o:aM):CT Tryz.prog (ld o):=⟨51,[.ag (lk o)],[],fun r=>vb r,fun r=>[],fun H=>by replace H:=H0 H;unfold ld at H;exact aA Tryz.func51 rfl Tryz.ntmps51 Tryz.results51 fun Q hQ cR=>dU⟩
def lQ(w:av)(s0:Int×(List Int)):Option ((Int×(List Int))⊕(List Int)):=
 cond (decide (s0.1<(w.ah.length:Int)))
 ((iT w s0.1).bind fun y2=>
 cond y2
 ((cL (bo ((s0.2:List Int).length+([(aL (s0.1+1))]:List Int).length) 8)).bind fun _=>
 some (.inl ((aL (s0.1+1)),((s0.2:List Int)++[(aL (s0.1+1))]))))
 (some (.inl ((aL (s0.1+1)),s0.2))))
 (some (.inr s0.2))
instance (w:av):bm (lQ w):=⟨fun s0=>(.un::.be 0 0 0::.un::.ms 1::vi s0.1::(U 21 [])),fun s0=>[some ⟨.of 33,10,[[.sl (w.aa.ay.map bp),.sl (w.aa.off.map aG),vi w.aa.change,.sl (w.ah.map bc),.sl (w.aq.map aB),.sl (w.ae.map aS),vi w.now,.sl (w.aH.map bt),.sl (w.skip.map aG),vi w.bd]]⟩,some ⟨.of 3,1,s0.2.map aG⟩]⟩
def gU(w:av):Option (List Int):=
 (fu w).bind fun y1=>
 cond (!y1)
 (some ([]:List Int))
 ((aD (lQ w) NN (0,([]:List Int))).bind (fun o0=>
 some o0))
instance (w:av):CT Tryz.prog (gU w):=⟨243,[.ag (fK w)],[],fun r=>.ms 0,fun r=>[some ⟨.of 3,1,r.map aG⟩],fun H=>by replace H:=H0 H;unfold gU at H;exact aA Tryz.func243 rfl Tryz.ntmps243 Tryz.results243 fun Q hQ cR=>dU⟩
def gw(p:a8):Option a8:=
 (dR p.cq).bind fun y1=>
 some (⟨p.label,p.ar,p.ab,y1,p.value⟩:a8)
instance (p:a8):CT Tryz.prog (gw p):=⟨54,[.ag (bS p)],[],fun r=>.ag [vi r.label.ax,vi r.label.fz,vs r.label.aV,vs r.ar,vi r.ab,.sl (r.cq.map aG),vi r.value],fun r=>[],fun H=>by replace H:=H0 H;unfold gw at H;exact aA Tryz.func54 rfl Tryz.ntmps54 Tryz.results54 fun Q hQ cR=>dU⟩
def jJ(o:aM)(y1:av)(y2:(List Int))(y3:(List aW))(s0:Int×(List a8)):Option ((Int×(List a8))⊕(List a8)):=
 cond (decide (s0.1<(o.aK.length:Int)))
 ((aC o.aK s0.1).bind fun y4=>
 (gw y4).bind fun y5=>
 (cL (bo ((s0.2:List a8).length+([y5]:List a8).length) 88)).bind fun _=>
 some (.inl ((aL (s0.1+1)),((s0.2:List a8)++[y5]))))
 (some (.inr s0.2))
instance (o:aM)(y1:av)(y2:(List Int))(y3:(List aW)):bm (jJ o y1 y2 y3):=⟨fun s0=>(.un::.be 0 0 0::.be 1 0 0::.be 2 0 0::vi s0.1::(U 61 [])),fun s0=>[some ⟨.of 40,16,[[.sl (o.world.aa.ay.map bp),.sl (o.world.aa.off.map aG),vi o.world.aa.change,.sl (o.world.ah.map bc),.sl (o.world.aq.map aB),.sl (o.world.ae.map aS),vi o.world.now,.sl (o.world.aH.map bt),.sl (o.world.skip.map aG),vi o.world.bd,.sl (o.aY.map cK),.sl (o.ba.map cO),.sl (o.aN.map aG),.sl (o.aK.map bS),.sl (o.lines.map bO),.sl (o.aF.map ig)]]⟩,some ⟨.of 40,16,[[.v (.slice none 0 0),.v (.slice none 0 0),vi 0,.v (.slice none 0 0),.v (.slice none 0 0),.v (.slice none 0 0),vi 0,.v (.slice none 0 0),.v (.slice none 0 0),vi 0,.v (.slice none 0 0),.v (.slice none 0 0),.v (.slice none 0 0),.v (.slice none 0 0),.v (.slice none 0 0),.v (.slice none 0 0)]]⟩,some ⟨.of 40,16,[[.ms 3,.ms 4,vi y1.aa.change,.ms 5,.ms 6,.ms 7,vi y1.now,.ms 8,.ms 9,vi y1.bd,.ms 10,.ms 11,.ms 12,.ms 13,.ms 14,.v (.slice none 0 0)]]⟩,some ⟨.of 174,6,y1.aa.ay.map bp⟩,some ⟨.of 3,1,y1.aa.off.map aG⟩,some ⟨.of 155,11,y1.ah.map bc⟩,some ⟨.of 177,4,y1.aq.map aB⟩,some ⟨.of 46,2,y1.ae.map aS⟩,some ⟨.of 181,6,y1.aH.map bt⟩,some ⟨.of 3,1,y1.skip.map aG⟩,some ⟨.of 104,2,((([]:List bL):List bL)++o.aY).map cK⟩,some ⟨.of 107,4,((([]:List bN):List bN)++o.ba).map cO⟩,some ⟨.of 3,1,y2.map aG⟩,some ⟨.of 44,7,s0.2.map bS⟩,some ⟨.of 111,4,y3.map bO⟩]⟩
def jK(o:aM)(y1:av)(y2:(List Int))(y3:(List aW))(o0:(List a8))(s1:Int×(List cg)):Option ((Int×(List cg))⊕(List cg)):=
 cond (decide (s1.1<(o.aF.length:Int)))
 ((aC o.aF s1.1).bind fun y6=>
 (gw y6.aT).bind fun y7=>
 (cL (bo ((s1.2:List cg).length+([(⟨y6.kind,y7,y6.order,y6.bz,y6.bH,y6.bf⟩:cg)]:List cg).length) 136)).bind fun _=>
 some (.inl ((aL (s1.1+1)),((s1.2:List cg)++[(⟨y6.kind,y7,y6.order,y6.bz,y6.bH,y6.bf⟩:cg)]))))
 (some (.inr s1.2))
instance (o:aM)(y1:av)(y2:(List Int))(y3:(List aW))(o0:(List a8)):bm (jK o y1 y2 y3 o0):=⟨fun s1=>(.un::.be 0 0 0::.be 1 0 0::.be 2 0 0::.un::vi s1.1::(U 60 [])),fun s1=>[some ⟨.of 40,16,[[.sl (o.world.aa.ay.map bp),.sl (o.world.aa.off.map aG),vi o.world.aa.change,.sl (o.world.ah.map bc),.sl (o.world.aq.map aB),.sl (o.world.ae.map aS),vi o.world.now,.sl (o.world.aH.map bt),.sl (o.world.skip.map aG),vi o.world.bd,.sl (o.aY.map cK),.sl (o.ba.map cO),.sl (o.aN.map aG),.sl (o.aK.map bS),.sl (o.lines.map bO),.sl (o.aF.map ig)]]⟩,some ⟨.of 40,16,[[.v (.slice none 0 0),.v (.slice none 0 0),vi 0,.v (.slice none 0 0),.v (.slice none 0 0),.v (.slice none 0 0),vi 0,.v (.slice none 0 0),.v (.slice none 0 0),vi 0,.v (.slice none 0 0),.v (.slice none 0 0),.v (.slice none 0 0),.v (.slice none 0 0),.v (.slice none 0 0),.v (.slice none 0 0)]]⟩,some ⟨.of 40,16,[[.ms 3,.ms 4,vi y1.aa.change,.ms 5,.ms 6,.ms 7,vi y1.now,.ms 8,.ms 9,vi y1.bd,.ms 10,.ms 11,.ms 12,.ms 13,.ms 14,.ms 15]]⟩,some ⟨.of 174,6,y1.aa.ay.map bp⟩,some ⟨.of 3,1,y1.aa.off.map aG⟩,some ⟨.of 155,11,y1.ah.map bc⟩,some ⟨.of 177,4,y1.aq.map aB⟩,some ⟨.of 46,2,y1.ae.map aS⟩,some ⟨.of 181,6,y1.aH.map bt⟩,some ⟨.of 3,1,y1.skip.map aG⟩,some ⟨.of 104,2,((([]:List bL):List bL)++o.aY).map cK⟩,some ⟨.of 107,4,((([]:List bN):List bN)++o.ba).map cO⟩,some ⟨.of 3,1,y2.map aG⟩,some ⟨.of 44,7,o0.map bS⟩,some ⟨.of 111,4,y3.map bO⟩,some ⟨.of 48,13,s1.2.map ig⟩]⟩
def gu(o:aM):Option aM:=
 (ll 8 []).bind fun _=>
 (ep o.world).bind fun y1=>
 (cL (bo ((([]:List bL):List bL).length+(o.aY:List bL).length) 32)).bind fun _=>
 (cL (bo ((([]:List bN):List bN).length+(o.ba:List bN).length) 32)).bind fun _=>
 (dR o.aN).bind fun y2=>
 (ca o.lines).bind fun y3=>
 (aD (jJ o y1 y2 y3) NN (0,[])).bind (fun o0=>
 (aD (jK o y1 y2 y3 o0) NN (0,[])).bind (fun o1=>
 some (⟨y1,((([]:List bL):List bL)++o.aY),((([]:List bN):List bN)++o.ba),y2,o0,y3,o1⟩:aM)))
instance (o:aM):CT Tryz.prog (gu o):=⟨50,[.ag (lk o)],[],fun r=>.ag [.sl (r.world.aa.ay.map bp),.sl (r.world.aa.off.map aG),vi r.world.aa.change,.sl (r.world.ah.map bc),.sl (r.world.aq.map aB),.sl (r.world.ae.map aS),vi r.world.now,.sl (r.world.aH.map bt),.sl (r.world.skip.map aG),vi r.world.bd,.ms 0,.ms 1,.ms 2,.ms 3,.ms 4,.ms 5],fun r=>[some ⟨.of 104,2,r.aY.map cK⟩,some ⟨.of 107,4,r.ba.map cO⟩,some ⟨.of 3,1,r.aN.map aG⟩,some ⟨.of 44,7,r.aK.map bS⟩,some ⟨.of 111,4,r.lines.map bO⟩,some ⟨.of 48,13,r.aF.map ig⟩],fun H=>by replace H:=H0 H;unfold gu at H;exact aA Tryz.func50 rfl Tryz.ntmps50 Tryz.results50 fun Q hQ cR=>Mb⟩
def gR(n:aj)(skip:List Int):Option (av×Bool):=
 (ep (⟨n,[],[],[],0,[],skip,0⟩:av)).bind fun y1=>
 (fu y1).bind fun y2=>
 cond (!y2)
 (some ((⟨(⟨[],[],0⟩:aj),[],[],[],0,[],[],0⟩:av),false))
 (some (y1,true))
theorem xK(n:aj)(skip:List Int){r:av×Bool}(H:gR n skip=some r):iZ Tryz.prog 257 [.ag (bA n),.sl (skip.map aG)] [] (.tu [.ag [.ms 0,.ms 1,vi r.1.aa.change,.ms 2,.ms 3,.ms 4,vi r.1.now,.ms 5,.ms 6,vi r.1.bd],vb r.2]) [some ⟨.of 174,6,r.1.aa.ay.map bp⟩,some ⟨.of 3,1,r.1.aa.off.map aG⟩,some ⟨.of 155,11,r.1.ah.map bc⟩,some ⟨.of 177,4,r.1.aq.map aB⟩,some ⟨.of 46,2,r.1.ae.map aS⟩,some ⟨.of 181,6,r.1.aH.map bt⟩,some ⟨.of 3,1,r.1.skip.map aG⟩]:=by
 replace H:=H0 H
 unfold gR at H
 refine aA Tryz.func257 rfl Tryz.ntmps257 Tryz.results257 fun Q hQ cR=>?_
 exact dU
instance (n:aj)(skip:List Int):CT Tryz.prog (gR n skip):=⟨257,[.ag (bA n),.sl (skip.map aG)],[],fun r=>.tu [.ag [.ms 0,.ms 1,vi r.1.aa.change,.ms 2,.ms 3,.ms 4,vi r.1.now,.ms 5,.ms 6,vi r.1.bd],vb r.2],fun r=>[some ⟨.of 174,6,r.1.aa.ay.map bp⟩,some ⟨.of 3,1,r.1.aa.off.map aG⟩,some ⟨.of 155,11,r.1.ah.map bc⟩,some ⟨.of 177,4,r.1.aq.map aB⟩,some ⟨.of 46,2,r.1.ae.map aS⟩,some ⟨.of 181,6,r.1.aH.map bt⟩,some ⟨.of 3,1,r.1.skip.map aG⟩],xK n skip⟩
def kp(n:aj)(skip:List Int)(aY:List bL)(ba:List bN)(aN:List Int):Option (aM×Bool):=
 (gR n skip).bind fun y1=>
 (A8 (.un::.un::.sl (aY.map cK)::.sl (ba.map cO)::.sl (aN.map aG)::(U 5 (.be 0 0 0::.un::.be 1 0 0::vb y1.2::(U 22 [])))) [some ⟨.of 40,16,[[.v (.slice none 0 0),.v (.slice none 0 0),vi 0,.v (.slice none 0 0),.v (.slice none 0 0),.v (.slice none 0 0),vi 0,.v (.slice none 0 0),.v (.slice none 0 0),vi 0,.v (.slice none 0 0),.v (.slice none 0 0),.v (.slice none 0 0),.v (.slice none 0 0),.v (.slice none 0 0),.v (.slice none 0 0)]]⟩,some ⟨.of 33,10,[[.sl (y1.1.aa.ay.map bp),.sl (y1.1.aa.off.map aG),vi y1.1.aa.change,.sl (y1.1.ah.map bc),.sl (y1.1.aq.map aB),.sl (y1.1.ae.map aS),vi y1.1.now,.sl (y1.1.aH.map bt),.sl (y1.1.skip.map aG),vi y1.1.bd]]⟩]).bind fun _=>
 (gu (⟨y1.1,aY,ba,aN,[],[],[]⟩:aM)).bind fun y2=>
 cond (!y1.2)
 (some ((⟨(⟨(⟨[],[],0⟩:aj),[],[],[],0,[],[],0⟩:av),[],[],[],[],[],[]⟩:aM),false))
 ((ld y2).bind fun y3=>
 cond (!y3)
 (some ((⟨(⟨(⟨[],[],0⟩:aj),[],[],[],0,[],[],0⟩:av),[],[],[],[],[],[]⟩:aM),false))
 (some (y2,true)))
instance (n:aj)(skip:List Int)(aY:List bL)(ba:List bN)(aN:List Int):CT Tryz.prog (kp n skip aY ba aN):=⟨255,[.ag (bA n),.sl (skip.map aG),.sl (aY.map cK),.sl (ba.map cO),.sl (aN.map aG)],[],fun r=>.tu [.ag [.sl (r.1.world.aa.ay.map bp),.sl (r.1.world.aa.off.map aG),vi r.1.world.aa.change,.sl (r.1.world.ah.map bc),.sl (r.1.world.aq.map aB),.sl (r.1.world.ae.map aS),vi r.1.world.now,.sl (r.1.world.aH.map bt),.sl (r.1.world.skip.map aG),vi r.1.world.bd,.sl (r.1.aY.map cK),.sl (r.1.ba.map cO),.sl (r.1.aN.map aG),.ms 0,.sl (r.1.lines.map bO),.ms 1],vb r.2],fun r=>[some ⟨.of 44,7,r.1.aK.map bS⟩,some ⟨.of 48,13,r.1.aF.map ig⟩],fun H=>by replace H:=H0 H;unfold kp at H;exact aA Tryz.func255 rfl Tryz.ntmps255 Tryz.results255 fun Q hQ cR=>Mb⟩
def lW(a:List bM)(b:List bM)(s0:Int):Option (Int⊕(Unit⊕Bool)):=
 cond (decide (s0<(a.length:Int)))
 ((aC a s0).bind fun y1=>
 (aC b s0).bind fun y2=>
 cond (!decide (y1=y2))
 (some (.inr (.inr false)))
 (some (.inl (aL (s0+1)))))
 (some (.inr (.inl ())))
instance (a:List bM)(b:List bM):bm (lW a b):=⟨fun s0=>(.sl (a.map bp)::.sl (b.map bp)::(U 10 (vi (a.length:Int)::vi s0::(U 12 [])))),fun s0=>[]⟩
def iB(a:List bM)(b:List bM):Option Bool:=
 cond (!decide ((a.length:Int)=(b.length:Int)))
 (some false)
 ((aD (lW a b) NN 0).bind (bl (fun o0=>
 some true) (fun r=>some r)))
instance (a:List bM)(b:List bM):CT Tryz.prog (iB a b):=⟨114,[.sl (a.map bp),.sl (b.map bp)],[],fun r=>vb r,fun r=>[],fun H=>by replace H:=H0 H;unfold iB at H;exact aA Tryz.func114 rfl Tryz.ntmps114 Tryz.results114 fun Q hQ cR=>dU⟩
def jD(a:List ao)(b:List ao)(s0:Int):Option (Int⊕(Unit⊕Bool)):=
 cond (decide (s0<(a.length:Int)))
 ((aC a s0).bind fun y1=>
 (aC b s0).bind fun y2=>
 cond (!decide (y1=y2))
 (some (.inr (.inr false)))
 (some (.inl (aL (s0+1)))))
 (some (.inr (.inl ())))
instance (a:List ao)(b:List ao):bm (jD a b):=⟨fun s0=>(.sl (a.map aB)::.sl (b.map aB)::(U 10 (vi (a.length:Int)::vi s0::(U 12 [])))),fun s0=>[]⟩
def fH(a:List ao)(b:List ao):Option Bool:=
 cond (!decide ((a.length:Int)=(b.length:Int)))
 (some false)
 ((aD (jD a b) NN 0).bind (bl (fun o0=>
 some true) (fun r=>some r)))
instance (a:List ao)(b:List ao):CT Tryz.prog (fH a b):=⟨115,[.sl (a.map aB),.sl (b.map aB)],[],fun r=>vb r,fun r=>[],fun H=>by replace H:=H0 H;unfold fH at H;exact aA Tryz.func115 rfl Tryz.ntmps115 Tryz.results115 fun Q hQ cR=>dU⟩
def kP(a:List br)(b:List br)(s0:Int):Option (Int⊕(Unit⊕Bool)):=
 cond (decide (s0<(a.length:Int)))
 ((aC a s0).bind fun y1=>
 (aC b s0).bind fun y2=>
 cond (!decide (y1=y2))
 (some (.inr (.inr false)))
 (some (.inl (aL (s0+1)))))
 (some (.inr (.inl ())))
instance (a:List br)(b:List br):bm (kP a b):=⟨fun s0=>(.sl (a.map bt)::.sl (b.map bt)::(U 10 (vi (a.length:Int)::vi s0::(U 12 [])))),fun s0=>[]⟩
def gM(a:List br)(b:List br):Option Bool:=
 cond (!decide ((a.length:Int)=(b.length:Int)))
 (some false)
 ((aD (kP a b) NN 0).bind (bl (fun o0=>
 some true) (fun r=>some r)))
instance (a:List br)(b:List br):CT Tryz.prog (gM a b):=⟨117,[.sl (a.map bt),.sl (b.map bt)],[],fun r=>vb r,fun r=>[],fun H=>by replace H:=H0 H;unfold gM at H;exact aA Tryz.func117 rfl Tryz.ntmps117 Tryz.results117 fun Q hQ cR=>dU⟩
end Go.Proofs.YtbalgkakkoocjaaGreat
