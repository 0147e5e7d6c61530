/- A part of the proof of the statement in the last file of this claim: texts on the language of the program and on its functions. No condition. -/
import Derived.Test.YtbalgkakkoocjaaGreatCFnTwice6
import Derived.Test.YtbalgkakkoocjaaGreatCFnTwice5
import Derived.Test.YtbalgkakkoocjaaGreatCFnTwice13
import Derived.Test.YtbalgkakkoocjaaGreatCFnTwice12
import Derived.Test.YtbalgkakkoocjaaGreatCFnTwice14
import Derived.Test.YtbalgkakkoocjaaGreatCFnTwice15
import Derived.Test.YtbalgkakkoocjaaGreatCFnTwice9
import Derived.Test.YtbalgkakkoocjaaGreatCFnTwice10
set_option linter.unusedVariables false
set_option linter.unusedSimpArgs false
set_option linter.unusedSectionVars false
namespace Go.Proofs.YtbalgkakkoocjaaGreat
open _root_.Int renaming toNat→Wo
set_option maxRecDepth 10000
open Go.RowKit
set_option maxHeartbeats 16000000
def kX(o:aM)(a:cg):Option (Int×aM):=
 cond (decide (a.kind=1))
 ((bh [0,1,2,3,4,5,6]).bind fun _=>
 (lH o a.aT).bind fun y1=>
 some (y1.1,y1.2))
 (cond (decide (a.kind=2))
 (cond (decide (a.kind=2))
 ((bh [0,1,2,3,4,5,6]).bind fun _=>
 (iN o a).bind fun y2=>
 some (y2.1,y2.2))
 (cond (decide (a.kind=3))
 (cond (decide (a.bH≤o.world.now))
 (some (6,o))
 ((ll 8 []).bind fun _=>
 (db o.world a.bH).bind fun y3=>
 some (0,(⟨y3,o.aY,o.ba,o.aN,o.aK,o.lines,o.aF⟩:aM))))
 (cond (decide (a.kind=4))
 ((ll 8 []).bind fun _=>
 (cP o.world a.bf).bind fun y4=>
 cond (!y4.2)
 (some (6,o))
 (some (0,(⟨y4.1,o.aY,o.ba,o.aN,o.aK,o.lines,o.aF⟩:aM))))
 ((cF o.world).bind fun y5=>
 cond (decide (y5.2=0))
 (some (6,o))
 (some (0,(⟨y5.1,o.aY,o.ba,o.aN,o.aK,o.lines,o.aF⟩:aM)))))))
 (cond (decide (a.kind=6))
 ((bh [0,1,2,3,4,5,6]).bind fun _=>
 (iN o a).bind fun y6=>
 some (y6.1,y6.2))
 (cond (decide (a.kind=3))
 (cond (decide (a.bH≤o.world.now))
 (some (6,o))
 ((ll 8 []).bind fun _=>
 (db o.world a.bH).bind fun y7=>
 some (0,(⟨y7,o.aY,o.ba,o.aN,o.aK,o.lines,o.aF⟩:aM))))
 (cond (decide (a.kind=4))
 ((ll 8 []).bind fun _=>
 (cP o.world a.bf).bind fun y8=>
 cond (!y8.2)
 (some (6,o))
 (some (0,(⟨y8.1,o.aY,o.ba,o.aN,o.aK,o.lines,o.aF⟩:aM))))
 ((cF o.world).bind fun y9=>
 cond (decide (y9.2=0))
 (some (6,o))
 (some (0,(⟨y9.1,o.aY,o.ba,o.aN,o.aK,o.lines,o.aF⟩:aM))))))))
instance (o:aM)(a:cg):CT Tryz.prog (kX o a):=⟨53,[.be 0 0 0,.ag (ig a)],[some ⟨.of 40,16,[[.sl (o.world.aa.ay.map bp),.sl (o.world.aa.off.map aG),vi o.world.aa.change,.sl (o.world.ah.map bc),.sl (o.world.aq.map aB),.sl (o.world.ae.map aS),vi o.world.now,.sl (o.world.aH.map bt),.sl (o.world.skip.map aG),vi o.world.bd,.ms 1,.ms 2,.ms 3,.ms 4,.ms 5,.ms 6]]⟩,some ⟨.of 104,2,o.aY.map cK⟩,some ⟨.of 107,4,o.ba.map cO⟩,some ⟨.of 3,1,o.aN.map aG⟩,some ⟨.of 44,7,o.aK.map bS⟩,some ⟨.of 111,4,o.lines.map bO⟩,some ⟨.of 48,13,o.aF.map ig⟩],fun r=>vi r.1,fun r=>[some ⟨.of 40,16,[[.sl (r.2.world.aa.ay.map bp),.sl (r.2.world.aa.off.map aG),vi r.2.world.aa.change,.sl (r.2.world.ah.map bc),.sl (r.2.world.aq.map aB),.sl (r.2.world.ae.map aS),vi r.2.world.now,.sl (r.2.world.aH.map bt),.sl (r.2.world.skip.map aG),vi r.2.world.bd,.ms 1,.ms 2,.ms 3,.ms 7,.ms 8,.ms 6]]⟩,some ⟨.of 104,2,r.2.aY.map cK⟩,some ⟨.of 107,4,r.2.ba.map cO⟩,some ⟨.of 3,1,r.2.aN.map aG⟩,none,none,some ⟨.of 48,13,r.2.aF.map ig⟩,some ⟨.of 44,7,r.2.aK.map bS⟩,some ⟨.of 111,4,r.2.lines.map bO⟩],fun H=>by replace H:=H0 H;unfold kX at H;exact aA Tryz.func53 rfl Tryz.ntmps53 Tryz.results53 fun Q hQ cR=>Mb⟩
def mr(o:aM)(a:cg):Option (aM×Int):=
 (gu o).bind fun y1=>
 (ld o).bind fun y2=>
 cond (!y2)
 (some (y1,1))
 ((nd a).bind fun y3=>
 cond (!y3)
 (some (y1,1))
 (cond (decide (150≤(o.aF.length:Int)))
 (some (y1,5))
 ((bh [9,3,4,5,6,7,8]).bind fun _=>
 (kX y1 a).bind fun y4=>
 cond (!decide (y4.1=0))
 ((gu o).bind fun y5=>
 some (y5,y4.1))
 ((gw a.aT).bind fun y6=>
 (cL (bo ((y4.2.aF:List cg).length+([(⟨a.kind,y6,a.order,a.bz,a.bH,a.bf⟩:cg)]:List cg).length) 136)).bind fun _=>
 some ((⟨y4.2.world,y4.2.aY,y4.2.ba,y4.2.aN,y4.2.aK,y4.2.lines,((y4.2.aF:List cg)++[(⟨a.kind,y6,a.order,a.bz,a.bH,a.bf⟩:cg)])⟩:aM),y4.1)))))
instance (o:aM)(a:cg):CT Tryz.prog (mr o a):=⟨12,[.ag (lk o),.ag (ig a)],[],fun r=>.tu [.ag [.sl (r.1.world.aa.ay.map bp),.sl (r.1.world.aa.off.map aG),vi r.1.world.aa.change,.sl (r.1.world.ah.map bc),.sl (r.1.world.aq.map aB),.sl (r.1.world.ae.map aS),vi r.1.world.now,.sl (r.1.world.aH.map bt),.sl (r.1.world.skip.map aG),vi r.1.world.bd,.sl (r.1.aY.map cK),.sl (r.1.ba.map cO),.sl (r.1.aN.map aG),.ms 0,.sl (r.1.lines.map bO),.ms 1],vi r.2],fun r=>[some ⟨.of 44,7,r.1.aK.map bS⟩,some ⟨.of 48,13,r.1.aF.map ig⟩],fun H=>by replace H:=H0 H;unfold mr at H;exact aA Tryz.func12 rfl Tryz.ntmps12 Tryz.results12 fun Q hQ cR=>Mb⟩
def mv(c:aP)(w:av):Option (av×aP):=
 (bh [0]).bind fun _=>
 (aw c 6).bind fun y1=>
 cond (decide (y1.1=0))
 (cond (decide (y1.1=0))
 ((ll 8 [4,8,10,13]).bind fun _=>
 (bh [0]).bind fun _=>
 (cA y1.2 w.aa).bind fun y2=>
 (bh [0]).bind fun _=>
 (cA y2.2 w.aa).bind fun y3=>
 (bh [0]).bind fun _=>
 (aw y3.2 3).bind fun y4=>
 (bh [0]).bind fun _=>
 (aw y4.2 4000).bind fun y5=>
 (cV w y2.1 y3.1 (aL (1+y4.1)) (aL (500+y5.1))).bind fun y6=>
 some (y6.1,y5.2))
 (cond (decide (y1.1=3))
 ((ll 8 [3]).bind fun _=>
 (bh [0]).bind fun _=>
 (dJ y1.2 w).bind fun y7=>
 (cP w y7.1).bind fun y8=>
 some (y8.1,y7.2))
 (cond (decide (y1.1=4))
 ((cF w).bind fun y9=>
 some (y9.1,y1.2))
 ((ll 8 [4]).bind fun _=>
 (bh [0]).bind fun _=>
 (aw y1.2 40).bind fun dM=>
 (db w (aL (w.now+(aL (30*dM.1))))).bind fun jx=>
 some (jx,dM.2)))))
 (cond (decide (y1.1=1))
 (cond (decide (y1.1=1))
 ((ll 8 [4,8,10,13]).bind fun _=>
 (bh [0]).bind fun _=>
 (cA y1.2 w.aa).bind fun oV=>
 (bh [0]).bind fun _=>
 (cA oV.2 w.aa).bind fun lZ=>
 (bh [0]).bind fun _=>
 (aw lZ.2 3).bind fun kS=>
 (bh [0]).bind fun _=>
 (aw kS.2 4000).bind fun o9=>
 (cV w oV.1 lZ.1 (aL (1+kS.1)) (aL (500+o9.1))).bind fun ma=>
 some (ma.1,o9.2))
 (cond (decide (y1.1=3))
 ((ll 8 [3]).bind fun _=>
 (bh [0]).bind fun _=>
 (dJ y1.2 w).bind fun ri=>
 (cP w ri.1).bind fun sw=>
 some (sw.1,ri.2))
 (cond (decide (y1.1=4))
 ((cF w).bind fun vW=>
 some (vW.1,y1.2))
 ((ll 8 [4]).bind fun _=>
 (bh [0]).bind fun _=>
 (aw y1.2 40).bind fun Bj=>
 (db w (aL (w.now+(aL (30*Bj.1))))).bind fun xX=>
 some (xX,Bj.2)))))
 (cond (decide (y1.1=2))
 ((ll 8 [4,8,10,13]).bind fun _=>
 (bh [0]).bind fun _=>
 (cA y1.2 w.aa).bind fun AX=>
 (bh [0]).bind fun _=>
 (cA AX.2 w.aa).bind fun FR=>
 (bh [0]).bind fun _=>
 (aw FR.2 3).bind fun y24=>
 (bh [0]).bind fun _=>
 (aw y24.2 4000).bind fun Tn=>
 (cV w AX.1 FR.1 (aL (1+y24.1)) (aL (500+Tn.1))).bind fun y26=>
 some (y26.1,Tn.2))
 (cond (decide (y1.1=3))
 ((ll 8 [3]).bind fun _=>
 (bh [0]).bind fun _=>
 (dJ y1.2 w).bind fun y27=>
 (cP w y27.1).bind fun y28=>
 some (y28.1,y27.2))
 (cond (decide (y1.1=4))
 ((cF w).bind fun y29=>
 some (y29.1,y1.2))
 ((ll 8 [4]).bind fun _=>
 (bh [0]).bind fun _=>
 (aw y1.2 40).bind fun To=>
 (db w (aL (w.now+(aL (30*To.1))))).bind fun y31=>
 some (y31,To.2))))))
instance (c:aP)(w:av):CT Tryz.prog (mv c w):=⟨258,[.be 0 0 0,.ag (fK w)],[some ⟨.of 139,3,[[.sl (c.b.map cB8),vi c.i,vi c.h]]⟩],fun r=>.ag [.ms 1,.ms 2,vi r.1.aa.change,.ms 3,.ms 4,.ms 5,vi r.1.now,.ms 6,.ms 7,vi r.1.bd],fun r=>[some ⟨.of 139,3,[[.sl (r.2.b.map cB8),vi r.2.i,vi r.2.h]]⟩,some ⟨.of 174,6,r.1.aa.ay.map bp⟩,some ⟨.of 3,1,r.1.aa.off.map aG⟩,some ⟨.of 155,11,r.1.ah.map bc⟩,some ⟨.of 177,4,r.1.aq.map aB⟩,some ⟨.of 46,2,r.1.ae.map aS⟩,some ⟨.of 181,6,r.1.aH.map bt⟩,some ⟨.of 3,1,r.1.skip.map aG⟩],fun H=>by replace H:=H0 H;unfold mv at H;exact aA Tryz.func258 rfl Tryz.ntmps258 Tryz.results258 fun Q hQ cR=>xW⟩
def ot(iE:Int)(y1:aj×aP)(s0:Int×(List YB8)×Int×Int×(List bM)):Option ((Int×(List YB8)×Int×Int×(List bM))⊕((List YB8)×Int×Int×(List bM))):=
 cond (decide (s0.1<(s0.2.2.2.2.length:Int)))
 ((bh [0]).bind fun _=>
 (bT (⟨s0.2.1,s0.2.2.1,s0.2.2.2.1⟩:aP) 2).bind fun y2=>
 cond y2.1
 ((ll 8 [4]).bind fun _=>
 (bh [0]).bind fun _=>
 (aw y2.2 9).bind fun y3=>
 (aC s0.2.2.2.2 s0.1).bind fun y4=>
 some (.inl ((aL (s0.1+1)),y3.2.b,y3.2.i,y3.2.h,(s0.2.2.2.2.set (Wo s0.1) (⟨y4.ar,y4.aV,y4.start,y4.lT,y4.tI,(aL (2000+(aL (1000*y3.1))))⟩:bM)))))
 (some (.inl ((aL (s0.1+1)),y2.2.b,y2.2.i,y2.2.h,s0.2.2.2.2))))
 (some (.inr (s0.2.1,s0.2.2.1,s0.2.2.2.1,s0.2.2.2.2)))
instance (iE:Int)(y1:aj×aP):bm (ot iE y1):=⟨fun s0=>(.be 0 0 0::vi iE::.un::.un::.be 1 0 0::.be 2 0 0::vi s0.1::(U 55 [])),fun s0=>[some ⟨.of 139,3,[[.sl (s0.2.1.map cB8),vi s0.2.2.1,vi s0.2.2.2.1]]⟩,some ⟨.of 33,10,[[.v (.slice none 0 0),.v (.slice none 0 0),vi 0,.v (.slice none 0 0),.v (.slice none 0 0),.v (.slice none 0 0),vi 0,.v (.slice none 0 0),.v (.slice none 0 0),vi 0]]⟩,some ⟨.of 27,3,[[.ms 3,.ms 4,vi y1.1.change]]⟩,some ⟨.of 174,6,s0.2.2.2.2.map bp⟩,some ⟨.of 3,1,y1.1.off.map aG⟩]⟩
def ou(iE:Int)(y1:aj×aP)(o0:(List YB8)×Int×Int×(List bM))(s1:Int×(List YB8)×Int×Int×(List Int)):Option ((Int×(List YB8)×Int×Int×(List Int))⊕((List YB8)×Int×Int×(List Int))):=
 cond (decide (0<s1.1))
 ((bh [0]).bind fun _=>
 (aw (⟨s1.2.1,s1.2.2.1,s1.2.2.2.1⟩:aP) 25).bind fun y6=>
 (cL (bo ((s1.2.2.2.2:List Int).length+([(aL (1+y6.1))]:List Int).length) 8)).bind fun _=>
 some (.inl ((aL (s1.1-1)),y6.2.b,y6.2.i,y6.2.h,((s1.2.2.2.2:List Int)++[(aL (1+y6.1))]))))
 (some (.inr (s1.2.1,s1.2.2.1,s1.2.2.2.1,s1.2.2.2.2)))
instance (iE:Int)(y1:aj×aP)(o0:(List YB8)×Int×Int×(List bM)):bm (ou iE y1 o0):=⟨fun s1=>(.be 0 0 0::vi iE::.un::.un::.be 1 0 0::.be 2 0 0::.un::.ms 5::vi s1.1::(U 53 [])),fun s1=>[some ⟨.of 139,3,[[.sl (s1.2.1.map cB8),vi s1.2.2.1,vi s1.2.2.2.1]]⟩,some ⟨.of 33,10,[[.v (.slice none 0 0),.v (.slice none 0 0),vi 0,.v (.slice none 0 0),.v (.slice none 0 0),.v (.slice none 0 0),vi 0,.v (.slice none 0 0),.v (.slice none 0 0),vi 0]]⟩,some ⟨.of 27,3,[[.ms 3,.ms 4,vi y1.1.change]]⟩,some ⟨.of 174,6,o0.2.2.2.map bp⟩,some ⟨.of 3,1,y1.1.off.map aG⟩,some ⟨.of 3,1,s1.2.2.2.2.map aG⟩]⟩
def oz(s2:Int×(List YB8)×Int×Int×Int×Int×Int×(List bM)×(List Int)×(List az)×(List ao)×(List au)×(List br)×(List Int)):Option ((Int×(List YB8)×Int×Int×Int×Int×Int×(List bM)×(List Int)×(List az)×(List ao)×(List au)×(List br)×(List Int))⊕((List YB8)×Int×Int×Int×Int×Int×(List bM)×(List Int)×(List az)×(List ao)×(List au)×(List br)×(List Int))):=
 cond (decide (0<s2.1))
 ((A8 (.be 0 0 0::(U 3 (.be 1 0 0::(U 4 (.be 2 0 0::.un::vi s2.1::(U 50 [])))))) [some ⟨.of 139,3,[[.sl (s2.2.1.map cB8),vi s2.2.2.1,vi s2.2.2.2.1]]⟩,some ⟨.of 33,10,[[.v (.slice none 0 0),.v (.slice none 0 0),vi 0,.v (.slice none 0 0),.v (.slice none 0 0),.v (.slice none 0 0),vi 0,.v (.slice none 0 0),.v (.slice none 0 0),vi 0]]⟩,some ⟨.of 33,10,[[.sl (s2.2.2.2.2.2.2.2.1.map bp),.sl (s2.2.2.2.2.2.2.2.2.1.map aG),vi s2.2.2.2.2.1,.sl (s2.2.2.2.2.2.2.2.2.2.1.map bc),.sl (s2.2.2.2.2.2.2.2.2.2.2.1.map aB),.sl (s2.2.2.2.2.2.2.2.2.2.2.2.1.map aS),vi s2.2.2.2.2.2.1,.sl (s2.2.2.2.2.2.2.2.2.2.2.2.2.1.map bt),.sl (s2.2.2.2.2.2.2.2.2.2.2.2.2.2.map aG),vi s2.2.2.2.2.2.2.1]]⟩]).bind fun _=>
 (bh [0]).bind fun _=>
 (mv (⟨s2.2.1,s2.2.2.1,s2.2.2.2.1⟩:aP) (⟨(⟨s2.2.2.2.2.2.2.2.1,s2.2.2.2.2.2.2.2.2.1,s2.2.2.2.2.1⟩:aj),s2.2.2.2.2.2.2.2.2.2.1,s2.2.2.2.2.2.2.2.2.2.2.1,s2.2.2.2.2.2.2.2.2.2.2.2.1,s2.2.2.2.2.2.1,s2.2.2.2.2.2.2.2.2.2.2.2.2.1,s2.2.2.2.2.2.2.2.2.2.2.2.2.2,s2.2.2.2.2.2.2.1⟩:av)).bind fun y9=>
 some (.inl ((aL (s2.1-1)),y9.2.b,y9.2.i,y9.2.h,y9.1.aa.change,y9.1.now,y9.1.bd,y9.1.aa.ay,y9.1.aa.off,y9.1.ah,y9.1.aq,y9.1.ae,y9.1.aH,y9.1.skip)))
 (some (.inr (s2.2.1,s2.2.2.1,s2.2.2.2.1,s2.2.2.2.2.1,s2.2.2.2.2.2.1,s2.2.2.2.2.2.2.1,s2.2.2.2.2.2.2.2.1,s2.2.2.2.2.2.2.2.2.1,s2.2.2.2.2.2.2.2.2.2.1,s2.2.2.2.2.2.2.2.2.2.2.1,s2.2.2.2.2.2.2.2.2.2.2.2.1,s2.2.2.2.2.2.2.2.2.2.2.2.2.1,s2.2.2.2.2.2.2.2.2.2.2.2.2.2)))
instance:bm (oz):=⟨fun s2=>(.be 0 0 0::(U 3 (.be 1 0 0::(U 4 (.be 2 0 0::.un::vi s2.1::(U 50 [])))))),fun s2=>[some ⟨.of 139,3,[[.sl (s2.2.1.map cB8),vi s2.2.2.1,vi s2.2.2.2.1]]⟩,some ⟨.of 33,10,[[.v (.slice none 0 0),.v (.slice none 0 0),vi 0,.v (.slice none 0 0),.v (.slice none 0 0),.v (.slice none 0 0),vi 0,.v (.slice none 0 0),.v (.slice none 0 0),vi 0]]⟩,some ⟨.of 33,10,[[.ms 3,.ms 4,vi s2.2.2.2.2.1,.ms 5,.ms 6,.ms 7,vi s2.2.2.2.2.2.1,.ms 8,.ms 9,vi s2.2.2.2.2.2.2.1]]⟩,some ⟨.of 174,6,s2.2.2.2.2.2.2.2.1.map bp⟩,some ⟨.of 3,1,s2.2.2.2.2.2.2.2.2.1.map aG⟩,some ⟨.of 155,11,s2.2.2.2.2.2.2.2.2.2.1.map bc⟩,some ⟨.of 177,4,s2.2.2.2.2.2.2.2.2.2.2.1.map aB⟩,some ⟨.of 46,2,s2.2.2.2.2.2.2.2.2.2.2.2.1.map aS⟩,some ⟨.of 181,6,s2.2.2.2.2.2.2.2.2.2.2.2.2.1.map bt⟩,some ⟨.of 3,1,s2.2.2.2.2.2.2.2.2.2.2.2.2.2.map aG⟩]⟩
def lE(c:aP)(iE:Int):Option (av×aP):=
 (bh [0]).bind fun _=>
 (j4 c 7).bind fun y1=>
 (aD (ot iE y1) NN (0,y1.2.b,y1.2.i,y1.2.h,y1.1.ay)).bind (fun o0=>
 (bh [0]).bind fun _=>
 (aw (⟨o0.1,o0.2.1,o0.2.2.1⟩:aP) 6).bind fun y5=>
 (aD (ou iE y1 o0) NN (y5.1,y5.2.b,y5.2.i,y5.2.h,([]:List Int))).bind (fun o1=>
 (A8 (.be 0 0 0::vi iE::.un::.un::.be 1 0 0::.be 2 0 0::.un::.sl (o1.2.2.2.map aG)::(U 54 [])) [some ⟨.of 139,3,[[.sl (o1.1.map cB8),vi o1.2.1,vi o1.2.2.1]]⟩,some ⟨.of 33,10,[[.v (.slice none 0 0),.v (.slice none 0 0),vi 0,.v (.slice none 0 0),.v (.slice none 0 0),.v (.slice none 0 0),vi 0,.v (.slice none 0 0),.v (.slice none 0 0),vi 0]]⟩,some ⟨.of 27,3,[[.sl (o0.2.2.2.map bp),.sl (y1.1.off.map aG),vi y1.1.change]]⟩]).bind fun _=>
 (gR (⟨o0.2.2.2,y1.1.off,y1.1.change⟩:aj) o1.2.2.2).bind fun y7=>
 (bh [0]).bind fun _=>
 (aw (⟨o1.1,o1.2.1,o1.2.2.1⟩:aP) iE).bind fun y8=>
 (aD (oz) NN (y8.1,y8.2.b,y8.2.i,y8.2.h,y7.1.aa.change,y7.1.now,y7.1.bd,y7.1.aa.ay,y7.1.aa.off,y7.1.ah,y7.1.aq,y7.1.ae,y7.1.aH,y7.1.skip)).bind (fun o2=>
 some ((⟨(⟨o2.2.2.2.2.2.2.1,o2.2.2.2.2.2.2.2.1,o2.2.2.2.1⟩:aj),o2.2.2.2.2.2.2.2.2.1,o2.2.2.2.2.2.2.2.2.2.1,o2.2.2.2.2.2.2.2.2.2.2.1,o2.2.2.2.2.1,o2.2.2.2.2.2.2.2.2.2.2.2.1,o2.2.2.2.2.2.2.2.2.2.2.2.2,o2.2.2.2.2.2.1⟩:av),(⟨o2.1,o2.2.1,o2.2.2.1⟩:aP)))))
instance (c:aP)(iE:Int):CT Tryz.prog (lE c iE):=⟨171,[.be 0 0 0,vi iE],[some ⟨.of 139,3,[[.sl (c.b.map cB8),vi c.i,vi c.h]]⟩],fun r=>.ag [.ms 1,.ms 2,vi r.1.aa.change,.ms 3,.ms 4,.ms 5,vi r.1.now,.ms 6,.ms 7,vi r.1.bd],fun r=>[some ⟨.of 139,3,[[.sl (r.2.b.map cB8),vi r.2.i,vi r.2.h]]⟩,some ⟨.of 174,6,r.1.aa.ay.map bp⟩,some ⟨.of 3,1,r.1.aa.off.map aG⟩,some ⟨.of 155,11,r.1.ah.map bc⟩,some ⟨.of 177,4,r.1.aq.map aB⟩,some ⟨.of 46,2,r.1.ae.map aS⟩,some ⟨.of 181,6,r.1.aH.map bt⟩,some ⟨.of 3,1,r.1.skip.map aG⟩],fun H=>by replace H:=H0 H;unfold lE at H;exact aA Tryz.func171 rfl Tryz.ntmps171 Tryz.results171 fun Q hQ cR=>xW⟩
def mw(c:aP):Option (av×aP):=
 (bh [0]).bind fun _=>
 (lE c 9).bind fun y1=>
 (bh [0]).bind fun _=>
 (bT y1.2 2).bind fun y2=>
 cond y2.1
 (some (y1.1,y2.2))
 (cond (decide ((y1.1.ah.length:Int)=0))
 (some (y1.1,y2.2))
 ((bh [0]).bind fun _=>
 (aw y2.2 (y1.1.ah.length:Int)).bind fun y3=>
 (bh [0]).bind fun _=>
 (aw y3.2 13).bind fun y4=>
 cond (decide (y4.1=0))
 ((ll 8 [4]).bind fun _=>
 (bh [0]).bind fun _=>
 (aw y4.2 5).bind fun y5=>
 (aC y1.1.ah y3.1).bind fun y6=>
 some ((⟨y1.1.aa,(y1.1.ah.set (Wo y3.1) (⟨y6.ar,y6.aV,y6.ax,y6.ab,y6.aO,y6.dX,y6.aE,y6.aJ,y5.1,y6.place,y6.bD⟩:az)),y1.1.aq,y1.1.ae,y1.1.now,y1.1.aH,y1.1.skip,y1.1.bd⟩:av),y5.2))
 (cond (decide (y4.1=1))
 ((aC y1.1.ah y3.1).bind fun y7=>
 (aC y1.1.ah y3.1).bind fun y8=>
 some ((⟨y1.1.aa,(y1.1.ah.set (Wo y3.1) (⟨y8.ar,y8.aV,y8.ax,y8.ab,y8.aO,y8.dX,y8.aE,(aL (y7.aJ+1)),y8.state,y8.place,y8.bD⟩:az)),y1.1.aq,y1.1.ae,y1.1.now,y1.1.aH,y1.1.skip,y1.1.bd⟩:av),y4.2))
 (cond (decide (y4.1=2))
 ((ll 8 [11]).bind fun _=>
 (aC y1.1.ah y3.1).bind fun y9=>
 (bh [0,90]).bind fun _=>
 (ir y4.2 ([⟨#[]⟩,⟨#[65,77,83]⟩,y9.aV])).bind fun dM=>
 (aC y1.1.ah y3.1).bind fun jx=>
 some ((⟨y1.1.aa,(y1.1.ah.set (Wo y3.1) (⟨jx.ar,jx.aV,jx.ax,jx.ab,jx.aO,jx.dX,jx.aE,jx.aJ,jx.state,dM.1,jx.bD⟩:az)),y1.1.aq,y1.1.ae,y1.1.now,y1.1.aH,y1.1.skip,y1.1.bd⟩:av),dM.2.1))
 (cond (decide (y4.1=3))
 ((aC y1.1.ah y3.1).bind fun oV=>
 (aC y1.1.ah y3.1).bind fun lZ=>
 some ((⟨y1.1.aa,(y1.1.ah.set (Wo y3.1) (⟨lZ.ar,lZ.aV,lZ.ax,(aL (oV.ab+1)),lZ.aO,lZ.dX,lZ.aE,lZ.aJ,lZ.state,lZ.place,lZ.bD⟩:az)),y1.1.aq,y1.1.ae,y1.1.now,y1.1.aH,y1.1.skip,y1.1.bd⟩:av),y4.2))
 (cond (decide (y4.1=4))
 ((ll 8 [4]).bind fun _=>
 (bh [0,34]).bind fun _=>
 (bB y4.2 ([1,300,(-1),5000])).bind fun kS=>
 some ((⟨y1.1.aa,y1.1.ah,y1.1.aq,y1.1.ae,(aL (y1.1.now+kS.1)),y1.1.aH,y1.1.skip,y1.1.bd⟩:av),kS.2.1))
 (cond (decide (y4.1=5))
 ((ll 8 [7]).bind fun _=>
 (bh [0]).bind fun _=>
 (aw y4.2 (aL ((y1.1.aq.length:Int)+1))).bind fun o9=>
 (cL (gA 0 o9.1 y1.1.aq.length)).bind fun _=>
 some ((⟨y1.1.aa,y1.1.ah,(cD y1.1.aq 0 o9.1),y1.1.ae,y1.1.now,y1.1.aH,y1.1.skip,y1.1.bd⟩:av),o9.2))
 (cond (decide (y4.1=6))
 ((ll 8 [4]).bind fun _=>
 (bh [0,2,3,4,5,6,7,8]).bind fun _=>
 (lL y4.2 y1.1).bind fun ma=>
 (cL (bo ((ma.2.2.ae:List au).length+([ma.1]:List au).length) 16)).bind fun _=>
 some ((⟨(⟨ma.2.2.aa.ay,ma.2.2.aa.off,y1.1.aa.change⟩:aj),ma.2.2.ah,ma.2.2.aq,((ma.2.2.ae:List au)++[ma.1]),y1.1.now,ma.2.2.aH,ma.2.2.skip,y1.1.bd⟩:av),ma.2.1))
 (cond (decide (y4.1=7))
 ((aC y1.1.ah y3.1).bind fun ri=>
 (aC y1.1.ah y3.1).bind fun sw=>
 some ((⟨y1.1.aa,(y1.1.ah.set (Wo y3.1) (⟨sw.ar,sw.aV,sw.ax,sw.ab,sw.aO,sw.dX,sw.aE,sw.aJ,sw.state,sw.place,(aL (ri.bD+1))⟩:az)),y1.1.aq,y1.1.ae,y1.1.now,y1.1.aH,y1.1.skip,y1.1.bd⟩:av),y4.2))
 (cond (decide (y4.1=8))
 ((bh [0,10]).bind fun _=>
 (bB y4.2 ([0,1000000000,1000000001])).bind fun vW=>
 some ((⟨y1.1.aa,y1.1.ah,y1.1.aq,y1.1.ae,y1.1.now,y1.1.aH,y1.1.skip,vW.1⟩:av),vW.2.1))
 (cond (decide (y4.1=9))
 ((ll 8 [5]).bind fun _=>
 (bh [0,42]).bind fun _=>
 (bB y4.2 ([0,(-1),200000,200001])).bind fun Bj=>
 (aC y1.1.ah y3.1).bind fun xX=>
 some ((⟨y1.1.aa,(y1.1.ah.set (Wo y3.1) (⟨xX.ar,xX.aV,xX.ax,xX.ab,xX.aO,Bj.1,xX.aE,xX.aJ,xX.state,xX.place,xX.bD⟩:az)),y1.1.aq,y1.1.ae,y1.1.now,y1.1.aH,y1.1.skip,y1.1.bd⟩:av),Bj.2.1))
 (some (y1.1,y4.2)))))))))))))
instance (c:aP):CT Tryz.prog (mw c):=⟨88,[.be 0 0 0],[some ⟨.of 139,3,[[.sl (c.b.map cB8),vi c.i,vi c.h]]⟩],fun r=>.ag [.sl (r.1.aa.ay.map bp),.sl (r.1.aa.off.map aG),vi r.1.aa.change,.sl (r.1.ah.map bc),.sl (r.1.aq.map aB),.sl (r.1.ae.map aS),vi r.1.now,.sl (r.1.aH.map bt),.sl (r.1.skip.map aG),vi r.1.bd],fun r=>[some ⟨.of 139,3,[[.sl (r.2.b.map cB8),vi r.2.i,vi r.2.h]]⟩],fun H=>by replace H:=H0 H;unfold mw at H;exact aA Tryz.func88 rfl Tryz.ntmps88 Tryz.results88 fun Q hQ cR=>xW⟩
def oB(s0:Int×(List YB8)×Int×Int×(List bM)×(List Int)×Int×(List az)×(List ao)×(List au)×Int×(List br)×(List Int)×Int×(List bL)×(List bN)×(List Int)×(List aW)×(List a8)×(List cg)):Option ((Int×(List YB8)×Int×Int×(List bM)×(List Int)×Int×(List az)×(List ao)×(List au)×Int×(List br)×(List Int)×Int×(List bL)×(List bN)×(List Int)×(List aW)×(List a8)×(List cg))⊕((List YB8)×Int×Int×(List bM)×(List Int)×Int×(List az)×(List ao)×(List au)×Int×(List br)×(List Int)×Int×(List bL)×(List bN)×(List Int)×(List aW)×(List a8)×(List cg))):=
 cond (decide (0<s0.1))
 ((A8 (.be 0 0 0::(U 3 (.be 1 0 0::.be 2 0 0::vi s0.1::(U 21 [])))) [some ⟨.of 139,3,[[.sl (s0.2.1.map cB8),vi s0.2.2.1,vi s0.2.2.2.1]]⟩,some ⟨.of 40,16,[[.v (.slice none 0 0),.v (.slice none 0 0),vi 0,.v (.slice none 0 0),.v (.slice none 0 0),.v (.slice none 0 0),vi 0,.v (.slice none 0 0),.v (.slice none 0 0),vi 0,.v (.slice none 0 0),.v (.slice none 0 0),.v (.slice none 0 0),.v (.slice none 0 0),.v (.slice none 0 0),.v (.slice none 0 0)]]⟩,some ⟨.of 40,16,[[.sl (s0.2.2.2.2.1.map bp),.sl (s0.2.2.2.2.2.1.map aG),vi s0.2.2.2.2.2.2.1,.sl (s0.2.2.2.2.2.2.2.1.map bc),.sl (s0.2.2.2.2.2.2.2.2.1.map aB),.sl (s0.2.2.2.2.2.2.2.2.2.1.map aS),vi s0.2.2.2.2.2.2.2.2.2.2.1,.sl (s0.2.2.2.2.2.2.2.2.2.2.2.1.map bt),.sl (s0.2.2.2.2.2.2.2.2.2.2.2.2.1.map aG),vi s0.2.2.2.2.2.2.2.2.2.2.2.2.2.1,.sl (s0.2.2.2.2.2.2.2.2.2.2.2.2.2.2.1.map cK),.sl (s0.2.2.2.2.2.2.2.2.2.2.2.2.2.2.2.1.map cO),.sl (s0.2.2.2.2.2.2.2.2.2.2.2.2.2.2.2.2.1.map aG),.sl (s0.2.2.2.2.2.2.2.2.2.2.2.2.2.2.2.2.2.2.1.map bS),.sl (s0.2.2.2.2.2.2.2.2.2.2.2.2.2.2.2.2.2.1.map bO),.sl (s0.2.2.2.2.2.2.2.2.2.2.2.2.2.2.2.2.2.2.2.map ig)]]⟩]).bind fun _=>
 (ll 8 [3]).bind fun _=>
 (bh [0]).bind fun _=>
 (j6 (⟨s0.2.1,s0.2.2.1,s0.2.2.2.1⟩:aP) (⟨(⟨(⟨s0.2.2.2.2.1,s0.2.2.2.2.2.1,s0.2.2.2.2.2.2.1⟩:aj),s0.2.2.2.2.2.2.2.1,s0.2.2.2.2.2.2.2.2.1,s0.2.2.2.2.2.2.2.2.2.1,s0.2.2.2.2.2.2.2.2.2.2.1,s0.2.2.2.2.2.2.2.2.2.2.2.1,s0.2.2.2.2.2.2.2.2.2.2.2.2.1,s0.2.2.2.2.2.2.2.2.2.2.2.2.2.1⟩:av),s0.2.2.2.2.2.2.2.2.2.2.2.2.2.2.1,s0.2.2.2.2.2.2.2.2.2.2.2.2.2.2.2.1,s0.2.2.2.2.2.2.2.2.2.2.2.2.2.2.2.2.1,s0.2.2.2.2.2.2.2.2.2.2.2.2.2.2.2.2.2.2.1,s0.2.2.2.2.2.2.2.2.2.2.2.2.2.2.2.2.2.1,s0.2.2.2.2.2.2.2.2.2.2.2.2.2.2.2.2.2.2.2⟩:aM)).bind fun y3=>
 (mr (⟨(⟨(⟨s0.2.2.2.2.1,s0.2.2.2.2.2.1,s0.2.2.2.2.2.2.1⟩:aj),s0.2.2.2.2.2.2.2.1,s0.2.2.2.2.2.2.2.2.1,s0.2.2.2.2.2.2.2.2.2.1,s0.2.2.2.2.2.2.2.2.2.2.1,s0.2.2.2.2.2.2.2.2.2.2.2.1,s0.2.2.2.2.2.2.2.2.2.2.2.2.1,s0.2.2.2.2.2.2.2.2.2.2.2.2.2.1⟩:av),s0.2.2.2.2.2.2.2.2.2.2.2.2.2.2.1,s0.2.2.2.2.2.2.2.2.2.2.2.2.2.2.2.1,s0.2.2.2.2.2.2.2.2.2.2.2.2.2.2.2.2.1,s0.2.2.2.2.2.2.2.2.2.2.2.2.2.2.2.2.2.2.1,s0.2.2.2.2.2.2.2.2.2.2.2.2.2.2.2.2.2.1,s0.2.2.2.2.2.2.2.2.2.2.2.2.2.2.2.2.2.2.2⟩:aM) y3.1).bind fun y4=>
 some (.inl ((aL (s0.1-1)),y3.2.b,y3.2.i,y3.2.h,y4.1.world.aa.ay,y4.1.world.aa.off,y4.1.world.aa.change,y4.1.world.ah,y4.1.world.aq,y4.1.world.ae,y4.1.world.now,y4.1.world.aH,y4.1.world.skip,y4.1.world.bd,y4.1.aY,y4.1.ba,y4.1.aN,y4.1.lines,y4.1.aK,y4.1.aF)))
 (some (.inr (s0.2.1,s0.2.2.1,s0.2.2.2.1,s0.2.2.2.2.1,s0.2.2.2.2.2.1,s0.2.2.2.2.2.2.1,s0.2.2.2.2.2.2.2.1,s0.2.2.2.2.2.2.2.2.1,s0.2.2.2.2.2.2.2.2.2.1,s0.2.2.2.2.2.2.2.2.2.2.1,s0.2.2.2.2.2.2.2.2.2.2.2.1,s0.2.2.2.2.2.2.2.2.2.2.2.2.1,s0.2.2.2.2.2.2.2.2.2.2.2.2.2.1,s0.2.2.2.2.2.2.2.2.2.2.2.2.2.2.1,s0.2.2.2.2.2.2.2.2.2.2.2.2.2.2.2.1,s0.2.2.2.2.2.2.2.2.2.2.2.2.2.2.2.2.1,s0.2.2.2.2.2.2.2.2.2.2.2.2.2.2.2.2.2.1,s0.2.2.2.2.2.2.2.2.2.2.2.2.2.2.2.2.2.2.1,s0.2.2.2.2.2.2.2.2.2.2.2.2.2.2.2.2.2.2.2)))
instance:bm (oB):=⟨fun s0=>(.be 0 0 0::(U 3 (.be 1 0 0::.be 2 0 0::vi s0.1::(U 21 [])))),fun s0=>[some ⟨.of 139,3,[[.sl (s0.2.1.map cB8),vi s0.2.2.1,vi s0.2.2.2.1]]⟩,some ⟨.of 40,16,[[.v (.slice none 0 0),.v (.slice none 0 0),vi 0,.v (.slice none 0 0),.v (.slice none 0 0),.v (.slice none 0 0),vi 0,.v (.slice none 0 0),.v (.slice none 0 0),vi 0,.v (.slice none 0 0),.v (.slice none 0 0),.v (.slice none 0 0),.v (.slice none 0 0),.v (.slice none 0 0),.v (.slice none 0 0)]]⟩,some ⟨.of 40,16,[[.sl (s0.2.2.2.2.1.map bp),.sl (s0.2.2.2.2.2.1.map aG),vi s0.2.2.2.2.2.2.1,.sl (s0.2.2.2.2.2.2.2.1.map bc),.sl (s0.2.2.2.2.2.2.2.2.1.map aB),.sl (s0.2.2.2.2.2.2.2.2.2.1.map aS),vi s0.2.2.2.2.2.2.2.2.2.2.1,.sl (s0.2.2.2.2.2.2.2.2.2.2.2.1.map bt),.sl (s0.2.2.2.2.2.2.2.2.2.2.2.2.1.map aG),vi s0.2.2.2.2.2.2.2.2.2.2.2.2.2.1,.sl (s0.2.2.2.2.2.2.2.2.2.2.2.2.2.2.1.map cK),.sl (s0.2.2.2.2.2.2.2.2.2.2.2.2.2.2.2.1.map cO),.sl (s0.2.2.2.2.2.2.2.2.2.2.2.2.2.2.2.2.1.map aG),.ms 3,.sl (s0.2.2.2.2.2.2.2.2.2.2.2.2.2.2.2.2.2.1.map bO),.ms 4]]⟩,some ⟨.of 44,7,s0.2.2.2.2.2.2.2.2.2.2.2.2.2.2.2.2.2.2.1.map bS⟩,some ⟨.of 48,13,s0.2.2.2.2.2.2.2.2.2.2.2.2.2.2.2.2.2.2.2.map ig⟩]⟩
def lG(c:aP)(iE:Int):Option (aM×aP):=
 (bh [0]).bind fun _=>
 (mA c).bind fun y1=>
 (bh [0]).bind fun _=>
 (aw y1.2 iE).bind fun y2=>
 (aD (oB) NN (y2.1,y2.2.b,y2.2.i,y2.2.h,y1.1.world.aa.ay,y1.1.world.aa.off,y1.1.world.aa.change,y1.1.world.ah,y1.1.world.aq,y1.1.world.ae,y1.1.world.now,y1.1.world.aH,y1.1.world.skip,y1.1.world.bd,y1.1.aY,y1.1.ba,y1.1.aN,y1.1.lines,y1.1.aK,y1.1.aF)).bind (fun o0=>
 some ((⟨(⟨(⟨o0.2.2.2.1,o0.2.2.2.2.1,o0.2.2.2.2.2.1⟩:aj),o0.2.2.2.2.2.2.1,o0.2.2.2.2.2.2.2.1,o0.2.2.2.2.2.2.2.2.1,o0.2.2.2.2.2.2.2.2.2.1,o0.2.2.2.2.2.2.2.2.2.2.1,o0.2.2.2.2.2.2.2.2.2.2.2.1,o0.2.2.2.2.2.2.2.2.2.2.2.2.1⟩:av),o0.2.2.2.2.2.2.2.2.2.2.2.2.2.1,o0.2.2.2.2.2.2.2.2.2.2.2.2.2.2.1,o0.2.2.2.2.2.2.2.2.2.2.2.2.2.2.2.1,o0.2.2.2.2.2.2.2.2.2.2.2.2.2.2.2.2.2.1,o0.2.2.2.2.2.2.2.2.2.2.2.2.2.2.2.2.1,o0.2.2.2.2.2.2.2.2.2.2.2.2.2.2.2.2.2.2⟩:aM),(⟨o0.1,o0.2.1,o0.2.2.1⟩:aP)))
instance (c:aP)(iE:Int):CT Tryz.prog (lG c iE):=⟨86,[.be 0 0 0,vi iE],[some ⟨.of 139,3,[[.sl (c.b.map cB8),vi c.i,vi c.h]]⟩],fun r=>.ag [.sl (r.1.world.aa.ay.map bp),.sl (r.1.world.aa.off.map aG),vi r.1.world.aa.change,.sl (r.1.world.ah.map bc),.sl (r.1.world.aq.map aB),.sl (r.1.world.ae.map aS),vi r.1.world.now,.sl (r.1.world.aH.map bt),.sl (r.1.world.skip.map aG),vi r.1.world.bd,.sl (r.1.aY.map cK),.sl (r.1.ba.map cO),.sl (r.1.aN.map aG),.ms 1,.sl (r.1.lines.map bO),.ms 2],fun r=>[some ⟨.of 139,3,[[.sl (r.2.b.map cB8),vi r.2.i,vi r.2.h]]⟩,some ⟨.of 44,7,r.1.aK.map bS⟩,some ⟨.of 48,13,r.1.aF.map ig⟩],fun H=>by replace H:=H0 H;unfold lG at H;exact aA Tryz.func86 rfl Tryz.ntmps86 Tryz.results86 fun Q hQ cR=>xW⟩
def mz(c:aP):Option (aM×aP):=
 (bh [0]).bind fun _=>
 (lG c 9).bind fun y1=>
 (bh [0]).bind fun _=>
 (aw y1.2 16).bind fun y2=>
 cond (decide (y2.1=0))
 ((bh [0]).bind fun _=>
 (mw y2.2).bind fun y3=>
 some ((⟨y3.1,y1.1.aY,y1.1.ba,y1.1.aN,y1.1.aK,y1.1.lines,y1.1.aF⟩:aM),y3.2))
 (cond (decide (y2.1=1))
 ((bh [0]).bind fun _=>
 (jq y2.2).bind fun y4=>
 some ((⟨y1.1.world,y4.1,y1.1.ba,y1.1.aN,y1.1.aK,y1.1.lines,y1.1.aF⟩:aM),y4.2))
 (cond (decide (y2.1=2))
 ((bh [0]).bind fun _=>
 (my y2.2).bind fun y5=>
 some ((⟨y1.1.world,y1.1.aY,y1.1.ba,y1.1.aN,y1.1.aK,y5.1,y1.1.aF⟩:aM),y5.2))
 (cond (decide (y2.1=3))
 (some ((⟨y1.1.world,y1.1.aY,y1.1.ba,([]:List Int),y1.1.aK,y1.1.lines,y1.1.aF⟩:aM),y2.2))
 (cond (decide (y2.1=4))
 ((ll 8 [3]).bind fun _=>
 (bh [0]).bind fun _=>
 (eF y2.2).bind fun y6=>
 (cL (bo ((y1.1.aK:List a8).length+([y6.1]:List a8).length) 88)).bind fun _=>
 some ((⟨y1.1.world,y1.1.aY,y1.1.ba,y1.1.aN,((y1.1.aK:List a8)++[y6.1]),y1.1.lines,y1.1.aF⟩:aM),y6.2))
 (cond (decide (y2.1=5))
 ((ll 8 [3]).bind fun _=>
 (bh [0]).bind fun _=>
 (aw y2.2 8).bind fun y7=>
 (cL (bo ((y1.1.aF:List cg).length+([(⟨y7.1,(⟨(⟨0,0,⟨#[]⟩⟩:dh),⟨#[]⟩,0,[],0⟩:a8),0,0,0,(⟨0,0⟩:au)⟩:cg)]:List cg).length) 136)).bind fun _=>
 (A8 (.un::.un::.be 1 0 0::.be 2 0 0::(U 49 [])) [some ⟨.of 139,3,[[.sl (y7.2.b.map cB8),vi y7.2.i,vi y7.2.h]]⟩,some ⟨.of 40,16,[[.v (.slice none 0 0),.v (.slice none 0 0),vi 0,.v (.slice none 0 0),.v (.slice none 0 0),.v (.slice none 0 0),vi 0,.v (.slice none 0 0),.v (.slice none 0 0),vi 0,.v (.slice none 0 0),.v (.slice none 0 0),.v (.slice none 0 0),.v (.slice none 0 0),.v (.slice none 0 0),.v (.slice none 0 0)]]⟩,some ⟨.of 40,16,[[.sl (y1.1.world.aa.ay.map bp),.sl (y1.1.world.aa.off.map aG),vi y1.1.world.aa.change,.sl (y1.1.world.ah.map bc),.sl (y1.1.world.aq.map aB),.sl (y1.1.world.ae.map aS),vi y1.1.world.now,.sl (y1.1.world.aH.map bt),.sl (y1.1.world.skip.map aG),vi y1.1.world.bd,.sl (y1.1.aY.map cK),.sl (y1.1.ba.map cO),.sl (y1.1.aN.map aG),.ms 3,.sl (y1.1.lines.map bO),.ms 4]]⟩,some ⟨.of 44,7,y1.1.aK.map bS⟩,some ⟨.of 48,13,((y1.1.aF:List cg)++[(⟨y7.1,(⟨(⟨0,0,⟨#[]⟩⟩:dh),⟨#[]⟩,0,[],0⟩:a8),0,0,0,(⟨0,0⟩:au)⟩:cg)]).map ig⟩]).bind fun _=>
 some ((⟨y1.1.world,y1.1.aY,y1.1.ba,y1.1.aN,y1.1.aK,y1.1.lines,((y1.1.aF:List cg)++[(⟨y7.1,(⟨(⟨0,0,⟨#[]⟩⟩:dh),⟨#[]⟩,0,[],0⟩:a8),0,0,0,(⟨0,0⟩:au)⟩:cg)])⟩:aM),y7.2))
 (cond (decide (y2.1=6))
 ((cL (gA 1 (y1.1.ba.length:Int) y1.1.ba.length)).bind fun _=>
 some ((⟨y1.1.world,y1.1.aY,(cD y1.1.ba 1 (y1.1.ba.length:Int)),y1.1.aN,y1.1.aK,y1.1.lines,y1.1.aF⟩:aM),y2.2))
 (some (y1.1,y2.2))))))))
instance (c:aP):CT Tryz.prog (mz c):=⟨27,[.be 0 0 0],[some ⟨.of 139,3,[[.sl (c.b.map cB8),vi c.i,vi c.h]]⟩],fun r=>.ag [.sl (r.1.world.aa.ay.map bp),.sl (r.1.world.aa.off.map aG),vi r.1.world.aa.change,.sl (r.1.world.ah.map bc),.sl (r.1.world.aq.map aB),.sl (r.1.world.ae.map aS),vi r.1.world.now,.sl (r.1.world.aH.map bt),.sl (r.1.world.skip.map aG),vi r.1.world.bd,.sl (r.1.aY.map cK),.sl (r.1.ba.map cO),.sl (r.1.aN.map aG),.sl (r.1.aK.map bS),.sl (r.1.lines.map bO),.sl (r.1.aF.map ig)],fun r=>[some ⟨.of 139,3,[[.sl (r.2.b.map cB8),vi r.2.i,vi r.2.h]]⟩],fun H=>by replace H:=H0 H;unfold mz at H;exact aA Tryz.func27 rfl Tryz.ntmps27 Tryz.results27 fun Q hQ cR=>xW⟩
def mC(code:List YB8):Option (aM×cg):=
 (om code).bind fun y1=>
 (bh [2]).bind fun _=>
 (mz y1).bind fun y2=>
 (ll 8 [3]).bind fun _=>
 (bh [2]).bind fun _=>
 (jL y2.2 y2.1).bind fun y3=>
 some (y2.1,y3.1)
instance (code:List YB8):CT Tryz.prog (mC code):=⟨7,[.sl (code.map cB8)],[],fun r=>.tu [.ag [.sl (r.1.world.aa.ay.map bp),.sl (r.1.world.aa.off.map aG),vi r.1.world.aa.change,.sl (r.1.world.ah.map bc),.sl (r.1.world.aq.map aB),.sl (r.1.world.ae.map aS),vi r.1.world.now,.sl (r.1.world.aH.map bt),.sl (r.1.world.skip.map aG),vi r.1.world.bd,.sl (r.1.aY.map cK),.sl (r.1.ba.map cO),.sl (r.1.aN.map aG),.sl (r.1.aK.map bS),.sl (r.1.lines.map bO),.sl (r.1.aF.map ig)],.ag [vi r.2.kind,vi r.2.aT.label.ax,vi r.2.aT.label.fz,vs r.2.aT.label.aV,vs r.2.aT.ar,vi r.2.aT.ab,.sl (r.2.aT.cq.map aG),vi r.2.aT.value,vi r.2.order,vi r.2.bz,vi r.2.bH,vi r.2.bf.bx,vi r.2.bf.day]],fun r=>[],fun H=>by replace H:=H0 H;unfold mC at H;exact aA Tryz.func7 rfl Tryz.ntmps7 Tryz.results7 fun Q hQ cR=>xW⟩
end Go.Proofs.YtbalgkakkoocjaaGreat
