/- A part of the proof of the statement in the last file of this claim: texts on the language of the program and on its functions. No condition. -/
import Derived.Test.YtbalgkakkoocjaaGreatCFnTwice4
import Derived.Test.YtbalgkakkoocjaaGreatCFnTwice5
import Derived.Test.YtbalgkakkoocjaaGreatCFnTwice12
import Derived.Test.YtbalgkakkoocjaaGreatCFnTwice9
import Derived.Test.YtbalgkakkoocjaaGreatCFnTwice6
import Derived.Test.YtbalgkakkoocjaaGreatCFnTwice10
set_option linter.unusedVariables false
set_option linter.unusedSimpArgs false
set_option linter.unusedSectionVars false
namespace Go.Proofs.YtbalgkakkoocjaaGreat
set_option maxRecDepth 10000
open Go.RowKit
set_option maxHeartbeats 16000000
def eo(y2:(List Int))(s0:Int×Int×Int×Int×(List bM)×(List Int)×(List az)×(List ao)×(List au)×(List br)×(List Int)):Option ((Int×Int×Int×Int×(List bM)×(List Int)×(List az)×(List ao)×(List au)×(List br)×(List Int))⊕(Int×Int×Int×(List bM)×(List Int)×(List az)×(List ao)×(List au)×(List br)×(List Int))):=
 cond (decide (s0.1<(y2.length:Int)))
 ((aC y2 s0.1).bind fun y3=>
 (bh [1,2,3,4,5,6,7,8]).bind fun _=>
 (eE (⟨(⟨s0.2.2.2.2.1,s0.2.2.2.2.2.1,s0.2.1⟩:aj),s0.2.2.2.2.2.2.1,s0.2.2.2.2.2.2.2.1,s0.2.2.2.2.2.2.2.2.1,s0.2.2.1,s0.2.2.2.2.2.2.2.2.2.1,s0.2.2.2.2.2.2.2.2.2.2,s0.2.2.2.1⟩:av) (aL (y3-1))).bind fun y4=>
 some (.inl ((aL (s0.1+1)),y4.aa.change,y4.now,y4.bd,y4.aa.ay,y4.aa.off,y4.ah,y4.aq,y4.ae,y4.aH,y4.skip)))
 (some (.inr (s0.2.1,s0.2.2.1,s0.2.2.2.1,s0.2.2.2.2.1,s0.2.2.2.2.2.1,s0.2.2.2.2.2.2.1,s0.2.2.2.2.2.2.2.1,s0.2.2.2.2.2.2.2.2.1,s0.2.2.2.2.2.2.2.2.2.1,s0.2.2.2.2.2.2.2.2.2.2)))
instance (y2:(List Int)):bm (eo y2):=⟨fun s0=>(.un::.un::.be 0 0 0::.un::.be 1 0 0::.ms 9::vi s0.1::(U 23 [])),fun s0=>[some ⟨.of 33,10,[[.v (.slice none 0 0),.v (.slice none 0 0),vi 0,.v (.slice none 0 0),.v (.slice none 0 0),.v (.slice none 0 0),vi 0,.v (.slice none 0 0),.v (.slice none 0 0),vi 0]]⟩,some ⟨.of 33,10,[[.ms 2,.ms 3,vi s0.2.1,.ms 4,.ms 5,.ms 6,vi s0.2.2.1,.ms 7,.ms 8,vi s0.2.2.2.1]]⟩,some ⟨.of 174,6,s0.2.2.2.2.1.map bp⟩,some ⟨.of 3,1,s0.2.2.2.2.2.1.map aG⟩,some ⟨.of 155,11,s0.2.2.2.2.2.2.1.map bc⟩,some ⟨.of 177,4,s0.2.2.2.2.2.2.2.1.map aB⟩,some ⟨.of 46,2,s0.2.2.2.2.2.2.2.2.1.map aS⟩,some ⟨.of 181,6,s0.2.2.2.2.2.2.2.2.2.1.map bt⟩,some ⟨.of 3,1,s0.2.2.2.2.2.2.2.2.2.2.map aG⟩,some ⟨.of 3,1,y2.map aG⟩]⟩
def cF(w:av):Option (av×Int):=
 (ep w).bind fun y1=>
 (gU w).bind fun y2=>
 (aD (eo y2) NN (0,y1.aa.change,y1.now,y1.bd,y1.aa.ay,y1.aa.off,y1.ah,y1.aq,y1.ae,y1.aH,y1.skip)).bind (fun o0=>
 (gU (⟨(⟨o0.2.2.2.1,o0.2.2.2.2.1,o0.1⟩:aj),o0.2.2.2.2.2.1,o0.2.2.2.2.2.2.1,o0.2.2.2.2.2.2.2.1,o0.2.1,o0.2.2.2.2.2.2.2.2.1,o0.2.2.2.2.2.2.2.2.2,o0.2.2.1⟩:av)).bind fun y5=>
 some ((⟨(⟨o0.2.2.2.1,o0.2.2.2.2.1,o0.1⟩:aj),o0.2.2.2.2.2.1,o0.2.2.2.2.2.2.1,o0.2.2.2.2.2.2.2.1,o0.2.1,o0.2.2.2.2.2.2.2.2.1,o0.2.2.2.2.2.2.2.2.2,o0.2.2.1⟩:av),(aL ((y2.length:Int)-(y5.length:Int)))))
instance (w:av):CT Tryz.prog (cF w):=⟨140,[.ag (fK w)],[],fun r=>.tu [.ag [.ms 0,.ms 1,vi r.1.aa.change,.ms 2,.ms 3,.ms 4,vi r.1.now,.ms 5,.ms 6,vi r.1.bd],vi r.2],fun r=>[some ⟨.of 174,6,r.1.aa.ay.map bp⟩,some ⟨.of 3,1,r.1.aa.off.map aG⟩,some ⟨.of 155,11,r.1.ah.map bc⟩,some ⟨.of 177,4,r.1.aq.map aB⟩,some ⟨.of 46,2,r.1.ae.map aS⟩,some ⟨.of 181,6,r.1.aH.map bt⟩,some ⟨.of 3,1,r.1.skip.map aG⟩],fun H=>by replace H:=H0 H;unfold cF at H;exact aA Tryz.func140 rfl Tryz.ntmps140 Tryz.results140 fun Q hQ cR=>dU⟩
def j5(c:aP)(n:aj):Option (au×aP):=
 (bh [0]).bind fun _=>
 (aw c (n.ay.length:Int)).bind fun y1=>
 (bh [0]).bind fun _=>
 (aw y1.2 10).bind fun y2=>
 (jd n y1.1 (aL (y2.1*1440))).bind fun y3=>
 cond (decide (0≤y3))
 ((bh [0]).bind fun _=>
 (bT y2.2 4).bind fun y4=>
 cond (!y4.1)
 (some ((⟨y1.1,y3⟩:au),y4.2))
 (some ((⟨y1.1,y2.1⟩:au),y4.2)))
 (some ((⟨y1.1,y2.1⟩:au),y2.2))
instance (c:aP)(n:aj):CT Tryz.prog (j5 c n):=⟨259,[.be 0 0 0,.ag (bA n)],[some ⟨.of 139,3,[[.sl (c.b.map cB8),vi c.i,vi c.h]]⟩],fun r=>.ag [vi r.1.bx,vi r.1.day],fun r=>[some ⟨.of 139,3,[[.sl (r.2.b.map cB8),vi r.2.i,vi r.2.h]]⟩],fun H=>by replace H:=H0 H;unfold j5 at H;exact aA Tryz.func259 rfl Tryz.ntmps259 Tryz.results259 fun Q hQ cR=>xW⟩
def dJ(c:aP)(w:av):Option (au×aP):=
 cond (decide (0<(w.aq.length:Int)))
 ((bh [0]).bind fun _=>
 (bT c 4).bind fun y1=>
 cond (!y1.1)
 ((ll 8 [6]).bind fun _=>
 (bh [0]).bind fun _=>
 (aw y1.2 (w.aq.length:Int)).bind fun y2=>
 (aC w.aq y2.1).bind fun y3=>
 some (y3.bf,y2.2))
 ((bh [0]).bind fun _=>
 (j5 y1.2 w.aa).bind fun y4=>
 some (y4.1,y4.2)))
 ((bh [0]).bind fun _=>
 (j5 c w.aa).bind fun y5=>
 some (y5.1,y5.2))
instance (c:aP)(w:av):CT Tryz.prog (dJ c w):=⟨174,[.be 0 0 0,.ag (fK w)],[some ⟨.of 139,3,[[.sl (c.b.map cB8),vi c.i,vi c.h]]⟩],fun r=>.ag [vi r.1.bx,vi r.1.day],fun r=>[some ⟨.of 139,3,[[.sl (r.2.b.map cB8),vi r.2.i,vi r.2.h]]⟩],fun H=>by replace H:=H0 H;unfold dJ at H;exact aA Tryz.func174 rfl Tryz.ntmps174 Tryz.results174 fun Q hQ cR=>xW⟩
def j6(c:aP)(o:aM):Option (cg×aP):=
 (bh [0]).bind fun _=>
 (aw c 9).bind fun y1=>
 cond (decide (y1.1=0))
 (cond (decide (y1.1=0))
 ((bh [0]).bind fun _=>
 (eF y1.2).bind fun y2=>
 (bh [0]).bind fun _=>
 (aw y2.2 6000).bind fun y3=>
 (bh [0]).bind fun _=>
 (aw y3.2 300).bind fun y4=>
 (bh [0]).bind fun _=>
 (aw y4.2 200).bind fun y5=>
 (bh [0]).bind fun _=>
 (aw y5.2 200).bind fun y6=>
 (bh [0]).bind fun _=>
 (cA y6.2 o.world.aa).bind fun y7=>
 (bh [0]).bind fun _=>
 (cA y7.2 o.world.aa).bind fun y8=>
 cond (decide (y7.1=y8.1))
 (some ((⟨1,(⟨(⟨y2.1.label.ax,y2.1.label.fz,y8.1⟩:dh),⟨#[79,83,76]⟩,(aL (200+y3.1)),[(aL (100+y4.1)),(aL (100+y5.1)),(aL (50+y6.1))],y2.1.value⟩:a8),0,0,0,(⟨0,0⟩:au)⟩:cg),y8.2))
 (some ((⟨1,(⟨(⟨y2.1.label.ax,y2.1.label.fz,y8.1⟩:dh),y7.1,(aL (200+y3.1)),[(aL (100+y4.1)),(aL (100+y5.1)),(aL (50+y6.1))],y2.1.value⟩:a8),0,0,0,(⟨0,0⟩:au)⟩:cg),y8.2)))
 (cond (decide (y1.1=3))
 ((bh [0]).bind fun _=>
 (aw y1.2 (aL ((o.aK.length:Int)+1))).bind fun y9=>
 (er o.lines (aL (1+y9.1))).bind fun dM=>
 (bh [0,3]).bind fun _=>
 (bB y9.2 ([0,0,0,100])).bind fun jx=>
 (fv 1 (aL (dM-jx.1))).bind fun oV=>
 some ((⟨2,(⟨(⟨0,0,⟨#[]⟩⟩:dh),⟨#[]⟩,0,[],0⟩:a8),(aL (1+y9.1)),oV,0,(⟨0,0⟩:au)⟩:cg),jx.2.1))
 (cond (decide (y1.1=4))
 ((bh [0]).bind fun _=>
 (dJ y1.2 o.world).bind fun lZ=>
 some ((⟨4,(⟨(⟨0,0,⟨#[]⟩⟩:dh),⟨#[]⟩,0,[],0⟩:a8),0,0,0,lZ.1⟩:cg),lZ.2))
 (cond (decide (y1.1=5))
 (some ((⟨5,(⟨(⟨0,0,⟨#[]⟩⟩:dh),⟨#[]⟩,0,[],0⟩:a8),0,0,0,(⟨0,0⟩:au)⟩:cg),y1.2))
 (cond (decide (y1.1=6))
 ((bh [0]).bind fun _=>
 (aw y1.2 (aL ((o.aK.length:Int)+1))).bind fun kS=>
 some ((⟨6,(⟨(⟨0,0,⟨#[]⟩⟩:dh),⟨#[]⟩,0,[],0⟩:a8),(aL (1+kS.1)),0,0,(⟨0,0⟩:au)⟩:cg),kS.2))
 ((ll 8 [4]).bind fun _=>
 (bh [0]).bind fun _=>
 (aw y1.2 90).bind fun o9=>
 some ((⟨3,(⟨(⟨0,0,⟨#[]⟩⟩:dh),⟨#[]⟩,0,[],0⟩:a8),0,0,(aL (o.world.now+(aL (30*o9.1)))),(⟨0,0⟩:au)⟩:cg),o9.2)))))))
 (cond (decide (y1.1=1))
 (cond (decide (y1.1=1))
 ((bh [0]).bind fun _=>
 (eF y1.2).bind fun ma=>
 (bh [0]).bind fun _=>
 (aw ma.2 6000).bind fun ri=>
 (bh [0]).bind fun _=>
 (aw ri.2 300).bind fun sw=>
 (bh [0]).bind fun _=>
 (aw sw.2 200).bind fun vW=>
 (bh [0]).bind fun _=>
 (aw vW.2 200).bind fun Bj=>
 (bh [0]).bind fun _=>
 (cA Bj.2 o.world.aa).bind fun xX=>
 (bh [0]).bind fun _=>
 (cA xX.2 o.world.aa).bind fun AX=>
 cond (decide (xX.1=AX.1))
 (some ((⟨1,(⟨(⟨ma.1.label.ax,ma.1.label.fz,AX.1⟩:dh),⟨#[79,83,76]⟩,(aL (200+ri.1)),[(aL (100+sw.1)),(aL (100+vW.1)),(aL (50+Bj.1))],ma.1.value⟩:a8),0,0,0,(⟨0,0⟩:au)⟩:cg),AX.2))
 (some ((⟨1,(⟨(⟨ma.1.label.ax,ma.1.label.fz,AX.1⟩:dh),xX.1,(aL (200+ri.1)),[(aL (100+sw.1)),(aL (100+vW.1)),(aL (50+Bj.1))],ma.1.value⟩:a8),0,0,0,(⟨0,0⟩:au)⟩:cg),AX.2)))
 (cond (decide (y1.1=3))
 ((bh [0]).bind fun _=>
 (aw y1.2 (aL ((o.aK.length:Int)+1))).bind fun FR=>
 (er o.lines (aL (1+FR.1))).bind fun y24=>
 (bh [0,3]).bind fun _=>
 (bB FR.2 ([0,0,0,100])).bind fun Tn=>
 (fv 1 (aL (y24-Tn.1))).bind fun y26=>
 some ((⟨2,(⟨(⟨0,0,⟨#[]⟩⟩:dh),⟨#[]⟩,0,[],0⟩:a8),(aL (1+FR.1)),y26,0,(⟨0,0⟩:au)⟩:cg),Tn.2.1))
 (cond (decide (y1.1=4))
 ((bh [0]).bind fun _=>
 (dJ y1.2 o.world).bind fun y27=>
 some ((⟨4,(⟨(⟨0,0,⟨#[]⟩⟩:dh),⟨#[]⟩,0,[],0⟩:a8),0,0,0,y27.1⟩:cg),y27.2))
 (cond (decide (y1.1=5))
 (some ((⟨5,(⟨(⟨0,0,⟨#[]⟩⟩:dh),⟨#[]⟩,0,[],0⟩:a8),0,0,0,(⟨0,0⟩:au)⟩:cg),y1.2))
 (cond (decide (y1.1=6))
 ((bh [0]).bind fun _=>
 (aw y1.2 (aL ((o.aK.length:Int)+1))).bind fun y28=>
 some ((⟨6,(⟨(⟨0,0,⟨#[]⟩⟩:dh),⟨#[]⟩,0,[],0⟩:a8),(aL (1+y28.1)),0,0,(⟨0,0⟩:au)⟩:cg),y28.2))
 ((ll 8 [4]).bind fun _=>
 (bh [0]).bind fun _=>
 (aw y1.2 90).bind fun y29=>
 some ((⟨3,(⟨(⟨0,0,⟨#[]⟩⟩:dh),⟨#[]⟩,0,[],0⟩:a8),0,0,(aL (o.world.now+(aL (30*y29.1)))),(⟨0,0⟩:au)⟩:cg),y29.2)))))))
 (cond (decide (y1.1=2))
 ((bh [0]).bind fun _=>
 (eF y1.2).bind fun To=>
 (bh [0]).bind fun _=>
 (aw To.2 6000).bind fun y31=>
 (bh [0]).bind fun _=>
 (aw y31.2 300).bind fun y32=>
 (bh [0]).bind fun _=>
 (aw y32.2 200).bind fun y33=>
 (bh [0]).bind fun _=>
 (aw y33.2 200).bind fun y34=>
 (bh [0]).bind fun _=>
 (cA y34.2 o.world.aa).bind fun y35=>
 (bh [0]).bind fun _=>
 (cA y35.2 o.world.aa).bind fun y36=>
 cond (decide (y35.1=y36.1))
 (some ((⟨1,(⟨(⟨To.1.label.ax,To.1.label.fz,y36.1⟩:dh),⟨#[79,83,76]⟩,(aL (200+y31.1)),[(aL (100+y32.1)),(aL (100+y33.1)),(aL (50+y34.1))],To.1.value⟩:a8),0,0,0,(⟨0,0⟩:au)⟩:cg),y36.2))
 (some ((⟨1,(⟨(⟨To.1.label.ax,To.1.label.fz,y36.1⟩:dh),y35.1,(aL (200+y31.1)),[(aL (100+y32.1)),(aL (100+y33.1)),(aL (50+y34.1))],To.1.value⟩:a8),0,0,0,(⟨0,0⟩:au)⟩:cg),y36.2)))
 (cond (decide (y1.1=3))
 ((bh [0]).bind fun _=>
 (aw y1.2 (aL ((o.aK.length:Int)+1))).bind fun y37=>
 (er o.lines (aL (1+y37.1))).bind fun y38=>
 (bh [0,3]).bind fun _=>
 (bB y37.2 ([0,0,0,100])).bind fun y39=>
 (fv 1 (aL (y38-y39.1))).bind fun y40=>
 some ((⟨2,(⟨(⟨0,0,⟨#[]⟩⟩:dh),⟨#[]⟩,0,[],0⟩:a8),(aL (1+y37.1)),y40,0,(⟨0,0⟩:au)⟩:cg),y39.2.1))
 (cond (decide (y1.1=4))
 ((bh [0]).bind fun _=>
 (dJ y1.2 o.world).bind fun y41=>
 some ((⟨4,(⟨(⟨0,0,⟨#[]⟩⟩:dh),⟨#[]⟩,0,[],0⟩:a8),0,0,0,y41.1⟩:cg),y41.2))
 (cond (decide (y1.1=5))
 (some ((⟨5,(⟨(⟨0,0,⟨#[]⟩⟩:dh),⟨#[]⟩,0,[],0⟩:a8),0,0,0,(⟨0,0⟩:au)⟩:cg),y1.2))
 (cond (decide (y1.1=6))
 ((bh [0]).bind fun _=>
 (aw y1.2 (aL ((o.aK.length:Int)+1))).bind fun y42=>
 some ((⟨6,(⟨(⟨0,0,⟨#[]⟩⟩:dh),⟨#[]⟩,0,[],0⟩:a8),(aL (1+y42.1)),0,0,(⟨0,0⟩:au)⟩:cg),y42.2))
 ((ll 8 [4]).bind fun _=>
 (bh [0]).bind fun _=>
 (aw y1.2 90).bind fun y43=>
 some ((⟨3,(⟨(⟨0,0,⟨#[]⟩⟩:dh),⟨#[]⟩,0,[],0⟩:a8),0,0,(aL (o.world.now+(aL (30*y43.1)))),(⟨0,0⟩:au)⟩:cg),y43.2))))))))
instance (c:aP)(o:aM):CT Tryz.prog (j6 c o):=⟨92,[.be 0 0 0,.ag (lk o)],[some ⟨.of 139,3,[[.sl (c.b.map cB8),vi c.i,vi c.h]]⟩],fun r=>.ag [vi r.1.kind,vi r.1.aT.label.ax,vi r.1.aT.label.fz,vs r.1.aT.label.aV,vs r.1.aT.ar,vi r.1.aT.ab,.sl (r.1.aT.cq.map aG),vi r.1.aT.value,vi r.1.order,vi r.1.bz,vi r.1.bH,vi r.1.bf.bx,vi r.1.bf.day],fun r=>[some ⟨.of 139,3,[[.sl (r.2.b.map cB8),vi r.2.i,vi r.2.h]]⟩],fun H=>by replace H:=H0 H;unfold j6 at H;exact aA Tryz.func92 rfl Tryz.ntmps92 Tryz.results92 fun Q hQ cR=>xW⟩
def jL(c:aP)(o:aM):Option (cg×aP):=
 (bh [0]).bind fun _=>
 (j6 c o).bind fun y1=>
 (bh [0]).bind fun _=>
 (aw y1.2 12).bind fun y2=>
 cond (decide (y2.1=0))
 ((bh [0]).bind fun _=>
 (aw y2.2 9).bind fun y3=>
 some ((⟨y3.1,y1.1.aT,y1.1.order,y1.1.bz,y1.1.bH,y1.1.bf⟩:cg),y3.2))
 (cond (decide (y2.1=1))
 ((bh [0,4]).bind fun _=>
 (bB y2.2 ([0,1,9999,10000])).bind fun y4=>
 some ((⟨y1.1.kind,y1.1.aT,y4.1,y1.1.bz,y1.1.bH,y1.1.bf⟩:cg),y4.2.1))
 (cond (decide (y2.1=2))
 ((bh [0,4]).bind fun _=>
 (bB y2.2 ([0,1,100000,100001])).bind fun y5=>
 some ((⟨y1.1.kind,y1.1.aT,y1.1.order,y5.1,y1.1.bH,y1.1.bf⟩:cg),y5.2.1))
 (cond (decide (y2.1=3))
 ((bh [0,4]).bind fun _=>
 (bB y2.2 ([(-1),0,100000,100001])).bind fun y6=>
 some ((⟨y1.1.kind,y1.1.aT,y1.1.order,y1.1.bz,y6.1,y1.1.bf⟩:cg),y6.2.1))
 (cond (decide (y2.1=4))
 ((bh [0,4]).bind fun _=>
 (bB y2.2 ([(-1),0,19,20])).bind fun y7=>
 (bh [0,5]).bind fun _=>
 (bB y7.2.1 ([0,60,61])).bind fun y8=>
 some ((⟨y1.1.kind,y1.1.aT,y1.1.order,y1.1.bz,y1.1.bH,(⟨y7.1,y8.1⟩:au)⟩:cg),y8.2.1))
 (cond (decide (y2.1=5))
 (some ((⟨y1.1.kind,(⟨y1.1.aT.label,y1.1.aT.ar,(aL (y1.1.aT.ab+1)),y1.1.aT.cq,y1.1.aT.value⟩:a8),y1.1.order,y1.1.bz,y1.1.bH,y1.1.bf⟩:cg),y2.2))
 (some (y1.1,y2.2)))))))
instance (c:aP)(o:aM):CT Tryz.prog (jL c o):=⟨28,[.be 0 0 0,.ag (lk o)],[some ⟨.of 139,3,[[.sl (c.b.map cB8),vi c.i,vi c.h]]⟩],fun r=>.ag [vi r.1.kind,vi r.1.aT.label.ax,vi r.1.aT.label.fz,vs r.1.aT.label.aV,vs r.1.aT.ar,vi r.1.aT.ab,.sl (r.1.aT.cq.map aG),vi r.1.aT.value,vi r.1.order,vi r.1.bz,vi r.1.bH,vi r.1.bf.bx,vi r.1.bf.day],fun r=>[some ⟨.of 139,3,[[.sl (r.2.b.map cB8),vi r.2.i,vi r.2.h]]⟩],fun H=>by replace H:=H0 H;unfold jL at H;exact aA Tryz.func28 rfl Tryz.ntmps28 Tryz.results28 fun Q hQ cR=>xW⟩
def jj(a:av)(b:av)(s0:Int):Option (Int⊕(Unit⊕Bool)):=
 cond (decide (s0<(a.ah.length:Int)))
 ((aC a.ah s0).bind fun y1=>
 (aC b.ah s0).bind fun y2=>
 (lC y1 y2).bind fun y3=>
 cond (!y3)
 (some (.inr (.inr false)))
 (some (.inl (aL (s0+1)))))
 (some (.inr (.inl ())))
instance (a:av)(b:av):bm (jj a b):=⟨fun s0=>(.un::.un::.be 0 0 0::.be 1 0 0::(U 11 (vi (a.ah.length:Int)::vi s0::(U 82 [])))),fun s0=>[some ⟨.of 33,10,[[.sl (a.aa.ay.map bp),.sl (a.aa.off.map aG),vi a.aa.change,.sl (a.ah.map bc),.sl (a.aq.map aB),.sl (a.ae.map aS),vi a.now,.sl (a.aH.map bt),.sl (a.skip.map aG),vi a.bd]]⟩,some ⟨.of 33,10,[[.sl (b.aa.ay.map bp),.sl (b.aa.off.map aG),vi b.aa.change,.sl (b.ah.map bc),.sl (b.aq.map aB),.sl (b.ae.map aS),vi b.now,.sl (b.aH.map bt),.sl (b.skip.map aG),vi b.bd]]⟩]⟩
def lx(a:av)(b:av):Option Bool:=
 cond (!decide ((a.ah.length:Int)=(b.ah.length:Int)))
 (some false)
 ((aD (jj a b) NN 0).bind (bl (fun o0=>
 (iB a.aa.ay b.aa.ay).bind fun y4=>
 cond y4
 ((eX a.aa.off b.aa.off).bind fun y5=>
 cond y5
 (cond (decide (a.aa.change=b.aa.change))
 ((fH a.aq b.aq).bind fun y6=>
 cond y6
 ((fF a.ae b.ae).bind fun y7=>
 cond y7
 (cond (decide (a.now=b.now))
 ((gM a.aH b.aH).bind fun y8=>
 cond y8
 ((eX a.skip b.skip).bind fun y9=>
 cond y9
 (some (decide (a.bd=b.bd)))
 (some false))
 (some false))
 (some false))
 (some false))
 (some false))
 (some false))
 (some false))
 (some false)) (fun r=>some r)))
instance (a:av)(b:av):CT Tryz.prog (lx a b):=⟨36,[.ag (fK a),.ag (fK b)],[],fun r=>vb r,fun r=>[],fun H=>by replace H:=H0 H;unfold lx at H;exact aA Tryz.func36 rfl Tryz.ntmps36 Tryz.results36 fun Q hQ cR=>dU⟩
end Go.Proofs.YtbalgkakkoocjaaGreat
