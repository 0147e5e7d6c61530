/- A part of the proof of the statement in the last file of this claim: texts on the language of the program and on its functions. No condition. -/
import Derived.Test.YtbalgkakkoocjaaGreatCFnTwice4
import Derived.Test.YtbalgkakkoocjaaGreatCFnTwice5
import Derived.Test.YtbalgkakkoocjaaGreatCFnTwice8
import Derived.Test.YtbalgkakkoocjaaGreatCFnTwice6
set_option linter.unusedVariables false
set_option linter.unusedSimpArgs false
set_option linter.unusedSectionVars false
namespace Go.Proofs.YtbalgkakkoocjaaGreat
open _root_.Int renaming toNat→Wo,tmod→XG,tmod_nonneg→Yt,tmod_lt_of_pos→Ya,tdiv→Xk
open BitVec renaming ofInt→Wn
open List renaming mem_cons→V4,not_mem_nil→V7,length_nil→VY,length_cons→VX,mem_append→WC,mem_singleton→Wc,length_append→V2
set_option maxRecDepth 10000
open Go.RowKit
set_option maxHeartbeats 16000000
variable {c:aP}{β:Type}{Q:β→Prop}{f:Unit→Option β}{r:β}{x:Option β}
def iL(fg:Int)(s0:Int×Int×Int×Int×(List bM)×(List Int)×(List az)×(List ao)×(List au)×(List Int)×(List br)):Option ((Int×Int×Int×Int×(List bM)×(List Int)×(List az)×(List ao)×(List au)×(List Int)×(List br))⊕(Int×Int×Int×(List bM)×(List Int)×(List az)×(List ao)×(List au)×(List Int)×(List br))):=
 cond (decide (s0.1<(s0.2.2.2.2.2.2.1.length:Int)))
 ((aC s0.2.2.2.2.2.2.1 s0.1).bind fun y1=>
 cond (!decide (y1.state=2))
 (some (.inl ((aL (s0.1+1)),s0.2.1,s0.2.2.1,s0.2.2.2.1,s0.2.2.2.2.1,s0.2.2.2.2.2.1,s0.2.2.2.2.2.2.1,s0.2.2.2.2.2.2.2.1,s0.2.2.2.2.2.2.2.2.1,s0.2.2.2.2.2.2.2.2.2.1,s0.2.2.2.2.2.2.2.2.2.2)))
 ((aC y1.aE y1.aJ).bind fun y2=>
 (bn (⟨s0.2.2.2.2.1,s0.2.2.2.2.2.1,s0.2.1⟩:aj) y2).bind fun y3=>
 cond (!decide (y3=fg))
 (some (.inl ((aL (s0.1+1)),s0.2.1,s0.2.2.1,s0.2.2.2.1,s0.2.2.2.2.1,s0.2.2.2.2.2.1,s0.2.2.2.2.2.2.1,s0.2.2.2.2.2.2.2.1,s0.2.2.2.2.2.2.2.2.1,s0.2.2.2.2.2.2.2.2.2.1,s0.2.2.2.2.2.2.2.2.2.2)))
 ((aC y1.aE y1.aJ).bind fun y4=>
 (bh [0,1,2,3,4,5,8,7]).bind fun _=>
 (fS (⟨(⟨s0.2.2.2.2.1,s0.2.2.2.2.2.1,s0.2.1⟩:aj),s0.2.2.2.2.2.2.1,s0.2.2.2.2.2.2.2.1,s0.2.2.2.2.2.2.2.2.1,s0.2.2.1,s0.2.2.2.2.2.2.2.2.2.2,s0.2.2.2.2.2.2.2.2.2.1,s0.2.2.2.1⟩:av) (⟨(aL (s0.1+1)),fg,2,⟨#[]⟩,y4⟩:br)).bind fun y5=>
 (aC y1.aE y1.aJ).bind fun y6=>
 (aC y5.aa.ay y6.bx).bind fun y7=>
 (aC y5.ah s0.1).bind fun y8=>
 (aC y5.ah s0.1).bind fun y9=>
 (aC y5.ah s0.1).bind fun dM=>
 (aC y5.ah s0.1).bind fun jx=>
 cond (decide (y7.aV=y1.aV))
 ((aC y5.ah s0.1).bind fun oV=>
 (aC y5.ah s0.1).bind fun lZ=>
 (A9 (y5.ah.set (Wo s0.1) (⟨y8.ar,y8.aV,y8.ax,y8.ab,y8.aO,y8.dX,y8.aE,(aL (y1.aJ+1)),3,y7.aV,fg⟩:az)) (fun kS=>(.be 0 0 0::vi fg::.un::.un::vi s0.1::.be 9 0 0::(U 193 []))) (fun kS=>[some ⟨.of 33,10,[[.ms 1,.ms 2,vi y5.aa.change,.ms 3,.ms 4,.ms 5,vi y5.now,.ms 8,.ms 7,vi y5.bd]]⟩,some ⟨.of 174,6,y5.aa.ay.map bp⟩,some ⟨.of 3,1,y5.aa.off.map aG⟩,some ⟨.of 155,11,kS.map bc⟩,some ⟨.of 177,4,y5.aq.map aB⟩,some ⟨.of 46,2,y5.ae.map aS⟩,none,some ⟨.of 3,1,y5.skip.map aG⟩,some ⟨.of 181,6,y5.aH.map bt⟩,some ⟨.of 155,11,[[vs y1.ar,vs y1.aV,vi y1.ax,vi y1.ab,vi y1.aO,vi y1.dX,.sl (y1.aE.map aS),vi y1.aJ,vi y1.state,vs y1.place,vi y1.bD]]⟩])).bind fun kS=>
 (bh [0,1,2,3,4,5,8,7]).bind fun _=>
 (fS (⟨y5.aa,kS,y5.aq,y5.ae,y5.now,y5.aH,y5.skip,y5.bd⟩:av) (⟨(aL (s0.1+1)),fg,4,y1.aV,(⟨0,0⟩:au)⟩:br)).bind fun o9=>
 some (.inl ((aL (s0.1+1)),o9.aa.change,o9.now,o9.bd,o9.aa.ay,o9.aa.off,o9.ah,o9.aq,o9.ae,o9.skip,o9.aH)))
 (some (.inl ((aL (s0.1+1)),y5.aa.change,y5.now,y5.bd,y5.aa.ay,y5.aa.off,(y5.ah.set (Wo s0.1) (⟨y8.ar,y8.aV,y8.ax,y8.ab,y8.aO,y8.dX,y8.aE,(aL (y1.aJ+1)),1,y7.aV,y8.bD⟩:az)),y5.aq,y5.ae,y5.skip,y5.aH))))))
 (some (.inr (s0.2.1,s0.2.2.1,s0.2.2.2.1,s0.2.2.2.2.1,s0.2.2.2.2.2.1,s0.2.2.2.2.2.2.1,s0.2.2.2.2.2.2.2.1,s0.2.2.2.2.2.2.2.2.1,s0.2.2.2.2.2.2.2.2.2.1,s0.2.2.2.2.2.2.2.2.2.2)))
instance (fg:Int):bm (iL fg):=⟨fun s0=>(.be 0 0 0::vi fg::.un::.un::vi s0.1::(U 194 [])),fun s0=>[some ⟨.of 33,10,[[.ms 1,.ms 2,vi s0.2.1,.ms 3,.ms 4,.ms 5,vi s0.2.2.1,.ms 8,.ms 7,vi s0.2.2.2.1]]⟩,some ⟨.of 174,6,s0.2.2.2.2.1.map bp⟩,some ⟨.of 3,1,s0.2.2.2.2.2.1.map aG⟩,some ⟨.of 155,11,s0.2.2.2.2.2.2.1.map bc⟩,some ⟨.of 177,4,s0.2.2.2.2.2.2.2.1.map aB⟩,some ⟨.of 46,2,s0.2.2.2.2.2.2.2.2.1.map aS⟩,none,some ⟨.of 3,1,s0.2.2.2.2.2.2.2.2.2.1.map aG⟩,some ⟨.of 181,6,s0.2.2.2.2.2.2.2.2.2.2.map bt⟩]⟩
def iM(fg:Int)(s1:Int×Int×Int×Int×(List bM)×(List Int)×(List az)×(List ao)×(List au)×(List Int)×(List br)):Option ((Int×Int×Int×Int×(List bM)×(List Int)×(List az)×(List ao)×(List au)×(List Int)×(List br))⊕(Int×Int×Int×(List bM)×(List Int)×(List az)×(List ao)×(List au)×(List Int)×(List br))):=
 cond (decide (s1.1<(s1.2.2.2.2.2.2.1.length:Int)))
 ((aC s1.2.2.2.2.2.2.1 s1.1).bind fun ma=>
 cond (decide (ma.state=1))
 (cond (decide (ma.aJ<(ma.aE.length:Int)))
 ((aC ma.aE ma.aJ).bind fun ri=>
 (bq (⟨s1.2.2.2.2.1,s1.2.2.2.2.2.1,s1.2.1⟩:aj) ri).bind fun sw=>
 cond (decide (sw=fg))
 ((aC s1.2.2.2.2.2.2.1 s1.1).bind fun vW=>
 (aC s1.2.2.2.2.2.2.1 s1.1).bind fun Bj=>
 (A9 (s1.2.2.2.2.2.2.1.set (Wo s1.1) (⟨vW.ar,vW.aV,vW.ax,vW.ab,vW.aO,vW.dX,vW.aE,vW.aJ,2,⟨#[]⟩,vW.bD⟩:az)) (fun xX=>(.be 0 0 0::vi fg::(U 4 (vi s1.1::.be 9 0 0::(U 191 []))))) (fun xX=>[some ⟨.of 33,10,[[.ms 1,.ms 2,vi s1.2.1,.ms 3,.ms 4,.ms 5,vi s1.2.2.1,.ms 8,.ms 7,vi s1.2.2.2.1]]⟩,some ⟨.of 174,6,s1.2.2.2.2.1.map bp⟩,some ⟨.of 3,1,s1.2.2.2.2.2.1.map aG⟩,some ⟨.of 155,11,xX.map bc⟩,some ⟨.of 177,4,s1.2.2.2.2.2.2.2.1.map aB⟩,some ⟨.of 46,2,s1.2.2.2.2.2.2.2.2.1.map aS⟩,none,some ⟨.of 3,1,s1.2.2.2.2.2.2.2.2.2.1.map aG⟩,some ⟨.of 181,6,s1.2.2.2.2.2.2.2.2.2.2.map bt⟩,some ⟨.of 155,11,[[vs ma.ar,vs ma.aV,vi ma.ax,vi ma.ab,vi ma.aO,vi ma.dX,.sl (ma.aE.map aS),vi ma.aJ,vi ma.state,vs ma.place,vi ma.bD]]⟩])).bind fun xX=>
 (aC ma.aE ma.aJ).bind fun AX=>
 (bh [0,1,2,3,4,5,8,7]).bind fun _=>
 (fS (⟨(⟨s1.2.2.2.2.1,s1.2.2.2.2.2.1,s1.2.1⟩:aj),xX,s1.2.2.2.2.2.2.2.1,s1.2.2.2.2.2.2.2.2.1,s1.2.2.1,s1.2.2.2.2.2.2.2.2.2.2,s1.2.2.2.2.2.2.2.2.2.1,s1.2.2.2.1⟩:av) (⟨(aL (s1.1+1)),fg,3,⟨#[]⟩,AX⟩:br)).bind fun FR=>
 some (.inl ((aL (s1.1+1)),FR.aa.change,FR.now,FR.bd,FR.aa.ay,FR.aa.off,FR.ah,FR.aq,FR.ae,FR.skip,FR.aH)))
 (some (.inl ((aL (s1.1+1)),s1.2.1,s1.2.2.1,s1.2.2.2.1,s1.2.2.2.2.1,s1.2.2.2.2.2.1,s1.2.2.2.2.2.2.1,s1.2.2.2.2.2.2.2.1,s1.2.2.2.2.2.2.2.2.1,s1.2.2.2.2.2.2.2.2.2.1,s1.2.2.2.2.2.2.2.2.2.2))))
 (some (.inl ((aL (s1.1+1)),s1.2.1,s1.2.2.1,s1.2.2.2.1,s1.2.2.2.2.1,s1.2.2.2.2.2.1,s1.2.2.2.2.2.2.1,s1.2.2.2.2.2.2.2.1,s1.2.2.2.2.2.2.2.2.1,s1.2.2.2.2.2.2.2.2.2.1,s1.2.2.2.2.2.2.2.2.2.2))))
 (some (.inl ((aL (s1.1+1)),s1.2.1,s1.2.2.1,s1.2.2.2.1,s1.2.2.2.2.1,s1.2.2.2.2.2.1,s1.2.2.2.2.2.2.1,s1.2.2.2.2.2.2.2.1,s1.2.2.2.2.2.2.2.2.1,s1.2.2.2.2.2.2.2.2.2.1,s1.2.2.2.2.2.2.2.2.2.2))))
 (some (.inr (s1.2.1,s1.2.2.1,s1.2.2.2.1,s1.2.2.2.2.1,s1.2.2.2.2.2.1,s1.2.2.2.2.2.2.1,s1.2.2.2.2.2.2.2.1,s1.2.2.2.2.2.2.2.2.1,s1.2.2.2.2.2.2.2.2.2.1,s1.2.2.2.2.2.2.2.2.2.2)))
instance (fg:Int):bm (iM fg):=⟨fun s1=>(.be 0 0 0::vi fg::(U 4 (vi s1.1::(U 192 [])))),fun s1=>[some ⟨.of 33,10,[[.ms 1,.ms 2,vi s1.2.1,.ms 3,.ms 4,.ms 5,vi s1.2.2.1,.ms 8,.ms 7,vi s1.2.2.2.1]]⟩,some ⟨.of 174,6,s1.2.2.2.2.1.map bp⟩,some ⟨.of 3,1,s1.2.2.2.2.2.1.map aG⟩,some ⟨.of 155,11,s1.2.2.2.2.2.2.1.map bc⟩,some ⟨.of 177,4,s1.2.2.2.2.2.2.2.1.map aB⟩,some ⟨.of 46,2,s1.2.2.2.2.2.2.2.2.1.map aS⟩,none,some ⟨.of 3,1,s1.2.2.2.2.2.2.2.2.2.1.map aG⟩,some ⟨.of 181,6,s1.2.2.2.2.2.2.2.2.2.2.map bt⟩]⟩
def nz(w:av)(fg:Int):Option av:=
 (aD (iL fg) NN (0,w.aa.change,w.now,w.bd,w.aa.ay,w.aa.off,w.ah,w.aq,w.ae,w.skip,w.aH)).bind (fun o0=>
 (aD (iM fg) NN (0,o0.1,o0.2.1,o0.2.2.1,o0.2.2.2.1,o0.2.2.2.2.1,o0.2.2.2.2.2.1,o0.2.2.2.2.2.2.1,o0.2.2.2.2.2.2.2.1,o0.2.2.2.2.2.2.2.2.1,o0.2.2.2.2.2.2.2.2.2)).bind (fun o1=>
 some (⟨(⟨o1.2.2.2.1,o1.2.2.2.2.1,o1.1⟩:aj),o1.2.2.2.2.2.1,o1.2.2.2.2.2.2.1,o1.2.2.2.2.2.2.2.1,fg,o1.2.2.2.2.2.2.2.2.2,o1.2.2.2.2.2.2.2.2.1,o1.2.2.1⟩:av)))
instance (w:av)(fg:Int):CT Tryz.prog (nz w fg):=⟨238,[.be 0 0 0,vi fg],[some ⟨.of 33,10,[[.ms 1,.ms 2,vi w.aa.change,.ms 3,.ms 4,.ms 5,vi w.now,.ms 6,.ms 7,vi w.bd]]⟩,some ⟨.of 174,6,w.aa.ay.map bp⟩,some ⟨.of 3,1,w.aa.off.map aG⟩,some ⟨.of 155,11,w.ah.map bc⟩,some ⟨.of 177,4,w.aq.map aB⟩,some ⟨.of 46,2,w.ae.map aS⟩,some ⟨.of 181,6,w.aH.map bt⟩,some ⟨.of 3,1,w.skip.map aG⟩],fun r=>.tu [],fun r=>[some ⟨.of 33,10,[[.ms 1,.ms 2,vi r.aa.change,.ms 3,.ms 4,.ms 5,vi r.now,.ms 8,.ms 7,vi r.bd]]⟩,some ⟨.of 174,6,r.aa.ay.map bp⟩,some ⟨.of 3,1,r.aa.off.map aG⟩,some ⟨.of 155,11,r.ah.map bc⟩,some ⟨.of 177,4,r.aq.map aB⟩,some ⟨.of 46,2,r.ae.map aS⟩,none,some ⟨.of 3,1,r.skip.map aG⟩,some ⟨.of 181,6,r.aH.map bt⟩],fun H=>by replace H:=H0 H;unfold nz at H;exact aA Tryz.func238 rfl Tryz.ntmps238 Tryz.results238 fun Q hQ cR=>dU⟩
def gv(c:aP):Option (Int×aP):=
 cond (decide (c.i<(c.b.length:Int)))
 ((aC c.b c.i).bind fun y1=>
 some ((IntKind.i64.wrap (Wn IntKind.i64.bits (aL ((IntKind.i64.wrap (Wn IntKind.i64.bits (IntKind.i64.wrap (Wn IntKind.i64.bits (Int.fdiv (aL ((aL (c.h*6364136223846793005))+1442695040888963407)) (2 ^ (min (Wo 35) IntKind.i64.bits))) ^^^ Wn IntKind.i64.bits (Int.fdiv (aL ((aL (c.h*6364136223846793005))+1442695040888963407)) (2 ^ (min (Wo 45) IntKind.i64.bits)))).toNat) &&& Wn IntKind.i64.bits 255).toNat)+(IntKind.i64.wrap y1.v))) &&& Wn IntKind.i64.bits 255).toNat),(⟨c.b,(aL (c.i+1)),(aL ((aL (c.h*6364136223846793005))+1442695040888963407))⟩:aP)))
 (some ((IntKind.i64.wrap (Wn IntKind.i64.bits (IntKind.i64.wrap (Wn IntKind.i64.bits (Int.fdiv (aL ((aL (c.h*6364136223846793005))+1442695040888963407)) (2 ^ (min (Wo 35) IntKind.i64.bits))) ^^^ Wn IntKind.i64.bits (Int.fdiv (aL ((aL (c.h*6364136223846793005))+1442695040888963407)) (2 ^ (min (Wo 45) IntKind.i64.bits)))).toNat) &&& Wn IntKind.i64.bits 255).toNat),(⟨c.b,c.i,(aL ((aL (c.h*6364136223846793005))+1442695040888963407))⟩:aP)))
instance (c:aP):CT Tryz.prog (gv c):=⟨170,[.be 0 0 0],[some ⟨.of 139,3,[[.sl (c.b.map cB8),vi c.i,vi c.h]]⟩],fun r=>vi r.1,fun r=>[some ⟨.of 139,3,[[.sl (r.2.b.map cB8),vi r.2.i,vi r.2.h]]⟩],fun H=>by replace H:=H0 H;unfold gv at H;exact aA Tryz.func170 rfl Tryz.ntmps170 Tryz.results170 fun Q hQ cR=>xW⟩
def aw(c:aP)(n:Int):Option (Int×aP):=
 cond (decide (n≤0))
 (some (0,c))
 (cond (decide (n≤256))
 ((bh [0]).bind fun _=>
 (gv c).bind fun y1=>
 (cL (decide (n≠0))).bind fun _=>
 some ((XG y1.1 n),y1.2))
 ((bh [0]).bind fun _=>
 (gv c).bind fun y2=>
 (bh [0]).bind fun _=>
 (gv y2.2).bind fun y3=>
 (bh [0]).bind fun _=>
 (gv y3.2).bind fun y4=>
 (cL (decide (n≠0))).bind fun _=>
 some ((XG (aL ((aL ((aL (y2.1*65536))+(aL (y3.1*256))))+y4.1)) n),y4.2)))
instance (c:aP)(n:Int):CT Tryz.prog (aw c n):=⟨87,[.be 0 0 0,vi n],[some ⟨.of 139,3,[[.sl (c.b.map cB8),vi c.i,vi c.h]]⟩],fun r=>vi r.1,fun r=>[some ⟨.of 139,3,[[.sl (r.2.b.map cB8),vi r.2.i,vi r.2.h]]⟩],fun H=>by replace H:=H0 H;unfold aw at H;exact aA Tryz.func87 rfl Tryz.ntmps87 Tryz.results87 fun Q hQ cR=>xW⟩
def bT(c:aP)(n:Int):Option (Bool×aP):=
 (bh [0]).bind fun _=>
 (aw c n).bind fun y1=>
 some ((decide (y1.1=0)),y1.2)
instance (c:aP)(n:Int):CT Tryz.prog (bT c n):=⟨172,[.be 0 0 0,vi n],[some ⟨.of 139,3,[[.sl (c.b.map cB8),vi c.i,vi c.h]]⟩],fun r=>vb r.1,fun r=>[some ⟨.of 139,3,[[.sl (r.2.b.map cB8),vi r.2.i,vi r.2.h]]⟩],fun H=>by replace H:=H0 H;unfold bT at H;exact aA Tryz.func172 rfl Tryz.ntmps172 Tryz.results172 fun Q hQ cR=>xW⟩
def ir(c:aP)(list:List ByteArray):Option (ByteArray×aP×(List ByteArray)):=
 (bh [0]).bind fun _=>
 (aw c (list.length:Int)).bind fun y1=>
 (aC list y1.1).bind fun y2=>
 some (y2,y1.2,list)
instance (c:aP)(list:List ByteArray):CT Tryz.prog (ir c list):=⟨173,[.be 0 0 0,.ms 1],[some ⟨.of 139,3,[[.sl (c.b.map cB8),vi c.i,vi c.h]]⟩,some ⟨.of 9,1,list.map jH⟩],fun r=>vs r.1,fun r=>[some ⟨.of 139,3,[[.sl (r.2.1.b.map cB8),vi r.2.1.i,vi r.2.1.h]]⟩,some ⟨.of 9,1,r.2.2.map jH⟩],fun H=>by replace H:=H0 H;unfold ir at H;exact aA Tryz.func173 rfl Tryz.ntmps173 Tryz.results173 fun Q hQ cR=>xW⟩
def fc(c:aP):Option (ByteArray×aP):=
 (bh [0,1]).bind fun _=>
 (ir c ([⟨#[65,77,83]⟩,⟨#[66,82,85]⟩,⟨#[67,68,71]⟩,⟨#[68,85,66]⟩,⟨#[69,68,73]⟩,⟨#[70,82,65]⟩,⟨#[71,79,84]⟩])).bind fun y1=>
 some (y1.1,y1.2.1)
instance (c:aP):CT Tryz.prog (fc c):=⟨178,[.be 0 0 0],[some ⟨.of 139,3,[[.sl (c.b.map cB8),vi c.i,vi c.h]]⟩],fun r=>vs r.1,fun r=>[some ⟨.of 139,3,[[.sl (r.2.b.map cB8),vi r.2.i,vi r.2.h]]⟩],fun H=>by replace H:=H0 H;unfold fc at H;exact aA Tryz.func178 rfl Tryz.ntmps178 Tryz.results178 fun Q hQ cR=>xW⟩
def bB(c:aP)(list:List Int):Option (Int×aP×(List Int)):=
 (bh [0]).bind fun _=>
 (aw c (list.length:Int)).bind fun y1=>
 (aC list y1.1).bind fun y2=>
 some (y2,y1.2,list)
instance (c:aP)(list:List Int):CT Tryz.prog (bB c list):=⟨93,[.be 0 0 0,.ms 1],[some ⟨.of 139,3,[[.sl (c.b.map cB8),vi c.i,vi c.h]]⟩,some ⟨.of 3,1,list.map aG⟩],fun r=>vi r.1,fun r=>[some ⟨.of 139,3,[[.sl (r.2.1.b.map cB8),vi r.2.1.i,vi r.2.1.h]]⟩,some ⟨.of 3,1,r.2.2.map aG⟩],fun H=>by replace H:=H0 H;unfold bB at H;exact aA Tryz.func93 rfl Tryz.ntmps93 Tryz.results93 fun Q hQ cR=>xW⟩
def na(y3:Int×aP)(y4:Int×aP)(y5:Int×aP)(y6:Int×aP)(s0:(List YB8)×Int×Int×ByteArray×ByteArray):Option (((List YB8)×Int×Int×ByteArray×ByteArray)⊕((List YB8)×Int×Int×ByteArray×ByteArray)):=
 cond (decide (s0.2.2.2.1=s0.2.2.2.2))
 ((bh [0,3]).bind fun _=>
 (ir (⟨s0.1,s0.2.1,s0.2.2.1⟩:aP) ([⟨#[65,77,83]⟩,⟨#[66,82,85]⟩,⟨#[67,68,71]⟩])).bind fun y7=>
 cond (decide (s0.2.2.2.1=y7.1))
 (some (.inl (y7.2.1.b,y7.2.1.i,y7.2.1.h,⟨#[68,85,66]⟩,y7.1)))
 (some (.inl (y7.2.1.b,y7.2.1.i,y7.2.1.h,s0.2.2.2.1,y7.1))))
 (some (.inr (s0.1,s0.2.1,s0.2.2.1,s0.2.2.2.1,s0.2.2.2.2)))
instance (y3:Int×aP)(y4:Int×aP)(y5:Int×aP)(y6:Int×aP):bm (na y3 y4 y5 y6):=⟨fun s0=>(.be 0 0 0::.un::.be 1 0 0::.be 2 0 0::(U 43 [])),fun s0=>[some ⟨.of 139,3,[[.sl (s0.1.map cB8),vi s0.2.1,vi s0.2.2.1]]⟩,some ⟨.of 174,6,[[vs (⟨#[]⟩),vs (⟨#[]⟩),vi 0,vi 0,vi 0,vi 0]]⟩,some ⟨.of 174,6,[[vs s0.2.2.2.1,vs s0.2.2.2.2,vi (aL (30*y3.1)),vi (aL (30*(aL (1+y4.1)))),vi (aL (1+y5.1)),vi (aL (1000*y6.1))]]⟩]⟩
def nA(c:aP):Option (bM×aP):=
 (bh [0]).bind fun _=>
 (fc c).bind fun y1=>
 (bh [0]).bind fun _=>
 (fc y1.2).bind fun y2=>
 (bh [0]).bind fun _=>
 (aw y2.2 48).bind fun y3=>
 (bh [0]).bind fun _=>
 (aw y3.2 40).bind fun y4=>
 (bh [0]).bind fun _=>
 (aw y4.2 127).bind fun y5=>
 (bh [0]).bind fun _=>
 (aw y5.2 60).bind fun y6=>
 (aD (na y3 y4 y5 y6) NN (y6.2.b,y6.2.i,y6.2.h,y1.1,y2.1)).bind (fun o0=>
 (bh [0]).bind fun _=>
 (bT (⟨o0.1,o0.2.1,o0.2.2.1⟩:aP) 2).bind fun y8=>
 cond y8.1
 ((bh [0]).bind fun _=>
 (bT y8.2 9).bind fun y9=>
 cond y9.1
 ((bh [0,3]).bind fun _=>
 (bB y9.2 ([1,1440,4320])).bind fun dM=>
 some ((⟨o0.2.2.2.1,o0.2.2.2.2,(aL (30*y3.1)),dM.1,127,(aL (1000*y6.1))⟩:bM),dM.2.1))
 (some ((⟨o0.2.2.2.1,o0.2.2.2.2,(aL (30*y3.1)),(aL (30*(aL (1+y4.1)))),127,(aL (1000*y6.1))⟩:bM),y9.2)))
 ((bh [0]).bind fun _=>
 (bT y8.2 9).bind fun jx=>
 cond jx.1
 ((bh [0,3]).bind fun _=>
 (bB jx.2 ([1,1440,4320])).bind fun oV=>
 some ((⟨o0.2.2.2.1,o0.2.2.2.2,(aL (30*y3.1)),oV.1,(aL (1+y5.1)),(aL (1000*y6.1))⟩:bM),oV.2.1))
 (some ((⟨o0.2.2.2.1,o0.2.2.2.2,(aL (30*y3.1)),(aL (30*(aL (1+y4.1)))),(aL (1+y5.1)),(aL (1000*y6.1))⟩:bM),jx.2))))
instance (c:aP):CT Tryz.prog (nA c):=⟨305,[.be 0 0 0],[some ⟨.of 139,3,[[.sl (c.b.map cB8),vi c.i,vi c.h]]⟩],fun r=>.ag [vs r.1.ar,vs r.1.aV,vi r.1.start,vi r.1.lT,vi r.1.tI,vi r.1.fy],fun r=>[some ⟨.of 139,3,[[.sl (r.2.b.map cB8),vi r.2.i,vi r.2.h]]⟩],fun H=>by replace H:=H0 H;unfold nA at H;exact aA Tryz.func305 rfl Tryz.ntmps305 Tryz.results305 fun Q hQ cR=>xW⟩
def l8(iE:Int)(y1:Int×aP)(s0:Int×(List YB8)×Int×Int×(List bM)):Option ((Int×(List YB8)×Int×Int×(List bM))⊕((List YB8)×Int×Int×(List bM))):=
 cond (decide (0<s0.1))
 ((bh [0]).bind fun _=>
 (nA (⟨s0.2.1,s0.2.2.1,s0.2.2.2.1⟩:aP)).bind fun y3=>
 (cL (bo ((s0.2.2.2.2:List bM).length+([y3.1]:List bM).length) 64)).bind fun _=>
 (bh [0]).bind fun _=>
 (bT y3.2 3).bind fun y4=>
 cond y4.1
 (cond (decide ((((s0.2.2.2.2:List bM)++[y3.1]).length:Int)<iE))
 ((aC ((s0.2.2.2.2:List bM)++[y3.1]) (aL ((((s0.2.2.2.2:List bM)++[y3.1]).length:Int)-1))).bind fun y5=>
 (aC ((s0.2.2.2.2:List bM)++[y3.1]) (aL ((((s0.2.2.2.2:List bM)++[y3.1]).length:Int)-1))).bind fun y6=>
 (ll 8 [3]).bind fun _=>
 (bh [0]).bind fun _=>
 (aw y4.2 20).bind fun y7=>
 (cL (bo ((((s0.2.2.2.2:List bM)++[y3.1]):List bM).length+([(⟨y5.aV,y6.ar,(XG (aL (y3.1.start+(aL (60*y7.1)))) 1440),y3.1.lT,y3.1.tI,y3.1.fy⟩:bM)]:List bM).length) 64)).bind fun _=>
 some (.inl ((aL (s0.1-1)),y7.2.b,y7.2.i,y7.2.h,((((s0.2.2.2.2:List bM)++[y3.1]):List bM)++[(⟨y5.aV,y6.ar,(XG (aL (y3.1.start+(aL (60*y7.1)))) 1440),y3.1.lT,y3.1.tI,y3.1.fy⟩:bM)]))))
 (some (.inl ((aL (s0.1-1)),y4.2.b,y4.2.i,y4.2.h,((s0.2.2.2.2:List bM)++[y3.1])))))
 (some (.inl ((aL (s0.1-1)),y4.2.b,y4.2.i,y4.2.h,((s0.2.2.2.2:List bM)++[y3.1])))))
 (some (.inr (s0.2.1,s0.2.2.1,s0.2.2.2.1,s0.2.2.2.2)))
instance (iE:Int)(y1:Int×aP):bm (l8 iE y1):=⟨fun s0=>(.be 0 0 0::vi iE::.un::.un::.be 1 0 0::.be 2 0 0::vi s0.1::(U 74 [])),fun s0=>[some ⟨.of 139,3,[[.sl (s0.2.1.map cB8),vi s0.2.2.1,vi s0.2.2.2.1]]⟩,some ⟨.of 27,3,[[.v (.slice none 0 0),.v (.slice none 0 0),vi 0]]⟩,some ⟨.of 27,3,[[.ms 3,.v (.slice none 0 0),vi (aL (15*y1.1))]]⟩,some ⟨.of 174,6,s0.2.2.2.2.map bp⟩]⟩
def j4(c:aP)(iE:Int):Option (aj×aP):=
 (bh [0]).bind fun _=>
 (aw c 9).bind fun y1=>
 (bh [0]).bind fun _=>
 (aw y1.2 iE).bind fun y2=>
 (aD (l8 iE y1) NN ((aL (1+y2.1)),y2.2.b,y2.2.i,y2.2.h,[])).bind (fun o0=>
 (bh [0]).bind fun _=>
 (bT (⟨o0.1,o0.2.1,o0.2.2.1⟩:aP) 2).bind fun y8=>
 cond y8.1
 ((bh [0]).bind fun _=>
 (aw y8.2 3).bind fun y9=>
 (bh [0]).bind fun _=>
 (aw y9.2 4).bind fun dM=>
 some ((⟨o0.2.2.2,[y9.1,(aL (3+dM.1))],(aL (15*y1.1))⟩:aj),dM.2))
 (some ((⟨o0.2.2.2,[],(aL (15*y1.1))⟩:aj),y8.2)))
instance (c:aP)(iE:Int):CT Tryz.prog (j4 c iE):=⟨254,[.be 0 0 0,vi iE],[some ⟨.of 139,3,[[.sl (c.b.map cB8),vi c.i,vi c.h]]⟩],fun r=>.ag [.ms 1,.ms 2,vi r.1.change],fun r=>[some ⟨.of 139,3,[[.sl (r.2.b.map cB8),vi r.2.i,vi r.2.h]]⟩,some ⟨.of 174,6,r.1.ay.map bp⟩,some ⟨.of 3,1,r.1.off.map aG⟩],fun H=>by replace H:=H0 H;unfold j4 at H;exact aA Tryz.func254 rfl Tryz.ntmps254 Tryz.results254 fun Q hQ cR=>xW⟩
def aI{α:Type}(x:Option α)(P:α→Prop):Prop:=∃r,x=some r∧P r
theorem aI.bind{α β:Type}{x:Option α}{P:α→Prop}{f:α→Option β}{Q:β→Prop}(h:aI x P)(k:∀r,P r→aI (f r) Q):aI (x.bind f) Q:=by
 obtain⟨r,rfl,hr⟩:=h
 exact k r hr
theorem aI.cond{β:Type}{b:Bool}{x y:Option β}{Q:β→Prop}(h:b=true→aI x Q)(k:b=false→aI y Q):aI (cond b x y) Q:=by
 cases b with
 |true=>exact h rfl
 |false=>exact k rfl
theorem aI.ret(h:Q r):aI (some r) Q:=⟨r,rfl,h⟩
theorem aI.of(h:x=some r)(h':Q r):aI x Q:=⟨r,h,h'⟩
theorem aI.mono{P Q:β→Prop}(h:aI x P)(k:∀r,P r→Q r):aI x Q:=by
 obtain⟨r,e,hr⟩:=h
 exact⟨r,e,k r hr⟩
theorem aI.cT{ρ:List Nat}(k:aI (f ()) Q):aI ((bh ρ).bind f) Q:=k
theorem aI.EL{wd:Nat}{fl:List Nat}(k:aI (f ()) Q):aI ((ll wd fl).bind f) Q:=k
theorem aI.A8{β:Type}{t:List PV}{m:Mem}{f:Unit→Option β}{Q:β→Prop}(k:aI (f ()) Q):aI ((Go.Proofs.YtbalgkakkoocjaaGreat.A8 t m).bind f) Q:=k
theorem aI.A9{α β:Type}{x:α}{t:α→List PV}{m:α→Mem}{f:α→Option β}{Q:β→Prop}(k:aI (f x) Q):aI ((Go.Proofs.YtbalgkakkoocjaaGreat.A9 x t m).bind f) Q:=k
theorem aI.cL{β:Type}{b:Bool}{f:Unit→Option β}{Q:β→Prop}(h:b=true)(k:aI (f ()) Q):aI ((Go.Proofs.YtbalgkakkoocjaaGreat.cL b).bind f) Q:=by
 subst h;exact k
theorem aI.get{α β:Type}{xs:List α}{i:Int}{f:α→Option β}{Q:β→Prop}(h0:0≤i)(h1:i<xs.length)(k:∀x,x∈xs→aC xs i=some x→aI (f x) Q):aI ((aC xs i).bind f) Q:=by
 have bF:i.toNat<xs.length:=by omega
 have e:aC xs i=some xs[i.toNat]:=by unfold aC;rw[if_pos h0];exact List.getElem?_eq_getElem bF
 rw[e]
 exact k _ (List.getElem_mem bF) e
def rO{σ ο:Type}(I:Nat→σ→Prop)(P:ο→Prop)(k:Nat):σ⊕ο→Prop
 |.inl s'=>∃k',k'<k∧I k' s'
 |.inr o=>P o
theorem aI.loop{σ ο:Type}{body:σ→Option (σ⊕ο)}(I:Nat→σ→Prop){P:ο→Prop}(h:∀k s,I k s→aI (body s) (rO I P k)):∀(N k:Nat) (s:σ),I k s→k<N→aI (aD body N s) P
 |0,k,s,_,hN=>by omega
 |N+1,k,s,hI,hN=>by
  obtain⟨r,e,hr⟩:=h k s hI
  simp only[aD,e]
  cases r with
  |inr o=>exact⟨o,rfl,hr⟩
  |inl s'=>
   obtain⟨k',hk,hI'⟩:=hr
   exact aI.loop I h N k' s' hI' (by omega)
theorem jt{a b c:Nat}(h:a+b≤1099511627776)(hc:c≤128):bo (a+b) c=true:=by
 unfold bo
 refine decide_eq_true ⟨by omega,?_⟩
 have:(a+b)*c≤1099511627776*128:=Nat.mul_le_mul h hc
 omega
structure bX(c:aP):Prop where
 i:0≤c.i
 len:c.b.length≤4096
 b:∀x∈c.b,0≤x.v∧x.v≤255
theorem Ql(x:BitVec IntKind.i64.bits):0≤IntKind.i64.wrap ((x &&& Wn IntKind.i64.bits 255).toNat:Int)∧IntKind.i64.wrap ((x &&& Wn IntKind.i64.bits 255).toNat:Int)≤255:=by
 have h:(x &&& Wn IntKind.i64.bits 255).toNat≤255:=by
  have e:(Wn IntKind.i64.bits 255).toNat=255:=by decide
  have:=Nat.and_le_right (n:=x.toNat) (m:=(Wn IntKind.i64.bits 255).toNat)
  rw[e]at this
  rw[BitVec.toNat_and]
  exact this
 have e:=aQ (n:=((x &&& Wn IntKind.i64.bits 255).toNat:Int)) (by omega)
 have e':IntKind.i64.wrap ((x &&& Wn IntKind.i64.bits 255).toNat:Int)=((x &&& Wn IntKind.i64.bits 255).toNat:Int):=e
 rw[e']
 omega
theorem yj(h:bX c):aI (gv c) fun r=>(0≤r.1∧r.1≤255)∧bX r.2:=by
 unfold gv
 refine aI.cond (fun hc=>?_) fun hc=>?_
 ·have bF:=of_decide_eq_true hc
  have hl:=h.len
  refine aI.get h.i bF fun x hx _=>aI.ret ⟨Ql _,⟨?_,h.len,h.b⟩⟩
  show 0≤aL (c.i+1)
  rw[aQ (by have:=h.i;omega)]
  have:=h.i
  omega
 ·exact aI.ret ⟨Ql _,⟨h.i,h.len,h.b⟩⟩
theorem bj(h:bX c)(n:Int):aI (aw c n) fun r=>(0≤r.1∧(0<n→r.1<n)∧(n≤0→r.1=0))∧bX r.2:=by
 unfold aw
 refine aI.cond (fun hc=>?_) fun hc=>?_
 ·have:=of_decide_eq_true hc
  exact aI.ret ⟨⟨by simp,fun _=>by simp only;omega,fun _=>rfl⟩,h⟩
 ·have h0:=of_decide_eq_false hc
  refine aI.cond (fun hd=>?_) fun hd=>?_
  ·refine aI.cT (aI.bind (yj h) fun y hy=>aI.cL (decide_eq_true (by omega)) (aI.ret ⟨⟨?_,fun _=>?_,fun hn=>absurd hn h0⟩,hy.2⟩))
   ·exact Yt _ hy.1.1
   ·exact Ya _ (by omega)
  ·refine aI.cT (aI.bind (yj h) fun y hy=>aI.cT (aI.bind (yj hy.2) fun z hz=>aI.cT (aI.bind (yj hz.2) fun u hu=>aI.cL (decide_eq_true (by omega)) (aI.ret ⟨⟨?_,fun _=>?_,fun hn=>absurd hn h0⟩,hu.2⟩))))
   ·have e1:aL (y.1*65536)=y.1*65536:=aQ (by omega)
    have e2:aL (z.1*256)=z.1*256:=aQ (by omega)
    have e3:aL (y.1*65536+z.1*256)=y.1*65536+z.1*256:=aQ (by omega)
    have e4:aL (y.1*65536+z.1*256+u.1)=y.1*65536+z.1*256+u.1:=aQ (by omega)
    simp only[e1,e2,e3,e4]
    exact Yt _ (by omega)
   ·exact Ya _ (by omega)
theorem iF(h:bX c)(n:Int):aI (bT c n) fun r=>bX r.2:=by
 unfold bT
 exact aI.cT (aI.bind (bj h n) fun y hy=>aI.ret hy.2)
theorem BE(h:bX c){l:List ByteArray}(hl:0<l.length):aI (ir c l) fun r=>r.1∈l∧bX r.2.1:=by
 unfold ir
 exact aI.cT (aI.bind (bj h _) fun y hy=>aI.get hy.1.1 (hy.1.2.1 (by omega)) fun x hx _=>aI.ret ⟨hx,hy.2⟩)
theorem jO(h:bX c){l:List Int}(hl:0<l.length):aI (bB c l) fun r=>r.1∈l∧bX r.2.1:=by
 unfold bB
 exact aI.cT (aI.bind (bj h _) fun y hy=>aI.get hy.1.1 (hy.1.2.1 (by omega)) fun x hx _=>aI.ret ⟨hx,hy.2⟩)
def rP:List ByteArray:=[⟨#[65,77,83]⟩,⟨#[66,82,85]⟩,⟨#[67,68,71]⟩,⟨#[68,85,66]⟩,⟨#[69,68,73]⟩,⟨#[70,82,65]⟩,⟨#[71,79,84]⟩]
theorem sr(h:bX c):aI (fc c) fun r=>r.1∈rP∧bX r.2:=by
 unfold fc
 exact aI.cT (aI.bind (BE h (by simp)) fun y hy=>aI.ret ⟨hy.1,hy.2⟩)
structure BH(l:bM):Prop where
 ar:l.ar∈rP
 aV:l.aV∈rP
 ne:¬l.ar=l.aV
 start:0≤l.start∧l.start≤1439
 lT:1≤l.lT∧l.lT≤4320
 tI:1≤l.tI∧l.tI≤127
 fy:0≤l.fy∧l.fy≤1000000
theorem UQ(h:bX c):aI (nA c) fun r=>BH r.1∧bX r.2:=by
 unfold nA
 refine aI.cT (aI.bind (sr h) fun y1 h1=>aI.cT (aI.bind (sr h1.2) fun y2 h2=>aI.cT (aI.bind (bj h2.2 48) fun y3 h3=>aI.cT (aI.bind (bj h3.2 40) fun y4 h4=>aI.cT (aI.bind (bj h4.2 127) fun y5 h5=>aI.cT (aI.bind (bj h5.2 60) fun y6 h6=>?_))))))
 have b3:=h3.1.2.1 (by omega)
 have b4:=h4.1.2.1 (by omega)
 have b5:=h5.1.2.1 (by omega)
 have b6:=h6.1.2.1 (by omega)
 have Rn:aI (aD (na y3 y4 y5 y6) NN (y6.2.b,y6.2.i,y6.2.h,y1.1,y2.1)) fun o=>bX ⟨o.1,o.2.1,o.2.2.1⟩∧o.2.2.2.1∈rP∧o.2.2.2.2∈rP∧¬o.2.2.2.1=o.2.2.2.2:=by
  refine aI.loop (fun k s=>bX ⟨s.1,s.2.1,s.2.2.1⟩∧s.2.2.2.1∈rP∧s.2.2.2.2∈rP∧(k=1∨(k=0∧¬s.2.2.2.1=s.2.2.2.2))) (fun k s hs=>?_) NN 1 _ ⟨h6.2,h1.1,h2.1,.inl rfl⟩ (by unfold NN;omega)
  obtain⟨k1,k2,k3,k4⟩:=hs
  unfold na
  refine aI.cond (fun hc=>?_) fun hc=>aI.ret ⟨k1,k2,k3,of_decide_eq_false hc⟩
  have he:=of_decide_eq_true hc
  have hk:k=1:=by rcases k4 with k4|⟨_,k4⟩
                  ·exact k4
                  ·exact absurd he k4
  subst hk
  refine aI.cT (aI.bind (BE k1 (by simp)) fun y7 h7=>?_)
  have hy:y7.1∈rP∧¬(⟨#[68,85,66]⟩:ByteArray)=y7.1:=by
   have:=h7.1
   simp only[V4,V7,or_false]at this
   rcases this with e|e|e<;>rw[e]<;>exact⟨by simp[rP],by decide +kernel⟩
  have ZeT:(⟨#[68,85,66]⟩:ByteArray)∈rP:=by simp[rP]
  refine aI.cond (fun hd=>aI.ret ⟨0,by omega,h7.2,ZeT,hy.1,.inr ⟨rfl,hy.2⟩⟩) fun hd=>aI.ret ⟨0,by omega,h7.2,k2,hy.1,.inr ⟨rfl,of_decide_eq_false hd⟩⟩
 refine aI.bind Rn fun o ho=>aI.cT (aI.bind (iF ho.1 2) fun y8 h8=>?_)
 have w1:aL (30*y3.1)=30*y3.1:=aQ (by omega)
 have w2:aL (1+y4.1)=1+y4.1:=aQ (by omega)
 have w3:aL (30*(1+y4.1))=30*(1+y4.1):=aQ (by omega)
 have w4:aL (1+y5.1)=1+y5.1:=aQ (by omega)
 have w5:aL (1000*y6.1)=1000*y6.1:=aQ (by omega)
 simp only[w1,w2,w3,w4,w5]
 have uC:∀x:Int,x∈[1,1440,(4320:Int)]→1≤x∧x≤4320:=fun x hx=>by
  simp only[V4,V7,or_false]at hx
  omega
 refine aI.cond (fun hd=>aI.cT (aI.bind (iF h8 9) fun y9 h9=>aI.cond (fun he=>aI.cT (aI.bind (jO h9 (by simp)) fun dM xZ=>aI.ret ⟨⟨ho.2.1,ho.2.2.1,ho.2.2.2,by simp only;omega,uC _ xZ.1,by simp only;omega,by simp only;omega⟩,xZ.2⟩)) fun he=>aI.ret ⟨⟨ho.2.1,ho.2.2.1,ho.2.2.2,by simp only;omega,by simp only;omega,by simp only;omega,by simp only;omega⟩,h9⟩))
  fun hd=>aI.cT (aI.bind (iF h8 9) fun y9 h9=>aI.cond (fun he=>aI.cT (aI.bind (jO h9 (by simp)) fun dM xZ=>aI.ret ⟨⟨ho.2.1,ho.2.2.1,ho.2.2.2,by simp only;omega,uC _ xZ.1,by simp only;omega,by simp only;omega⟩,xZ.2⟩)) fun he=>aI.ret ⟨⟨ho.2.1,ho.2.2.1,ho.2.2.2,by simp only;omega,by simp only;omega,by simp only;omega,by simp only;omega⟩,h9⟩)
structure qI(n:aj):Prop where
 len:1≤n.ay.length∧n.ay.length≤14
 bx:∀l∈n.ay,BH l
 off:n.off=[]∨∃a b:Int,n.off=[a,b]∧0≤a∧a<b∧b≤60
 change:0≤n.change∧n.change≤240
theorem M1(h:bX c):aI (j4 c 7) fun r=>qI r.1∧bX r.2:=by
 unfold j4
 refine aI.cT (aI.bind (bj h 9) fun y1 h1=>aI.cT (aI.bind (bj h1.2 7) fun y2 h2=>?_))
 have b1:=h1.1.2.1 (by omega)
 have b2:=h2.1.2.1 (by omega)
 have w1:aL (1+y2.1)=1+y2.1:=aQ (by omega)
 have Rn:aI (aD (l8 7 y1) NN (aL (1+y2.1),y2.2.b,y2.2.i,y2.2.h,[])) fun o=>bX ⟨o.1,o.2.1,o.2.2.1⟩∧1≤o.2.2.2.length∧o.2.2.2.length≤14∧∀l∈o.2.2.2,BH l:=by
  refine aI.loop (fun k s=>s.1=(k:Int)∧k≤7∧bX ⟨s.2.1,s.2.2.1,s.2.2.2.1⟩∧s.2.2.2.2.length+2*k≤14∧(k=0→1≤s.2.2.2.2.length)∧∀l∈s.2.2.2.2,BH l) (fun k s hs=>?_) NN (1+y2.1).toNat _ ⟨by rw[w1];omega,by omega,h2.2,by simp only[VY];omega,fun hk=>by omega,fun l hl=>by cases hl⟩ (by unfold NN;omega)
  obtain⟨k1,k2,k3,k4,k5,k6⟩:=hs
  unfold l8
  refine aI.cond (fun hc=>?_) fun hc=>aI.ret ⟨k3,k5 (by have:=of_decide_eq_false hc;omega),by simp only;omega,k6⟩
  have hk:=of_decide_eq_true hc
  have hw:aL (s.1-1)=((k-1:Nat):Int):=by rw[aQ (by omega)];omega
  refine aI.cT (aI.bind (UQ k3) fun y3 h3=>aI.cL (jt (by simp only[VX,VY];omega) (by omega)) (aI.cT (aI.bind (iF h3.2 3) fun y4 h4=>?_)))
  have tt:∀l∈s.2.2.2.2++[y3.1],BH l:=fun l hl=>by
   rcases WC.1 hl with hl|hl
   ·exact k6 l hl
   ·obtain rfl:=Wc.1 hl;exact h3.1
  have hlen:(s.2.2.2.2++[y3.1]).length=s.2.2.2.2.length+1:=by simp
  have one:aI (some (Sum.inl (aL (s.1-1),y4.2.b,y4.2.i,y4.2.h,s.2.2.2.2++[y3.1])):Option ((Int×List YB8×Int×Int×List bM)⊕(List YB8×Int×Int×List bM)))
   (rO (fun k s=>s.1=(k:Int)∧k≤7∧bX ⟨s.2.1,s.2.2.1,s.2.2.2.1⟩∧s.2.2.2.2.length+2*k≤14∧(k=0→1≤s.2.2.2.2.length)∧∀l∈s.2.2.2.2,BH l) (fun o=>bX ⟨o.1,o.2.1,o.2.2.1⟩∧1≤o.2.2.2.length∧o.2.2.2.length≤14∧∀l∈o.2.2.2,BH l) k):=aI.ret ⟨k-1,by omega,hw,by omega,h4,by simp only[hlen];omega,fun _=>by simp only[hlen];omega,tt⟩
  refine aI.cond (fun hd=>aI.cond (fun he=>?_) fun he=>one) fun hd=>one
  have K7:aL (((s.2.2.2.2++[y3.1]).length:Int)-1)=(s.2.2.2.2.length:Int):=by rw[hlen,aQ (by omega)];omega
  have nn:aC (s.2.2.2.2++[y3.1]) (s.2.2.2.2.length:Int)=some y3.1:=by rw[aR,List.getElem?_append_right (Nat.le_refl _)];simp
  rw[K7,nn]
  simp only[Option.bind_some]
  refine aI.EL (aI.cT (aI.bind (bj h4 20) fun y7 h7=>aI.cL (jt (by simp only[VX,VY,hlen];omega) (by omega)) (aI.ret ⟨k-1,by omega,hw,by omega,h7.2,?_,fun _=>?_,fun l hl=>?_⟩)))
  ·simp only[V2,VX,VY];omega
  ·simp only[V2,VX,VY];omega
  ·rcases WC.1 hl with hl|hl
   ·exact tt l hl
   ·obtain rfl:=Wc.1 hl
    obtain⟨a1,a2,a3,a4,a5,a6,a7⟩:=h3.1
    have b7:=h7.1.2.1 (by omega)
    have e1:aL (60*y7.1)=60*y7.1:=aQ (by omega)
    have e2:aL (y3.1.start+60*y7.1)=y3.1.start+60*y7.1:=aQ (by omega)
    refine⟨a2,a1,fun e=>a3 e.symm,?_,a5,a6,a7⟩
    simp only[e1,e2]
    have g1:=Yt 1440 (show 0≤y3.1.start+60*y7.1 by omega)
    have g2:=Ya (y3.1.start+60*y7.1) (show(0:Int)<1440 by omega)
    omega
 refine aI.bind Rn fun o ho=>aI.cT (aI.bind (iF ho.1 2) fun y8 h8=>?_)
 have w2:aL (15*y1.1)=15*y1.1:=aQ (by omega)
 simp only[w2]
 refine aI.cond (fun hd=>aI.cT (aI.bind (bj h8 3) fun y9 h9=>aI.cT (aI.bind (bj h9.2 4) fun dM xZ=>?_))) fun hd=>aI.ret ⟨⟨⟨ho.2.1,ho.2.2.1⟩,ho.2.2.2,.inl rfl,by simp only;omega⟩,h8⟩
 have b9:=h9.1.2.1 (by omega)
 have b10:=xZ.1.2.1 (by omega)
 have w3:aL (3+dM.1)=3+dM.1:=aQ (by omega)
 exact aI.ret ⟨⟨⟨ho.2.1,ho.2.2.1⟩,ho.2.2.2,.inr ⟨_,_,rfl,by omega,by omega,by omega⟩,by simp only;omega⟩,xZ.2⟩
theorem UY{code:List YB8}(hl:code.length≤4096)(hb:∀x∈code,0≤x.v∧x.v≤255):aI (om code) bX:=by
 unfold om
 refine aI.bind (P:=fun _=>True) ?_ fun o _=>aI.ret ⟨by simp,hl,hb⟩
 refine aI.loop (fun k s=>∃i:Nat,s.2=(i:Int)∧i+k=code.length) (fun k s hs=>?_) NN code.length _ ⟨0,rfl,by omega⟩ (by unfold NN;omega)
 obtain⟨i,hi,hk⟩:=hs
 unfold qu
 rw[hi]
 refine aI.cond (fun hc=>aI.cond (fun hd=>?_) fun hd=>aI.ret trivial) fun hc=>aI.ret trivial
 have bF:=of_decide_eq_true hc
 exact aI.get (by omega) bF fun x hx _=>aI.ret ⟨k-1,by omega,i+1,by simp only;rw[aQ (by omega)];omega,by omega⟩
def qt(n:aj)(bx:Int)(mO:Int)(s0:Int):Option (Int⊕(Unit⊕(au×Bool))):=
 cond (decide (s0≤60))
 ((oh n bx s0).bind fun y1=>
 cond y1
 ((dq n (⟨bx,s0⟩:au)).bind fun y2=>
 cond (decide (mO≤y2))
 (some (.inr (.inr ((⟨bx,s0⟩:au),true))))
 (some (.inl (aL (s0+1)))))
 (some (.inl (aL (s0+1)))))
 (some (.inr (.inl ())))
instance (n:aj)(bx:Int)(mO:Int):bm (qt n bx mO):=⟨fun s0=>(.un::vi bx::vi mO::.be 0 0 0::.un::.un::.be 1 0 0::.un::vi s0::(U 21 [])),fun s0=>[some ⟨.of 27,3,[[.sl (n.ay.map bp),.sl (n.off.map aG),vi n.change]]⟩,some ⟨.of 46,2,[[vi 0,vi 0]]⟩]⟩
def tf(n:aj)(bx:Int)(mO:Int):Option (au×Bool):=
 (aD (qt n bx mO) NN 0).bind (bl (fun o0=>
 some ((⟨0,0⟩:au),false)) (fun r=>some r))
instance (n:aj)(bx:Int)(mO:Int):CT Tryz.prog (tf n bx mO):=⟨368,[.ag (bA n),vi bx,vi mO],[],fun r=>.tu [.ag [vi r.1.bx,vi r.1.day],vb r.2],fun r=>[],fun H=>by replace H:=H0 H;unfold tf at H;exact aA Tryz.func368 rfl Tryz.ntmps368 Tryz.results368 fun Q hQ cR=>dU⟩
def nw(bx:Int)(fg:Int)(zj:aj):Option (au×Bool):=
 (tf zj bx fg).bind fun y1=>
 some (y1.1,y1.2)
instance (bx:Int)(fg:Int)(zj:aj):CT Tryz.prog (nw bx fg zj):=⟨367,[vi bx,vi fg,.rp [.sl (zj.ay.map bp),.sl (zj.off.map aG),vi zj.change]],[],fun r=>.tu [.ag [vi r.1.bx,vi r.1.day],vb r.2],fun r=>[],fun H=>by replace H:=H0 H;unfold nw at H;exact aA Tryz.func367 rfl Tryz.ntmps367 Tryz.results367 fun Q hQ cR=>dU⟩
def nb(n:aj)(bw:aj)(fJ:Int)(ay:Int)(y1:List ByteArray)(y2:Int)(s0:Int×(List Int)):Option ((Int×(List Int))⊕(List Int)):=
 cond (decide (s0.1<(y1.length:Int)))
 ((cL (bo ((s0.2:List Int).length+([(-1)]:List Int).length) 8)).bind fun _=>
 some (.inl ((aL (s0.1+1)),((s0.2:List Int)++[(-1)]))))
 (some (.inr s0.2))
instance (n:aj)(bw:aj)(fJ:Int)(ay:Int)(y1:List ByteArray)(y2:Int):bm (nb n bw fJ ay y1 y2):=⟨fun s0=>(.un::.fn 367 [.rp [.sl (bw.ay.map bp),.sl (bw.off.map aG),vi bw.change]]::.un::vi fJ::vi ay::.be 0 0 0::(U 5 (.ms 1::vi y2::.ms 2::(U 26 (vi (y1.length:Int)::vi s0.1::(U 83 [])))))),fun s0=>[some ⟨.of 27,3,[[.sl (n.ay.map bp),.sl (n.off.map aG),vi n.change]]⟩,some ⟨.of 9,1,y1.map jH⟩,some ⟨.of 3,1,s0.2.map aG⟩]⟩
def jR(n:aj)(bw:aj)(ay:Int)(y1:List ByteArray)(y2:Int)(s1:Int×(List Int))(s2:Int×Bool×(List Int)):Option ((Int×Bool×(List Int))⊕(Bool×(List Int))):=
 cond (decide (s2.1<(n.ay.length:Int)))
 ((aC n.ay s2.1).bind fun y4=>
 (bV y1 y4.ar).bind fun y5=>
 (bV y1 y4.aV).bind fun y6=>
 (aC s1.2 y5).bind fun y7=>
 cond (decide (y7<0))
 (some (.inl ((aL (s2.1+1)),s2.2.1,s2.2.2)))
 ((aC s1.2 y5).bind fun y8=>
 (ko n y8 (decide (y5=y2))).bind fun y9=>
 (nw s2.1 y9 bw).bind fun dM=>
 cond dM.2
 ((aC s2.2.2 y6).bind fun jx=>
 cond (decide (jx<0))
 ((dg n dM.1).bind fun oV=>
 (aC s2.2.2 y6).bind fun lZ=>
 some (.inl ((aL (s2.1+1)),true,(s2.2.2.set (Wo y6) oV))))
 ((dg n dM.1).bind fun kS=>
 (aC s2.2.2 y6).bind fun o9=>
 cond (decide (kS<o9))
 ((dg n dM.1).bind fun ma=>
 (aC s2.2.2 y6).bind fun ri=>
 some (.inl ((aL (s2.1+1)),true,(s2.2.2.set (Wo y6) ma))))
 (some (.inl ((aL (s2.1+1)),s2.2.1,s2.2.2)))))
 (some (.inl ((aL (s2.1+1)),s2.2.1,s2.2.2)))))
 (some (.inr (s2.2.1,s2.2.2)))
instance (n:aj)(bw:aj)(ay:Int)(y1:List ByteArray)(y2:Int)(s1:Int×(List Int)):bm (jR n bw ay y1 y2 s1):=⟨fun s2=>(.un::.fn 367 [.rp [.sl (bw.ay.map bp),.sl (bw.off.map aG),vi bw.change]]::.un::.un::vi ay::.be 0 0 0::(U 5 (.ms 1::vi y2::.ms 2::vi s1.1::.ms 3::vb s2.2.1::(U 44 (.sl (n.ay.map bp)::vi (n.ay.length:Int)::vi s2.1::(U 61 [])))))),fun s2=>[some ⟨.of 27,3,[[.sl (n.ay.map bp),.sl (n.off.map aG),vi n.change]]⟩,some ⟨.of 9,1,y1.map jH⟩,some ⟨.of 3,1,s1.2.map aG⟩,some ⟨.of 3,1,s2.2.2.map aG⟩]⟩
def jQ(n:aj)(bw:aj)(ay:Int)(y1:List ByteArray)(y2:Int)(s1:Int×(List Int)):Option ((Int×(List Int))⊕(List Int)):=
 cond (decide (s1.1<ay))
 ((cL (bo ((([]:List Int):List Int).length+(s1.2:List Int).length) 8)).bind fun _=>
 (aD (jR n bw ay y1 y2 s1) NN (0,false,((([]:List Int):List Int)++s1.2))).bind (fun o2=>
 cond (!o2.1)
 (some (.inr o2.2))
 (some (.inl ((aL (s1.1+1)),o2.2)))))
 (some (.inr s1.2))
instance (n:aj)(bw:aj)(ay:Int)(y1:List ByteArray)(y2:Int):bm (jQ n bw ay y1 y2):=⟨fun s1=>(.un::.fn 367 [.rp [.sl (bw.ay.map bp),.sl (bw.off.map aG),vi bw.change]]::.un::.un::vi ay::.be 0 0 0::(U 5 (.ms 1::vi y2::.ms 2::vi s1.1::(U 110 [])))),fun s1=>[some ⟨.of 27,3,[[.sl (n.ay.map bp),.sl (n.off.map aG),vi n.change]]⟩,some ⟨.of 9,1,y1.map jH⟩,some ⟨.of 3,1,s1.2.map aG⟩]⟩
def jM(n:aj)(bw:aj)(cU:ByteArray)(fJ:Int)(ay:Int):Option (List Int):=
 (dx n).bind fun y1=>
 (bV y1 cU).bind fun y2=>
 cond (decide (y2<0))
 (some ([]))
 (cond (decide (100000<fJ))
 (some ([]))
 (cond (decide (ay<0))
 (some ([]))
 ((aD (nb n bw fJ ay y1 y2) NN (0,([]:List Int))).bind (fun o0=>
 (aC o0 y2).bind fun y3=>
 (aD (jQ n bw ay y1 y2) NN (0,(o0.set (Wo y2) (if 0 > fJ then 0 else fJ)))).bind (fun o1=>
 some o1)))))
instance (n:aj)(bw:aj)(cU:ByteArray)(fJ:Int)(ay:Int):CT Tryz.prog (jM n bw cU fJ ay):=⟨312,[.ag (bA n),.fn 367 [.rp [.sl (bw.ay.map bp),.sl (bw.off.map aG),vi bw.change]],vs cU,vi fJ,vi ay],[],fun r=>.ms 0,fun r=>[some ⟨.of 3,1,r.map aG⟩],fun H=>by replace H:=H0 H;unfold jM at H;exact aA Tryz.func312 rfl Tryz.ntmps312 Tryz.results312 fun Q hQ cR=>dU⟩
def re(n:aj):Option aj:=
 some (n)
instance (n:aj):CT Tryz.prog (re n):=⟨341,[.ag (bA n)],[],fun r=>.fn 367 [.rp [.sl (r.ay.map bp),.sl (r.off.map aG),vi r.change]],fun r=>[],fun H=>by replace H:=H0 H;unfold re at H;exact aA Tryz.func341 rfl Tryz.ntmps341 Tryz.results341 fun Q hQ cR=>dU⟩
def l5(n:aj)(cG:ByteArray)(mO:Int)(ay:Int):Option (List Int):=
 (eU n).bind fun y1=>
 cond (!y1)
 (some ([]))
 ((re n).bind fun y2=>
 (jM n y2 cG mO ay).bind fun y3=>
 some y3)
instance (n:aj)(cG:ByteArray)(mO:Int)(ay:Int):CT Tryz.prog (l5 n cG mO ay):=⟨319,[.ag (bA n),vs cG,vi mO,vi ay],[],fun r=>.ms 0,fun r=>[some ⟨.of 3,1,r.map aG⟩],fun H=>by replace H:=H0 H;unfold l5 at H;exact aA Tryz.func319 rfl Tryz.ntmps319 Tryz.results319 fun Q hQ cR=>dU⟩
def ju(n:aj)(cG:ByteArray)(aV:ByteArray)(fJ:Int):Option Int:=
 (dx n).bind fun y1=>
 (l5 n cG fJ (y1.length:Int)).bind fun y2=>
 (bV y1 aV).bind fun y3=>
 cond (decide (y3<0))
 (some (-1))
 (cond (decide ((y2.length:Int)=0))
 (some (-1))
 ((aC y2 y3).bind fun y4=>
 some y4))
instance (n:aj)(cG:ByteArray)(aV:ByteArray)(fJ:Int):CT Tryz.prog (ju n cG aV fJ):=⟨277,[.ag (bA n),vs cG,vs aV,vi fJ],[],fun r=>vi r,fun r=>[],fun H=>by replace H:=H0 H;unfold ju at H;exact aA Tryz.func277 rfl Tryz.ntmps277 Tryz.results277 fun Q hQ cR=>dU⟩
def eV(n:aj)(ax:Int)(cU:ByteArray)(aV:ByteArray)(kG:Int):Option Int:=
 (ju n cU aV kG).bind fun y1=>
 cond (decide (y1=(-1)))
 (some (-1))
 ((aZ ax 1 3).bind fun y2=>
 cond (!y2)
 (some (-1))
 (cond (decide (1080<(XG y1 1440)))
 ((aC ([0,1,4]:List Int) (aL (ax-1))).bind fun y3=>
 some (aL ((aL ((aL ((aL ((IntKind.i64.wrap (Xk y1 1440))+1))+y3))*1440))+1080)))
 ((aC ([0,1,4]:List Int) (aL (ax-1))).bind fun y4=>
 some (aL ((aL ((aL ((IntKind.i64.wrap (Xk y1 1440))+y4))*1440))+1080)))))
instance (n:aj)(ax:Int)(cU:ByteArray)(aV:ByteArray)(kG:Int):CT Tryz.prog (eV n ax cU aV kG):=⟨203,[.ag (bA n),vi ax,vs cU,vs aV,vi kG],[],fun r=>vi r,fun r=>[],fun H=>by replace H:=H0 H;unfold eV at H;exact aA Tryz.func203 rfl Tryz.ntmps203 Tryz.results203 fun Q hQ cR=>dU⟩
theorem qi:∀p∈rP,cM p=some true∧p.size=3:=fun p hp=>by
 unfold rP at hp
 simp only[V4,V7,or_false]at hp
 rcases hp with rfl|rfl|rfl|rfl|rfl|rfl|rfl<;>exact⟨by decide +kernel,by decide +kernel⟩
def cA(c:aP)(n:aj):Option (ByteArray×aP):=
 (de n).bind fun y1=>
 (bh [0]).bind fun _=>
 (bT c 9).bind fun y2=>
 cond y2.1
 ((bh [0]).bind fun _=>
 (fc y2.2).bind fun y3=>
 some (y3.1,y3.2))
 ((bh [0]).bind fun _=>
 (aw y2.2 (y1.length:Int)).bind fun y4=>
 (aC y1 y4.1).bind fun y5=>
 some (y5,y4.2))
instance (c:aP)(n:aj):CT Tryz.prog (cA c n):=⟨180,[.be 0 0 0,.ag (bA n)],[some ⟨.of 139,3,[[.sl (c.b.map cB8),vi c.i,vi c.h]]⟩],fun r=>vs r.1,fun r=>[some ⟨.of 139,3,[[.sl (r.2.b.map cB8),vi r.2.i,vi r.2.h]]⟩],fun H=>by replace H:=H0 H;unfold cA at H;exact aA Tryz.func180 rfl Tryz.ntmps180 Tryz.results180 fun Q hQ cR=>xW⟩
def lI(c:aP):Option (dh×aP):=
 (bh [0]).bind fun _=>
 (aw c 3).bind fun y1=>
 (bh [0]).bind fun _=>
 (aw y1.2 1000).bind fun y2=>
 (bh [0]).bind fun _=>
 (fc y2.2).bind fun y3=>
 (bh [0]).bind fun _=>
 (bT y3.2 3).bind fun y4=>
 cond y4.1
 ((bh [0,3]).bind fun _=>
 (bB y4.2 ([0,7,999999999,100000000,123456789])).bind fun y5=>
 some ((⟨(aL (1+y1.1)),y5.1,y3.1⟩:dh),y5.2.1))
 (some ((⟨(aL (1+y1.1)),y2.1,y3.1⟩:dh),y4.2))
instance (c:aP):CT Tryz.prog (lI c):=⟨177,[.be 0 0 0],[some ⟨.of 139,3,[[.sl (c.b.map cB8),vi c.i,vi c.h]]⟩],fun r=>.ag [vi r.1.ax,vi r.1.fz,vs r.1.aV],fun r=>[some ⟨.of 139,3,[[.sl (r.2.b.map cB8),vi r.2.i,vi r.2.h]]⟩],fun H=>by replace H:=H0 H;unfold lI at H;exact aA Tryz.func177 rfl Tryz.ntmps177 Tryz.results177 fun Q hQ cR=>xW⟩
def lJ(c:aP):Option ((List Int)×aP):=
 (bh [0]).bind fun _=>
 (aw c 600).bind fun y1=>
 (bh [0]).bind fun _=>
 (aw y1.2 400).bind fun y2=>
 (bh [0]).bind fun _=>
 (aw y2.2 300).bind fun y3=>
 some ([(aL (1+y1.1)),(aL (1+y2.1)),(aL (1+y3.1))],y3.2)
instance (c:aP):CT Tryz.prog (lJ c):=⟨179,[.be 0 0 0],[some ⟨.of 139,3,[[.sl (c.b.map cB8),vi c.i,vi c.h]]⟩],fun r=>.ms 1,fun r=>[some ⟨.of 139,3,[[.sl (r.2.b.map cB8),vi r.2.i,vi r.2.h]]⟩,some ⟨.of 3,1,r.1.map aG⟩],fun H=>by replace H:=H0 H;unfold lJ at H;exact aA Tryz.func179 rfl Tryz.ntmps179 Tryz.results179 fun Q hQ cR=>xW⟩
def eF(c:aP):Option (a8×aP):=
 (bh [0]).bind fun _=>
 (lI c).bind fun y1=>
 (bh [0]).bind fun _=>
 (fc y1.2).bind fun y2=>
 (bh [0]).bind fun _=>
 (aw y2.2 30000).bind fun y3=>
 (bh [0]).bind fun _=>
 (lJ y3.2).bind fun y4=>
 (bh [0]).bind fun _=>
 (aw y4.2 500001).bind fun y5=>
 cond (decide (y2.1=y1.1.aV))
 ((bh [0]).bind fun _=>
 (bT y5.2 3).bind fun y6=>
 cond y6.1
 ((bh [0,4]).bind fun _=>
 (bB y6.2 ([1,500,1000,1001,5000,30000])).bind fun y7=>
 some ((⟨y1.1,⟨#[79,83,76]⟩,y7.1,y4.1,y5.1⟩:a8),y7.2.1))
 (some ((⟨y1.1,⟨#[79,83,76]⟩,(aL (1+y3.1)),y4.1,y5.1⟩:a8),y6.2)))
 ((bh [0]).bind fun _=>
 (bT y5.2 3).bind fun y8=>
 cond y8.1
 ((bh [0,4]).bind fun _=>
 (bB y8.2 ([1,500,1000,1001,5000,30000])).bind fun y9=>
 some ((⟨y1.1,y2.1,y9.1,y4.1,y5.1⟩:a8),y9.2.1))
 (some ((⟨y1.1,y2.1,(aL (1+y3.1)),y4.1,y5.1⟩:a8),y8.2)))
instance (c:aP):CT Tryz.prog (eF c):=⟨91,[.be 0 0 0],[some ⟨.of 139,3,[[.sl (c.b.map cB8),vi c.i,vi c.h]]⟩],fun r=>.ag [vi r.1.label.ax,vi r.1.label.fz,vs r.1.label.aV,vs r.1.ar,vi r.1.ab,.sl (r.1.cq.map aG),vi r.1.value],fun r=>[some ⟨.of 139,3,[[.sl (r.2.b.map cB8),vi r.2.i,vi r.2.h]]⟩],fun H=>by replace H:=H0 H;unfold eF at H;exact aA Tryz.func91 rfl Tryz.ntmps91 Tryz.results91 fun Q hQ cR=>xW⟩
def dW(c:aP):Option ((List Int)×aP):=
 (bh [0]).bind fun _=>
 (aw c 5).bind fun y1=>
 cond (decide (y1.1=0))
 (some ([25,50,100],y1.2))
 (cond (decide (y1.1=1))
 (some ([10],y1.2))
 (cond (decide (y1.1=2))
 (some ([0,100],y1.2))
 (cond (decide (y1.1=3))
 (some ([0],y1.2))
 (cond (decide (y1.1=4))
 (some ([1,1,2,3,50,100],y1.2))
 (none)))))
instance (c:aP):CT Tryz.prog (dW c):=⟨256,[.be 0 0 0],[some ⟨.of 139,3,[[.sl (c.b.map cB8),vi c.i,vi c.h]]⟩],fun r=>.sl (r.1.map aG),fun r=>[some ⟨.of 139,3,[[.sl (r.2.b.map cB8),vi r.2.i,vi r.2.h]]⟩],fun H=>by replace H:=H0 H;unfold dW at H;exact aA Tryz.func256 rfl Tryz.ntmps256 Tryz.results256 fun Q hQ cR=>xW⟩
def lK(c:aP):Option ((List bL)×aP):=
 (bh [0]).bind fun _=>
 (aw c 4).bind fun y1=>
 cond (decide (y1.1=0))
 (some ([(⟨⟨#[65,77,83]⟩,⟨#[67,68,71]⟩⟩:bL),(⟨⟨#[68,85,66]⟩,⟨#[71,79,84]⟩⟩:bL)],y1.2))
 (cond (decide (y1.1=1))
 (some ([(⟨⟨#[65,65,65]⟩,⟨#[90,90,90]⟩⟩:bL)],y1.2))
 (cond (decide (y1.1=2))
 (some ([(⟨⟨#[65,77,83]⟩,⟨#[65,77,83]⟩⟩:bL),(⟨⟨#[66,82,85]⟩,⟨#[69,68,73]⟩⟩:bL),(⟨⟨#[70,82,65]⟩,⟨#[70,82,65]⟩⟩:bL)],y1.2))
 (cond (decide (y1.1=3))
 (some (([]:List bL),y1.2))
 (none))))
instance (c:aP):CT Tryz.prog (lK c):=⟨175,[.be 0 0 0],[some ⟨.of 139,3,[[.sl (c.b.map cB8),vi c.i,vi c.h]]⟩],fun r=>.ms 1,fun r=>[some ⟨.of 139,3,[[.sl (r.2.b.map cB8),vi r.2.i,vi r.2.h]]⟩,some ⟨.of 104,2,r.1.map cK⟩],fun H=>by replace H:=H0 H;unfold lK at H;exact aA Tryz.func175 rfl Tryz.ntmps175 Tryz.results175 fun Q hQ cR=>xW⟩
def mB(y2:Int×aP)(s0:(List bL)):Option ((List bL)⊕(List bL)):=
 cond (decide ((s0.length:Int)<9))
 ((cL (FD (⟨#[90]⟩) (strOfNums [(IntKind.u8.wrap (aL (65+(s0.length:Int))))]))).bind fun _=>
 (cL (FD (⟨#[90]⟩++(strOfNums [(IntKind.u8.wrap (aL (65+(s0.length:Int))))])) (⟨#[65]⟩))).bind fun _=>
 (cL (FD (⟨#[90]⟩) (strOfNums [(IntKind.u8.wrap (aL (65+(s0.length:Int))))]))).bind fun _=>
 (cL (FD (⟨#[90]⟩++(strOfNums [(IntKind.u8.wrap (aL (65+(s0.length:Int))))])) (⟨#[66]⟩))).bind fun _=>
 (cL (bo ((s0:List bL).length+([(⟨((⟨#[90]⟩++(strOfNums [(IntKind.u8.wrap (aL (65+(s0.length:Int))))]))++⟨#[65]⟩),((⟨#[90]⟩++(strOfNums [(IntKind.u8.wrap (aL (65+(s0.length:Int))))]))++⟨#[66]⟩)⟩:bL)]:List bL).length) 32)).bind fun _=>
 some (.inl ((s0:List bL)++[(⟨((⟨#[90]⟩++(strOfNums [(IntKind.u8.wrap (aL (65+(s0.length:Int))))]))++⟨#[65]⟩),((⟨#[90]⟩++(strOfNums [(IntKind.u8.wrap (aL (65+(s0.length:Int))))]))++⟨#[66]⟩)⟩:bL)])))
 (some (.inr s0))
instance (y2:Int×aP):bm (mB y2):=⟨fun s0=>(.be 0 0 0::.un::.un::.ms 1::(U 44 [])),fun s0=>[some ⟨.of 139,3,[[.sl (y2.2.b.map cB8),vi y2.2.i,vi y2.2.h]]⟩,some ⟨.of 104,2,s0.map cK⟩]⟩
def jq(c:aP):Option ((List bL)×aP):=
 (bh [0]).bind fun _=>
 (lK c).bind fun y1=>
 (bh [0]).bind fun _=>
 (aw y1.2 5).bind fun y2=>
 cond (decide (y2.1=0))
 ((bh [0,2]).bind fun _=>
 (ir y2.2 ([⟨#[71,79,84]⟩,⟨#[70,82,65]⟩,⟨#[90,90,90]⟩,⟨#[90]⟩])).bind fun y3=>
 (cL (bo ((y1.1:List bL).length+([(⟨⟨#[71,79,84]⟩,y3.1⟩:bL)]:List bL).length) 32)).bind fun _=>
 some (((y1.1:List bL)++[(⟨⟨#[71,79,84]⟩,y3.1⟩:bL)]),y3.2.1))
 (cond (decide (y2.1=1))
 ((aD (mB y2) NN y1.1).bind (fun o0=>
 (bh [0,2]).bind fun _=>
 (bB y2.2 ([8,9])).bind fun y4=>
 (cL (gA 0 y4.1 o0.length)).bind fun _=>
 some ((cD o0 0 y4.1),y4.2.1)))
 (some (y1.1,y2.2)))
instance (c:aP):CT Tryz.prog (jq c):=⟨89,[.be 0 0 0],[some ⟨.of 139,3,[[.sl (c.b.map cB8),vi c.i,vi c.h]]⟩],fun r=>.sl (r.1.map cK),fun r=>[some ⟨.of 139,3,[[.sl (r.2.b.map cB8),vi r.2.i,vi r.2.h]]⟩],fun H=>by replace H:=H0 H;unfold jq at H;exact aA Tryz.func89 rfl Tryz.ntmps89 Tryz.results89 fun Q hQ cR=>xW⟩
def oA(s0:Int×Int×(List YB8)×Int×Int×(List aW)):Option ((Int×Int×(List YB8)×Int×Int×(List aW))⊕((List YB8)×Int×Int×(List aW))):=
 cond (decide (0<s0.2.1))
 ((bh [0]).bind fun _=>
 (aw (⟨s0.2.2.1,s0.2.2.2.1,s0.2.2.2.2.1⟩:aP) 30).bind fun y2=>
 (bh [0]).bind fun _=>
 (aw y2.2 4).bind fun y3=>
 (bh [0]).bind fun _=>
 (aw y3.2 4).bind fun y4=>
 cond (decide (y4.1=0))
 (cond (decide (y4.1=0))
 ((bh [0]).bind fun _=>
 (aw y4.2 2000).bind fun y5=>
 (fr s0.2.2.2.2.2 (aL (1+y3.1)) (aL (100+y5.1)) (aL (s0.1+(aL (100*y2.1))))).bind fun y6=>
 (bh [0]).bind fun _=>
 (aw y5.2 30).bind fun y7=>
 (eP y6.1 (aL (1+y3.1)) (aL (100+(aL (50*y7.1)))) (aL (s0.1+(aL (100*y2.1))))).bind fun y8=>
 some (.inl ((aL (s0.1+(aL (100*y2.1)))),(aL (s0.2.1-1)),y7.2.b,y7.2.i,y7.2.h,y8.1)))
 (cond (decide (y4.1=2))
 ((er s0.2.2.2.2.2 (aL (1+y3.1))).bind fun y9=>
 (bh [0,2]).bind fun _=>
 (bB y4.2 ([0,0,1])).bind fun dM=>
 (fv 1 (aL (y9-dM.1))).bind fun jx=>
 (eP s0.2.2.2.2.2 (aL (1+y3.1)) jx (aL (s0.1+(aL (100*y2.1))))).bind fun oV=>
 some (.inl ((aL (s0.1+(aL (100*y2.1)))),(aL (s0.2.1-1)),dM.2.1.b,dM.2.1.i,dM.2.1.h,oV.1)))
 ((bh [0]).bind fun _=>
 (aw y4.2 4).bind fun lZ=>
 (bh [0]).bind fun _=>
 (dW lZ.2).bind fun kS=>
 (fw s0.2.2.2.2.2 (aL (1+y3.1)) 0 (aL (1440*lZ.1)) kS.1 (aL (s0.1+(aL (100*y2.1))))).bind fun o9=>
 some (.inl ((aL (s0.1+(aL (100*y2.1)))),(aL (s0.2.1-1)),kS.2.b,kS.2.i,kS.2.h,o9.1)))))
 (cond (decide (y4.1=1))
 ((bh [0]).bind fun _=>
 (aw y4.2 2000).bind fun ma=>
 (fr s0.2.2.2.2.2 (aL (1+y3.1)) (aL (100+ma.1)) (aL (s0.1+(aL (100*y2.1))))).bind fun ri=>
 (bh [0]).bind fun _=>
 (aw ma.2 30).bind fun sw=>
 (eP ri.1 (aL (1+y3.1)) (aL (100+(aL (50*sw.1)))) (aL (s0.1+(aL (100*y2.1))))).bind fun vW=>
 some (.inl ((aL (s0.1+(aL (100*y2.1)))),(aL (s0.2.1-1)),sw.2.b,sw.2.i,sw.2.h,vW.1)))
 (cond (decide (y4.1=2))
 ((er s0.2.2.2.2.2 (aL (1+y3.1))).bind fun Bj=>
 (bh [0,2]).bind fun _=>
 (bB y4.2 ([0,0,1])).bind fun xX=>
 (fv 1 (aL (Bj-xX.1))).bind fun AX=>
 (eP s0.2.2.2.2.2 (aL (1+y3.1)) AX (aL (s0.1+(aL (100*y2.1))))).bind fun FR=>
 some (.inl ((aL (s0.1+(aL (100*y2.1)))),(aL (s0.2.1-1)),xX.2.1.b,xX.2.1.i,xX.2.1.h,FR.1)))
 ((bh [0]).bind fun _=>
 (aw y4.2 4).bind fun y24=>
 (bh [0]).bind fun _=>
 (dW y24.2).bind fun Tn=>
 (fw s0.2.2.2.2.2 (aL (1+y3.1)) 0 (aL (1440*y24.1)) Tn.1 (aL (s0.1+(aL (100*y2.1))))).bind fun y26=>
 some (.inl ((aL (s0.1+(aL (100*y2.1)))),(aL (s0.2.1-1)),Tn.2.b,Tn.2.i,Tn.2.h,y26.1))))))
 (some (.inr (s0.2.2.1,s0.2.2.2.1,s0.2.2.2.2.1,s0.2.2.2.2.2)))
instance:bm (oA):=⟨fun s0=>(.be 0 0 0::(U 4 (.ms 1::vi s0.1::vi s0.2.1::(U 82 [])))),fun s0=>[some ⟨.of 139,3,[[.sl (s0.2.2.1.map cB8),vi s0.2.2.2.1,vi s0.2.2.2.2.1]]⟩,some ⟨.of 111,4,s0.2.2.2.2.2.map bO⟩]⟩
def lF(c:aP)(iE:Int):Option ((List aW)×aP):=
 (bh [0]).bind fun _=>
 (aw c iE).bind fun y1=>
 (aD (oA) NN (0,y1.1,y1.2.b,y1.2.i,y1.2.h,([]:List aW))).bind (fun o0=>
 some (o0.2.2.2,(⟨o0.1,o0.2.1,o0.2.2.1⟩:aP)))
instance (c:aP)(iE:Int):CT Tryz.prog (lF c iE):=⟨176,[.be 0 0 0,vi iE],[some ⟨.of 139,3,[[.sl (c.b.map cB8),vi c.i,vi c.h]]⟩],fun r=>.ms 1,fun r=>[some ⟨.of 139,3,[[.sl (r.2.b.map cB8),vi r.2.i,vi r.2.h]]⟩,some ⟨.of 111,4,r.1.map bO⟩],fun H=>by replace H:=H0 H;unfold lF at H;exact aA Tryz.func176 rfl Tryz.ntmps176 Tryz.results176 fun Q hQ cR=>xW⟩
def my(c:aP):Option ((List aW)×aP):=
 (bh [0]).bind fun _=>
 (lF c 12).bind fun y1=>
 cond (decide ((y1.1.length:Int)=0))
 (some (y1.1,y1.2))
 ((bh [0]).bind fun _=>
 (bT y1.2 2).bind fun y2=>
 cond y2.1
 (some (y1.1,y2.2))
 ((bh [0]).bind fun _=>
 (aw y2.2 (y1.1.length:Int)).bind fun y3=>
 (bh [0]).bind fun _=>
 (aw y3.2 6).bind fun y4=>
 cond (decide (y4.1=0))
 ((aC y1.1 y3.1).bind fun y5=>
 (bh [0,2]).bind fun _=>
 (bB y4.2 ([0,1,100000,100001,(aL (y5.bz+1))])).bind fun y6=>
 (aC y1.1 y3.1).bind fun y7=>
 some ((y1.1.set (Wo y3.1) (⟨y7.order,y7.kind,y6.1,y7.aO⟩:aW)),y6.2.1))
 (cond (decide (y4.1=1))
 ((bh [0,2]).bind fun _=>
 (bB y4.2 ([(-1),0,100000,100001])).bind fun y8=>
 (aC y1.1 y3.1).bind fun y9=>
 some ((y1.1.set (Wo y3.1) (⟨y9.order,y9.kind,y9.bz,y8.1⟩:aW)),y8.2.1))
 (cond (decide (y4.1=2))
 ((bh [0]).bind fun _=>
 (aw y4.2 5).bind fun dM=>
 (aC y1.1 y3.1).bind fun jx=>
 some ((y1.1.set (Wo y3.1) (⟨jx.order,dM.1,jx.bz,jx.aO⟩:aW)),dM.2))
 (cond (decide (y4.1=3))
 ((bh [0,2]).bind fun _=>
 (bB y4.2 ([0,1,9999,10000])).bind fun oV=>
 (aC y1.1 y3.1).bind fun lZ=>
 some ((y1.1.set (Wo y3.1) (⟨oV.1,lZ.kind,lZ.bz,lZ.aO⟩:aW)),oV.2.1))
 (cond (decide (y4.1=4))
 ((aC y1.1 y3.1).bind fun kS=>
 (cL (bo ((y1.1:List aW).length+([kS]:List aW).length) 32)).bind fun _=>
 some (((y1.1:List aW)++[kS]),y4.2))
 ((cL (gA 0 y3.1 y1.1.length)).bind fun _=>
 (cL (gA (aL (y3.1+1)) (y1.1.length:Int) y1.1.length)).bind fun _=>
 (cL (Mj (y1.1:List aW).length y3.1 ((cD y1.1 (aL (y3.1+1)) (y1.1.length:Int)):List aW).length 32)).bind fun _=>
 some ((cD (y1.1:List aW) 0 y3.1++(cD y1.1 (aL (y3.1+1)) (y1.1.length:Int))),y4.2))))))))
instance (c:aP):CT Tryz.prog (my c):=⟨90,[.be 0 0 0],[some ⟨.of 139,3,[[.sl (c.b.map cB8),vi c.i,vi c.h]]⟩],fun r=>.ms 1,fun r=>[some ⟨.of 139,3,[[.sl (r.2.b.map cB8),vi r.2.i,vi r.2.h]]⟩,some ⟨.of 111,4,r.1.map bO⟩],fun H=>by replace H:=H0 H;unfold my at H;exact aA Tryz.func90 rfl Tryz.ntmps90 Tryz.results90 fun Q hQ cR=>xW⟩
end Go.Proofs.YtbalgkakkoocjaaGreat
