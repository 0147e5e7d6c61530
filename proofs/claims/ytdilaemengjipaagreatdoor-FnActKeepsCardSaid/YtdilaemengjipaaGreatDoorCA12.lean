/- A part of the proof of the statement in the last file of this claim: texts on the language of the program and on its functions. No condition. -/
import Derived.Test.YtdilaemengjipaaGreatDoorCA4
import Derived.Test.YtdilaemengjipaaGreatDoorCA9
import Derived.Test.YtdilaemengjipaaGreatDoorCA8
import Derived.Test.YtdilaemengjipaaGreatDoorCA7
import Derived.Test.YtdilaemengjipaaGreatDoorCA5
import Derived.Test.YtdilaemengjipaaGreatDoorCA1
set_option linter.unusedVariables false
set_option linter.unusedSimpArgs false
set_option linter.unusedSectionVars false
open Option renaming some->YH,none->YI
open Bool renaming true->YJ,false->YK
open Decidable renaming decide->YL
open Go.Proofs.Tryz
set_option maxHeartbeats 40000000
namespace Go.Proofs.YtdilaemengjipaaGreatDoor
open BitVec renaming ofInt->V9
open _root_.Int renaming toNat->Wd,tmod->Xs,tmod_nonneg->XT,tmod_lt_of_pos->XD
open List renaming mem_cons->V1,not_mem_nil->V0,length_nil->VY,length_cons->VZ,mem_append->Wl,mem_singleton->Wf,length_append->V3
set_option maxRecDepth 10000
open Go.RowKit
variable {c:aO}{β:Type}{Q:β->Prop}{f:Unit->Option β}{r:β}{x:Option β}
def iA(n:aj)(l:List aq)(s0:Int):Option (Int⊕(Unit⊕Bool)):=
 cond (YL (s0<(l.length:Int)))
 ((aB l s0).bind λy2=>
 (cA n y2.bj.bD y2.bj.day).bind λy3=>
 cond (!y3)
 (YH (.inr (.inr YK)))
 ((bc y2.bw 1 9999).bind λy4=>
 cond (!y4)
 (YH (.inr (.inr YK)))
 ((bc y2.ab 1 1000000).bind λy5=>
 cond (!y5)
 (YH (.inr (.inr YK)))
 (cond (YL (0<s0))
 ((aB l (aI (s0-1))).bind λy6=>
 (lr y6 y2).bind λy7=>
 cond (!y7)
 (YH (.inr (.inr YK)))
 (YH (.inl (aI (s0+1)))))
 (YH (.inl (aI (s0+1))))))))
 (YH (.inr (.inl ())))
instance (n:aj)(l:List aq):bo (iA n l):=⟨λs0=>(.un::.sl (l.map aC)::.be 0 0 0::.un::.un::vi s0::(U 80 [])),λs0=>[YH ⟨.of 27,3,[[.sl (n.aA.map bn),.sl (n.off.map aE),vi n.change]]⟩]⟩
def iB(n:aj)(l:List aq)(s1:Int):Option (Int⊕(Unit⊕Bool)):=
 cond (YL (s1<(l.length:Int)))
 ((aB l s1).bind λy8=>
 (dD l y8.bj).bind λy9=>
 (aB l s1).bind λdL=>
 (aB n.aA dL.bj.bD).bind λji=>
 cond (YL (ji.iU<y9))
 (YH (.inr (.inr YK)))
 (YH (.inl (aI (s1+1)))))
 (YH (.inr (.inl ())))
instance (n:aj)(l:List aq):bo (iB n l):=⟨λs1=>(.un::.sl (l.map aC)::.be 0 0 0::(U 4 (vi s1::(U 78 [])))),λs1=>[YH ⟨.of 27,3,[[.sl (n.aA.map bn),.sl (n.off.map aE),vi n.change]]⟩]⟩
def eI(n:aj)(l:List aq):Option Bool:=
 (aV n).bind λy1=>
 cond (!y1)
 (YH YK)
 (cond (YL (120<(l.length:Int)))
 (YH YK)
 ((aD (iA n l) NN 0).bind (bk (λo0=>
 (aD (iB n l) NN 0).bind (bk (λo1=>
 YH YJ) (λr=>YH r))) (λr=>YH r))))
instance (n:aj)(l:List aq):CT prog (eI n l):=⟨213,[.ag (bA n),.sl (l.map aC)],[],λr=>vb r,λr=>[],cw (eI.eq_1 ..) func213 ntmps213 results213⟩
def dn(n:aj)(aG:List av)(a8:ByteArray)(s0:ByteArray×Int×Int):Option ((ByteArray×Int×Int)⊕(ByteArray⊕Bool)):=
 cond (YL (s0.2.2<(aG.length:Int)))
 ((aB aG s0.2.2).bind λy5=>
 (dC n y5).bind λy6=>
 cond (!y6)
 (YH (.inr (.inr YK)))
 ((aB aG s0.2.2).bind λy7=>
 (aB n.aA y7.bD).bind λy8=>
 cond (!decide (y8.au=s0.1))
 (YH (.inr (.inr YK)))
 ((aB aG s0.2.2).bind λy9=>
 (bp n y9).bind λdL=>
 cond (YL (dL<s0.2.1))
 (YH (.inr (.inr YK)))
 ((aB aG s0.2.2).bind λji=>
 (aB n.aA ji.bD).bind λoX=>
 (aB aG s0.2.2).bind λmf=>
 (bl n mf).bind λkX=>
 YH (.inl (oX.a8,(aI (kX+n.change)),(aI (s0.2.2+1))))))))
 (YH (.inr (.inl s0.1)))
instance (n:aj)(aG:List av)(a8:ByteArray):bo (dn n aG a8):=⟨λs0=>(.un::.sl (aG.map aW)::.un::vs a8::.un::.be 0 0 0::(U 6 (vs s0.1::vi s0.2.1::vi s0.2.2::(U 78 [])))),λs0=>[YH ⟨.of 27,3,[[.sl (n.aA.map bn),.sl (n.off.map aE),vi n.change]]⟩]⟩
def eK(n:aj)(aG:List av)(cP:ByteArray)(a8:ByteArray)(kP:Int):Option Bool:=
 (cW n).bind λy1=>
 (aV n).bind λy2=>
 cond (!y2)
 (YH YK)
 ((ca y1 cP).bind λy3=>
 cond (YL (y3<0))
 (YH YK)
 ((ca y1 a8).bind λy4=>
 cond (YL (y4<0))
 (YH YK)
 ((aD (dn n aG a8) NN (cP,kP,0)).bind (bk (λo0=>
 YH (YL (o0=a8))) (λr=>YH r)))))
instance (n:aj)(aG:List av)(cP:ByteArray)(a8:ByteArray)(kP:Int):CT prog (eK n aG cP a8 kP):=⟨284,[.ag (bA n),.sl (aG.map aW),vs cP,vs a8,vi kP],[],λr=>vb r,λr=>[],cw (eK.eq_1 ..) func284 ntmps284 results284⟩
def kF(w:ax)(i:Int)(y1:az)(s0:ByteArray×Int):Option ((ByteArray×Int)⊕(ByteArray⊕Bool)):=
 cond (YL (s0.2<(y1.aG.length:Int)))
 ((aB y1.aG s0.2).bind λdL=>
 (aB y1.aG s0.2).bind λji=>
 (cA w.aa dL.bD ji.day).bind λoX=>
 cond (!oX)
 (YH (.inr (.inr YK)))
 ((aB y1.aG s0.2).bind λmf=>
 (mO w.ar (aI (i+1)) mf y1.ab).bind λkX=>
 cond (!kX)
 (YH (.inr (.inr YK)))
 ((aB y1.aG s0.2).bind λpg=>
 (aB w.aa.aA pg.bD).bind λmu=>
 cond (YL (mu.a8=y1.a8))
 (cond (YL ((aI (s0.2+1))<(y1.aG.length:Int)))
 (YH (.inr (.inr YK)))
 (YH (.inl (mu.a8,(aI (s0.2+1))))))
 (YH (.inl (mu.a8,(aI (s0.2+1))))))))
 (YH (.inr (.inl s0.1)))
instance (w:ax)(i:Int)(y1:az):bo (kF w i y1):=⟨λs0=>(.un::vi i::.be 0 0 0::.un::.un::.be 1 0 0::.be 2 0 0::.un::vs s0.1::vi s0.2::(U 162 [])),λs0=>[YH ⟨.of 33,10,[[.sl (w.aa.aA.map bn),.sl (w.aa.off.map aE),vi w.aa.change,.sl (w.ae.map ba),.sl (w.ar.map aC),.sl (w.ah.map aW),vi w.now,.sl (w.aH.map bt),.sl (w.skip.map aE),vi w.bd]]⟩,YH ⟨.of 27,3,[[.sl (w.aa.aA.map bn),.sl (w.aa.off.map aE),vi w.aa.change]]⟩,YH ⟨.of 94,11,[[vs y1.au,vs y1.a8,vi y1.ay,vi y1.ab,vi y1.aP,vi y1.dW,.sl (y1.aG.map aW),vi y1.aN,vi y1.state,vs y1.place,vi y1.bB]]⟩]⟩
def iR(w:ax)(y1:az)(s1:Int):Option (Int⊕(Unit⊕Bool)):=
 cond (YL (s1<(y1.aG.length:Int)))
 ((aB y1.aG s1).bind λAJ=>
 (dp w.ah AJ).bind λxp=>
 cond xp
 (YH (.inr (.inr YK)))
 (YH (.inl (aI (s1+1)))))
 (YH (.inr (.inl ())))
instance (w:ax)(y1:az):bo (iR w y1):=⟨λs1=>(.un::.un::.be 0 0 0::(U 3 (.be 1 0 0::(U 3 (vi s1::(U 161 [])))))),λs1=>[YH ⟨.of 33,10,[[.sl (w.aa.aA.map bn),.sl (w.aa.off.map aE),vi w.aa.change,.sl (w.ae.map ba),.sl (w.ar.map aC),.sl (w.ah.map aW),vi w.now,.sl (w.aH.map bt),.sl (w.skip.map aE),vi w.bd]]⟩,YH ⟨.of 94,11,[[vs y1.au,vs y1.a8,vi y1.ay,vi y1.ab,vi y1.aP,vi y1.dW,.sl (y1.aG.map aW),vi y1.aN,vi y1.state,vs y1.place,vi y1.bB]]⟩]⟩
def nK(w:ax)(i:Int):Option Bool:=
 (aB w.ae i).bind λy1=>
 (cW w.aa).bind λy2=>
 (ca y2 y1.au).bind λy3=>
 cond (YL (y3<0))
 (YH YK)
 ((ca y2 y1.a8).bind λy4=>
 cond (YL (y4<0))
 (YH YK)
 (cond (YL (y1.au=y1.a8))
 (YH YK)
 ((bc y1.ay 1 3).bind λy5=>
 cond (!y5)
 (YH YK)
 ((bc y1.ab 1 30000).bind λy6=>
 cond (!y6)
 (YH YK)
 ((bc y1.aP 0 w.now).bind λy7=>
 cond (!y7)
 (YH YK)
 ((bc y1.dW 0 200000).bind λy8=>
 cond (!y8)
 (YH YK)
 ((bc y1.aN 0 (y1.aG.length:Int)).bind λy9=>
 cond (!y9)
 (YH YK)
 ((aD (kF w i y1) NN (y1.au,0)).bind (bk (λo0=>
 (eK w.aa y1.aG y1.au o0 (aI (y1.aP+1))).bind λrn=>
 cond (!rn)
 (YH YK)
 ((cb w.aa y1 w.now).bind λsi=>
 cond (!si)
 (YH YK)
 ((e9 y1).bind λvH=>
 (aD (iR w y1) NN vH).bind (bk (λo1=>
 YH YJ) (λr=>YH r))))) (λr=>YH r))))))))))
instance (w:ax)(i:Int):CT prog (nK w i):=⟨217,[.ag (fY w),vi i],[],λr=>vb r,λr=>[],cw (nK.eq_1 ..) func217 ntmps217 results217⟩
def gB(c:aO):Option (Int×aO):=
 cond (YL (c.i<(c.b.length:Int)))
 ((aB c.b c.i).bind λy1=>
 YH ((IntKind.i64.wrap (V9 IntKind.i64.bits (aI ((IntKind.i64.wrap (V9 IntKind.i64.bits (IntKind.i64.wrap (V9 IntKind.i64.bits (Int.fdiv (aI ((aI (c.h*6364136223846793005))+1442695040888963407)) (2 ^ (min (Wd 35) IntKind.i64.bits))) ^^^ V9 IntKind.i64.bits (Int.fdiv (aI ((aI (c.h*6364136223846793005))+1442695040888963407)) (2 ^ (min (Wd 45) IntKind.i64.bits)))).toNat) &&& V9 IntKind.i64.bits 255).toNat)+(IntKind.i64.wrap y1.v))) &&& V9 IntKind.i64.bits 255).toNat),(⟨c.b,(aI (c.i+1)),(aI ((aI (c.h*6364136223846793005))+1442695040888963407))⟩:aO)))
 (YH ((IntKind.i64.wrap (V9 IntKind.i64.bits (IntKind.i64.wrap (V9 IntKind.i64.bits (Int.fdiv (aI ((aI (c.h*6364136223846793005))+1442695040888963407)) (2 ^ (min (Wd 35) IntKind.i64.bits))) ^^^ V9 IntKind.i64.bits (Int.fdiv (aI ((aI (c.h*6364136223846793005))+1442695040888963407)) (2 ^ (min (Wd 45) IntKind.i64.bits)))).toNat) &&& V9 IntKind.i64.bits 255).toNat),(⟨c.b,c.i,(aI ((aI (c.h*6364136223846793005))+1442695040888963407))⟩:aO)))
instance (c:aO):CT prog (gB c):=⟨108,[.be 0 0 0],[YH ⟨.of 119,3,[[.sl (c.b.map YQ),vi c.i,vi c.h]]⟩],λr=>vi r.1,λr=>[YH ⟨.of 119,3,[[.sl (r.2.b.map YQ),vi r.2.i,vi r.2.h]]⟩],cw (gB.eq_1 ..) func108 ntmps108 results108⟩
def aw(c:aO)(n:Int):Option (Int×aO):=
 cond (YL (n<=0))
 (YH (0,c))
 (cond (YL (n<=256))
 ((bh [0]).bind λ_=>
 (gB c).bind λy1=>
 (bW (YL (n≠0))).bind λ_=>
 YH ((Xs y1.1 n),y1.2))
 ((bh [0]).bind λ_=>
 (gB c).bind λy2=>
 (bh [0]).bind λ_=>
 (gB y2.2).bind λy3=>
 (bh [0]).bind λ_=>
 (gB y3.2).bind λy4=>
 (bW (YL (n≠0))).bind λ_=>
 YH ((Xs (aI ((aI ((aI (y2.1*65536))+(aI (y3.1*256))))+y4.1)) n),y4.2)))
instance (c:aO)(n:Int):CT prog (aw c n):=⟨53,[.be 0 0 0,vi n],[YH ⟨.of 119,3,[[.sl (c.b.map YQ),vi c.i,vi c.h]]⟩],λr=>vi r.1,λr=>[YH ⟨.of 119,3,[[.sl (r.2.b.map YQ),vi r.2.i,vi r.2.h]]⟩],cw (aw.eq_1 ..) func53 ntmps53 results53⟩
def bP(c:aO)(n:Int):Option (Bool×aO):=
 (bh [0]).bind λ_=>
 (aw c n).bind λy1=>
 YH ((YL (y1.1=0)),y1.2)
instance (c:aO)(n:Int):CT prog (bP c n):=⟨56,[.be 0 0 0,vi n],[YH ⟨.of 119,3,[[.sl (c.b.map YQ),vi c.i,vi c.h]]⟩],λr=>vb r.1,λr=>[YH ⟨.of 119,3,[[.sl (r.2.b.map YQ),vi r.2.i,vi r.2.h]]⟩],cw (bP.eq_1 ..) func56 ntmps56 results56⟩
def ik(c:aO)(list:List ByteArray):Option (ByteArray×aO×(List ByteArray)):=
 (bh [0]).bind λ_=>
 (aw c (list.length:Int)).bind λy1=>
 (aB list y1.1).bind λy2=>
 YH (y2,y1.2,list)
instance (c:aO)(list:List ByteArray):CT prog (ik c list):=⟨125,[.be 0 0 0,.ms 1],[YH ⟨.of 119,3,[[.sl (c.b.map YQ),vi c.i,vi c.h]]⟩,YH ⟨.of 9,1,list.map jK⟩],λr=>vs r.1,λr=>[YH ⟨.of 119,3,[[.sl (r.2.1.b.map YQ),vi r.2.1.i,vi r.2.1.h]]⟩,YH ⟨.of 9,1,r.2.2.map jK⟩],cw (ik.eq_1 ..) func125 ntmps125 results125⟩
def fp(c:aO):Option (ByteArray×aO):=
 (bh [0,1]).bind λ_=>
 (ik c ([⟨#[65,77,83]⟩,⟨#[66,82,85]⟩,⟨#[67,68,71]⟩,⟨#[68,85,66]⟩,⟨#[69,68,73]⟩,⟨#[70,82,65]⟩,⟨#[71,79,84]⟩])).bind λy1=>
 YH (y1.1,y1.2.1)
instance (c:aO):CT prog (fp c):=⟨129,[.be 0 0 0],[YH ⟨.of 119,3,[[.sl (c.b.map YQ),vi c.i,vi c.h]]⟩],λr=>vs r.1,λr=>[YH ⟨.of 119,3,[[.sl (r.2.b.map YQ),vi r.2.i,vi r.2.h]]⟩],cw (fp.eq_1 ..) func129 ntmps129 results129⟩
def bx(c:aO)(list:List Int):Option (Int×aO×(List Int)):=
 (bh [0]).bind λ_=>
 (aw c (list.length:Int)).bind λy1=>
 (aB list y1.1).bind λy2=>
 YH (y2,y1.2,list)
instance (c:aO)(list:List Int):CT prog (bx c list):=⟨67,[.be 0 0 0,.ms 1],[YH ⟨.of 119,3,[[.sl (c.b.map YQ),vi c.i,vi c.h]]⟩,YH ⟨.of 3,1,list.map aE⟩],λr=>vi r.1,λr=>[YH ⟨.of 119,3,[[.sl (r.2.1.b.map YQ),vi r.2.1.i,vi r.2.1.h]]⟩,YH ⟨.of 3,1,r.2.2.map aE⟩],cw (bx.eq_1 ..) func67 ntmps67 results67⟩
def nd(y3:Int×aO)(y4:Int×aO)(y5:Int×aO)(y6:Int×aO)(s0:(List YR)×Int×Int×ByteArray×ByteArray):Option (((List YR)×Int×Int×ByteArray×ByteArray)⊕((List YR)×Int×Int×ByteArray×ByteArray)):=
 cond (YL (s0.2.2.2.1=s0.2.2.2.2))
 ((bh [0,3]).bind λ_=>
 (ik (⟨s0.1,s0.2.1,s0.2.2.1⟩:aO) ([⟨#[65,77,83]⟩,⟨#[66,82,85]⟩,⟨#[67,68,71]⟩])).bind λy7=>
 cond (YL (s0.2.2.2.1=y7.1))
 (YH (.inl (y7.2.1.b,y7.2.1.i,y7.2.1.h,⟨#[68,85,66]⟩,y7.1)))
 (YH (.inl (y7.2.1.b,y7.2.1.i,y7.2.1.h,s0.2.2.2.1,y7.1))))
 (YH (.inr (s0.1,s0.2.1,s0.2.2.1,s0.2.2.2.1,s0.2.2.2.2)))
instance (y3:Int×aO)(y4:Int×aO)(y5:Int×aO)(y6:Int×aO):bo (nd y3 y4 y5 y6):=⟨λs0=>(.be 0 0 0::.un::.be 1 0 0::.be 2 0 0::(U 43 [])),λs0=>[YH ⟨.of 119,3,[[.sl (s0.1.map YQ),vi s0.2.1,vi s0.2.2.1]]⟩,YH ⟨.of 144,6,[[vs (⟨#[]⟩),vs (⟨#[]⟩),vi 0,vi 0,vi 0,vi 0]]⟩,YH ⟨.of 144,6,[[vs s0.2.2.2.1,vs s0.2.2.2.2,vi (aI (30*y3.1)),vi (aI (30*(aI (1+y4.1)))),vi (aI (1+y5.1)),vi (aI (1000*y6.1))]]⟩]⟩
def nI(c:aO):Option (bK×aO):=
 (bh [0]).bind λ_=>
 (fp c).bind λy1=>
 (bh [0]).bind λ_=>
 (fp y1.2).bind λy2=>
 (bh [0]).bind λ_=>
 (aw y2.2 48).bind λy3=>
 (bh [0]).bind λ_=>
 (aw y3.2 40).bind λy4=>
 (bh [0]).bind λ_=>
 (aw y4.2 127).bind λy5=>
 (bh [0]).bind λ_=>
 (aw y5.2 60).bind λy6=>
 (aD (nd y3 y4 y5 y6) NN (y6.2.b,y6.2.i,y6.2.h,y1.1,y2.1)).bind (λo0=>
 (bh [0]).bind λ_=>
 (bP (⟨o0.1,o0.2.1,o0.2.2.1⟩:aO) 2).bind λy8=>
 cond y8.1
 ((bh [0]).bind λ_=>
 (bP y8.2 9).bind λy9=>
 cond y9.1
 ((bh [0,3]).bind λ_=>
 (bx y9.2 ([1,1440,4320])).bind λdL=>
 YH ((⟨o0.2.2.2.1,o0.2.2.2.2,(aI (30*y3.1)),dL.1,127,(aI (1000*y6.1))⟩:bK),dL.2.1))
 (YH ((⟨o0.2.2.2.1,o0.2.2.2.2,(aI (30*y3.1)),(aI (30*(aI (1+y4.1)))),127,(aI (1000*y6.1))⟩:bK),y9.2)))
 ((bh [0]).bind λ_=>
 (bP y8.2 9).bind λji=>
 cond ji.1
 ((bh [0,3]).bind λ_=>
 (bx ji.2 ([1,1440,4320])).bind λoX=>
 YH ((⟨o0.2.2.2.1,o0.2.2.2.2,(aI (30*y3.1)),oX.1,(aI (1+y5.1)),(aI (1000*y6.1))⟩:bK),oX.2.1))
 (YH ((⟨o0.2.2.2.1,o0.2.2.2.2,(aI (30*y3.1)),(aI (30*(aI (1+y4.1)))),(aI (1+y5.1)),(aI (1000*y6.1))⟩:bK),ji.2))))
instance (c:aO):CT prog (nI c):=⟨166,[.be 0 0 0],[YH ⟨.of 119,3,[[.sl (c.b.map YQ),vi c.i,vi c.h]]⟩],λr=>.ag [vs r.1.au,vs r.1.a8,vi r.1.start,vi r.1.mP,vi r.1.uK,vi r.1.iU],λr=>[YH ⟨.of 119,3,[[.sl (r.2.b.map YQ),vi r.2.i,vi r.2.h]]⟩],cw (nI.eq_1 ..) func166 ntmps166 results166⟩
def mo(iC:Int)(y1:Int×aO)(s0:Int×(List YR)×Int×Int×(List bK)):Option ((Int×(List YR)×Int×Int×(List bK))⊕((List YR)×Int×Int×(List bK))):=
 cond (YL (0<s0.1))
 ((bh [0]).bind λ_=>
 (nI (⟨s0.2.1,s0.2.2.1,s0.2.2.2.1⟩:aO)).bind λy3=>
 (bW (bm ((s0.2.2.2.2:List bK).length+([y3.1]:List bK).length) 64)).bind λ_=>
 (bh [0]).bind λ_=>
 (bP y3.2 3).bind λy4=>
 cond y4.1
 (cond (YL ((((s0.2.2.2.2:List bK)++[y3.1]).length:Int)<iC))
 ((aB ((s0.2.2.2.2:List bK)++[y3.1]) (aI ((((s0.2.2.2.2:List bK)++[y3.1]).length:Int)-1))).bind λy5=>
 (aB ((s0.2.2.2.2:List bK)++[y3.1]) (aI ((((s0.2.2.2.2:List bK)++[y3.1]).length:Int)-1))).bind λy6=>
 (kR 8 [3]).bind λ_=>
 (bh [0]).bind λ_=>
 (aw y4.2 20).bind λy7=>
 (bW (bm ((((s0.2.2.2.2:List bK)++[y3.1]):List bK).length+([(⟨y5.a8,y6.au,(Xs (aI (y3.1.start+(aI (60*y7.1)))) 1440),y3.1.mP,y3.1.uK,y3.1.iU⟩:bK)]:List bK).length) 64)).bind λ_=>
 YH (.inl ((aI (s0.1-1)),y7.2.b,y7.2.i,y7.2.h,((((s0.2.2.2.2:List bK)++[y3.1]):List bK)++[(⟨y5.a8,y6.au,(Xs (aI (y3.1.start+(aI (60*y7.1)))) 1440),y3.1.mP,y3.1.uK,y3.1.iU⟩:bK)]))))
 (YH (.inl ((aI (s0.1-1)),y4.2.b,y4.2.i,y4.2.h,((s0.2.2.2.2:List bK)++[y3.1])))))
 (YH (.inl ((aI (s0.1-1)),y4.2.b,y4.2.i,y4.2.h,((s0.2.2.2.2:List bK)++[y3.1])))))
 (YH (.inr (s0.2.1,s0.2.2.1,s0.2.2.2.1,s0.2.2.2.2)))
instance (iC:Int)(y1:Int×aO):bo (mo iC y1):=⟨λs0=>(.be 0 0 0::vi iC::.un::.un::.be 1 0 0::.be 2 0 0::vi s0.1::(U 74 [])),λs0=>[YH ⟨.of 119,3,[[.sl (s0.2.1.map YQ),vi s0.2.2.1,vi s0.2.2.2.1]]⟩,YH ⟨.of 27,3,[[.v (.slice YI 0 0),.v (.slice YI 0 0),vi 0]]⟩,YH ⟨.of 27,3,[[.ms 3,.v (.slice YI 0 0),vi (aI (15*y1.1))]]⟩,YH ⟨.of 144,6,s0.2.2.2.2.map bn⟩]⟩
def j8(c:aO)(iC:Int):Option (aj×aO):=
 (bh [0]).bind λ_=>
 (aw c 9).bind λy1=>
 (bh [0]).bind λ_=>
 (aw y1.2 iC).bind λy2=>
 (aD (mo iC y1) NN ((aI (1+y2.1)),y2.2.b,y2.2.i,y2.2.h,[])).bind (λo0=>
 (bh [0]).bind λ_=>
 (bP (⟨o0.1,o0.2.1,o0.2.2.1⟩:aO) 2).bind λy8=>
 cond y8.1
 ((bh [0]).bind λ_=>
 (aw y8.2 3).bind λy9=>
 (bh [0]).bind λ_=>
 (aw y9.2 4).bind λdL=>
 YH ((⟨o0.2.2.2,[y9.1,(aI (3+dL.1))],(aI (15*y1.1))⟩:aj),dL.2))
 (YH ((⟨o0.2.2.2,[],(aI (15*y1.1))⟩:aj),y8.2)))
instance (c:aO)(iC:Int):CT prog (j8 c iC):=⟨101,[.be 0 0 0,vi iC],[YH ⟨.of 119,3,[[.sl (c.b.map YQ),vi c.i,vi c.h]]⟩],λr=>.ag [.ms 1,.ms 2,vi r.1.change],λr=>[YH ⟨.of 119,3,[[.sl (r.2.b.map YQ),vi r.2.i,vi r.2.h]]⟩,YH ⟨.of 144,6,r.1.aA.map bn⟩,YH ⟨.of 3,1,r.1.off.map aE⟩],cw (j8.eq_1 ..) func101 ntmps101 results101⟩
def qC(code:List YR)(s0:Int×Int):Option ((Int×Int)⊕Int):=
 cond (YL (s0.2<(code.length:Int)))
 (cond (YL (s0.2<4000))
 ((aB code s0.2).bind λy1=>
 YH (.inl ((IntKind.i64.wrap (V9 IntKind.i64.bits (aI ((aI ((aI (s0.1*167))+(IntKind.i64.wrap y1.v)))+29)) &&& V9 IntKind.i64.bits 1073741823).toNat),(aI (s0.2+1)))))
 (YH (.inr s0.1)))
 (YH (.inr s0.1))
instance (code:List YR):bo (qC code):=⟨λs0=>(.sl (code.map YQ)::.un::.un::vi s0.1::vi s0.2::(U 28 [])),λs0=>[]⟩
def ou(code:List YR):Option aO:=
 (aD (qC code) NN ((aI (744201+(aI (3*(code.length:Int))))),0)).bind (λo0=>
 YH (⟨code,0,o0⟩:aO))
instance (code:List YR):CT prog (ou code):=⟨22,[.sl (code.map YQ)],[],λr=>.be 0 0 0,λr=>[YH ⟨.of 119,3,[[.sl (r.b.map YQ),vi r.i,vi r.h]]⟩],cw (ou.eq_1 ..) func22 ntmps22 results22⟩
def aJ{α:Type}(x:Option α)(P:α->Prop):Prop:=∃r,x=YH r/\P r
theorem aJ.bind{α β:Type}{x:Option α}{P:α->Prop}{f:α->Option β}{Q:β->Prop}(h:aJ x P)(k:∀r,P r->aJ (f r) Q):aJ (x.bind f) Q:=by
 obtain⟨r,rfl,hr⟩:=h;exact k r hr
theorem aJ.cond{β:Type}{b:Bool}{x y:Option β}{Q:β->Prop}(h:b=YJ->aJ x Q)(k:b=YK->aJ y Q):aJ (cond b x y) Q:=by
 cases b with
 |true=>exact h rfl
 |false=>exact k rfl
theorem aJ.ret(h:Q r):aJ (YH r) Q:=⟨r,rfl,h⟩
theorem aJ.of(h:x=YH r)(h':Q r):aJ x Q:=⟨r,h,h'⟩
theorem aJ.mono{P Q:β->Prop}(h:aJ x P)(k:∀r,P r->Q r):aJ x Q:=by
 obtain⟨r,e,hr⟩:=h;exact⟨r,e,k r hr⟩
theorem aJ.dq{ρ:List Nat}(k:aJ (f ()) Q):aJ ((bh ρ).bind f) Q:=k
theorem aJ.D3{wd:Nat}{fl:List Nat}(k:aJ (f ()) Q):aJ ((kR wd fl).bind f) Q:=k
theorem aJ.D9{β:Type}{t:List PV}{m:Mem}{f:Unit->Option β}{Q:β->Prop}(k:aJ (f ()) Q):aJ ((Go.Proofs.YtdilaemengjipaaGreatDoor.D9 t m).bind f) Q:=k
theorem aJ.bW{β:Type}{b:Bool}{f:Unit->Option β}{Q:β->Prop}(h:b=YJ)(k:aJ (f ()) Q):aJ ((Go.Proofs.YtdilaemengjipaaGreatDoor.bW b).bind f) Q:=by
 subst h;exact k
theorem aJ.get{α β:Type}{xs:List α}{i:Int}{f:α->Option β}{Q:β->Prop}(h0:0<=i)(h1:i<xs.length)(k:∀x,x∈xs->aB xs i=YH x->aJ (f x) Q):aJ ((aB xs i).bind f) Q:=by
 have bU:i.toNat<xs.length:=X9;have e:aB xs i=YH xs[i.toNat]:=by unfold aB;rw[if_pos h0];exact List.getElem?_eq_getElem bU
 rw[e];exact k _ (List.getElem_mem bU) e
def rN{σ ο:Type}(I:Nat->σ->Prop)(P:ο->Prop)(k:Nat):σ⊕ο->Prop
 |.inl s'=>∃k',k'<k/\I k' s'
 |.inr o=>P o
theorem aJ.loop{σ ο:Type}{body:σ->Option (σ⊕ο)}(I:Nat->σ->Prop){P:ο->Prop}(h:∀k s,I k s->aJ (body s) (rN I P k)):∀(N k:Nat) (s:σ),I k s->k<N->aJ (aD body N s) P
 |0,k,s,_,hN=>X9
 |N+1,k,s,hI,hN=>by
  obtain⟨r,e,hr⟩:=h k s hI;simp only[aD,e]
  cases r with
  |inr o=>exact⟨o,rfl,hr⟩
  |inl s'=>
   obtain⟨k',hk,hI'⟩:=hr;exact aJ.loop I h N k' s' hI' X9
theorem jj{a b c:Nat}(h:a+b<=1099511627776)(hc:c<=128):bm (a+b) c=true:=by
 unfold bm;refine X1 ⟨X9,?_⟩;have:(a+b)*c<=1099511627776*128:=Nat.mul_le_mul h hc;omega
structure bQ(c:aO):Prop where
 i:0<=c.i
 len:c.b.length<=4096
 b:∀x∈c.b,0<=x.v/\x.v<=255
theorem Qm(x:BitVec IntKind.i64.bits):0<=IntKind.i64.wrap ((x &&& V9 IntKind.i64.bits 255).toNat:Int)/\IntKind.i64.wrap ((x &&& V9 IntKind.i64.bits 255).toNat:Int)<=255:=by
 have h:(x &&& V9 IntKind.i64.bits 255).toNat<=255:=by
  have e:(V9 IntKind.i64.bits 255).toNat=255:=by decide
  have:=Nat.and_le_right (n:=x.toNat) (m:=(V9 IntKind.i64.bits 255).toNat);rw[e]at this
  rw[BitVec.toNat_and];exact this
 have e:=aR (n:=((x &&& V9 IntKind.i64.bits 255).toNat:Int)) X9;have e':IntKind.i64.wrap ((x &&& V9 IntKind.i64.bits 255).toNat:Int)=((x &&& V9 IntKind.i64.bits 255).toNat:Int):=e;rw[e'];omega
theorem xG(h:bQ c):aJ (gB c) λr=>(0<=r.1/\r.1<=255)/\bQ r.2:=by
 unfold gB;refine aJ.cond (λhc=>?_) λhc=>?_
 ·have bU:=X3 hc
  have hl:=h.len;refine aJ.get h.i bU λx hx _=>aJ.ret ⟨Qm _,⟨?_,h.len,h.b⟩⟩
  show 0<=aI (c.i+1);rw[aR (by have:=h.i;omega)]
  have:=h.i;omega
 ·exact aJ.ret ⟨Qm _,⟨h.i,h.len,h.b⟩⟩
theorem bg(h:bQ c)(n:Int):aJ (aw c n) λr=>(0<=r.1/\(0<n->r.1<n)/\(n<=0->r.1=0))/\bQ r.2:=by
 unfold aw;refine aJ.cond (λhc=>?_) λhc=>?_
 ·have:=X3 hc
  exact aJ.ret ⟨⟨by simp,λ_=>by simp only;omega,λ_=>rfl⟩,h⟩
 ·have h0:=X4 hc
  refine aJ.cond (λhd=>?_) λhd=>?_
  ·refine aJ.dq (aJ.bind (xG h) λy hy=>aJ.bW (X1 X9) (aJ.ret ⟨⟨?_,λ_=>?_,λhn=>absurd hn h0⟩,hy.2⟩))
   ·exact XT _ hy.1.1
   ·exact XD _ X9
  ·refine aJ.dq (aJ.bind (xG h) λy hy=>aJ.dq (aJ.bind (xG hy.2) λz hz=>aJ.dq (aJ.bind (xG hz.2) λu hu=>aJ.bW (X1 X9) (aJ.ret ⟨⟨?_,λ_=>?_,λhn=>absurd hn h0⟩,hu.2⟩))))
   ·have e1:aI (y.1*65536)=y.1*65536:=aR X9
    have e2:aI (z.1*256)=z.1*256:=aR X9;have e3:aI (y.1*65536+z.1*256)=y.1*65536+z.1*256:=aR X9;have e4:aI (y.1*65536+z.1*256+u.1)=y.1*65536+z.1*256+u.1:=aR X9;simp only[e1,e2,e3,e4];exact XT _ X9
   ·exact XD _ X9
theorem iD(h:bQ c)(n:Int):aJ (bP c n) λr=>bQ r.2:=by
 unfold bP;exact aJ.dq (aJ.bind (bg h n) λy hy=>aJ.ret hy.2)
theorem A8(h:bQ c){l:List ByteArray}(hl:0<l.length):aJ (ik c l) λr=>r.1∈l/\bQ r.2.1:=by
 unfold ik;exact aJ.dq (aJ.bind (bg h _) λy hy=>aJ.get hy.1.1 (hy.1.2.1 X9) λx hx _=>aJ.ret ⟨hx,hy.2⟩)
theorem jL(h:bQ c){l:List Int}(hl:0<l.length):aJ (bx c l) λr=>r.1∈l/\bQ r.2.1:=by
 unfold bx;exact aJ.dq (aJ.bind (bg h _) λy hy=>aJ.get hy.1.1 (hy.1.2.1 X9) λx hx _=>aJ.ret ⟨hx,hy.2⟩)
def rO:List ByteArray:=[⟨#[65,77,83]⟩,⟨#[66,82,85]⟩,⟨#[67,68,71]⟩,⟨#[68,85,66]⟩,⟨#[69,68,73]⟩,⟨#[70,82,65]⟩,⟨#[71,79,84]⟩]
theorem sg(h:bQ c):aJ (fp c) λr=>r.1∈rO/\bQ r.2:=by
 unfold fp;exact aJ.dq (aJ.bind (A8 h Ye) λy hy=>aJ.ret ⟨hy.1,hy.2⟩)
structure Bc(l:bK):Prop where
 au:l.au∈rO
 a8:l.a8∈rO
 ne:¬l.au=l.a8
 start:0<=l.start/\l.start<=1439
 mP:1<=l.mP/\l.mP<=4320
 uK:1<=l.uK/\l.uK<=127
 iU:0<=l.iU/\l.iU<=1000000
theorem Vi(h:bQ c):aJ (nI c) λr=>Bc r.1/\bQ r.2:=by
 unfold nI;refine aJ.dq (aJ.bind (sg h) λy1 h1=>aJ.dq (aJ.bind (sg h1.2) λy2 h2=>aJ.dq (aJ.bind (bg h2.2 48) λy3 h3=>aJ.dq (aJ.bind (bg h3.2 40) λy4 h4=>aJ.dq (aJ.bind (bg h4.2 127) λy5 h5=>aJ.dq (aJ.bind (bg h5.2 60) λy6 h6=>?_))))))
 have b3:=h3.1.2.1 X9;have b4:=h4.1.2.1 X9;have b5:=h5.1.2.1 X9;have b6:=h6.1.2.1 X9;have Rr:aJ (aD (nd y3 y4 y5 y6) NN (y6.2.b,y6.2.i,y6.2.h,y1.1,y2.1)) λo=>bQ ⟨o.1,o.2.1,o.2.2.1⟩/\o.2.2.2.1∈rO/\o.2.2.2.2∈rO/\¬o.2.2.2.1=o.2.2.2.2:=by
  refine aJ.loop (λk s=>bQ ⟨s.1,s.2.1,s.2.2.1⟩/\s.2.2.2.1∈rO/\s.2.2.2.2∈rO/\(k=1\/(k=0/\¬s.2.2.2.1=s.2.2.2.2))) (λk s hs=>?_) NN 1 _ ⟨h6.2,h1.1,h2.1,.inl rfl⟩ Yc
  obtain⟨k1,k2,k3,k4⟩:=hs;unfold nd;refine aJ.cond (λhc=>?_) λhc=>aJ.ret ⟨k1,k2,k3,X4 hc⟩
  have he:=X3 hc;have hk:k=1:=by rcases k4 with k4|⟨_,k4⟩
                                 ·exact k4
                                 ·exact absurd he k4
  subst hk;refine aJ.dq (aJ.bind (A8 k1 Ye) λy7 h7=>?_)
  have hy:y7.1∈rO/\¬(⟨#[68,85,66]⟩:ByteArray)=y7.1:=by
   have:=h7.1;simp only[V1,V0,or_false]at this
   rcases this with e|e|e<;>rw[e]<;>exact⟨by simp[rO],by decide +kernel⟩
  have ZfV:(⟨#[68,85,66]⟩:ByteArray)∈rO:=by simp[rO]
  refine aJ.cond (λhd=>aJ.ret ⟨0,X9,h7.2,ZfV,hy.1,.inr ⟨rfl,hy.2⟩⟩) λhd=>aJ.ret ⟨0,X9,h7.2,k2,hy.1,.inr ⟨rfl,X4 hd⟩⟩
 refine aJ.bind Rr λo ho=>aJ.dq (aJ.bind (iD ho.1 2) λy8 h8=>?_)
 have w1:aI (30*y3.1)=30*y3.1:=aR X9;have w2:aI (1+y4.1)=1+y4.1:=aR X9;have w3:aI (30*(1+y4.1))=30*(1+y4.1):=aR X9;have w4:aI (1+y5.1)=1+y5.1:=aR X9;have w5:aI (1000*y6.1)=1000*y6.1:=aR X9;simp only[w1,w2,w3,w4,w5];have u9:∀x:Int,x∈[1,1440,(4320:Int)]->1<=x/\x<=4320:=λx hx=>by
  simp only[V1,V0,or_false]at hx
  omega
 refine aJ.cond (λhd=>aJ.dq (aJ.bind (iD h8 9) λy9 h9=>aJ.cond (λhe=>aJ.dq (aJ.bind (jL h9 Ye) λdL wm=>aJ.ret ⟨⟨ho.2.1,ho.2.2.1,ho.2.2.2,by simp only;omega,u9 _ wm.1,by simp only;omega,by simp only;omega⟩,wm.2⟩)) λhe=>aJ.ret ⟨⟨ho.2.1,ho.2.2.1,ho.2.2.2,by simp only;omega,by simp only;omega,by simp only;omega,by simp only;omega⟩,h9⟩))
  λhd=>aJ.dq (aJ.bind (iD h8 9) λy9 h9=>aJ.cond (λhe=>aJ.dq (aJ.bind (jL h9 Ye) λdL wm=>aJ.ret ⟨⟨ho.2.1,ho.2.2.1,ho.2.2.2,by simp only;omega,u9 _ wm.1,by simp only;omega,by simp only;omega⟩,wm.2⟩)) λhe=>aJ.ret ⟨⟨ho.2.1,ho.2.2.1,ho.2.2.2,by simp only;omega,by simp only;omega,by simp only;omega,by simp only;omega⟩,h9⟩)
structure qN(n:aj):Prop where
 len:1<=n.aA.length/\n.aA.length<=14
 bD:∀l∈n.aA,Bc l
 off:n.off=[]\/∃a b:Int,n.off=[a,b]/\0<=a/\a<b/\b<=60
 change:0<=n.change/\n.change<=240
theorem MP(h:bQ c):aJ (j8 c 7) λr=>qN r.1/\bQ r.2:=by
 unfold j8;refine aJ.dq (aJ.bind (bg h 9) λy1 h1=>aJ.dq (aJ.bind (bg h1.2 7) λy2 h2=>?_))
 have b1:=h1.1.2.1 X9;have b2:=h2.1.2.1 X9;have w1:aI (1+y2.1)=1+y2.1:=aR X9;have Rr:aJ (aD (mo 7 y1) NN (aI (1+y2.1),y2.2.b,y2.2.i,y2.2.h,[])) λo=>bQ ⟨o.1,o.2.1,o.2.2.1⟩/\1<=o.2.2.2.length/\o.2.2.2.length<=14/\∀l∈o.2.2.2,Bc l:=by
  refine aJ.loop (λk s=>s.1=(k:Int)/\k<=7/\bQ ⟨s.2.1,s.2.2.1,s.2.2.2.1⟩/\s.2.2.2.2.length+2*k<=14/\(k=0->1<=s.2.2.2.2.length)/\∀l∈s.2.2.2.2,Bc l) (λk s hs=>?_) NN (1+y2.1).toNat _ ⟨by rw[w1];omega,X9,h2.2,by simp only[VY];omega,λhk=>X9,λl hl=>by cases hl⟩ Yc
  obtain⟨k1,k2,k3,k4,k5,k6⟩:=hs;unfold mo;refine aJ.cond (λhc=>?_) λhc=>aJ.ret ⟨k3,k5 (by have:=X4 hc;omega),by simp only;omega,k6⟩
  have hk:=X3 hc;have hw:aI (s.1-1)=((k-1:Nat):Int):=by rw[aR X9];omega
  refine aJ.dq (aJ.bind (Vi k3) λy3 h3=>aJ.bW (jj Ym X9) (aJ.dq (aJ.bind (iD h3.2 3) λy4 h4=>?_)))
  have wU:∀l∈s.2.2.2.2++[y3.1],Bc l:=λl hl=>by
   rcases Wl.1 hl with hl|hl
   ·exact k6 l hl
   ·obtain rfl:=Wf.1 hl;exact h3.1
  have hlen:(s.2.2.2.2++[y3.1]).length=s.2.2.2.2.length+1:=by simp
  have one:aJ (YH (Sum.inl (aI (s.1-1),y4.2.b,y4.2.i,y4.2.h,s.2.2.2.2++[y3.1])):Option ((Int×List YR×Int×Int×List bK)⊕(List YR×Int×Int×List bK)))
   (rN (λk s=>s.1=(k:Int)/\k<=7/\bQ ⟨s.2.1,s.2.2.1,s.2.2.2.1⟩/\s.2.2.2.2.length+2*k<=14/\(k=0->1<=s.2.2.2.2.length)/\∀l∈s.2.2.2.2,Bc l) (λo=>bQ ⟨o.1,o.2.1,o.2.2.1⟩/\1<=o.2.2.2.length/\o.2.2.2.length<=14/\∀l∈o.2.2.2,Bc l) k):=aJ.ret ⟨k-1,X9,hw,X9,h4,by simp only[hlen];omega,λ_=>by simp only[hlen];omega,wU⟩
  refine aJ.cond (λhd=>aJ.cond (λhe=>?_) λhe=>one) λhd=>one
  have TH:aI (((s.2.2.2.2++[y3.1]).length:Int)-1)=(s.2.2.2.2.length:Int):=by rw[hlen,aR X9];omega
  have wF:aB (s.2.2.2.2++[y3.1]) (s.2.2.2.2.length:Int)=YH y3.1:=by rw[aS,List.getElem?_append_right (Nat.le_refl _)];simp
  rw[TH,wF];simp only[Option.bind_some];refine aJ.D3 (aJ.dq (aJ.bind (bg h4 20) λy7 h7=>aJ.bW (jj (by simp only[VZ,VY,hlen];omega) X9) (aJ.ret ⟨k-1,X9,hw,X9,h7.2,?_,λ_=>?_,λl hl=>?_⟩)))
  ·simp only[V3,VZ,VY];omega
  ·simp only[V3,VZ,VY];omega
  ·rcases Wl.1 hl with hl|hl
   ·exact wU l hl
   ·obtain rfl:=Wf.1 hl
    obtain⟨a1,a2,a3,a4,a5,a6,a7⟩:=h3.1;have b7:=h7.1.2.1 X9;have e1:aI (60*y7.1)=60*y7.1:=aR X9;have e2:aI (y3.1.start+60*y7.1)=y3.1.start+60*y7.1:=aR X9;refine⟨a2,a1,λe=>a3 e.symm,?_,a5,a6,a7⟩
    simp only[e1,e2];have g1:=XT 1440 (show 0<=y3.1.start+60*y7.1 by omega)
    have g2:=XD (y3.1.start+60*y7.1) (show(0:Int)<1440 by omega)
    omega
 refine aJ.bind Rr λo ho=>aJ.dq (aJ.bind (iD ho.1 2) λy8 h8=>?_)
 have w2:aI (15*y1.1)=15*y1.1:=aR X9;simp only[w2];refine aJ.cond (λhd=>aJ.dq (aJ.bind (bg h8 3) λy9 h9=>aJ.dq (aJ.bind (bg h9.2 4) λdL wm=>?_))) λhd=>aJ.ret ⟨⟨⟨ho.2.1,ho.2.2.1⟩,ho.2.2.2,.inl rfl,by simp only;omega⟩,h8⟩
 have b9:=h9.1.2.1 X9;have b10:=wm.1.2.1 X9;have w3:aI (3+dL.1)=3+dL.1:=aR X9;exact aJ.ret ⟨⟨⟨ho.2.1,ho.2.2.1⟩,ho.2.2.2,.inr ⟨_,_,rfl,X9,X9,X9⟩,by simp only;omega⟩,wm.2⟩
theorem Vo{code:List YR}(hl:code.length<=4096)(hb:∀x∈code,0<=x.v/\x.v<=255):aJ (ou code) bQ:=by
 unfold ou;refine aJ.bind (P:=λ_=>True) ?_ λo _=>aJ.ret ⟨by simp,hl,hb⟩
 refine aJ.loop (λk s=>∃i:Nat,s.2=(i:Int)/\i+k=code.length) (λk s hs=>?_) NN code.length _ ⟨0,rfl,X9⟩ Yc
 obtain⟨i,hi,hk⟩:=hs;unfold qC;rw[hi];refine aJ.cond (λhc=>aJ.cond (λhd=>?_) λhd=>aJ.ret trivial) λhc=>aJ.ret trivial
 have bU:=X3 hc;exact aJ.get X9 bU λx hx _=>aJ.ret ⟨k-1,X9,i+1,by simp only;rw[aR X9];omega,X9⟩
def fB(a:Int)(b:Int):Option Int:=
 cond (YL (a<b))
 (YH b)
 (YH a)
instance (a:Int)(b:Int):CT prog (fB a b):=⟨113,[vi a,vi b],[],λr=>vi r,λr=>[],cw (fB.eq_1 ..) func113 ntmps113 results113⟩
def gV(places:List ByteArray)(cC:Int)(mR:Int)(s0:Int×(List Int)):Option ((Int×(List Int))⊕(List Int)):=
 cond (YL (s0.1<(places.length:Int)))
 (cond (YL (s0.1=cC))
 ((fB mR 0).bind λy1=>
 (bW (bm ((s0.2:List Int).length+([y1]:List Int).length) 8)).bind λ_=>
 YH (.inl ((aI (s0.1+1)),((s0.2:List Int)++[y1]))))
 ((bW (bm ((s0.2:List Int).length+([(-1)]:List Int).length) 8)).bind λ_=>
 YH (.inl ((aI (s0.1+1)),((s0.2:List Int)++[(-1)])))))
 (YH (.inr s0.2))
instance (places:List ByteArray)(cC:Int)(mR:Int):bo (gV places cC mR):=⟨λs0=>(.sl (places.map jK)::vi cC::vi mR::(U 4 (.ms 0::vi s0.1::(U 19 [])))),λs0=>[YH ⟨.of 3,1,s0.2.map aE⟩]⟩
def gU(places:List ByteArray)(cC:Int)(mR:Int):Option (List Int):=
 (aD (gV places cC mR) NN (0,([]:List Int))).bind (λo0=>
 YH o0)
instance (places:List ByteArray)(cC:Int)(mR:Int):CT prog (gU places cC mR):=⟨376,[.sl (places.map jK),vi cC,vi mR],[],λr=>.ms 0,λr=>[YH ⟨.of 3,1,r.map aE⟩],cw (gU.eq_1 ..) func376 ntmps376 results376⟩
def cK(n:aj)(l:List aq)(ah:List av)(bD:Int)(kP:Int)(ab:Int)(s0:Int):Option (Int⊕(Unit⊕Int)):=
 cond (YL (s0<=60))
 ((cA n bD s0).bind λy1=>
 cond y1
 ((bp n (⟨bD,s0⟩:av)).bind λy2=>
 cond (YL (kP<=y2))
 ((dp ah (⟨bD,s0⟩:av)).bind λy3=>
 cond (!y3)
 ((aB n.aA bD).bind λy4=>
 (dD l (⟨bD,s0⟩:av)).bind λy5=>
 cond (YL (ab<=(aI (y4.iU-y5))))
 (YH (.inr (.inr s0)))
 (YH (.inl (aI (s0+1)))))
 (YH (.inl (aI (s0+1)))))
 (YH (.inl (aI (s0+1)))))
 (YH (.inl (aI (s0+1)))))
 (YH (.inr (.inl ())))
instance (n:aj)(l:List aq)(ah:List av)(bD:Int)(kP:Int)(ab:Int):bo (cK n l ah bD kP ab):=⟨λs0=>(.un::.sl (l.map aC)::.sl (ah.map aW)::vi bD::vi kP::vi ab::.be 0 0 0::(U 6 (vi s0::(U 40 [])))),λs0=>[YH ⟨.of 27,3,[[.sl (n.aA.map bn),.sl (n.off.map aE),vi n.change]]⟩]⟩
def cF(n:aj)(l:List aq)(ah:List av)(bD:Int)(kP:Int)(ab:Int):Option Int:=
 (aD (cK n l ah bD kP ab) NN 0).bind (bk (λo0=>
 YH (-1)) (λr=>YH r))
instance (n:aj)(l:List aq)(ah:List av)(bD:Int)(kP:Int)(ab:Int):CT prog (cF n l ah bD kP ab):=⟨378,[.ag (bA n),.sl (l.map aC),.sl (ah.map aW),vi bD,vi kP,vi ab],[],λr=>vi r,λr=>[],cw (cF.eq_1 ..) func378 ntmps378 results378⟩
def iO(n:aj)(l:List aq)(bw:Int)(fO:Int)(y1:Bool)(s0:Int×(List aq)):Option ((Int×(List aq))⊕(List aq)):=
 cond (YL (s0.1<(l.length:Int)))
 (cond (!y1)
 ((aB l s0.1).bind λy2=>
 (bW (bm ((s0.2:List aq).length+([y2]:List aq).length) 32)).bind λ_=>
 YH (.inl ((aI (s0.1+1)),((s0.2:List aq)++[y2]))))
 ((aB l s0.1).bind λy3=>
 cond (!decide (y3.bw=bw))
 ((aB l s0.1).bind λy4=>
 (bW (bm ((s0.2:List aq).length+([y4]:List aq).length) 32)).bind λ_=>
 YH (.inl ((aI (s0.1+1)),((s0.2:List aq)++[y4]))))
 ((aB l s0.1).bind λy5=>
 (bp n y5.bj).bind λy6=>
 cond (YL (y6<fO))
 ((aB l s0.1).bind λy7=>
 (bW (bm ((s0.2:List aq).length+([y7]:List aq).length) 32)).bind λ_=>
 YH (.inl ((aI (s0.1+1)),((s0.2:List aq)++[y7]))))
 (YH (.inl ((aI (s0.1+1)),s0.2))))))
 (YH (.inr s0.2))
instance (n:aj)(l:List aq)(bw:Int)(fO:Int)(y1:Bool):bo (iO n l bw fO y1):=⟨λs0=>(.un::.sl (l.map aC)::vi bw::vi fO::.be 0 0 0::(U 4 (.ms 1::vb y1::vi s0.1::(U 40 [])))),λs0=>[YH ⟨.of 27,3,[[.sl (n.aA.map bn),.sl (n.off.map aE),vi n.change]]⟩,YH ⟨.of 147,4,s0.2.map aC⟩]⟩
def lk(n:aj)(l:List aq)(bw:Int)(fO:Int):Option (List aq):=
 (eI n l).bind λy1=>
 (aD (iO n l bw fO y1) NN (0,([]:List aq))).bind (λo0=>
 YH o0)
instance (n:aj)(l:List aq)(bw:Int)(fO:Int):CT prog (lk n l bw fO):=⟨294,[.ag (bA n),.sl (l.map aC),vi bw,vi fO],[],λr=>.ms 0,λr=>[YH ⟨.of 147,4,r.map aC⟩],cw (lk.eq_1 ..) func294 ntmps294 results294⟩
def kv(n:aj)(ft:Int)(start:Bool):Option Int:=
 cond start
 (YH ft)
 (YH (aI (ft+n.change)))
instance (n:aj)(ft:Int)(start:Bool):CT prog (kv n ft start):=⟨310,[.ag (bA n),vi ft,vb start],[],λr=>vi r,λr=>[],cw (kv.eq_1 ..) func310 ntmps310 results310⟩
def re(n:aj)(l:List aq)(ah:List av)(ab:Int):Option (aj×(List av)×(List aq)×Int):=
 YH (n,ah,l,ab)
instance (n:aj)(l:List aq)(ah:List av)(ab:Int):CT prog (re n l ah ab):=⟨199,[.ag (bA n),.sl (l.map aC),.sl (ah.map aW),vi ab],[],λr=>.fn 250 [.rp [.sl (r.1.aA.map bn),.sl (r.1.off.map aE),vi r.1.change],.rp [.sl (r.2.1.map aW)],.rp [.sl (r.2.2.1.map aC)],.rp [vi r.2.2.2]],λr=>[],cw (re.eq_1 ..) func199 ntmps199 results199⟩
def rh(n:aj):Option aj:=
 YH (n)
instance (n:aj):CT prog (rh n):=⟨322,[.ag (bA n)],[],λr=>.fn 366 [.rp [.sl (r.aA.map bn),.sl (r.off.map aE),vi r.change]],λr=>[],cw (rh.eq_1 ..) func322 ntmps322 results322⟩
theorem qv:∀p∈rO,bT p=YH YJ/\p.size=3:=λp hp=>by
 unfold rO at hp
 simp only[V1,V0,or_false]at hp
 rcases hp with rfl|rfl|rfl|rfl|rfl|rfl|rfl<;>exact⟨by decide +kernel,by decide +kernel⟩
def cx(c:aO)(n:aj):Option (ByteArray×aO):=
 (cW n).bind λy1=>
 (bh [0]).bind λ_=>
 (bP c 9).bind λy2=>
 cond y2.1
 ((bh [0]).bind λ_=>
 (fp y2.2).bind λy3=>
 YH (y3.1,y3.2))
 ((bh [0]).bind λ_=>
 (aw y2.2 (y1.length:Int)).bind λy4=>
 (aB y1 y4.1).bind λy5=>
 YH (y5,y4.2))
instance (c:aO)(n:aj):CT prog (cx c n):=⟨112,[.be 0 0 0,.ag (bA n)],[YH ⟨.of 119,3,[[.sl (c.b.map YQ),vi c.i,vi c.h]]⟩],λr=>vs r.1,λr=>[YH ⟨.of 119,3,[[.sl (r.2.b.map YQ),vi r.2.i,vi r.2.h]]⟩],cw (cx.eq_1 ..) func112 ntmps112 results112⟩
def lN(c:aO):Option (cq×aO):=
 (bh [0]).bind λ_=>
 (aw c 3).bind λy1=>
 (bh [0]).bind λ_=>
 (aw y1.2 1000).bind λy2=>
 (bh [0]).bind λ_=>
 (fp y2.2).bind λy3=>
 (bh [0]).bind λ_=>
 (bP y3.2 3).bind λy4=>
 cond y4.1
 ((bh [0,3]).bind λ_=>
 (bx y4.2 ([0,7,999999999,100000000,123456789])).bind λy5=>
 YH ((⟨(aI (1+y1.1)),y5.1,y3.1⟩:cq),y5.2.1))
 (YH ((⟨(aI (1+y1.1)),y2.1,y3.1⟩:cq),y4.2))
instance (c:aO):CT prog (lN c):=⟨128,[.be 0 0 0],[YH ⟨.of 119,3,[[.sl (c.b.map YQ),vi c.i,vi c.h]]⟩],λr=>.ag [vi r.1.ay,vi r.1.da,vs r.1.a8],λr=>[YH ⟨.of 119,3,[[.sl (r.2.b.map YQ),vi r.2.i,vi r.2.h]]⟩],cw (lN.eq_1 ..) func128 ntmps128 results128⟩
def lO(c:aO):Option ((List Int)×aO):=
 (bh [0]).bind λ_=>
 (aw c 600).bind λy1=>
 (bh [0]).bind λ_=>
 (aw y1.2 400).bind λy2=>
 (bh [0]).bind λ_=>
 (aw y2.2 300).bind λy3=>
 YH ([(aI (1+y1.1)),(aI (1+y2.1)),(aI (1+y3.1))],y3.2)
instance (c:aO):CT prog (lO c):=⟨130,[.be 0 0 0],[YH ⟨.of 119,3,[[.sl (c.b.map YQ),vi c.i,vi c.h]]⟩],λr=>.ms 1,λr=>[YH ⟨.of 119,3,[[.sl (r.2.b.map YQ),vi r.2.i,vi r.2.h]]⟩,YH ⟨.of 3,1,r.1.map aE⟩],cw (lO.eq_1 ..) func130 ntmps130 results130⟩
def eG(c:aO):Option (aT×aO):=
 (bh [0]).bind λ_=>
 (lN c).bind λy1=>
 (bh [0]).bind λ_=>
 (fp y1.2).bind λy2=>
 (bh [0]).bind λ_=>
 (aw y2.2 30000).bind λy3=>
 (bh [0]).bind λ_=>
 (lO y3.2).bind λy4=>
 (bh [0]).bind λ_=>
 (aw y4.2 500001).bind λy5=>
 cond (YL (y2.1=y1.1.a8))
 ((bh [0]).bind λ_=>
 (bP y5.2 3).bind λy6=>
 cond y6.1
 ((bh [0,4]).bind λ_=>
 (bx y6.2 ([1,500,1000,1001,5000,30000])).bind λy7=>
 YH ((⟨y1.1,⟨#[79,83,76]⟩,y7.1,y4.1,y5.1⟩:aT),y7.2.1))
 (YH ((⟨y1.1,⟨#[79,83,76]⟩,(aI (1+y3.1)),y4.1,y5.1⟩:aT),y6.2)))
 ((bh [0]).bind λ_=>
 (bP y5.2 3).bind λy8=>
 cond y8.1
 ((bh [0,4]).bind λ_=>
 (bx y8.2 ([1,500,1000,1001,5000,30000])).bind λy9=>
 YH ((⟨y1.1,y2.1,y9.1,y4.1,y5.1⟩:aT),y9.2.1))
 (YH ((⟨y1.1,y2.1,(aI (1+y3.1)),y4.1,y5.1⟩:aT),y8.2)))
instance (c:aO):CT prog (eG c):=⟨66,[.be 0 0 0],[YH ⟨.of 119,3,[[.sl (c.b.map YQ),vi c.i,vi c.h]]⟩],λr=>.ag [vi r.1.label.ay,vi r.1.label.da,vs r.1.label.a8,vs r.1.au,vi r.1.ab,.sl (r.1.bH.map aE),vi r.1.value],λr=>[YH ⟨.of 119,3,[[.sl (r.2.b.map YQ),vi r.2.i,vi r.2.h]]⟩],cw (eG.eq_1 ..) func66 ntmps66 results66⟩
def dU(c:aO):Option ((List Int)×aO):=
 (bh [0]).bind λ_=>
 (aw c 5).bind λy1=>
 cond (YL (y1.1=0))
 (YH ([25,50,100],y1.2))
 (cond (YL (y1.1=1))
 (YH ([10],y1.2))
 (cond (YL (y1.1=2))
 (YH ([0,100],y1.2))
 (cond (YL (y1.1=3))
 (YH ([0],y1.2))
 (cond (YL (y1.1=4))
 (YH ([1,1,2,3,50,100],y1.2))
 (YI)))))
instance (c:aO):CT prog (dU c):=⟨103,[.be 0 0 0],[YH ⟨.of 119,3,[[.sl (c.b.map YQ),vi c.i,vi c.h]]⟩],λr=>.sl (r.1.map aE),λr=>[YH ⟨.of 119,3,[[.sl (r.2.b.map YQ),vi r.2.i,vi r.2.h]]⟩],cw (dU.eq_1 ..) func103 ntmps103 results103⟩
def lP(c:aO):Option ((List bI)×aO):=
 (bh [0]).bind λ_=>
 (aw c 4).bind λy1=>
 cond (YL (y1.1=0))
 (YH ([(⟨⟨#[65,77,83]⟩,⟨#[67,68,71]⟩⟩:bI),(⟨⟨#[68,85,66]⟩,⟨#[71,79,84]⟩⟩:bI)],y1.2))
 (cond (YL (y1.1=1))
 (YH ([(⟨⟨#[65,65,65]⟩,⟨#[90,90,90]⟩⟩:bI)],y1.2))
 (cond (YL (y1.1=2))
 (YH ([(⟨⟨#[65,77,83]⟩,⟨#[65,77,83]⟩⟩:bI),(⟨⟨#[66,82,85]⟩,⟨#[69,68,73]⟩⟩:bI),(⟨⟨#[70,82,65]⟩,⟨#[70,82,65]⟩⟩:bI)],y1.2))
 (cond (YL (y1.1=3))
 (YH (([]:List bI),y1.2))
 (YI))))
instance (c:aO):CT prog (lP c):=⟨126,[.be 0 0 0],[YH ⟨.of 119,3,[[.sl (c.b.map YQ),vi c.i,vi c.h]]⟩],λr=>.ms 1,λr=>[YH ⟨.of 119,3,[[.sl (r.2.b.map YQ),vi r.2.i,vi r.2.h]]⟩,YH ⟨.of 78,2,r.1.map cG⟩],cw (lP.eq_1 ..) func126 ntmps126 results126⟩
def mH(y2:Int×aO)(s0:(List bI)):Option ((List bI)⊕(List bI)):=
 cond (YL ((s0.length:Int)<9))
 ((bW (cY (⟨#[90]⟩) (strOfNums [(IntKind.u8.wrap (aI (65+(s0.length:Int))))]))).bind λ_=>
 (bW (cY (⟨#[90]⟩++(strOfNums [(IntKind.u8.wrap (aI (65+(s0.length:Int))))])) (⟨#[65]⟩))).bind λ_=>
 (bW (cY (⟨#[90]⟩) (strOfNums [(IntKind.u8.wrap (aI (65+(s0.length:Int))))]))).bind λ_=>
 (bW (cY (⟨#[90]⟩++(strOfNums [(IntKind.u8.wrap (aI (65+(s0.length:Int))))])) (⟨#[66]⟩))).bind λ_=>
 (bW (bm ((s0:List bI).length+([(⟨((⟨#[90]⟩++(strOfNums [(IntKind.u8.wrap (aI (65+(s0.length:Int))))]))++⟨#[65]⟩),((⟨#[90]⟩++(strOfNums [(IntKind.u8.wrap (aI (65+(s0.length:Int))))]))++⟨#[66]⟩)⟩:bI)]:List bI).length) 32)).bind λ_=>
 YH (.inl ((s0:List bI)++[(⟨((⟨#[90]⟩++(strOfNums [(IntKind.u8.wrap (aI (65+(s0.length:Int))))]))++⟨#[65]⟩),((⟨#[90]⟩++(strOfNums [(IntKind.u8.wrap (aI (65+(s0.length:Int))))]))++⟨#[66]⟩)⟩:bI)])))
 (YH (.inr s0))
instance (y2:Int×aO):bo (mH y2):=⟨λs0=>(.be 0 0 0::.un::.un::.ms 1::(U 44 [])),λs0=>[YH ⟨.of 119,3,[[.sl (y2.2.b.map YQ),vi y2.2.i,vi y2.2.h]]⟩,YH ⟨.of 78,2,s0.map cG⟩]⟩
def jf(c:aO):Option ((List bI)×aO):=
 (bh [0]).bind λ_=>
 (lP c).bind λy1=>
 (bh [0]).bind λ_=>
 (aw y1.2 5).bind λy2=>
 cond (YL (y2.1=0))
 ((bh [0,2]).bind λ_=>
 (ik y2.2 ([⟨#[71,79,84]⟩,⟨#[70,82,65]⟩,⟨#[90,90,90]⟩,⟨#[90]⟩])).bind λy3=>
 (bW (bm ((y1.1:List bI).length+([(⟨⟨#[71,79,84]⟩,y3.1⟩:bI)]:List bI).length) 32)).bind λ_=>
 YH (((y1.1:List bI)++[(⟨⟨#[71,79,84]⟩,y3.1⟩:bI)]),y3.2.1))
 (cond (YL (y2.1=1))
 ((aD (mH y2) NN y1.1).bind (λo0=>
 (bh [0,2]).bind λ_=>
 (bx y2.2 ([8,9])).bind λy4=>
 (bW (gg 0 y4.1 o0.length)).bind λ_=>
 YH ((cH o0 0 y4.1),y4.2.1)))
 (YH (y1.1,y2.2)))
instance (c:aO):CT prog (jf c):=⟨64,[.be 0 0 0],[YH ⟨.of 119,3,[[.sl (c.b.map YQ),vi c.i,vi c.h]]⟩],λr=>.sl (r.1.map cG),λr=>[YH ⟨.of 119,3,[[.sl (r.2.b.map YQ),vi r.2.i,vi r.2.h]]⟩],cw (jf.eq_1 ..) func64 ntmps64 results64⟩
end Go.Proofs.YtdilaemengjipaaGreatDoor
