/- A part of the proof of the statement in the last file of this claim: texts on the language of the program and on its functions. No condition. -/
import Derived.Test.YtdilaemengjipaaGreatDoorCA4
import Derived.Test.YtdilaemengjipaaGreatDoorCA8
import Derived.Test.YtdilaemengjipaaGreatDoorCA12
import Derived.Test.YtdilaemengjipaaGreatDoorCA17
import Derived.Test.YtdilaemengjipaaGreatDoorCA21
import Derived.Test.YtdilaemengjipaaGreatDoorCA1
set_option linter.unusedVariables false
set_option linter.unusedSimpArgs false
set_option linter.unusedSectionVars false
open Option renaming some->YH,none->YI
open Bool renaming true->YJ,false->YK
open Decidable renaming decide->YL
open Go.Proofs.Tryz
set_option maxHeartbeats 40000000
namespace Go.Proofs.YtdilaemengjipaaGreatDoor
set_option maxRecDepth 10000
open Go.RowKit
def ka(c:aO)(o:aL):Option (bV×aO):=
 (bh [0]).bind λ_=>
 (aw c 9).bind λy1=>
 cond (YL (y1.1=0))
 (cond (YL (y1.1=0))
 ((bh [0]).bind λ_=>
 (eG y1.2).bind λy2=>
 (bh [0]).bind λ_=>
 (aw y2.2 6000).bind λy3=>
 (bh [0]).bind λ_=>
 (aw y3.2 300).bind λy4=>
 (bh [0]).bind λ_=>
 (aw y4.2 200).bind λy5=>
 (bh [0]).bind λ_=>
 (aw y5.2 200).bind λy6=>
 (bh [0]).bind λ_=>
 (cx y6.2 o.world.aa).bind λy7=>
 (bh [0]).bind λ_=>
 (cx y7.2 o.world.aa).bind λy8=>
 cond (YL (y7.1=y8.1))
 (YH ((⟨1,(⟨(⟨y2.1.label.ay,y2.1.label.da,y8.1⟩:cq),⟨#[79,83,76]⟩,(aI (200+y3.1)),[(aI (100+y4.1)),(aI (100+y5.1)),(aI (50+y6.1))],y2.1.value⟩:aT),0,0,0,(⟨0,0⟩:av)⟩:bV),y8.2))
 (YH ((⟨1,(⟨(⟨y2.1.label.ay,y2.1.label.da,y8.1⟩:cq),y7.1,(aI (200+y3.1)),[(aI (100+y4.1)),(aI (100+y5.1)),(aI (50+y6.1))],y2.1.value⟩:aT),0,0,0,(⟨0,0⟩:av)⟩:bV),y8.2)))
 (cond (YL (y1.1=3))
 ((bh [0]).bind λ_=>
 (aw y1.2 (aI ((o.aK.length:Int)+1))).bind λy9=>
 (eo o.lines (aI (1+y9.1))).bind λdL=>
 (bh [0,3]).bind λ_=>
 (bx y9.2 ([0,0,0,100])).bind λji=>
 (fB 1 (aI (dL-ji.1))).bind λoX=>
 YH ((⟨2,(⟨(⟨0,0,⟨#[]⟩⟩:cq),⟨#[]⟩,0,[],0⟩:aT),(aI (1+y9.1)),oX,0,(⟨0,0⟩:av)⟩:bV),ji.2.1))
 (cond (YL (y1.1=4))
 ((bh [0]).bind λ_=>
 (dO y1.2 o.world).bind λmf=>
 YH ((⟨4,(⟨(⟨0,0,⟨#[]⟩⟩:cq),⟨#[]⟩,0,[],0⟩:aT),0,0,0,mf.1⟩:bV),mf.2))
 (cond (YL (y1.1=5))
 (YH ((⟨5,(⟨(⟨0,0,⟨#[]⟩⟩:cq),⟨#[]⟩,0,[],0⟩:aT),0,0,0,(⟨0,0⟩:av)⟩:bV),y1.2))
 (cond (YL (y1.1=6))
 ((bh [0]).bind λ_=>
 (aw y1.2 (aI ((o.aK.length:Int)+1))).bind λkX=>
 YH ((⟨6,(⟨(⟨0,0,⟨#[]⟩⟩:cq),⟨#[]⟩,0,[],0⟩:aT),(aI (1+kX.1)),0,0,(⟨0,0⟩:av)⟩:bV),kX.2))
 ((kR 8 [4]).bind λ_=>
 (bh [0]).bind λ_=>
 (aw y1.2 90).bind λpg=>
 YH ((⟨3,(⟨(⟨0,0,⟨#[]⟩⟩:cq),⟨#[]⟩,0,[],0⟩:aT),0,0,(aI (o.world.now+(aI (30*pg.1)))),(⟨0,0⟩:av)⟩:bV),pg.2)))))))
 (cond (YL (y1.1=1))
 (cond (YL (y1.1=1))
 ((bh [0]).bind λ_=>
 (eG y1.2).bind λmu=>
 (bh [0]).bind λ_=>
 (aw mu.2 6000).bind λrn=>
 (bh [0]).bind λ_=>
 (aw rn.2 300).bind λsi=>
 (bh [0]).bind λ_=>
 (aw si.2 200).bind λvH=>
 (bh [0]).bind λ_=>
 (aw vH.2 200).bind λAJ=>
 (bh [0]).bind λ_=>
 (cx AJ.2 o.world.aa).bind λxp=>
 (bh [0]).bind λ_=>
 (cx xp.2 o.world.aa).bind λAq=>
 cond (YL (xp.1=Aq.1))
 (YH ((⟨1,(⟨(⟨mu.1.label.ay,mu.1.label.da,Aq.1⟩:cq),⟨#[79,83,76]⟩,(aI (200+rn.1)),[(aI (100+si.1)),(aI (100+vH.1)),(aI (50+AJ.1))],mu.1.value⟩:aT),0,0,0,(⟨0,0⟩:av)⟩:bV),Aq.2))
 (YH ((⟨1,(⟨(⟨mu.1.label.ay,mu.1.label.da,Aq.1⟩:cq),xp.1,(aI (200+rn.1)),[(aI (100+si.1)),(aI (100+vH.1)),(aI (50+AJ.1))],mu.1.value⟩:aT),0,0,0,(⟨0,0⟩:av)⟩:bV),Aq.2)))
 (cond (YL (y1.1=3))
 ((bh [0]).bind λ_=>
 (aw y1.2 (aI ((o.aK.length:Int)+1))).bind λFa=>
 (eo o.lines (aI (1+Fa.1))).bind λy24=>
 (bh [0,3]).bind λ_=>
 (bx Fa.2 ([0,0,0,100])).bind λTI=>
 (fB 1 (aI (y24-TI.1))).bind λy26=>
 YH ((⟨2,(⟨(⟨0,0,⟨#[]⟩⟩:cq),⟨#[]⟩,0,[],0⟩:aT),(aI (1+Fa.1)),y26,0,(⟨0,0⟩:av)⟩:bV),TI.2.1))
 (cond (YL (y1.1=4))
 ((bh [0]).bind λ_=>
 (dO y1.2 o.world).bind λy27=>
 YH ((⟨4,(⟨(⟨0,0,⟨#[]⟩⟩:cq),⟨#[]⟩,0,[],0⟩:aT),0,0,0,y27.1⟩:bV),y27.2))
 (cond (YL (y1.1=5))
 (YH ((⟨5,(⟨(⟨0,0,⟨#[]⟩⟩:cq),⟨#[]⟩,0,[],0⟩:aT),0,0,0,(⟨0,0⟩:av)⟩:bV),y1.2))
 (cond (YL (y1.1=6))
 ((bh [0]).bind λ_=>
 (aw y1.2 (aI ((o.aK.length:Int)+1))).bind λy28=>
 YH ((⟨6,(⟨(⟨0,0,⟨#[]⟩⟩:cq),⟨#[]⟩,0,[],0⟩:aT),(aI (1+y28.1)),0,0,(⟨0,0⟩:av)⟩:bV),y28.2))
 ((kR 8 [4]).bind λ_=>
 (bh [0]).bind λ_=>
 (aw y1.2 90).bind λy29=>
 YH ((⟨3,(⟨(⟨0,0,⟨#[]⟩⟩:cq),⟨#[]⟩,0,[],0⟩:aT),0,0,(aI (o.world.now+(aI (30*y29.1)))),(⟨0,0⟩:av)⟩:bV),y29.2)))))))
 (cond (YL (y1.1=2))
 ((bh [0]).bind λ_=>
 (eG y1.2).bind λTJ=>
 (bh [0]).bind λ_=>
 (aw TJ.2 6000).bind λy31=>
 (bh [0]).bind λ_=>
 (aw y31.2 300).bind λy32=>
 (bh [0]).bind λ_=>
 (aw y32.2 200).bind λy33=>
 (bh [0]).bind λ_=>
 (aw y33.2 200).bind λy34=>
 (bh [0]).bind λ_=>
 (cx y34.2 o.world.aa).bind λy35=>
 (bh [0]).bind λ_=>
 (cx y35.2 o.world.aa).bind λy36=>
 cond (YL (y35.1=y36.1))
 (YH ((⟨1,(⟨(⟨TJ.1.label.ay,TJ.1.label.da,y36.1⟩:cq),⟨#[79,83,76]⟩,(aI (200+y31.1)),[(aI (100+y32.1)),(aI (100+y33.1)),(aI (50+y34.1))],TJ.1.value⟩:aT),0,0,0,(⟨0,0⟩:av)⟩:bV),y36.2))
 (YH ((⟨1,(⟨(⟨TJ.1.label.ay,TJ.1.label.da,y36.1⟩:cq),y35.1,(aI (200+y31.1)),[(aI (100+y32.1)),(aI (100+y33.1)),(aI (50+y34.1))],TJ.1.value⟩:aT),0,0,0,(⟨0,0⟩:av)⟩:bV),y36.2)))
 (cond (YL (y1.1=3))
 ((bh [0]).bind λ_=>
 (aw y1.2 (aI ((o.aK.length:Int)+1))).bind λy37=>
 (eo o.lines (aI (1+y37.1))).bind λy38=>
 (bh [0,3]).bind λ_=>
 (bx y37.2 ([0,0,0,100])).bind λy39=>
 (fB 1 (aI (y38-y39.1))).bind λy40=>
 YH ((⟨2,(⟨(⟨0,0,⟨#[]⟩⟩:cq),⟨#[]⟩,0,[],0⟩:aT),(aI (1+y37.1)),y40,0,(⟨0,0⟩:av)⟩:bV),y39.2.1))
 (cond (YL (y1.1=4))
 ((bh [0]).bind λ_=>
 (dO y1.2 o.world).bind λy41=>
 YH ((⟨4,(⟨(⟨0,0,⟨#[]⟩⟩:cq),⟨#[]⟩,0,[],0⟩:aT),0,0,0,y41.1⟩:bV),y41.2))
 (cond (YL (y1.1=5))
 (YH ((⟨5,(⟨(⟨0,0,⟨#[]⟩⟩:cq),⟨#[]⟩,0,[],0⟩:aT),0,0,0,(⟨0,0⟩:av)⟩:bV),y1.2))
 (cond (YL (y1.1=6))
 ((bh [0]).bind λ_=>
 (aw y1.2 (aI ((o.aK.length:Int)+1))).bind λy42=>
 YH ((⟨6,(⟨(⟨0,0,⟨#[]⟩⟩:cq),⟨#[]⟩,0,[],0⟩:aT),(aI (1+y42.1)),0,0,(⟨0,0⟩:av)⟩:bV),y42.2))
 ((kR 8 [4]).bind λ_=>
 (bh [0]).bind λ_=>
 (aw y1.2 90).bind λy43=>
 YH ((⟨3,(⟨(⟨0,0,⟨#[]⟩⟩:cq),⟨#[]⟩,0,[],0⟩:aT),0,0,(aI (o.world.now+(aI (30*y43.1)))),(⟨0,0⟩:av)⟩:bV),y43.2))))))))
instance (c:aO)(o:aL):CT prog (ka c o):=⟨55,[.be 0 0 0,.ag (lx o)],[YH ⟨.of 119,3,[[.sl (c.b.map YQ),vi c.i,vi c.h]]⟩],λr=>.ag [vi r.1.kind,vi r.1.aQ.label.ay,vi r.1.aQ.label.da,vs r.1.aQ.label.a8,vs r.1.aQ.au,vi r.1.aQ.ab,.sl (r.1.aQ.bH.map aE),vi r.1.aQ.value,vi r.1.order,vi r.1.bz,vi r.1.bM,vi r.1.bj.bD,vi r.1.bj.day],λr=>[YH ⟨.of 119,3,[[.sl (r.2.b.map YQ),vi r.2.i,vi r.2.h]]⟩],cw (ka.eq_1 ..) func55 ntmps55 results55⟩
def jE(c:aO)(o:aL):Option (bV×aO):=
 (bh [0]).bind λ_=>
 (ka c o).bind λy1=>
 (bh [0]).bind λ_=>
 (aw y1.2 12).bind λy2=>
 cond (YL (y2.1=0))
 ((bh [0]).bind λ_=>
 (aw y2.2 9).bind λy3=>
 YH ((⟨y3.1,y1.1.aQ,y1.1.order,y1.1.bz,y1.1.bM,y1.1.bj⟩:bV),y3.2))
 (cond (YL (y2.1=1))
 ((bh [0,4]).bind λ_=>
 (bx y2.2 ([0,1,9999,10000])).bind λy4=>
 YH ((⟨y1.1.kind,y1.1.aQ,y4.1,y1.1.bz,y1.1.bM,y1.1.bj⟩:bV),y4.2.1))
 (cond (YL (y2.1=2))
 ((bh [0,4]).bind λ_=>
 (bx y2.2 ([0,1,100000,100001])).bind λy5=>
 YH ((⟨y1.1.kind,y1.1.aQ,y1.1.order,y5.1,y1.1.bM,y1.1.bj⟩:bV),y5.2.1))
 (cond (YL (y2.1=3))
 ((bh [0,4]).bind λ_=>
 (bx y2.2 ([(-1),0,100000,100001])).bind λy6=>
 YH ((⟨y1.1.kind,y1.1.aQ,y1.1.order,y1.1.bz,y6.1,y1.1.bj⟩:bV),y6.2.1))
 (cond (YL (y2.1=4))
 ((bh [0,4]).bind λ_=>
 (bx y2.2 ([(-1),0,19,20])).bind λy7=>
 (bh [0,5]).bind λ_=>
 (bx y7.2.1 ([0,60,61])).bind λy8=>
 YH ((⟨y1.1.kind,y1.1.aQ,y1.1.order,y1.1.bz,y1.1.bM,(⟨y7.1,y8.1⟩:av)⟩:bV),y8.2.1))
 (cond (YL (y2.1=5))
 (YH ((⟨y1.1.kind,(⟨y1.1.aQ.label,y1.1.aQ.au,(aI (y1.1.aQ.ab+1)),y1.1.aQ.bH,y1.1.aQ.value⟩:aT),y1.1.order,y1.1.bz,y1.1.bM,y1.1.bj⟩:bV),y2.2))
 (YH (y1.1,y2.2)))))))
instance (c:aO)(o:aL):CT prog (jE c o):=⟨24,[.be 0 0 0,.ag (lx o)],[YH ⟨.of 119,3,[[.sl (c.b.map YQ),vi c.i,vi c.h]]⟩],λr=>.ag [vi r.1.kind,vi r.1.aQ.label.ay,vi r.1.aQ.label.da,vs r.1.aQ.label.a8,vs r.1.aQ.au,vi r.1.aQ.ab,.sl (r.1.aQ.bH.map aE),vi r.1.aQ.value,vi r.1.order,vi r.1.bz,vi r.1.bM,vi r.1.bj.bD,vi r.1.bj.day],λr=>[YH ⟨.of 119,3,[[.sl (r.2.b.map YQ),vi r.2.i,vi r.2.h]]⟩],cw (jE.eq_1 ..) func24 ntmps24 results24⟩
end Go.Proofs.YtdilaemengjipaaGreatDoor
