/- A part of the proof of this claim's last theorem. No condition. -/
import Derived.Test.YtbjbellffaenaaaGreatDoorCT22
import Derived.Test.YtbjbellffaenaaaGreatDoorCT23
import Derived.Test.YtbjbellffaenaaaGreatDoorCT20
set_option linter.all false
set_option maxRecDepth 10000
open Option renaming some->i,none->Zd
open Bool renaming true->Ze,false->Zf
open Decidable renaming decide->k
open List renaming length->z
open Option renaming bind->a
open _root_ renaming Int->y,Option->C,cond->b
open Go.Proofs.YtbjbellffaenaaaGreatDoor renaming aA->s,aD->D,aJ->d,aP->u,aW->J,au->w,bZ->E,bk->l,bl->F,bt->v,bw->g,cT->G,vi->j
open Go.Proofs.Tryz
set_option maxHeartbeats 40000000
namespace Go.Proofs.YtbjbellffaenaaaGreatDoor
open Go.RowKit
def dH(c:F):C (u×F):=
 a (g [0]) λ_=>
 a (nF c) λy1=>
 a (g [0]) λ_=>
 a (gy y1.2) λy2=>
 a (g [0]) λ_=>
 a (s y2.2 30000) λy3=>
 a (g [0]) λ_=>
 a (nG y3.2) λy4=>
 a (g [0]) λ_=>
 a (s y4.2 500001) λy5=>
 b (k (y2.1=y1.1.aZ))
 (a (g [0]) λ_=>
 a (cS y5.2 3) λy6=>
 b y6.1
 (a (g [0,4]) λ_=>
 a (E y6.2 ([1,500,1000,1001,5000,30000])) λy7=>
 i ((⟨y1.1,⟨#[79,83,76]⟩,y7.1,y4.1,y5.1⟩:u),y7.2.1))
 (i ((⟨y1.1,⟨#[79,83,76]⟩,(d (1+y3.1)),y4.1,y5.1⟩:u),y6.2)))
 (a (g [0]) λ_=>
 a (cS y5.2 3) λy8=>
 b y8.1
 (a (g [0,4]) λ_=>
 a (E y8.2 ([1,500,1000,1001,5000,30000])) λy9=>
 i ((⟨y1.1,y2.1,y9.1,y4.1,y5.1⟩:u),y9.2.1))
 (i ((⟨y1.1,y2.1,(d (1+y3.1)),y4.1,y5.1⟩:u),y8.2)))
instance (c:F):CT prog (dH c):=⟨81,[.be 0 0 0],[i ⟨.of 133,3,[[.sl (c.b.map Zl),j c.i,j c.h]]⟩],λr=>.ag [j r.1.label.ax,j r.1.label.bU,vs r.1.label.aZ,vs r.1.ar,j r.1.ah,.sl (r.1.bJ.map J),j r.1.value],λr=>[i ⟨.of 133,3,[[.sl (r.2.b.map Zl),j r.2.i,j r.2.h]]⟩],cw (dH.eq_1 ..) func81 ntmps81 results81⟩
def oO(c:F)(o:D):C (l×F):=
 a (g [0]) λ_=>
 a (s c 9) λy1=>
 b (k (y1.1=0))
 (b (k (y1.1=0))
 (a (g [0]) λ_=>
 a (dH y1.2) λy2=>
 a (g [0]) λ_=>
 a (s y2.2 6000) λy3=>
 a (g [0]) λ_=>
 a (s y3.2 300) λy4=>
 a (g [0]) λ_=>
 a (s y4.2 200) λy5=>
 a (g [0]) λ_=>
 a (s y5.2 200) λy6=>
 a (g [0]) λ_=>
 a (G y6.2 o.world.aa) λy7=>
 a (g [0]) λ_=>
 a (G y7.2 o.world.aa) λy8=>
 b (k (y7.1=y8.1))
 (i ((⟨1,(⟨(⟨y2.1.label.ax,y2.1.label.bU,y8.1⟩:v),⟨#[79,83,76]⟩,(d (200+y3.1)),[(d (100+y4.1)),(d (100+y5.1)),(d (50+y6.1))],y2.1.value⟩:u),0,0,0,(⟨0,0⟩:w)⟩:l),y8.2))
 (i ((⟨1,(⟨(⟨y2.1.label.ax,y2.1.label.bU,y8.1⟩:v),y7.1,(d (200+y3.1)),[(d (100+y4.1)),(d (100+y5.1)),(d (50+y6.1))],y2.1.value⟩:u),0,0,0,(⟨0,0⟩:w)⟩:l),y8.2)))
 (b (k (y1.1=3))
 (a (g [0]) λ_=>
 a (s y1.2 (d ((z o.aK:y)+1))) λy9=>
 a (eW o.lines (d (1+y9.1))) λdO=>
 a (g [0,3]) λ_=>
 a (E y9.2 ([0,0,0,100])) λlJ=>
 a (gv 1 (d (dO-lJ.1))) λlA=>
 i ((⟨2,(⟨(⟨0,0,⟨#[]⟩⟩:v),⟨#[]⟩,0,[],0⟩:u),(d (1+y9.1)),lA,0,(⟨0,0⟩:w)⟩:l),lJ.2.1))
 (b (k (y1.1=4))
 (a (g [0]) λ_=>
 a (dX y1.2 o.world) λqi=>
 i ((⟨4,(⟨(⟨0,0,⟨#[]⟩⟩:v),⟨#[]⟩,0,[],0⟩:u),0,0,0,qi.1⟩:l),qi.2))
 (b (k (y1.1=5))
 (i ((⟨5,(⟨(⟨0,0,⟨#[]⟩⟩:v),⟨#[]⟩,0,[],0⟩:u),0,0,0,(⟨0,0⟩:w)⟩:l),y1.2))
 (b (k (y1.1=6))
 (a (g [0]) λ_=>
 a (s y1.2 (d ((z o.aK:y)+1))) λoY=>
 i ((⟨6,(⟨(⟨0,0,⟨#[]⟩⟩:v),⟨#[]⟩,0,[],0⟩:u),(d (1+oY.1)),0,0,(⟨0,0⟩:w)⟩:l),oY.2))
 (a (rF 8 [4]) λ_=>
 a (g [0]) λ_=>
 a (s y1.2 90) λrT=>
 i ((⟨3,(⟨(⟨0,0,⟨#[]⟩⟩:v),⟨#[]⟩,0,[],0⟩:u),0,0,(d (o.world.now+(d (30*rT.1)))),(⟨0,0⟩:w)⟩:l),rT.2)))))))
 (b (k (y1.1=1))
 (b (k (y1.1=1))
 (a (g [0]) λ_=>
 a (dH y1.2) λpI=>
 a (g [0]) λ_=>
 a (s pI.2 6000) λtE=>
 a (g [0]) λ_=>
 a (s tE.2 300) λxT=>
 a (g [0]) λ_=>
 a (s xT.2 200) λzf=>
 a (g [0]) λ_=>
 a (s zf.2 200) λFh=>
 a (g [0]) λ_=>
 a (G Fh.2 o.world.aa) λIp=>
 a (g [0]) λ_=>
 a (G Ip.2 o.world.aa) λCw=>
 b (k (Ip.1=Cw.1))
 (i ((⟨1,(⟨(⟨pI.1.label.ax,pI.1.label.bU,Cw.1⟩:v),⟨#[79,83,76]⟩,(d (200+tE.1)),[(d (100+xT.1)),(d (100+zf.1)),(d (50+Fh.1))],pI.1.value⟩:u),0,0,0,(⟨0,0⟩:w)⟩:l),Cw.2))
 (i ((⟨1,(⟨(⟨pI.1.label.ax,pI.1.label.bU,Cw.1⟩:v),Ip.1,(d (200+tE.1)),[(d (100+xT.1)),(d (100+zf.1)),(d (50+Fh.1))],pI.1.value⟩:u),0,0,0,(⟨0,0⟩:w)⟩:l),Cw.2)))
 (b (k (y1.1=3))
 (a (g [0]) λ_=>
 a (s y1.2 (d ((z o.aK:y)+1))) λIq=>
 a (eW o.lines (d (1+Iq.1))) λy24=>
 a (g [0,3]) λ_=>
 a (E Iq.2 ([0,0,0,100])) λy25=>
 a (gv 1 (d (y24-y25.1))) λy26=>
 i ((⟨2,(⟨(⟨0,0,⟨#[]⟩⟩:v),⟨#[]⟩,0,[],0⟩:u),(d (1+Iq.1)),y26,0,(⟨0,0⟩:w)⟩:l),y25.2.1))
 (b (k (y1.1=4))
 (a (g [0]) λ_=>
 a (dX y1.2 o.world) λy27=>
 i ((⟨4,(⟨(⟨0,0,⟨#[]⟩⟩:v),⟨#[]⟩,0,[],0⟩:u),0,0,0,y27.1⟩:l),y27.2))
 (b (k (y1.1=5))
 (i ((⟨5,(⟨(⟨0,0,⟨#[]⟩⟩:v),⟨#[]⟩,0,[],0⟩:u),0,0,0,(⟨0,0⟩:w)⟩:l),y1.2))
 (b (k (y1.1=6))
 (a (g [0]) λ_=>
 a (s y1.2 (d ((z o.aK:y)+1))) λy28=>
 i ((⟨6,(⟨(⟨0,0,⟨#[]⟩⟩:v),⟨#[]⟩,0,[],0⟩:u),(d (1+y28.1)),0,0,(⟨0,0⟩:w)⟩:l),y28.2))
 (a (rF 8 [4]) λ_=>
 a (g [0]) λ_=>
 a (s y1.2 90) λy29=>
 i ((⟨3,(⟨(⟨0,0,⟨#[]⟩⟩:v),⟨#[]⟩,0,[],0⟩:u),0,0,(d (o.world.now+(d (30*y29.1)))),(⟨0,0⟩:w)⟩:l),y29.2)))))))
 (b (k (y1.1=2))
 (a (g [0]) λ_=>
 a (dH y1.2) λRM=>
 a (g [0]) λ_=>
 a (s RM.2 6000) λy31=>
 a (g [0]) λ_=>
 a (s y31.2 300) λy32=>
 a (g [0]) λ_=>
 a (s y32.2 200) λy33=>
 a (g [0]) λ_=>
 a (s y33.2 200) λy34=>
 a (g [0]) λ_=>
 a (G y34.2 o.world.aa) λy35=>
 a (g [0]) λ_=>
 a (G y35.2 o.world.aa) λy36=>
 b (k (y35.1=y36.1))
 (i ((⟨1,(⟨(⟨RM.1.label.ax,RM.1.label.bU,y36.1⟩:v),⟨#[79,83,76]⟩,(d (200+y31.1)),[(d (100+y32.1)),(d (100+y33.1)),(d (50+y34.1))],RM.1.value⟩:u),0,0,0,(⟨0,0⟩:w)⟩:l),y36.2))
 (i ((⟨1,(⟨(⟨RM.1.label.ax,RM.1.label.bU,y36.1⟩:v),y35.1,(d (200+y31.1)),[(d (100+y32.1)),(d (100+y33.1)),(d (50+y34.1))],RM.1.value⟩:u),0,0,0,(⟨0,0⟩:w)⟩:l),y36.2)))
 (b (k (y1.1=3))
 (a (g [0]) λ_=>
 a (s y1.2 (d ((z o.aK:y)+1))) λy37=>
 a (eW o.lines (d (1+y37.1))) λy38=>
 a (g [0,3]) λ_=>
 a (E y37.2 ([0,0,0,100])) λy39=>
 a (gv 1 (d (y38-y39.1))) λy40=>
 i ((⟨2,(⟨(⟨0,0,⟨#[]⟩⟩:v),⟨#[]⟩,0,[],0⟩:u),(d (1+y37.1)),y40,0,(⟨0,0⟩:w)⟩:l),y39.2.1))
 (b (k (y1.1=4))
 (a (g [0]) λ_=>
 a (dX y1.2 o.world) λy41=>
 i ((⟨4,(⟨(⟨0,0,⟨#[]⟩⟩:v),⟨#[]⟩,0,[],0⟩:u),0,0,0,y41.1⟩:l),y41.2))
 (b (k (y1.1=5))
 (i ((⟨5,(⟨(⟨0,0,⟨#[]⟩⟩:v),⟨#[]⟩,0,[],0⟩:u),0,0,0,(⟨0,0⟩:w)⟩:l),y1.2))
 (b (k (y1.1=6))
 (a (g [0]) λ_=>
 a (s y1.2 (d ((z o.aK:y)+1))) λy42=>
 i ((⟨6,(⟨(⟨0,0,⟨#[]⟩⟩:v),⟨#[]⟩,0,[],0⟩:u),(d (1+y42.1)),0,0,(⟨0,0⟩:w)⟩:l),y42.2))
 (a (rF 8 [4]) λ_=>
 a (g [0]) λ_=>
 a (s y1.2 90) λy43=>
 i ((⟨3,(⟨(⟨0,0,⟨#[]⟩⟩:v),⟨#[]⟩,0,[],0⟩:u),0,0,(d (o.world.now+(d (30*y43.1)))),(⟨0,0⟩:w)⟩:l),y43.2))))))))
instance (c:F)(o:D):CT prog (oO c o):=⟨24,[.be 0 0 0,.ag (eD o)],[i ⟨.of 133,3,[[.sl (c.b.map Zl),j c.i,j c.h]]⟩],λr=>.ag [j r.1.kind,j r.1.aM.label.ax,j r.1.aM.label.bU,vs r.1.aM.label.aZ,vs r.1.aM.ar,j r.1.aM.ah,.sl (r.1.aM.bJ.map J),j r.1.aM.value,j r.1.order,j r.1.bE,j r.1.bG,j r.1.aN.bq,j r.1.aN.day],λr=>[i ⟨.of 133,3,[[.sl (r.2.b.map Zl),j r.2.i,j r.2.h]]⟩],cw (oO.eq_1 ..) func24 ntmps24 results24⟩
def oL(c:F)(o:D):C (l×F×D):=
 a (g [0]) λ_=>
 a (s c 9) λy1=>
 b (k (y1.1=0))
 (b (k (y1.1=0))
 (a (g [0]) λ_=>
 a (dH y1.2) λy2=>
 a (g [0]) λ_=>
 a (s y2.2 6000) λy3=>
 a (g [0]) λ_=>
 a (s y3.2 300) λy4=>
 a (g [0]) λ_=>
 a (s y4.2 200) λy5=>
 a (g [0]) λ_=>
 a (s y5.2 200) λy6=>
 a (g [0]) λ_=>
 a (G y6.2 o.world.aa) λy7=>
 a (g [0]) λ_=>
 a (G y7.2 o.world.aa) λy8=>
 b (k (y7.1=y8.1))
 (i ((⟨1,(⟨(⟨y2.1.label.ax,y2.1.label.bU,y8.1⟩:v),⟨#[79,83,76]⟩,(d (200+y3.1)),[(d (100+y4.1)),(d (100+y5.1)),(d (50+y6.1))],y2.1.value⟩:u),0,0,0,(⟨0,0⟩:w)⟩:l),y8.2,o))
 (i ((⟨1,(⟨(⟨y2.1.label.ax,y2.1.label.bU,y8.1⟩:v),y7.1,(d (200+y3.1)),[(d (100+y4.1)),(d (100+y5.1)),(d (50+y6.1))],y2.1.value⟩:u),0,0,0,(⟨0,0⟩:w)⟩:l),y8.2,o)))
 (b (k (y1.1=3))
 (a (g [0]) λ_=>
 a (s y1.2 (d ((z o.aK:y)+1))) λy9=>
 a (eW o.lines (d (1+y9.1))) λdO=>
 a (g [0,5]) λ_=>
 a (E y9.2 ([0,0,0,100])) λlJ=>
 a (gv 1 (d (dO-lJ.1))) λlA=>
 i ((⟨2,(⟨(⟨0,0,⟨#[]⟩⟩:v),⟨#[]⟩,0,[],0⟩:u),(d (1+y9.1)),lA,0,(⟨0,0⟩:w)⟩:l),lJ.2.1,o))
 (b (k (y1.1=4))
 (a (g [0]) λ_=>
 a (dX y1.2 o.world) λqi=>
 i ((⟨4,(⟨(⟨0,0,⟨#[]⟩⟩:v),⟨#[]⟩,0,[],0⟩:u),0,0,0,qi.1⟩:l),qi.2,o))
 (b (k (y1.1=5))
 (i ((⟨5,(⟨(⟨0,0,⟨#[]⟩⟩:v),⟨#[]⟩,0,[],0⟩:u),0,0,0,(⟨0,0⟩:w)⟩:l),y1.2,o))
 (b (k (y1.1=6))
 (a (g [0]) λ_=>
 a (s y1.2 (d ((z o.aK:y)+1))) λoY=>
 i ((⟨6,(⟨(⟨0,0,⟨#[]⟩⟩:v),⟨#[]⟩,0,[],0⟩:u),(d (1+oY.1)),0,0,(⟨0,0⟩:w)⟩:l),oY.2,o))
 (a (rF 8 [4]) λ_=>
 a (g [0]) λ_=>
 a (s y1.2 90) λrT=>
 i ((⟨3,(⟨(⟨0,0,⟨#[]⟩⟩:v),⟨#[]⟩,0,[],0⟩:u),0,0,(d (o.world.now+(d (30*rT.1)))),(⟨0,0⟩:w)⟩:l),rT.2,o)))))))
 (b (k (y1.1=1))
 (b (k (y1.1=1))
 (a (g [0]) λ_=>
 a (dH y1.2) λpI=>
 a (g [0]) λ_=>
 a (s pI.2 6000) λtE=>
 a (g [0]) λ_=>
 a (s tE.2 300) λxT=>
 a (g [0]) λ_=>
 a (s xT.2 200) λzf=>
 a (g [0]) λ_=>
 a (s zf.2 200) λFh=>
 a (g [0]) λ_=>
 a (G Fh.2 o.world.aa) λIp=>
 a (g [0]) λ_=>
 a (G Ip.2 o.world.aa) λCw=>
 b (k (Ip.1=Cw.1))
 (i ((⟨1,(⟨(⟨pI.1.label.ax,pI.1.label.bU,Cw.1⟩:v),⟨#[79,83,76]⟩,(d (200+tE.1)),[(d (100+xT.1)),(d (100+zf.1)),(d (50+Fh.1))],pI.1.value⟩:u),0,0,0,(⟨0,0⟩:w)⟩:l),Cw.2,o))
 (i ((⟨1,(⟨(⟨pI.1.label.ax,pI.1.label.bU,Cw.1⟩:v),Ip.1,(d (200+tE.1)),[(d (100+xT.1)),(d (100+zf.1)),(d (50+Fh.1))],pI.1.value⟩:u),0,0,0,(⟨0,0⟩:w)⟩:l),Cw.2,o)))
 (b (k (y1.1=3))
 (a (g [0]) λ_=>
 a (s y1.2 (d ((z o.aK:y)+1))) λIq=>
 a (eW o.lines (d (1+Iq.1))) λy24=>
 a (g [0,5]) λ_=>
 a (E Iq.2 ([0,0,0,100])) λy25=>
 a (gv 1 (d (y24-y25.1))) λy26=>
 i ((⟨2,(⟨(⟨0,0,⟨#[]⟩⟩:v),⟨#[]⟩,0,[],0⟩:u),(d (1+Iq.1)),y26,0,(⟨0,0⟩:w)⟩:l),y25.2.1,o))
 (b (k (y1.1=4))
 (a (g [0]) λ_=>
 a (dX y1.2 o.world) λy27=>
 i ((⟨4,(⟨(⟨0,0,⟨#[]⟩⟩:v),⟨#[]⟩,0,[],0⟩:u),0,0,0,y27.1⟩:l),y27.2,o))
 (b (k (y1.1=5))
 (i ((⟨5,(⟨(⟨0,0,⟨#[]⟩⟩:v),⟨#[]⟩,0,[],0⟩:u),0,0,0,(⟨0,0⟩:w)⟩:l),y1.2,o))
 (b (k (y1.1=6))
 (a (g [0]) λ_=>
 a (s y1.2 (d ((z o.aK:y)+1))) λy28=>
 i ((⟨6,(⟨(⟨0,0,⟨#[]⟩⟩:v),⟨#[]⟩,0,[],0⟩:u),(d (1+y28.1)),0,0,(⟨0,0⟩:w)⟩:l),y28.2,o))
 (a (rF 8 [4]) λ_=>
 a (g [0]) λ_=>
 a (s y1.2 90) λy29=>
 i ((⟨3,(⟨(⟨0,0,⟨#[]⟩⟩:v),⟨#[]⟩,0,[],0⟩:u),0,0,(d (o.world.now+(d (30*y29.1)))),(⟨0,0⟩:w)⟩:l),y29.2,o)))))))
 (b (k (y1.1=2))
 (a (g [0]) λ_=>
 a (dH y1.2) λRM=>
 a (g [0]) λ_=>
 a (s RM.2 6000) λy31=>
 a (g [0]) λ_=>
 a (s y31.2 300) λy32=>
 a (g [0]) λ_=>
 a (s y32.2 200) λy33=>
 a (g [0]) λ_=>
 a (s y33.2 200) λy34=>
 a (g [0]) λ_=>
 a (G y34.2 o.world.aa) λy35=>
 a (g [0]) λ_=>
 a (G y35.2 o.world.aa) λy36=>
 b (k (y35.1=y36.1))
 (i ((⟨1,(⟨(⟨RM.1.label.ax,RM.1.label.bU,y36.1⟩:v),⟨#[79,83,76]⟩,(d (200+y31.1)),[(d (100+y32.1)),(d (100+y33.1)),(d (50+y34.1))],RM.1.value⟩:u),0,0,0,(⟨0,0⟩:w)⟩:l),y36.2,o))
 (i ((⟨1,(⟨(⟨RM.1.label.ax,RM.1.label.bU,y36.1⟩:v),y35.1,(d (200+y31.1)),[(d (100+y32.1)),(d (100+y33.1)),(d (50+y34.1))],RM.1.value⟩:u),0,0,0,(⟨0,0⟩:w)⟩:l),y36.2,o)))
 (b (k (y1.1=3))
 (a (g [0]) λ_=>
 a (s y1.2 (d ((z o.aK:y)+1))) λy37=>
 a (eW o.lines (d (1+y37.1))) λy38=>
 a (g [0,5]) λ_=>
 a (E y37.2 ([0,0,0,100])) λy39=>
 a (gv 1 (d (y38-y39.1))) λy40=>
 i ((⟨2,(⟨(⟨0,0,⟨#[]⟩⟩:v),⟨#[]⟩,0,[],0⟩:u),(d (1+y37.1)),y40,0,(⟨0,0⟩:w)⟩:l),y39.2.1,o))
 (b (k (y1.1=4))
 (a (g [0]) λ_=>
 a (dX y1.2 o.world) λy41=>
 i ((⟨4,(⟨(⟨0,0,⟨#[]⟩⟩:v),⟨#[]⟩,0,[],0⟩:u),0,0,0,y41.1⟩:l),y41.2,o))
 (b (k (y1.1=5))
 (i ((⟨5,(⟨(⟨0,0,⟨#[]⟩⟩:v),⟨#[]⟩,0,[],0⟩:u),0,0,0,(⟨0,0⟩:w)⟩:l),y1.2,o))
 (b (k (y1.1=6))
 (a (g [0]) λ_=>
 a (s y1.2 (d ((z o.aK:y)+1))) λy42=>
 i ((⟨6,(⟨(⟨0,0,⟨#[]⟩⟩:v),⟨#[]⟩,0,[],0⟩:u),(d (1+y42.1)),0,0,(⟨0,0⟩:w)⟩:l),y42.2,o))
 (a (rF 8 [4]) λ_=>
 a (g [0]) λ_=>
 a (s y1.2 90) λy43=>
 i ((⟨3,(⟨(⟨0,0,⟨#[]⟩⟩:v),⟨#[]⟩,0,[],0⟩:u),0,0,(d (o.world.now+(d (30*y43.1)))),(⟨0,0⟩:w)⟩:l),y43.2,o))))))))
instance (c:F)(o:D):CT prog (oL c o):=⟨24,[.be 0 0 0,.ag [.sl (o.world.aa.aC.map cY),.sl (o.world.aa.off.map J),j o.world.aa.change,.sl (o.world.ae.map bx),.sl (o.world.av.map aG),.sl (o.world.ak.map bg),j o.world.now,.sl (o.world.aL.map bA),.sl (o.world.skip.map J),j o.world.br,.sl (o.bb.map dV),.sl (o.bd.map dK),.sl (o.aU.map J),.ms 1,.sl (o.lines.map bV),.ms 2]],[i ⟨.of 133,3,[[.sl (c.b.map Zl),j c.i,j c.h]]⟩,i ⟨.of 58,7,o.aK.map cd⟩,i ⟨.of 60,13,o.aF.map fQ⟩],λr=>.ag [j r.1.kind,j r.1.aM.label.ax,j r.1.aM.label.bU,vs r.1.aM.label.aZ,vs r.1.aM.ar,j r.1.aM.ah,.sl (r.1.aM.bJ.map J),j r.1.aM.value,j r.1.order,j r.1.bE,j r.1.bG,j r.1.aN.bq,j r.1.aN.day],λr=>[i ⟨.of 133,3,[[.sl (r.2.1.b.map Zl),j r.2.1.i,j r.2.1.h]]⟩,i ⟨.of 58,7,r.2.2.aK.map cd⟩,i ⟨.of 60,13,r.2.2.aF.map fQ⟩],cw (oL.eq_1 ..) func24 ntmps24 results24⟩
def kT(c:F)(o:D):C (l×F×D):=
 a (g [0,1,2]) λ_=>
 a (oL c o) λy1=>
 a (g [0]) λ_=>
 a (s y1.2.1 12) λy2=>
 b (k (y2.1=0))
 (a (g [0]) λ_=>
 a (s y2.2 9) λy3=>
 i ((⟨y3.1,y1.1.aM,y1.1.order,y1.1.bE,y1.1.bG,y1.1.aN⟩:l),y3.2,(⟨o.world,o.bb,o.bd,o.aU,y1.2.2.aK,o.lines,y1.2.2.aF⟩:D)))
 (b (k (y2.1=1))
 (a (g [0,6]) λ_=>
 a (E y2.2 ([0,1,9999,10000])) λy4=>
 i ((⟨y1.1.kind,y1.1.aM,y4.1,y1.1.bE,y1.1.bG,y1.1.aN⟩:l),y4.2.1,(⟨o.world,o.bb,o.bd,o.aU,y1.2.2.aK,o.lines,y1.2.2.aF⟩:D)))
 (b (k (y2.1=2))
 (a (g [0,6]) λ_=>
 a (E y2.2 ([0,1,100000,100001])) λy5=>
 i ((⟨y1.1.kind,y1.1.aM,y1.1.order,y5.1,y1.1.bG,y1.1.aN⟩:l),y5.2.1,(⟨o.world,o.bb,o.bd,o.aU,y1.2.2.aK,o.lines,y1.2.2.aF⟩:D)))
 (b (k (y2.1=3))
 (a (g [0,6]) λ_=>
 a (E y2.2 ([(-1),0,100000,100001])) λy6=>
 i ((⟨y1.1.kind,y1.1.aM,y1.1.order,y1.1.bE,y6.1,y1.1.aN⟩:l),y6.2.1,(⟨o.world,o.bb,o.bd,o.aU,y1.2.2.aK,o.lines,y1.2.2.aF⟩:D)))
 (b (k (y2.1=4))
 (a (g [0,6]) λ_=>
 a (E y2.2 ([(-1),0,19,20])) λy7=>
 a (g [0,7]) λ_=>
 a (E y7.2.1 ([0,60,61])) λy8=>
 i ((⟨y1.1.kind,y1.1.aM,y1.1.order,y1.1.bE,y1.1.bG,(⟨y7.1,y8.1⟩:w)⟩:l),y8.2.1,(⟨o.world,o.bb,o.bd,o.aU,y1.2.2.aK,o.lines,y1.2.2.aF⟩:D)))
 (b (k (y2.1=5))
 (i ((⟨y1.1.kind,(⟨y1.1.aM.label,y1.1.aM.ar,(d (y1.1.aM.ah+1)),y1.1.aM.bJ,y1.1.aM.value⟩:u),y1.1.order,y1.1.bE,y1.1.bG,y1.1.aN⟩:l),y2.2,(⟨o.world,o.bb,o.bd,o.aU,y1.2.2.aK,o.lines,y1.2.2.aF⟩:D)))
 (i (y1.1,y2.2,(⟨o.world,o.bb,o.bd,o.aU,y1.2.2.aK,o.lines,y1.2.2.aF⟩:D))))))))
instance (c:F)(o:D):CT prog (kT c o):=⟨26,[.be 0 0 0,.ag [.sl (o.world.aa.aC.map cY),.sl (o.world.aa.off.map J),j o.world.aa.change,.sl (o.world.ae.map bx),.sl (o.world.av.map aG),.sl (o.world.ak.map bg),j o.world.now,.sl (o.world.aL.map bA),.sl (o.world.skip.map J),j o.world.br,.sl (o.bb.map dV),.sl (o.bd.map dK),.sl (o.aU.map J),.ms 1,.sl (o.lines.map bV),.ms 2]],[i ⟨.of 133,3,[[.sl (c.b.map Zl),j c.i,j c.h]]⟩,i ⟨.of 58,7,o.aK.map cd⟩,i ⟨.of 60,13,o.aF.map fQ⟩],λr=>.ag [j r.1.kind,j r.1.aM.label.ax,j r.1.aM.label.bU,vs r.1.aM.label.aZ,vs r.1.aM.ar,j r.1.aM.ah,.sl (r.1.aM.bJ.map J),j r.1.aM.value,j r.1.order,j r.1.bE,j r.1.bG,j r.1.aN.bq,j r.1.aN.day],λr=>[i ⟨.of 133,3,[[.sl (r.2.1.b.map Zl),j r.2.1.i,j r.2.1.h]]⟩,i ⟨.of 58,7,r.2.2.aK.map cd⟩,i ⟨.of 60,13,r.2.2.aF.map fQ⟩],cw (kT.eq_1 ..) func26 ntmps26 results26⟩
