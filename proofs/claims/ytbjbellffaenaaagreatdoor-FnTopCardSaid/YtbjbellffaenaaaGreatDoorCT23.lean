/- A part of the proof of this claim's last theorem. No condition. -/
import Derived.Test.YtbjbellffaenaaaGreatDoorCT15
import Derived.Test.YtbjbellffaenaaaGreatDoorCT13
set_option linter.all false
set_option maxRecDepth 10000
open Option renaming some->d,none->Zd
open Bool renaming true->Ze,false->Zf
open Decidable renaming decide->j
open List renaming length->Zm
open Option renaming bind->a
open _root_ renaming List->s,Option->g,cond->b
open Go.Proofs.Tryz
set_option maxHeartbeats 40000000
namespace Go.Proofs.YtbjbellffaenaaaGreatDoor
open Go.RowKit
def lF(c:bl)(n:ab):g (au×bl):=
 a (bw [0]) λ_=>
 a (aA c (Zm n.aC:Int)) λy1=>
 a (bw [0]) λ_=>
 a (aA y1.2 10) λy2=>
 a (ly n y1.1 (aJ (y2.1*1440))) λy3=>
 b (j (0<=y3))
 (a (bw [0]) λ_=>
 a (cS y2.2 4) λy4=>
 b (!y4.1)
 (d ((⟨y1.1,y3⟩:au),y4.2))
 (d ((⟨y1.1,y2.1⟩:au),y4.2)))
 (d ((⟨y1.1,y2.1⟩:au),y2.2))
instance (c:bl)(n:ab):CT prog (lF c n):=⟨154,[.be 0 0 0,.ag (aT n)],[d ⟨.of 133,3,[[.sl (c.b.map Zl),vi c.i,vi c.h]]⟩],λr=>.ag [vi r.1.bq,vi r.1.day],λr=>[d ⟨.of 133,3,[[.sl (r.2.b.map Zl),vi r.2.i,vi r.2.h]]⟩],cw (lF.eq_1 ..) func154 ntmps154 results154⟩
def dX(c:bl)(w:aw):g (au×bl):=
 b (j (0<(Zm w.av:Int)))
 (a (bw [0]) λ_=>
 a (cS c 4) λy1=>
 b (!y1.1)
 (a (rF 8 [6]) λ_=>
 a (bw [0]) λ_=>
 a (aA y1.2 (Zm w.av:Int)) λy2=>
 a (az w.av y2.1) λy3=>
 d (y3.aN,y2.2))
 (a (bw [0]) λ_=>
 a (lF y1.2 w.aa) λy4=>
 d (y4.1,y4.2)))
 (a (bw [0]) λ_=>
 a (lF c w.aa) λy5=>
 d (y5.1,y5.2))
instance (c:bl)(w:aw):CT prog (dX c w):=⟨86,[.be 0 0 0,.ag (cL w)],[d ⟨.of 133,3,[[.sl (c.b.map Zl),vi c.i,vi c.h]]⟩],λr=>.ag [vi r.1.bq,vi r.1.day],λr=>[d ⟨.of 133,3,[[.sl (r.2.b.map Zl),vi r.2.i,vi r.2.h]]⟩],cw (dX.eq_1 ..) func86 ntmps86 results86⟩
def nG(c:bl):g ((s Int)×bl):=
 a (bw [0]) λ_=>
 a (aA c 600) λy1=>
 a (bw [0]) λ_=>
 a (aA y1.2 400) λy2=>
 a (bw [0]) λ_=>
 a (aA y2.2 300) λy3=>
 d ([(aJ (1+y1.1)),(aJ (1+y2.1)),(aJ (1+y3.1))],y3.2)
instance (c:bl):CT prog (nG c):=⟨152,[.be 0 0 0],[d ⟨.of 133,3,[[.sl (c.b.map Zl),vi c.i,vi c.h]]⟩],λr=>.ms 1,λr=>[d ⟨.of 133,3,[[.sl (r.2.b.map Zl),vi r.2.i,vi r.2.h]]⟩,d ⟨.of 3,1,r.1.map aW⟩],cw (nG.eq_1 ..) func152 ntmps152 results152⟩
def jW(c:bl):g ((s Int)×bl):=
 a (bw [0]) λ_=>
 a (aA c 5) λy1=>
 b (j (y1.1=0))
 (d ([25,50,100],y1.2))
 (b (j (y1.1=1))
 (d ([10],y1.2))
 (b (j (y1.1=2))
 (d ([0,100],y1.2))
 (b (j (y1.1=3))
 (d ([0],y1.2))
 (b (j (y1.1=4))
 (d ([1,1,2,3,50,100],y1.2))
 (Zd)))))
instance (c:bl):CT prog (jW c):=⟨72,[.be 0 0 0],[d ⟨.of 133,3,[[.sl (c.b.map Zl),vi c.i,vi c.h]]⟩],λr=>.sl (r.1.map aW),λr=>[d ⟨.of 133,3,[[.sl (r.2.b.map Zl),vi r.2.i,vi r.2.h]]⟩],cw (jW.eq_1 ..) func72 ntmps72 results72⟩
def qF(n:ab)(l:s aq)(t:au):g Int:=
 a (iB n l) λy1=>
 b (!y1)
 (d (-1))
 (a (db n t) λy2=>
 b (!y2)
 (d (-1))
 (a (az n.aC t.bq) λy3=>
 a (kg l t) λy4=>
 d (aJ (y3.jb-y4))))
instance (n:ab)(l:s aq)(t:au):CT prog (qF n l t):=⟨11,[.ag (aT n),.sl (l.map aG),.ag (bg t)],[],λr=>vi r,λr=>[],cw (qF.eq_1 ..) func11 ntmps11 results11⟩
def pO(n:ab)(t:au):g Int:=
 a (db n t) λy1=>
 b (!y1)
 (d (-1))
 (a (ca n t) λy2=>
 d y2)
instance (n:ab)(t:au):CT prog (pO n t):=⟨13,[.ag (aT n),.ag (bg t)],[],λr=>vi r,λr=>[],cw (pO.eq_1 ..) func13 ntmps13 results13⟩
