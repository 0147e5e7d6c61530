/- A part of the proof of this claim's last theorem. No condition. -/
import Derived.Test.YtbjbellffaenaaaGreatDoorCT22
import Derived.Test.YtbjbellffaenaaaGreatDoorCT19
import Derived.Test.YtbjbellffaenaaaGreatDoorCT20
set_option linter.all false
set_option maxRecDepth 10000
open Option renaming some->b,none->Zd
open Bool renaming true->Ze,false->y
open Decidable renaming decide->Zg
open List renaming length->v
open Option renaming bind->l
open _root_ renaming ByteArray->j,Int->d,List->s,Nat->u,cond->g
open Go.Proofs.Tryz
set_option maxHeartbeats 40000000
namespace Go.Proofs.YtbjbellffaenaaaGreatDoor
open List renaming getElem?_eq_some_iff->VT
open Go.RowKit
variable {a:d}{i:u}{n:ab}{o:ay}
def dQ(w:aw)(cM:j)(aZ:j)(ax:d)(ah:d):Option (aw×d×Bool):=
 l (fq w) λy1=>
 l (gH w) λy2=>
 g (!y2)
 (b (y1,0,y))
 (g (Zg (30<=(v w.ae:d)))
 (b (y1,0,y))
 (g (Zg (cM=aZ))
 (b (y1,0,y))
 (l (bh ax 1 3) λy3=>
 g (!y3)
 (b (y1,0,y))
 (l (bh ah 1 30000) λy4=>
 g (!y4)
 (b (y1,0,y))
 (l (bI w.aa w.av w.ak cM aZ (aJ (w.now+1)) ah) λy5=>
 l (cG w.aa w.av (aJ ((v w.ae:d)+1)) ah y5.1) λy6=>
 g (!y5.2)
 (b (y1,0,y))
 (g (!y6.2)
 (b (y1,0,y))
 (l (iS w.aa ax cM aZ (aJ (w.now+1))) λy7=>
 l (Ev (.un::vs cM::(U 3 (.be 0 0 0::(U 4 (.be 1 0 0::.un::.un::.be 2 0 0::.un::.un::vi (aJ ((v w.ae:d)+1))::.un::.un::.be 10 0 0::(U 99 [])))))) [b ⟨.of 33,10,[cL w]⟩,b ⟨.of 33,10,[zg]⟩,b ⟨.of 33,10,[[.ms 3,.ms 4,vi y1.aa.change,.ms 5,.ms 6,.ms 7,vi y1.now,.ms 8,.ms 9,vi y1.br]]⟩,b ⟨.of 101,6,y1.aa.aC.map cY⟩,b ⟨.of 3,1,y1.aa.off.map aW⟩,b ⟨.of 63,11,y1.ae.map bx⟩,b ⟨.of 50,4,y6.1.map aG⟩,b ⟨.of 48,2,y1.ak.map bg⟩,b ⟨.of 89,6,y1.aL.map bA⟩,b ⟨.of 3,1,y1.skip.map aW⟩,b ⟨.of 63,11,[[vs cM,vs aZ,vi ax,vi ah,vi w.now,vi y7,.sl (y5.1.map bg),vi 0,vi 1,vs cM,vi 0]]⟩]) λ_=>
 l (cf (bn (v (y1.ae:s ay)+v ([(⟨cM,aZ,ax,ah,w.now,y7,y5.1,0,1,cM,0⟩:ay)]:s ay)) 128)) λ_=>
 l (bw [2,3,4,12,6,7,8,9]) λ_=>
 l (fy (⟨y1.aa,((y1.ae:s ay)++[(⟨cM,aZ,ax,ah,w.now,y7,y5.1,0,1,cM,0⟩:ay)]),y6.1,y1.ak,y1.now,y1.aL,y1.skip,y1.br⟩:aw) (⟨(aJ ((v w.ae:d)+1)),w.now,1,cM,(⟨0,0⟩:au)⟩:aI)) λy8=>
 b (y8,(aJ ((v w.ae:d)+1)),Ze))))))))
instance (w:aw)(cM:j)(aZ:j)(ax:d)(ah:d):CT prog (dQ w cM aZ ax ah):=⟨208,[.ag (cL w),vs cM,vs aZ,vi ax,vi ah],[],λr=>.tu [.ag [.ms 0,.ms 1,vi r.1.aa.change,.ms 2,.ms 3,.ms 4,vi r.1.now,.ms 5,.ms 6,vi r.1.br],vi r.2.1,vb r.2.2],λr=>[b ⟨.of 101,6,r.1.aa.aC.map cY⟩,b ⟨.of 3,1,r.1.aa.off.map aW⟩,b ⟨.of 63,11,r.1.ae.map bx⟩,b ⟨.of 50,4,r.1.av.map aG⟩,b ⟨.of 48,2,r.1.ak.map bg⟩,b ⟨.of 89,6,r.1.aL.map bA⟩,b ⟨.of 3,1,r.1.skip.map aW⟩],cw (dQ.eq_1 ..) func208 ntmps208 results208⟩
def nE(o:aD)(p:aP):Option (d×aD):=
 l (js o.bb o.bd p) λy1=>
 g (!y1.2)
 (b (2,o))
 (g (Zg (y1.1=0))
 (b (2,o))
 (l (rF 8 []) λ_=>
 l (dQ o.world p.ar p.label.aZ p.label.ax p.ah) λy2=>
 g (!y2.2.2)
 (b (3,o))
 (l (mf o.lines y2.2.1 y1.1 y2.1.now) λy3=>
 g (!decide (y3.2=0))
 (b (4,o))
 (l (iT p) λy4=>
 l (cf (bn (v (o.aK:s aP)+v ([y4]:s aP)) 88)) λ_=>
 b (0,(⟨y2.1,o.bb,o.bd,o.aU,((o.aK:s aP)++[y4]),y3.1,o.aF⟩:aD))))))
instance (o:aD)(p:aP):CT prog (nE o p):=⟨145,[.be 0 0 0,.ag (cd p)],[b ⟨.of 40,16,[[.sl (o.world.aa.aC.map cY),.sl (o.world.aa.off.map aW),vi o.world.aa.change,.sl (o.world.ae.map bx),.sl (o.world.av.map aG),.sl (o.world.ak.map bg),vi o.world.now,.sl (o.world.aL.map bA),.sl (o.world.skip.map aW),vi o.world.br,.ms 1,.ms 2,.ms 3,.ms 4,.ms 5,.ms 6]]⟩,b ⟨.of 124,2,o.bb.map dV⟩,b ⟨.of 127,4,o.bd.map dK⟩,b ⟨.of 3,1,o.aU.map aW⟩,b ⟨.of 58,7,o.aK.map cd⟩,b ⟨.of 82,4,o.lines.map bV⟩,b ⟨.of 60,13,o.aF.map fQ⟩],λr=>vi r.1,λr=>[b ⟨.of 40,16,[[.sl (r.2.world.aa.aC.map cY),.sl (r.2.world.aa.off.map aW),vi r.2.world.aa.change,.sl (r.2.world.ae.map bx),.sl (r.2.world.av.map aG),.sl (r.2.world.ak.map bg),vi r.2.world.now,.sl (r.2.world.aL.map bA),.sl (r.2.world.skip.map aW),vi r.2.world.br,.ms 1,.ms 2,.ms 3,.ms 7,.ms 8,.ms 6]]⟩,b ⟨.of 124,2,r.2.bb.map dV⟩,b ⟨.of 127,4,r.2.bd.map dK⟩,b ⟨.of 3,1,r.2.aU.map aW⟩,Zd,Zd,b ⟨.of 60,13,r.2.aF.map fQ⟩,b ⟨.of 58,7,r.2.aK.map cd⟩,b ⟨.of 82,4,r.2.lines.map bV⟩],cw (nE.eq_1 ..) func145 ntmps145 results145⟩
def ja(n:ab)(i:u)(t:au):aI:=⟨((i+1:u):d),bY n t,3,⟨#[]⟩,t⟩
def mG(n:ab)(i:u)(t:au):aI:=⟨((i+1:u):d),cH n t,2,⟨#[]⟩,t⟩
def my(n:ab)(i:u)(o:ay):s aI:=
 (⟨((i+1:u):d),o.aQ,1,o.ar,⟨0,0⟩⟩:aI)::((o.aE.take o.aH.toNat).flatMap λt=>[ja n i t,mG n i t]) ++
  (if o.state=2 then((o.aE[o.aH.toNat]?).map (ja n i)).toList else if o.state=3 then [⟨((i+1:u):d),o.bK,4,o.aZ,⟨0,0⟩⟩]else [])
theorem OR(hg:0<=o.aH):my n i (cK n a o)=my n i o++gX n a i o:=by
 unfold cK gX
 cases ht:o.aE[o.aH.toNat]? with
 |none=>simp
 |some t=>
  simp only
  by_cases hc:o.state=2/\cH n t=a
  ·rw[if_pos hc,if_pos hc]
   have bD:=(VT.1 ht).1;have hte:o.aE[o.aH.toNat]=t:=(VT.1 ht).2;have Nl:o.aE.take (o.aH+1).toNat=o.aE.take o.aH.toNat++[t]:=by
    rw[show(o.aH+1).toNat=o.aH.toNat+1 by omega,List.take_succ_eq_append_getElem bD,hte]
   have h3:¬o.state=3:=YA;obtain⟨h2,he⟩:=hc;subst he;unfold Es
   by_cases zL:bB n t=o.aZ
   ·rw[if_pos zL,if_pos zL]
    unfold my mG ja
    simp_all
   ·rw[if_neg zL,if_neg zL]
    unfold my mG ja
    simp_all
  grind
theorem VG:my n i (oZ n a o)=my n i o++pq n a i o:=by
 unfold oZ pq
 cases ht:o.aE[o.aH.toNat]? with
 |none=>simp
 |some t=>
  simp only
  by_cases hc:o.state=1/\bY n t=a
  ·rw[if_pos hc,if_pos hc]
   obtain⟨h1,ha⟩:=hc;subst ha;unfold my ja
   simp_all
  grind
