/- A part of the proof of this claim's last theorem. No condition. -/
import Derived.Test.YtbjbellffaenaaaGreatDoorCT10
import Derived.Test.YtbjbellffaenaaaGreatDoorCT5
set_option linter.all false
set_option maxRecDepth 10000
open Option renaming some->i,none->Zd
open Bool renaming true->Ze,false->Zf
open Decidable renaming decide->s
open List renaming length->u
open Option renaming bind->o
open _root_ renaming List->b,Option->d,cond->g
open Go.Proofs.Tryz
set_option maxHeartbeats 40000000
namespace Go.Proofs.YtbjbellffaenaaaGreatDoor
open Go.RowKit
def jh(l:b bf)(order:Int):d Int:=
 o (eP l) λy1=>
 g (!y1)
 (i 0)
 (o (dL l order 1) λy2=>
 o (dL l order 2) λy3=>
 i (aJ (y2-y3)))
instance (l:b bf)(order:Int):CT prog (jh l order):=⟨44,[.sl (l.map bV),vi order],[],λr=>vi r,λr=>[],cw (jh.eq_1 ..) func44 ntmps44 results44⟩
def pN(l:b bf)(order:Int)(bE:Int)(cQ:Int):d ((b bf)×Int):=
 o (eP l) λy1=>
 g (!y1)
 (o (bO l) λy2=>
 i (y2,1))
 (o (nV (⟨order,2,bE,cQ⟩:bf)) λy3=>
 g (!y3)
 (o (bO l) λy4=>
 i (y4,1))
 (o (dL l order 1) λy5=>
 g (s (y5=0))
 (o (bO l) λy6=>
 i (y6,3))
 (o (jh l order) λy7=>
 g (s (y7<bE))
 (o (bO l) λy8=>
 i (y8,4))
 (o (lY l (⟨order,2,bE,cQ⟩:bf)) λy9=>
 i (y9.1,y9.2)))))
instance (l:b bf)(order:Int)(bE:Int)(cQ:Int):CT prog (pN l order bE cQ):=⟨113,[.sl (l.map bV),vi order,vi bE,vi cQ],[],λr=>.tu [.ms 0,vi r.2],λr=>[i ⟨.of 82,4,r.1.map bV⟩],cw (pN.eq_1 ..) func113 ntmps113 results113⟩
def kl(w:aw)(xK:Int)(s0:Int×Int):d ((Int×Int)⊕Int):=
 g (s (s0.2<(u w.ae:Int)))
 (o (az w.ae s0.2) λy1=>
 g (s (y1.state=xK))
 (i (.inl ((aJ (s0.1+1)),(aJ (s0.2+1)))))
 (i (.inl (s0.1,(aJ (s0.2+1))))))
 (i (.inr s0.1))
instance (w:aw)(xK:Int):bm (kl w xK):=⟨λs0=>(.un::vi xK::(U 3 (vi s0.1::(U 3 (.sl (w.ae.map bx)::vi (u w.ae:Int)::vi s0.2::(U 11 [])))))),λs0=>[]⟩
def nh(w:aw)(xK:Int):d Int:=
 (aB (kl w xK) NN (0,0)).bind (λo0=>
 i o0)
instance (w:aw)(xK:Int):CT prog (nh w xK):=⟨36,[.ag (cL w),vi xK],[],λr=>vi r,λr=>[],cw (nh.eq_1 ..) func36 ntmps36 results36⟩
def r9(l:b au)(t:au)(s0:Int):d (Int⊕(Unit⊕Bool)):=
 g (s (s0<(u l:Int)))
 (o (az l s0) λy1=>
 g (s (y1=t))
 (i (.inr (.inr Ze)))
 (i (.inl (aJ (s0+1)))))
 (i (.inr (.inl ())))
instance (l:b au)(t:au):bm (r9 l t):=⟨λs0=>(.sl (l.map bg)::.un::.un::.be 0 0 0::.un::vi s0::(U 12 [])),λs0=>[i ⟨.of 48,2,[[vi t.bq,vi t.day]]⟩]⟩
def re(l:b au)(t:au):d Bool:=
 (aB (r9 l t) NN 0).bind (bj (λo0=>
 i Zf) (λr=>i r))
instance (l:b au)(t:au):CT prog (re l t):=⟨12,[.sl (l.map bg),.ag (bg t)],[],λr=>vb r,λr=>[],cw (re.eq_1 ..) func12 ntmps12 results12⟩
def gF(p:aP):d aP:=
 o (cf (bn (u (([]:b Int):b Int)+u (p.bJ:b Int)) 8)) λ_=>
 i (⟨p.label,p.ar,p.ah,((([]:b Int):b Int)++p.bJ),p.value⟩:aP)
instance (p:aP):CT prog (gF p):=⟨89,[.ag (cd p)],[],λr=>.ag [vi r.label.ax,vi r.label.bU,vs r.label.aZ,vs r.ar,vi r.ah,.ms 0,vi r.value],λr=>[i ⟨.of 3,1,r.bJ.map aW⟩],ck (gF.eq_1 ..) func89 ntmps89 results89⟩
def fw(a:bk):d bk:=
 o (gF a.aM) λy1=>
 i (⟨a.kind,y1,a.order,a.bE,a.bG,a.aN⟩:bk)
instance (a:bk):CT prog (fw a):=⟨54,[.ag (fQ a)],[],λr=>.ag [vi r.kind,vi r.aM.label.ax,vi r.aM.label.bU,vs r.aM.label.aZ,vs r.aM.ar,vi r.aM.ah,.ms 0,vi r.aM.value,vi r.order,vi r.bE,vi r.bG,vi r.aN.bq,vi r.aN.day],λr=>[i ⟨.of 3,1,r.aM.bJ.map aW⟩],ck (fw.eq_1 ..) func54 ntmps54 results54⟩
def qY(l:b bf)(s0:Int×Int):d ((Int×Int)⊕Int):=
 g (s (s0.2<(u l:Int)))
 (o (az l s0.2) λy2=>
 g (s (y2.kind=2))
 (i (.inl ((aJ (s0.1+y2.bE)),(aJ (s0.2+1)))))
 (g (s (y2.kind=3))
 (i (.inl ((aJ (s0.1-y2.bE)),(aJ (s0.2+1)))))
 (i (.inl (s0.1,(aJ (s0.2+1)))))))
 (i (.inr s0.1))
instance (l:b bf):bm (qY l):=⟨λs0=>(U 3 (vi s0.1::(U 5 (.sl (l.map bV)::vi (u l:Int)::vi s0.2::(U 19 []))))),λs0=>[]⟩
def rI(l:b bf):d Int:=
 o (eP l) λy1=>
 g (!y1)
 (i 0)
 ((aB (qY l) NN (0,0)).bind (λo0=>
 i o0))
instance (l:b bf):CT prog (rI l):=⟨46,[.sl (l.map bV)],[],λr=>vi r,λr=>[],cw (rI.eq_1 ..) func46 ntmps46 results46⟩
