/- A part of the proof of this claim's last theorem. No condition. -/
import Derived.Test.YtbjbellffaenaaaGreatDoorCT10
import Derived.Test.YtbjbellffaenaaaGreatDoorCT5
import Derived.Test.YtbjbellffaenaaaGreatDoorCT7
set_option linter.all false
set_option maxRecDepth 10000
open Option renaming some->s,none->Zd
open Bool renaming true->Ze,false->D
open Decidable renaming decide->z
open List renaming length->C
open Option renaming bind->v
open _root_ renaming List->d,Option->g,cond->u
open Go.Proofs.YtbjbellffaenaaaGreatDoor renaming CT->K,aI->E,aJ->G,aq->F,az->J,bf->L,vi->y
open Go.Proofs.Tryz
set_option maxHeartbeats 40000000
namespace Go.Proofs.YtbjbellffaenaaaGreatDoor
open Go.RowKit
def gR(w:aw)(y1:ab)(y2:(d F))(y3:(d au))(s0:Int×(d ay)):g ((Int×(d ay))⊕(d ay)):=
 u (z (s0.1<(C w.ae:Int)))
 (v (J w.ae s0.1) λy4=>
 v (eQ y4.aE) λy5=>
 v (cf (bn (C (s0.2:d ay)+C ([(⟨y4.ar,y4.aZ,y4.ax,y4.ah,y4.aQ,y4.fc,y5,y4.aH,y4.state,y4.place,y4.bK⟩:ay)]:d ay)) 128)) λ_=>
 s (.inl ((G (s0.1+1)),((s0.2:d ay)++[(⟨y4.ar,y4.aZ,y4.ax,y4.ah,y4.aQ,y4.fc,y5,y4.aH,y4.state,y4.place,y4.bK⟩:ay)]))))
 (s (.inr s0.2))
instance (w:aw)(y1:ab)(y2:(d F))(y3:(d au)):bm (gR w y1 y2 y3):=⟨λs0=>(.un::.un::.be 0 0 0::.be 1 0 0::(U 25 (.sl (w.ae.map bx)::y (C w.ae:Int)::y s0.1::(U 15 [])))),λs0=>[s ⟨.of 33,10,[zg]⟩,s ⟨.of 33,10,[[.ms 2,.ms 3,y y1.change,.ms 4,.ms 5,.ms 6,y w.now,.ms 7,.ms 8,y w.br]]⟩,s ⟨.of 101,6,y1.aC.map cY⟩,s ⟨.of 3,1,y1.off.map aW⟩,s ⟨⟨63,s 48⟩,11,s0.2.map bx⟩,s ⟨.of 50,4,y2.map aG⟩,s ⟨.of 48,2,y3.map bg⟩,s ⟨.of 89,6,((([]:d E):d E)++w.aL).map bA⟩,s ⟨.of 3,1,((([]:d Int):d Int)++w.skip).map aW⟩]⟩
def eG(w:aw):g aw:=
 v (kq w.aa) λy1=>
 v (gZ w.av) λy2=>
 v (eQ w.ak) λy3=>
 v (cf (bn (C (([]:d E):d E)+C (w.aL:d E)) 56)) λ_=>
 v (cf (bn (C (([]:d Int):d Int)+C (w.skip:d Int)) 8)) λ_=>
 (aB (gR w y1 y2 y3) NN (0,[])).bind (λo0=>
 s (⟨y1,o0,y2,y3,w.now,((([]:d E):d E)++w.aL),((([]:d Int):d Int)++w.skip),w.br⟩:aw))
instance (w:aw):K prog (eG w):=⟨87,[.ag (cL w)],[],λr=>.ag [.ms 0,.ms 1,y r.aa.change,.ms 2,.ms 3,.ms 4,y r.now,.ms 5,.ms 6,y r.br],λr=>[s ⟨.of 101,6,r.aa.aC.map cY⟩,s ⟨.of 3,1,r.aa.off.map aW⟩,s ⟨⟨63,s 48⟩,11,r.ae.map bx⟩,s ⟨.of 50,4,r.av.map aG⟩,s ⟨.of 48,2,r.ak.map bg⟩,s ⟨.of 89,6,r.aL.map bA⟩,s ⟨.of 3,1,r.skip.map aW⟩],ck (eG.eq_1 ..) func87 ntmps87 results87⟩
def lR(l:d L)(order:Int)(bE:Int)(cQ:Int):g ((d L)×Int):=
 v (eP l) λy1=>
 u (!y1)
 (v (bO l) λy2=>
 s (y2,1))
 (v (nV (⟨order,1,bE,cQ⟩:L)) λy3=>
 u (!y3)
 (v (bO l) λy4=>
 s (y4,1))
 (v (dL l order 1) λy5=>
 u (z (0<y5))
 (v (bO l) λy6=>
 s (y6,2))
 (v (lY l (⟨order,1,bE,cQ⟩:L)) λy7=>
 s (y7.1,y7.2))))
instance (l:d L)(order:Int)(bE:Int)(cQ:Int):K prog (lR l order bE cQ):=⟨112,[.sl (l.map bV),y order,y bE,y cQ],[],λr=>.tu [.ms 0,y r.2],λr=>[s ⟨.of 82,4,r.1.map bV⟩],cw (lR.eq_1 ..) func112 ntmps112 results112⟩
def sa(l:d L)(order:Int)(kind:Int)(s0:Int×Int):g ((Int×Int)⊕Int):=
 u (z (s0.2<(C l:Int)))
 ((jn 5 4 (
 v (J l s0.2) λy1=>
 u (z (y1.order=order))
 (v (J l s0.2) λy2=>
 u (z (y2.kind=kind))
 (v (J l s0.2) λy3=>
 s (.inl (G (s0.1+y3.bE))))
 (s (.inl s0.1)))
 (s (.inl s0.1)):g (Int⊕Empty)) (λz4=>(.sl (l.map bV)::y order::y kind::(U 4 (y z4::y s0.2::(U 30 []))))) (λz4=>[])).bind (bj (λz4=>
 s (.inl (z4,(G (s0.2+1))))) (λr=>r.elim)))
 (s (.inr s0.1))
instance (l:d L)(order:Int)(kind:Int):bm (sa l order kind):=⟨λs0=>(.sl (l.map bV)::y order::y kind::(U 4 (y s0.1::y s0.2::(U 30 [])))),λs0=>[]⟩
def fO(l:d L)(order:Int)(kind:Int):g Int:=
 (aB (sa l order kind) NN (0,0)).bind (λo0=>
 s o0)
def Ig(l:d L)(order:Int)(kind:Int){r:Int}(H:fO l order kind=s r):eh prog 153 [.sl (l.map bV),y order,y kind] [] (y r) []:=by
 replace H:=H0 H;unfold fO at H
 refine je func153 rfl ntmps153 results153 λQ hQ Kf=>?_
 exact LA
instance (l:d L)(order:Int)(kind:Int):K prog (fO l order kind):=⟨153,[.sl (l.map bV),y order,y kind],[],λr=>y r,λr=>[],Ig l order kind⟩
def qt(o:aD)(i:Int):g Bool:=
 v (J o.aK i) λy1=>
 v (J o.world.ae i) λy2=>
 v (js o.bb o.bd y1) λy3=>
 u y3.2
 (u (z (y2.ar=y1.ar))
 (u (z (y2.aZ=y1.label.aZ))
 (u (z (y2.ax=y1.label.ax))
 (u (z (y2.ah=y1.ah))
 (v (fO o.lines (G (i+1)) 1) λy4=>
 s (z (y4=y3.1)))
 (s D))
 (s D))
 (s D))
 (s D))
 (s D)
instance (o:aD)(i:Int):K prog (qt o i):=⟨142,[.ag (eD o),y i],[],λr=>vb r,λr=>[],cw (qt.eq_1 ..) func142 ntmps142 results142⟩
def sT(code:d YB8)(s0:Int×Int):g ((Int×Int)⊕Int):=
 u (z (s0.2<(C code:Int)))
 (u (z (s0.2<4000))
 (v (J code s0.2) λy1=>
 s (.inl ((IntKind.i64.wrap (BitVec.ofInt IntKind.i64.bits (G ((G ((G (s0.1*167))+(IntKind.i64.wrap y1.v)))+29)) &&& BitVec.ofInt IntKind.i64.bits 1073741823).toNat),(G (s0.2+1)))))
 (s (.inr s0.1)))
 (s (.inr s0.1))
instance (code:d YB8):bm (sT code):=⟨λs0=>(.sl (code.map Zl)::.un::.un::y s0.1::y s0.2::(U 28 [])),λs0=>[]⟩
def qJ(code:d YB8):g bl:=
 (aB (sT code) NN ((G (744201+(G (3*(C code:Int))))),0)).bind (λo0=>
 s (⟨code,0,o0⟩:bl))
instance (code:d YB8):K prog (qJ code):=⟨19,[.sl (code.map Zl)],[],λr=>.be 0 0 0,λr=>[s ⟨.of 133,3,[[.sl (r.b.map Zl),y r.i,y r.h]]⟩],cw (qJ.eq_1 ..) func19 ntmps19 results19⟩
def tJ(n:ab)(l:d F)(ak:d au)(ah:Int):g (ab×(d au)×(d F)×Int):=
 s (n,ak,l,ah)
instance (n:ab)(l:d F)(ak:d au)(ah:Int):K prog (tJ n l ak ah):=⟨230,[.ag (aT n),.sl (l.map aG),.sl (ak.map bg),y ah],[],λr=>.fn 284 [.rp (aT r.1),.rp [.sl (r.2.1.map bg)],.rp [.sl (r.2.2.1.map aG)],.rp [y r.2.2.2]],λr=>[],cw (tJ.eq_1 ..) func230 ntmps230 results230⟩
def tK(n:ab):g ab:=
 s (n)
instance (n:ab):K prog (tK n):=⟨320,[.ag (aT n)],[],λr=>.fn 371 [.rp (aT r)],λr=>[],cw (tK.eq_1 ..) func320 ntmps320 results320⟩
def jz(a:E)(b:E):g Int:=
 v (cP a.aQ b.aQ) λy1=>
 v (cP a.aR b.aR) λy2=>
 v (cP a.kind b.kind) λy3=>
 v (cP a.aN.day b.aN.day) λy4=>
 v (cP a.aN.bq b.aN.bq) λy5=>
 v (nO a.place b.place) λy6=>
 v (ld ([y1,y2,y3,y4,y5,y6])) λy7=>
 s y7
instance (a:E)(b:E):K prog (jz a b):=⟨223,[.ag (bA a),.ag (bA b)],[],λr=>y r,λr=>[],cw (jz.eq_1 ..) func223 ntmps223 results223⟩
def pv(i:Int)(j:Int)(Cx:d E):g Bool:=
 v (J Cx i) λy1=>
 v (J Cx j) λy2=>
 v (jz y1 y2) λy3=>
 s (z (y3<0))
instance (i:Int)(j:Int)(Cx:d E):K prog (pv i j Cx):=⟨268,[y i,y j,.rp [.sl (Cx.map bA)]],[],λr=>vb r,λr=>[],cw (pv.eq_1 ..) func268 ntmps268 results268⟩
def Ad(l:d Int)(x:Int)(s0:Int):g (Int⊕(Unit⊕Bool)):=
 u (z (s0<(C l:Int)))
 (v (J l s0) λy1=>
 u (z (y1=x))
 (s (.inr (.inr Ze)))
 (s (.inl (G (s0+1)))))
 (s (.inr (.inl ())))
instance (l:d Int)(x:Int):bm (Ad l x):=⟨λs0=>(.sl (l.map aW)::y x::(U 3 (y s0::(U 12 [])))),λs0=>[]⟩
def vn(l:d Int)(x:Int):g Bool:=
 (aB (Ad l x) NN 0).bind (bj (λo0=>
 s D) (λr=>s r))
instance (l:d Int)(x:Int):K prog (vn l x):=⟨45,[.sl (l.map aW),y x],[],λr=>vb r,λr=>[],cw (vn.eq_1 ..) func45 ntmps45 results45⟩
def kK(a:d F)(b:d F)(s0:Int):g (Int⊕(Unit⊕Bool)):=
 u (z (s0<(C a:Int)))
 (v (J a s0) λy1=>
 v (J b s0) λy2=>
 u (!decide (y1=y2))
 (s (.inr (.inr D)))
 (s (.inl (G (s0+1)))))
 (s (.inr (.inl ())))
instance (a:d F)(b:d F):bm (kK a b):=⟨λs0=>(.sl (a.map aG)::.sl (b.map aG)::(U 10 (y (C a:Int)::y s0::(U 12 [])))),λs0=>[]⟩
def gW(a:d F)(b:d F):g Bool:=
 u (!decide ((C a:Int)=(C b:Int)))
 (s D)
 ((aB (kK a b) NN 0).bind (bj (λo0=>
 s Ze) (λr=>s r)))
instance (a:d F)(b:d F):K prog (gW a b):=⟨131,[.sl (a.map aG),.sl (b.map aG)],[],λr=>vb r,λr=>[],λH=>by replace H:=H0 H;unfold gW at H;exact je func131 rfl ntmps131 results131 λQ hQ Kf=>LA⟩
