/- A part of the proof of the statement in the last file of this claim: texts on the language of the program and on its functions. No condition. -/
import Derived.Test.YtbalgkakkoocjaaGreatCJ6
import Derived.Test.YtbalgkakkoocjaaGreatCJ5
import Derived.Test.YtbalgkakkoocjaaGreatCJ7
import Derived.Test.YtbalgkakkoocjaaGreatCJ1
set_option linter.unusedVariables false
set_option linter.unusedSimpArgs false
set_option linter.unusedSectionVars false
open Option renaming some->ZA,none->ZB
open Bool renaming true->ZC,false->ZD
open Decidable renaming decide->ZE
open Go.Proofs.Tryz
set_option maxHeartbeats 40000000
namespace Go.Proofs.YtbalgkakkoocjaaGreat
open _root_.Int renaming tmod->Yn,toNat->V0,tdiv->Xb
set_option maxRecDepth 10000
open Go.RowKit
def sP(a:fF)(b:fF):Option Bool:=
 cond (!decide (a.ax=b.ax))
 (ZA ZD)
 (cond (!decide (a.bZ=b.bZ))
 (ZA ZD)
 (cond (!decide (a.aX=b.aX))
 (ZA ZD)
 (ZA ZC)))
instance (a:fF)(b:fF):CT prog (sP a b):=⟨158,[.ag (sE a),.ag (sE b)],[],λr=>vb r,λr=>[],cw (sP.eq_1 ..) func158 ntmps158 results158⟩
def bf(x:Int)(least:Int)(Zh8:Int):Option Bool:=
 cond (ZE (least<=x))
 (ZA (ZE (x<=Zh8)))
 (ZA ZD)
instance (x:Int)(least:Int)(Zh8:Int):CT prog (bf x least Zh8):=⟨135,[vi x,vi least,vi Zh8],[],λr=>vb r,λr=>[],cw (bf.eq_1 ..) func135 ntmps135 results135⟩
def pq(s:ByteArray)(s0:Int):Option (Int⊕(Unit⊕Bool)):=
 cond (ZE (s0<3))
 ((Ka s s0).bind λy1=>
 (bf (IntKind.i64.wrap y1) 65 90).bind λy2=>
 cond (!y2)
 (ZA (.inr (.inr ZD)))
 (ZA (.inl (aH (s0+1)))))
 (ZA (.inr (.inl ())))
instance (s:ByteArray):bj (pq s):=⟨λs0=>(vs s::.un::.un::vi s0::(U 13 [])),λs0=>[]⟩
def cQ(s:ByteArray):Option Bool:=
 cond (!decide ((s.size:Int)=3))
 (ZA ZD)
 ((aD (pq s) NN 0).bind (bm (λo0=>
 ZA ZC) (λr=>ZA r)))
instance (s:ByteArray):CT prog (cQ s):=⟨224,[vs s],[],λr=>vb r,λr=>[],cw (cQ.eq_1 ..) func224 ntmps224 results224⟩
def fU(l:bM):Option Bool:=
 (cQ l.ar).bind λy1=>
 cond y1
 ((cQ l.aX).bind λy2=>
 cond y2
 (cond (!decide (l.ar=l.aX))
 ((bf l.start 0 1439).bind λy3=>
 cond y3
 ((bf l.oS 1 4320).bind λy4=>
 cond y4
 ((bf l.AW 1 127).bind λy5=>
 cond y5
 ((bf l.jl 0 1000000).bind λy6=>
 ZA y6)
 (ZA ZD))
 (ZA ZD))
 (ZA ZD))
 (ZA ZD))
 (ZA ZD))
 (ZA ZD)
instance (l:bM):CT prog (fU l):=⟨320,[.ag (br l)],[],λr=>vb r,λr=>[],cw (fU.eq_1 ..) func320 ntmps320 results320⟩
def cu(n:ak)(s0:Int):Option (Int⊕(Unit⊕Bool)):=
 cond (ZE (s0<(n.aB.length:Int)))
 ((aA n.aB s0).bind λy1=>
 (fU y1).bind λy2=>
 cond (!y2)
 (ZA (.inr (.inr ZD)))
 (ZA (.inl (aH (s0+1)))))
 (ZA (.inr (.inl ())))
instance (n:ak):bj (cu n):=⟨λs0=>(.un::.be 0 0 0::.un::vi s0::(U 62 [])),λs0=>[ZA ⟨.of 27,3,[[.sl (n.aB.map br),.sl (n.off.map aI),vi n.change]]⟩]⟩
def cA(n:ak)(s1:Int):Option (Int⊕(Unit⊕Bool)):=
 cond (ZE (s1<(n.off.length:Int)))
 ((aA n.off s1).bind λy3=>
 (bf y3 0 60).bind λy4=>
 cond (!y4)
 (ZA (.inr (.inr ZD)))
 (cond (ZE (0<s1))
 ((aA n.off (aH (s1-1))).bind λy5=>
 (aA n.off s1).bind λy6=>
 cond (ZE (y6<=y5))
 (ZA (.inr (.inr ZD)))
 (ZA (.inl (aH (s1+1)))))
 (ZA (.inl (aH (s1+1))))))
 (ZA (.inr (.inl ())))
instance (n:ak):bj (cA n):=⟨λs1=>(.un::.be 0 0 0::.un::.un::vi s1::(U 61 [])),λs1=>[ZA ⟨.of 27,3,[[.sl (n.aB.map br),.sl (n.off.map aI),vi n.change]]⟩]⟩
def ba(n:ak):Option Bool:=
 (aD (cu n) NN 0).bind (bm (λo0=>
 (aD (cA n) NN 0).bind (bm (λo1=>
 cond (ZE ((n.aB.length:Int)<=20))
 (cond (ZE ((n.off.length:Int)<=10))
 ((bf n.change 0 240).bind λy7=>
 ZA y7)
 (ZA ZD))
 (ZA ZD)) (λr=>ZA r))) (λr=>ZA r))
instance (n:ak):CT prog (ba n):=⟨281,[.ag (bE n)],[],λr=>vb r,λr=>[],cw (ba.eq_1 ..) func281 ntmps281 results281⟩
def bw(n:ak)(t:aw):Option Int:=
 (aA n.aB t.bG).bind λy1=>
 ZA (aH ((aH (t.day*1440))+y1.start))
instance (n:ak)(t:aw):CT prog (bw n t):=⟨240,[.ag (bE n),.ag (aS t)],[],λr=>vi r,λr=>[],cw (bw.eq_1 ..) func240 ntmps240 results240⟩
def bp(n:ak)(t:aw):Option Int:=
 (bw n t).bind λy1=>
 (aA n.aB t.bG).bind λy2=>
 ZA (aH (y1+y2.oS))
instance (n:ak)(t:aw):CT prog (bp n t):=⟨286,[.ag (bE n),.ag (aS t)],[],λr=>vi r,λr=>[],cw (bp.eq_1 ..) func286 ntmps286 results286⟩
def rN(l:List Int)(x:Int)(s0:Int):Option (Int⊕(Unit⊕Bool)):=
 cond (ZE (s0<(l.length:Int)))
 ((aA l s0).bind λy1=>
 cond (ZE (y1=x))
 (ZA (.inr (.inr ZC)))
 (ZA (.inl (aH (s0+1)))))
 (ZA (.inr (.inl ())))
instance (l:List Int)(x:Int):bj (rN l x):=⟨λs0=>(.sl (l.map aI)::vi x::(U 3 (vi s0::(U 12 [])))),λs0=>[]⟩
def mg(l:List Int)(x:Int):Option Bool:=
 (aD (rN l x) NN 0).bind (bm (λo0=>
 ZA ZD) (λr=>ZA r))
instance (l:List Int)(x:Int):CT prog (mg l x):=⟨284,[.sl (l.map aI),vi x],[],λr=>vb r,λr=>[],cw (mg.eq_1 ..) func284 ntmps284 results284⟩
def cy(n:ak)(bG:Int)(day:Int):Option Bool:=
 (bf bG 0 (aH ((n.aB.length:Int)-1))).bind λy1=>
 cond y1
 ((bf day 0 60).bind λy2=>
 cond y2
 ((aA n.aB bG).bind λy3=>
 (dg (ZE (0<=(Yn day 7)))).bind λ_=>
 cond (ZE ((IntKind.i64.wrap (BitVec.ofInt IntKind.i64.bits (Int.fdiv y3.AW (2 ^ (min (V0 (Yn day 7)) IntKind.i64.bits))) &&& BitVec.ofInt IntKind.i64.bits 1).toNat)=1))
 ((mg n.off day).bind λy4=>
 ZA (!y4))
 (ZA ZD))
 (ZA ZD))
 (ZA ZD)
instance (n:ak)(bG:Int)(day:Int):CT prog (cy n bG day):=⟨220,[.ag (bE n),vi bG,vi day],[],λr=>vb r,λr=>[],cw (cy.eq_1 ..) func220 ntmps220 results220⟩
def kh(n:ak)(bG:Int)(day:Int):Option Bool:=
 (ba n).bind λy1=>
 cond y1
 ((cy n bG day).bind λy2=>
 ZA y2)
 (ZA ZD)
instance (n:ak)(bG:Int)(day:Int):CT prog (kh n bG day):=⟨299,[.ag (bE n),vi bG,vi day],[],λr=>vb r,λr=>[],cw (kh.eq_1 ..) func299 ntmps299 results299⟩
def dE(n:ak)(t:aw):Option Bool:=
 (kh n t.bG t.day).bind λy1=>
 ZA y1
instance (n:ak)(t:aw):CT prog (dE n t):=⟨239,[.ag (bE n),.ag (aS t)],[],λr=>vb r,λr=>[],cw (dE.eq_1 ..) func239 ntmps239 results239⟩
def pk(l:List aw)(t:aw)(s0:Int):Option (Int⊕(Unit⊕Bool)):=
 cond (ZE (s0<(l.length:Int)))
 ((aA l s0).bind λy1=>
 cond (ZE (y1=t))
 (ZA (.inr (.inr ZC)))
 (ZA (.inl (aH (s0+1)))))
 (ZA (.inr (.inl ())))
instance (l:List aw)(t:aw):bj (pk l t):=⟨λs0=>(U 3 (.be 0 0 0::(U 3 (.sl (l.map aS)::vi (l.length:Int)::vi s0::(U 7 []))))),λs0=>[ZA ⟨.of 46,2,[[vi t.bG,vi t.day]]⟩]⟩
def eF(l:List aw)(t:aw):Option Bool:=
 (aD (pk l t) NN 0).bind (bm (λo0=>
 ZA ZD) (λr=>ZA r))
instance (l:List aw)(t:aw):CT prog (eF l t):=⟨188,[.sl (l.map aS),.ag (aS t)],[],λr=>vb r,λr=>[],cw (eF.eq_1 ..) func188 ntmps188 results188⟩
def dh(l:List aj)(t:aw)(s0:Int×Int):Option ((Int×Int)⊕Int):=
 cond (ZE (s0.2<(l.length:Int)))
 ((aA l s0.2).bind λy1=>
 cond (ZE (y1.aV=t))
 ((aA l s0.2).bind λy2=>
 ZA (.inl ((aH (s0.1+y2.ab)),(aH (s0.2+1)))))
 (ZA (.inl (s0.1,(aH (s0.2+1))))))
 (ZA (.inr s0.1))
instance (l:List aj)(t:aw):bj (dh l t):=⟨λs0=>(.sl (l.map aC)::.un::.un::.be 0 0 0::.un::vi s0.1::vi s0.2::(U 21 [])),λs0=>[ZA ⟨.of 46,2,[[vi t.bG,vi t.day]]⟩]⟩
def df(l:List aj)(t:aw):Option Int:=
 (aD (dh l t) NN (0,0)).bind (λo0=>
 ZA o0)
instance (l:List aj)(t:aw):CT prog (df l t):=⟨283,[.sl (l.map aC),.ag (aS t)],[],λr=>vi r,λr=>[],cw (df.eq_1 ..) func283 ntmps283 results283⟩
def dL(a:Int)(b:Int):Option Int:=
 cond (ZE (a<b))
 (ZA (-1))
 (cond (ZE (b<a))
 (ZA 1)
 (ZA 0))
instance (a:Int)(b:Int):CT prog (dL a b):=⟨194,[vi a,vi b],[],λr=>vi r,λr=>[],cw (dL.eq_1 ..) func194 ntmps194 results194⟩
def lI(list:List Int)(s0:Int):Option (Int⊕(Unit⊕Int)):=
 cond (ZE (s0<(list.length:Int)))
 ((aA list s0).bind λy1=>
 cond (!decide (y1=0))
 (ZA (.inr (.inr y1)))
 (ZA (.inl (aH (s0+1)))))
 (ZA (.inr (.inl ())))
instance (list:List Int):bj (lI list):=⟨λs0=>(U 5 (.sl (list.map aI)::vi (list.length:Int)::vi s0::(U 7 []))),λs0=>[]⟩
def qA(list:List Int):Option Int:=
 (aD (lI list) NN 0).bind (bm (λo0=>
 ZA 0) (λr=>ZA r))
instance (list:List Int):CT prog (qA list):=⟨193,[.sl (list.map aI)],[],λr=>vi r,λr=>[],cw (qA.eq_1 ..) func193 ntmps193 results193⟩
def fz(a:aj)(b:aj):Option Int:=
 (dL a.aV.day b.aV.day).bind λy1=>
 (dL a.aV.bG b.aV.bG).bind λy2=>
 (dL a.bo b.bo).bind λy3=>
 (qA ([y1,y2,y3])).bind λy4=>
 ZA y4
instance (a:aj)(b:aj):CT prog (fz a b):=⟨262,[.ag (aC a),.ag (aC b)],[],λr=>vi r,λr=>[],cw (fz.eq_1 ..) func262 ntmps262 results262⟩
def lR(a:aj)(b:aj):Option Bool:=
 cond (!decide (a.aV.day=b.aV.day))
 (ZA (ZE (a.aV.day<b.aV.day)))
 (cond (!decide (a.aV.bG=b.aV.bG))
 (ZA (ZE (a.aV.bG<b.aV.bG)))
 (ZA (ZE (a.bo<b.bo))))
instance (a:aj)(b:aj):CT prog (lR a b):=⟨282,[.ag (aC a),.ag (aC b)],[],λr=>vb r,λr=>[],cw (lR.eq_1 ..) func282 ntmps282 results282⟩
def iJ(n:ak)(l:List aj)(s0:Int):Option (Int⊕(Unit⊕Bool)):=
 cond (ZE (s0<(l.length:Int)))
 ((aA l s0).bind λy2=>
 (cy n y2.aV.bG y2.aV.day).bind λy3=>
 cond (!y3)
 (ZA (.inr (.inr ZD)))
 ((bf y2.bo 1 9999).bind λy4=>
 cond (!y4)
 (ZA (.inr (.inr ZD)))
 ((bf y2.ab 1 1000000).bind λy5=>
 cond (!y5)
 (ZA (.inr (.inr ZD)))
 (cond (ZE (0<s0))
 ((aA l (aH (s0-1))).bind λy6=>
 (lR y6 y2).bind λy7=>
 cond (!y7)
 (ZA (.inr (.inr ZD)))
 (ZA (.inl (aH (s0+1)))))
 (ZA (.inl (aH (s0+1))))))))
 (ZA (.inr (.inl ())))
instance (n:ak)(l:List aj):bj (iJ n l):=⟨λs0=>(.un::.sl (l.map aC)::.be 0 0 0::.un::.un::vi s0::(U 80 [])),λs0=>[ZA ⟨.of 27,3,[[.sl (n.aB.map br),.sl (n.off.map aI),vi n.change]]⟩]⟩
def iK(n:ak)(l:List aj)(s1:Int):Option (Int⊕(Unit⊕Bool)):=
 cond (ZE (s1<(l.length:Int)))
 ((aA l s1).bind λy8=>
 (df l y8.aV).bind λy9=>
 (aA l s1).bind λeE=>
 (aA n.aB eE.aV.bG).bind λoq=>
 cond (ZE (oq.jl<y9))
 (ZA (.inr (.inr ZD)))
 (ZA (.inl (aH (s1+1)))))
 (ZA (.inr (.inl ())))
instance (n:ak)(l:List aj):bj (iK n l):=⟨λs1=>(.un::.sl (l.map aC)::.be 0 0 0::(U 4 (vi s1::(U 78 [])))),λs1=>[ZA ⟨.of 27,3,[[.sl (n.aB.map br),.sl (n.off.map aI),vi n.change]]⟩]⟩
def eA(n:ak)(l:List aj):Option Bool:=
 (ba n).bind λy1=>
 cond (!y1)
 (ZA ZD)
 (cond (ZE (120<(l.length:Int)))
 (ZA ZD)
 ((aD (iJ n l) NN 0).bind (bm (λo0=>
 (aD (iK n l) NN 0).bind (bm (λo1=>
 ZA ZC) (λr=>ZA r))) (λr=>ZA r))))
instance (n:ak)(l:List aj):CT prog (eA n l):=⟨219,[.ag (bE n),.sl (l.map aC)],[],λr=>vb r,λr=>[],cw (eA.eq_1 ..) func219 ntmps219 results219⟩
def bV(n:ak)(x:ay)(now:Int):Option Bool:=
 cond (ZE (0<x.aN))
 ((aA x.aK (aH (x.aN-1))).bind λy1=>
 (aA n.aB y1.bG).bind λy2=>
 (aA x.aK (aH (x.aN-1))).bind λy3=>
 (bp n y3).bind λy4=>
 cond (ZE (now<y4))
 (ZA ZD)
 (cond (ZE (x.state=1))
 (cond (ZE (x.place=y2.aX))
 (cond (!decide (y2.aX=x.aX))
 (cond (ZE (x.bK=0))
 (cond (ZE (x.aN=(x.aK.length:Int)))
 (ZA ZC)
 ((aA x.aK x.aN).bind λy5=>
 (bw n y5).bind λy6=>
 ZA (ZE (now<y6))))
 (ZA ZD))
 (ZA ZD))
 (ZA ZD))
 (cond (ZE (x.state=2))
 (cond (ZE (x.place=⟨#[]⟩))
 (cond (ZE (x.bK=0))
 (cond (ZE (x.aN<(x.aK.length:Int)))
 ((aA x.aK x.aN).bind λy7=>
 (bw n y7).bind λy8=>
 cond (ZE (y8<=now))
 ((aA x.aK x.aN).bind λy9=>
 (bp n y9).bind λeE=>
 ZA (ZE (now<eE)))
 (ZA ZD))
 (ZA ZD))
 (ZA ZD))
 (ZA ZD))
 (cond (ZE (x.state=3))
 (cond (ZE (x.place=x.aX))
 (cond (ZE (y2.aX=x.aX))
 (cond (ZE (x.aN=(x.aK.length:Int)))
 (cond (ZE (0<x.aN))
 ((aA x.aK (aH (x.aN-1))).bind λoq=>
 (bp n oq).bind λsj=>
 ZA (ZE (x.bK=sj)))
 (ZA ZD))
 (ZA ZD))
 (ZA ZD))
 (ZA ZD))
 (ZA ZD)))))
 (cond (ZE (x.state=1))
 (cond (ZE (x.place=x.ar))
 (cond (!decide (x.ar=x.aX))
 (cond (ZE (x.bK=0))
 (cond (ZE (x.aN=(x.aK.length:Int)))
 (ZA ZC)
 ((aA x.aK x.aN).bind λre=>
 (bw n re).bind λpx=>
 ZA (ZE (now<px))))
 (ZA ZD))
 (ZA ZD))
 (ZA ZD))
 (cond (ZE (x.state=2))
 (cond (ZE (x.place=⟨#[]⟩))
 (cond (ZE (x.bK=0))
 (cond (ZE (x.aN<(x.aK.length:Int)))
 ((aA x.aK x.aN).bind λtl=>
 (bw n tl).bind λsB=>
 cond (ZE (sB<=now))
 ((aA x.aK x.aN).bind λxr=>
 (bp n xr).bind λF1=>
 ZA (ZE (now<F1)))
 (ZA ZD))
 (ZA ZD))
 (ZA ZD))
 (ZA ZD))
 (cond (ZE (x.state=3))
 (cond (ZE (x.place=x.aX))
 (cond (ZE (x.ar=x.aX))
 (cond (ZE (x.aN=(x.aK.length:Int)))
 (cond (ZE (0<x.aN))
 ((aA x.aK (aH (x.aN-1))).bind λJ2=>
 (bp n J2).bind λy20=>
 ZA (ZE (x.bK=y20)))
 (ZA ZD))
 (ZA ZD))
 (ZA ZD))
 (ZA ZD))
 (ZA ZD))))
instance (n:ak)(x:ay)(now:Int):CT prog (bV n x now):=⟨289,[.ag (bE n),.ag (aY x),vi now],[],λr=>vb r,λr=>[],cw (bV.eq_1 ..) func289 ntmps289 results289⟩
def gG(o:ay):Option Int:=
 cond (ZE (o.state=2))
 (ZA (if(o.aK.length:Int)<(aH (o.aN+1))then(o.aK.length:Int)else(aH (o.aN+1))))
 (ZA o.aN)
instance (o:ay):CT prog (gG o):=⟨211,[.ag (aY o)],[],λr=>vi r,λr=>[],cw (gG.eq_1 ..) func211 ntmps211 results211⟩
def nI(w:az)(o:ay):Option ByteArray:=
 cond (ZE (o.state=2))
 ((aA o.aK o.aN).bind λy1=>
 (aA w.aa.aB y1.bG).bind λy2=>
 ZA y2.aX)
 (ZA o.place)
instance (w:az)(o:ay):CT prog (nI w o):=⟨279,[.ag (fa w),.ag (aY o)],[],λr=>vs r,λr=>[],cw (nI.eq_1 ..) func279 ntmps279 results279⟩
def fL(w:az)(o:ay):Option Bool:=
 cond (!decide (o.state=3))
 ((gG o).bind λy1=>
 cond (ZE (y1=(o.aK.length:Int)))
 ((nI w o).bind λy2=>
 ZA (!decide (y2=o.aX)))
 (ZA ZD))
 (ZA ZD)
instance (w:az)(o:ay):CT prog (fL w o):=⟨214,[.ag (fa w),.ag (aY o)],[],λr=>vb r,λr=>[],cw (fL.eq_1 ..) func214 ntmps214 results214⟩
def eW(x:ay):Option Int:=
 cond (ZE (x.state=2))
 (ZA (aH (x.aN+1)))
 (ZA x.aN)
instance (x:ay):CT prog (eW x):=⟨241,[.ag (aY x)],[],λr=>vi r,λr=>[],cw (eW.eq_1 ..) func241 ntmps241 results241⟩
def se(n:ak)(s0:Int×(List ByteArray))(y2:bM)(s1:Int):Option (Int⊕Int):=
 cond (ZE (s1<(s0.2.length:Int)))
 ((aA s0.2 s1).bind λy3=>
 cond (uu y3 y2.aX)
 (ZA (.inl (aH (s1+1))))
 (ZA (.inr s1)))
 (ZA (.inr s1))
instance (n:ak)(s0:Int×(List ByteArray))(y2:bM):bj (se n s0 y2):=⟨λs1=>(.un::.be 0 0 0::.un::.ms 1::vi s0.1::vs y2.aX::vi s1::(U 65 [])),λs1=>[ZA ⟨.of 27,3,[[.sl (n.aB.map br),.sl (n.off.map aI),vi n.change]]⟩,ZA ⟨.of 9,1,s0.2.map km⟩]⟩
def sg(n:ak)(s0:Int×(List ByteArray))(y1:bM)(s2:Int):Option (Int⊕Int):=
 cond (ZE (s2<(s0.2.length:Int)))
 ((aA s0.2 s2).bind λy5=>
 cond (uu y5 y1.ar)
 (ZA (.inl (aH (s2+1))))
 (ZA (.inr s2)))
 (ZA (.inr s2))
instance (n:ak)(s0:Int×(List ByteArray))(y1:bM):bj (sg n s0 y1):=⟨λs2=>(.un::.be 0 0 0::.un::.ms 1::vi s0.1::vs y1.ar::vi s2::(U 65 [])),λs2=>[ZA ⟨.of 27,3,[[.sl (n.aB.map br),.sl (n.off.map aI),vi n.change]]⟩,ZA ⟨.of 9,1,s0.2.map km⟩]⟩
def iY(n:ak)(s0:Int×(List ByteArray)):Option ((Int×(List ByteArray))⊕(List ByteArray)):=
 cond (ZE (s0.1<(aH (2*(n.aB.length:Int)))))
 ((aA n.aB (IntKind.i64.wrap (Xb s0.1 2))).bind λy1=>
 cond (ZE ((Yn s0.1 2)=1))
 ((aA n.aB (IntKind.i64.wrap (Xb s0.1 2))).bind λy2=>
 (aD (se n s0 y2) NN 0).bind (λo1=>
 cond (ZE (o1=(s0.2.length:Int)))
 ((dg (iC 0 o1 s0.2.length)).bind λ_=>
 (dg (bB ((([]:List ByteArray):List ByteArray).length+((cZ s0.2 0 o1):List ByteArray).length) 16)).bind λ_=>
 (dg (bB ((((([]:List ByteArray):List ByteArray)++(cZ s0.2 0 o1)):List ByteArray).length+([y2.aX]:List ByteArray).length) 16)).bind λ_=>
 (dg (iC o1 (s0.2.length:Int) s0.2.length)).bind λ_=>
 (dg (bB ((((((([]:List ByteArray):List ByteArray)++(cZ s0.2 0 o1)):List ByteArray)++[y2.aX]):List ByteArray).length+((cZ s0.2 o1 (s0.2.length:Int)):List ByteArray).length) 16)).bind λ_=>
 ZA (.inl ((aH (s0.1+1)),((((((([]:List ByteArray):List ByteArray)++(cZ s0.2 0 o1)):List ByteArray)++[y2.aX]):List ByteArray)++(cZ s0.2 o1 (s0.2.length:Int))))))
 ((aA s0.2 o1).bind λy4=>
 cond (!decide (y4=y2.aX))
 ((dg (iC 0 o1 s0.2.length)).bind λ_=>
 (dg (bB ((([]:List ByteArray):List ByteArray).length+((cZ s0.2 0 o1):List ByteArray).length) 16)).bind λ_=>
 (dg (bB ((((([]:List ByteArray):List ByteArray)++(cZ s0.2 0 o1)):List ByteArray).length+([y2.aX]:List ByteArray).length) 16)).bind λ_=>
 (dg (iC o1 (s0.2.length:Int) s0.2.length)).bind λ_=>
 (dg (bB ((((((([]:List ByteArray):List ByteArray)++(cZ s0.2 0 o1)):List ByteArray)++[y2.aX]):List ByteArray).length+((cZ s0.2 o1 (s0.2.length:Int)):List ByteArray).length) 16)).bind λ_=>
 ZA (.inl ((aH (s0.1+1)),((((((([]:List ByteArray):List ByteArray)++(cZ s0.2 0 o1)):List ByteArray)++[y2.aX]):List ByteArray)++(cZ s0.2 o1 (s0.2.length:Int))))))
 (ZA (.inl ((aH (s0.1+1)),s0.2))))))
 ((aD (sg n s0 y1) NN 0).bind (λo2=>
 cond (ZE (o2=(s0.2.length:Int)))
 ((dg (iC 0 o2 s0.2.length)).bind λ_=>
 (dg (bB ((([]:List ByteArray):List ByteArray).length+((cZ s0.2 0 o2):List ByteArray).length) 16)).bind λ_=>
 (dg (bB ((((([]:List ByteArray):List ByteArray)++(cZ s0.2 0 o2)):List ByteArray).length+([y1.ar]:List ByteArray).length) 16)).bind λ_=>
 (dg (iC o2 (s0.2.length:Int) s0.2.length)).bind λ_=>
 (dg (bB ((((((([]:List ByteArray):List ByteArray)++(cZ s0.2 0 o2)):List ByteArray)++[y1.ar]):List ByteArray).length+((cZ s0.2 o2 (s0.2.length:Int)):List ByteArray).length) 16)).bind λ_=>
 ZA (.inl ((aH (s0.1+1)),((((((([]:List ByteArray):List ByteArray)++(cZ s0.2 0 o2)):List ByteArray)++[y1.ar]):List ByteArray)++(cZ s0.2 o2 (s0.2.length:Int))))))
 ((aA s0.2 o2).bind λy6=>
 cond (!decide (y6=y1.ar))
 ((dg (iC 0 o2 s0.2.length)).bind λ_=>
 (dg (bB ((([]:List ByteArray):List ByteArray).length+((cZ s0.2 0 o2):List ByteArray).length) 16)).bind λ_=>
 (dg (bB ((((([]:List ByteArray):List ByteArray)++(cZ s0.2 0 o2)):List ByteArray).length+([y1.ar]:List ByteArray).length) 16)).bind λ_=>
 (dg (iC o2 (s0.2.length:Int) s0.2.length)).bind λ_=>
 (dg (bB ((((((([]:List ByteArray):List ByteArray)++(cZ s0.2 0 o2)):List ByteArray)++[y1.ar]):List ByteArray).length+((cZ s0.2 o2 (s0.2.length:Int)):List ByteArray).length) 16)).bind λ_=>
 ZA (.inl ((aH (s0.1+1)),((((((([]:List ByteArray):List ByteArray)++(cZ s0.2 0 o2)):List ByteArray)++[y1.ar]):List ByteArray)++(cZ s0.2 o2 (s0.2.length:Int))))))
 (ZA (.inl ((aH (s0.1+1)),s0.2)))))))
 (ZA (.inr s0.2))
instance (n:ak):bj (iY n):=⟨λs0=>(.un::.be 0 0 0::.un::.ms 1::vi s0.1::(U 67 [])),λs0=>[ZA ⟨.of 27,3,[[.sl (n.aB.map br),.sl (n.off.map aI),vi n.change]]⟩,ZA ⟨.of 9,1,s0.2.map km⟩]⟩
def dv(n:ak):Option (List ByteArray):=
 (aD (iY n) NN (0,([]:List ByteArray))).bind (λo0=>
 ZA o0)
instance (n:ak):CT prog (dv n):=⟨260,[.ag (bE n)],[],λr=>.ms 0,λr=>[ZA ⟨.of 9,1,r.map km⟩],cw (dv.eq_1 ..) func260 ntmps260 results260⟩
def jr(w:az)(id:Int)(t:aw)(s0:Int):Option (Int⊕(Unit⊕Bool)):=
 cond (ZE (s0<(w.aq.length:Int)))
 ((aA w.aq s0).bind λy1=>
 cond (ZE (y1.bo=id))
 (cond (ZE (y1.aV=t))
 ((aA w.ae (aH (id-1))).bind λy2=>
 ZA (.inr (.inr (ZE (y1.ab=y2.ab)))))
 (ZA (.inl (aH (s0+1)))))
 (ZA (.inl (aH (s0+1)))))
 (ZA (.inr (.inl ())))
instance (w:az)(id:Int)(t:aw):bj (jr w id t):=⟨λs0=>(.un::vi id::.un::.be 0 0 0::.un::.be 1 0 0::(U 4 (.sl (w.aq.map aC)::vi (w.aq.length:Int)::vi s0::(U 24 [])))),λs0=>[ZA ⟨.of 33,10,[[.sl (w.aa.aB.map br),.sl (w.aa.off.map aI),vi w.aa.change,.sl (w.ae.map aY),.sl (w.aq.map aC),.sl (w.ah.map aS),vi w.now,.sl (w.aJ.map bt),.sl (w.skip.map aI),vi w.aT]]⟩,ZA ⟨.of 46,2,[[vi t.bG,vi t.day]]⟩]⟩
def lZ(w:az)(id:Int)(t:aw):Option Bool:=
 (aD (jr w id t) NN 0).bind (bm (λo0=>
 ZA ZD) (λr=>ZA r))
instance (w:az)(id:Int)(t:aw):CT prog (lZ w id t):=⟨268,[.ag (fa w),vi id,.ag (aS t)],[],λr=>vb r,λr=>[],cw (lZ.eq_1 ..) func268 ntmps268 results268⟩
def mh(l:List Int)(s0:Int):Option (Int⊕(Unit⊕Bool)):=
 cond (ZE (s0<(l.length:Int)))
 ((aA l s0).bind λy1=>
 (bf y1 1 2000).bind λy2=>
 cond (!y2)
 (ZA (.inr (.inr ZD)))
 (ZA (.inl (aH (s0+1)))))
 (ZA (.inr (.inl ())))
instance (l:List Int):bj (mh l):=⟨λs0=>(.sl (l.map aI)::.un::.un::vi s0::(U 15 [])),λs0=>[]⟩
def jw(l:List Int):Option Bool:=
 (aD (mh l) NN 0).bind (bm (λo0=>
 ZA (ZE ((l.length:Int)=3))) (λr=>ZA r))
instance (l:List Int):CT prog (jw l):=⟨231,[.sl (l.map aI)],[],λr=>vb r,λr=>[],cw (jw.eq_1 ..) func231 ntmps231 results231⟩
def nv(l:fF):Option Bool:=
 (bf l.ax 1 3).bind λy1=>
 cond y1
 ((bf l.bZ 0 999999999).bind λy2=>
 cond y2
 ((cQ l.aX).bind λy3=>
 ZA y3)
 (ZA ZD))
 (ZA ZD)
instance (l:fF):CT prog (nv l):=⟨230,[.ag (sE l)],[],λr=>vb r,λr=>[],cw (nv.eq_1 ..) func230 ntmps230 results230⟩
def kY(l:List bF)(s0:Int):Option (Int⊕(Unit⊕Bool)):=
 cond (ZE (s0<(l.length:Int)))
 ((jn 4 3 (
 (aA l s0).bind λy1=>
 (cQ y1.first).bind λy2=>
 cond (!y2)
 (ZA (.inr ZD))
 ((aA l s0).bind λy3=>
 (cQ y3.last).bind λy4=>
 cond (!y4)
 (ZA (.inr ZD))
 ((aA l s0).bind λy5=>
 (aA l s0).bind λy6=>
 cond (!Us y5.first y6.last)
 (ZA (.inr ZD))
 (cond (ZE (0<s0))
 ((aA l (aH (s0-1))).bind λy7=>
 (aA l s0).bind λy8=>
 cond (!uu y7.last y8.first)
 (ZA (.inr ZD))
 (ZA (.inl ())))
 (ZA (.inl ()))))):Option (Unit⊕Bool)) (λz9=>(.sl (l.map b6)::.un::.un::vi s0::(U 56 []))) (λz9=>[])).bind (bm (λz9=>
 ZA (.inl (aH (s0+1)))) (λr=>ZA (.inr (.inr r)))))
 (ZA (.inr (.inl ())))
instance (l:List bF):bj (kY l):=⟨λs0=>(.sl (l.map b6)::.un::.un::vi s0::(U 56 [])),λs0=>[]⟩
def jI(l:List bF):Option Bool:=
 (aD (kY l) NN 0).bind (bm (λo0=>
 ZA (ZE ((l.length:Int)<=8))) (λr=>ZA r))
instance (l:List bF):CT prog (jI l):=⟨129,[.sl (l.map b6)],[],λr=>vb r,λr=>[],cw (jI.eq_1 ..) func129 ntmps129 results129⟩
def iZ(l:List bF)(jK:ByteArray)(s0:Int):Option (Int⊕(Unit⊕Int)):=
 cond (ZE (s0<(l.length:Int)))
 ((jn 6 5 (
 (aA l s0).bind λy3=>
 cond (Us y3.first jK)
 ((aA l s0).bind λy4=>
 cond (Us jK y4.last)
 (ZA (.inr s0))
 (ZA (.inl ())))
 (ZA (.inl ())):Option (Unit⊕Int)) (λz5=>(.sl (l.map b6)::vs jK::(U 3 (vi s0::(U 31 []))))) (λz5=>[])).bind (bm (λz5=>
 ZA (.inl (aH (s0+1)))) (λr=>ZA (.inr (.inr r)))))
 (ZA (.inr (.inl ())))
instance (l:List bF)(jK:ByteArray):bj (iZ l jK):=⟨λs0=>(.sl (l.map b6)::vs jK::(U 3 (vi s0::(U 31 [])))),λs0=>[]⟩
def pa(l:List bF)(jK:ByteArray):Option Int:=
 (jI l).bind λy1=>
 cond (!y1)
 (ZA (-1))
 ((cQ jK).bind λy2=>
 cond (!y2)
 (ZA (-1))
 ((aD (iZ l jK) NN 0).bind (bm (λo0=>
 ZA (-1)) (λr=>ZA r))))
instance (l:List bF)(jK:ByteArray):CT prog (pa l jK):=⟨290,[.sl (l.map b6),vs jK],[],λr=>vi r,λr=>[],cw (pa.eq_1 ..) func290 ntmps290 results290⟩
def lP(bb:List Int):Option Int:=
 (jw bb).bind λy1=>
 cond (!y1)
 (ZA 0)
 ((aA bb 0).bind λy2=>
 (aA bb 1).bind λy3=>
 (aA bb 2).bind λy4=>
 ZA (aH ((aH (y2*y3))*y4)))
instance (bb:List Int):CT prog (lP bb):=⟨321,[.sl (bb.map aI)],[],λr=>vi r,λr=>[],cw (lP.eq_1 ..) func321 ntmps321 results321⟩
def xN(l:List Int)(n:Int)(s0:Int):Option (Int⊕(Unit⊕Bool)):=
 cond (ZE (s0<(l.length:Int)))
 ((aA l s0).bind λy1=>
 cond (ZE (y1=n))
 (ZA (.inr (.inr ZC)))
 (ZA (.inl (aH (s0+1)))))
 (ZA (.inr (.inl ())))
instance (l:List Int)(n:Int):bj (xN l n):=⟨λs0=>(.un::vi n::(U 5 (.sl (l.map aI)::vi (l.length:Int)::vi s0::(U 7 [])))),λs0=>[]⟩
def uk(l:List Int)(n:Int):Option Bool:=
 (aD (xN l n) NN 0).bind (bm (λo0=>
 ZA ZD) (λr=>ZA r))
instance (l:List Int)(n:Int):CT prog (uk l n):=⟨278,[.sl (l.map aI),vi n],[],λr=>vb r,λr=>[],cw (uk.eq_1 ..) func278 ntmps278 results278⟩
def eY(w:az)(s:bc):Option az:=
 (uk w.skip (if 1000000000<(aH (w.aT+1))then 1000000000 else(aH (w.aT+1)))).bind λy1=>
 cond (!y1)
 (cond (ZE ((w.aJ.length:Int)<200))
 ((dg (bB ((w.aJ:List bc).length+([s]:List bc).length) 56)).bind λ_=>
 ZA (⟨w.aa,w.ae,w.aq,w.ah,w.now,((w.aJ:List bc)++[s]),w.skip,(if 1000000000<(aH (w.aT+1))then 1000000000 else(aH (w.aT+1)))⟩:az))
 (ZA (⟨w.aa,w.ae,w.aq,w.ah,w.now,w.aJ,w.skip,(if 1000000000<(aH (w.aT+1))then 1000000000 else(aH (w.aT+1)))⟩:az)))
 (ZA (⟨w.aa,w.ae,w.aq,w.ah,w.now,w.aJ,w.skip,(if 1000000000<(aH (w.aT+1))then 1000000000 else(aH (w.aT+1)))⟩:az))
instance (w:az)(s:bc):CT prog (eY w s):=⟨204,[.be 0 0 0,.ag (bt s)],[ZA ⟨.of 33,10,[[.ms 1,.ms 2,vi w.aa.change,.ms 3,.ms 4,.ms 5,vi w.now,.ms 6,.ms 7,vi w.aT]]⟩,ZA ⟨.of 174,6,w.aa.aB.map br⟩,ZA ⟨.of 3,1,w.aa.off.map aI⟩,ZA ⟨⟨155,ZA 46⟩,11,w.ae.map aY⟩,ZA ⟨.of 177,4,w.aq.map aC⟩,ZA ⟨.of 46,2,w.ah.map aS⟩,ZA ⟨.of 181,6,w.aJ.map bt⟩,ZA ⟨.of 3,1,w.skip.map aI⟩],λr=>.tu [],λr=>[ZA ⟨.of 33,10,[[.ms 1,.ms 2,vi r.aa.change,.ms 3,.ms 4,.ms 5,vi r.now,.ms 8,.ms 7,vi r.aT]]⟩,ZA ⟨.of 174,6,r.aa.aB.map br⟩,ZA ⟨.of 3,1,r.aa.off.map aI⟩,ZA ⟨⟨155,ZA 46⟩,11,r.ae.map aY⟩,ZA ⟨.of 177,4,r.aq.map aC⟩,ZA ⟨.of 46,2,r.ah.map aS⟩,ZB,ZA ⟨.of 3,1,r.skip.map aI⟩,ZA ⟨.of 181,6,r.aJ.map bt⟩],ck (eY.eq_1 ..) func204 ntmps204 results204⟩
def fM(w:az)(s:bc):Option az:=
 cond (ZE (w.aT<1000000000))
 ((mg w.skip (aH (w.aT+1))).bind λy1=>
 cond (!y1)
 (cond (ZE ((w.aJ.length:Int)<200))
 ((dg (bB ((w.aJ:List bc).length+([s]:List bc).length) 56)).bind λ_=>
 ZA (⟨w.aa,w.ae,w.aq,w.ah,w.now,((w.aJ:List bc)++[s]),w.skip,(aH (w.aT+1))⟩:az))
 (ZA (⟨w.aa,w.ae,w.aq,w.ah,w.now,w.aJ,w.skip,(aH (w.aT+1))⟩:az)))
 (ZA (⟨w.aa,w.ae,w.aq,w.ah,w.now,w.aJ,w.skip,(aH (w.aT+1))⟩:az)))
 ((mg w.skip w.aT).bind λy2=>
 cond (!y2)
 (cond (ZE ((w.aJ.length:Int)<200))
 ((dg (bB ((w.aJ:List bc).length+([s]:List bc).length) 56)).bind λ_=>
 ZA (⟨w.aa,w.ae,w.aq,w.ah,w.now,((w.aJ:List bc)++[s]),w.skip,w.aT⟩:az))
 (ZA w))
 (ZA w))
instance (w:az)(s:bc):CT prog (fM w s):=⟨296,[.be 0 0 0,.ag (bt s)],[ZA ⟨.of 33,10,[[.ms 1,.ms 2,vi w.aa.change,.ms 3,.ms 4,.ms 5,vi w.now,.ms 6,.ms 7,vi w.aT]]⟩,ZA ⟨.of 174,6,w.aa.aB.map br⟩,ZA ⟨.of 3,1,w.aa.off.map aI⟩,ZA ⟨.of 155,11,w.ae.map aY⟩,ZA ⟨.of 177,4,w.aq.map aC⟩,ZA ⟨.of 46,2,w.ah.map aS⟩,ZA ⟨.of 181,6,w.aJ.map bt⟩,ZA ⟨.of 3,1,w.skip.map aI⟩],λr=>.tu [],λr=>[ZA ⟨.of 33,10,[[.ms 1,.ms 2,vi r.aa.change,.ms 3,.ms 4,.ms 5,vi r.now,.ms 8,.ms 7,vi r.aT]]⟩,ZA ⟨.of 174,6,r.aa.aB.map br⟩,ZA ⟨.of 3,1,r.aa.off.map aI⟩,ZA ⟨.of 155,11,r.ae.map aY⟩,ZA ⟨.of 177,4,r.aq.map aC⟩,ZA ⟨.of 46,2,r.ah.map aS⟩,ZB,ZA ⟨.of 3,1,r.skip.map aI⟩,ZA ⟨.of 181,6,r.aJ.map bt⟩],cw (fM.eq_1 ..) func296 ntmps296 results296⟩
def iT(fg:Int)(s0:Int×Int×Int×Int×(List bM)×(List Int)×(List ay)×(List aj)×(List aw)×(List Int)×(List bc)):Option ((Int×Int×Int×Int×(List bM)×(List Int)×(List ay)×(List aj)×(List aw)×(List Int)×(List bc))⊕(Int×Int×Int×(List bM)×(List Int)×(List ay)×(List aj)×(List aw)×(List Int)×(List bc))):=
 cond (ZE (s0.1<(s0.2.2.2.2.2.2.1.length:Int)))
 ((aA s0.2.2.2.2.2.2.1 s0.1).bind λy1=>
 cond (!decide (y1.state=2))
 (ZA (.inl ((aH (s0.1+1)),s0.2.1,s0.2.2.1,s0.2.2.2.1,s0.2.2.2.2.1,s0.2.2.2.2.2.1,s0.2.2.2.2.2.2.1,s0.2.2.2.2.2.2.2.1,s0.2.2.2.2.2.2.2.2.1,s0.2.2.2.2.2.2.2.2.2.1,s0.2.2.2.2.2.2.2.2.2.2)))
 ((aA y1.aK y1.aN).bind λy2=>
 (bp (⟨s0.2.2.2.2.1,s0.2.2.2.2.2.1,s0.2.1⟩:ak) y2).bind λy3=>
 cond (!decide (y3=fg))
 (ZA (.inl ((aH (s0.1+1)),s0.2.1,s0.2.2.1,s0.2.2.2.1,s0.2.2.2.2.1,s0.2.2.2.2.2.1,s0.2.2.2.2.2.2.1,s0.2.2.2.2.2.2.2.1,s0.2.2.2.2.2.2.2.2.1,s0.2.2.2.2.2.2.2.2.2.1,s0.2.2.2.2.2.2.2.2.2.2)))
 ((aA y1.aK y1.aN).bind λy4=>
 (nG [0,1,2,3,4,5,8,7]).bind λ_=>
 (fM (⟨(⟨s0.2.2.2.2.1,s0.2.2.2.2.2.1,s0.2.1⟩:ak),s0.2.2.2.2.2.2.1,s0.2.2.2.2.2.2.2.1,s0.2.2.2.2.2.2.2.2.1,s0.2.2.1,s0.2.2.2.2.2.2.2.2.2.2,s0.2.2.2.2.2.2.2.2.2.1,s0.2.2.2.1⟩:az) (⟨(aH (s0.1+1)),fg,2,⟨#[]⟩,y4⟩:bc)).bind λy5=>
 (aA y1.aK y1.aN).bind λy6=>
 (aA y5.aa.aB y6.bG).bind λy7=>
 (aA y5.ae s0.1).bind λy8=>
 (aA y5.ae s0.1).bind λy9=>
 (aA y5.ae s0.1).bind λeE=>
 (aA y5.ae s0.1).bind λoq=>
 cond (ZE (y7.aX=y1.aX))
 ((aA y5.ae s0.1).bind λsj=>
 (aA y5.ae s0.1).bind λre=>
 (zp (y5.ae.set (V0 s0.1) (⟨y8.ar,y8.aX,y8.ax,y8.ab,y8.aO,y8.ec,y8.aK,(aH (y1.aN+1)),3,y7.aX,fg⟩:ay)) (λpx=>(.be 0 0 0::vi fg::.un::.un::vi s0.1::.be 9 0 0::(U 193 []))) (λpx=>[ZA ⟨.of 33,10,[[.ms 1,.ms 2,vi y5.aa.change,.ms 3,.ms 4,.ms 5,vi y5.now,.ms 8,.ms 7,vi y5.aT]]⟩,ZA ⟨.of 174,6,y5.aa.aB.map br⟩,ZA ⟨.of 3,1,y5.aa.off.map aI⟩,ZA ⟨.of 155,11,px.map aY⟩,ZA ⟨.of 177,4,y5.aq.map aC⟩,ZA ⟨.of 46,2,y5.ah.map aS⟩,ZB,ZA ⟨.of 3,1,y5.skip.map aI⟩,ZA ⟨.of 181,6,y5.aJ.map bt⟩,ZA ⟨.of 155,11,[[vs y1.ar,vs y1.aX,vi y1.ax,vi y1.ab,vi y1.aO,vi y1.ec,.sl (y1.aK.map aS),vi y1.aN,vi y1.state,vs y1.place,vi y1.bK]]⟩])).bind λpx=>
 (nG [0,1,2,3,4,5,8,7]).bind λ_=>
 (fM (⟨y5.aa,px,y5.aq,y5.ah,y5.now,y5.aJ,y5.skip,y5.aT⟩:az) (⟨(aH (s0.1+1)),fg,4,y1.aX,(⟨0,0⟩:aw)⟩:bc)).bind λtl=>
 ZA (.inl ((aH (s0.1+1)),tl.aa.change,tl.now,tl.aT,tl.aa.aB,tl.aa.off,tl.ae,tl.aq,tl.ah,tl.skip,tl.aJ)))
 (ZA (.inl ((aH (s0.1+1)),y5.aa.change,y5.now,y5.aT,y5.aa.aB,y5.aa.off,(y5.ae.set (V0 s0.1) (⟨y8.ar,y8.aX,y8.ax,y8.ab,y8.aO,y8.ec,y8.aK,(aH (y1.aN+1)),1,y7.aX,y8.bK⟩:ay)),y5.aq,y5.ah,y5.skip,y5.aJ))))))
 (ZA (.inr (s0.2.1,s0.2.2.1,s0.2.2.2.1,s0.2.2.2.2.1,s0.2.2.2.2.2.1,s0.2.2.2.2.2.2.1,s0.2.2.2.2.2.2.2.1,s0.2.2.2.2.2.2.2.2.1,s0.2.2.2.2.2.2.2.2.2.1,s0.2.2.2.2.2.2.2.2.2.2)))
instance (fg:Int):bj (iT fg):=⟨λs0=>(.be 0 0 0::vi fg::.un::.un::vi s0.1::(U 194 [])),λs0=>[ZA ⟨.of 33,10,[[.ms 1,.ms 2,vi s0.2.1,.ms 3,.ms 4,.ms 5,vi s0.2.2.1,.ms 8,.ms 7,vi s0.2.2.2.1]]⟩,ZA ⟨.of 174,6,s0.2.2.2.2.1.map br⟩,ZA ⟨.of 3,1,s0.2.2.2.2.2.1.map aI⟩,ZA ⟨.of 155,11,s0.2.2.2.2.2.2.1.map aY⟩,ZA ⟨.of 177,4,s0.2.2.2.2.2.2.2.1.map aC⟩,ZA ⟨.of 46,2,s0.2.2.2.2.2.2.2.2.1.map aS⟩,ZB,ZA ⟨.of 3,1,s0.2.2.2.2.2.2.2.2.2.1.map aI⟩,ZA ⟨.of 181,6,s0.2.2.2.2.2.2.2.2.2.2.map bt⟩]⟩
def iU(fg:Int)(s1:Int×Int×Int×Int×(List bM)×(List Int)×(List ay)×(List aj)×(List aw)×(List Int)×(List bc)):Option ((Int×Int×Int×Int×(List bM)×(List Int)×(List ay)×(List aj)×(List aw)×(List Int)×(List bc))⊕(Int×Int×Int×(List bM)×(List Int)×(List ay)×(List aj)×(List aw)×(List Int)×(List bc))):=
 cond (ZE (s1.1<(s1.2.2.2.2.2.2.1.length:Int)))
 ((aA s1.2.2.2.2.2.2.1 s1.1).bind λsB=>
 cond (ZE (sB.state=1))
 (cond (ZE (sB.aN<(sB.aK.length:Int)))
 ((aA sB.aK sB.aN).bind λxr=>
 (bw (⟨s1.2.2.2.2.1,s1.2.2.2.2.2.1,s1.2.1⟩:ak) xr).bind λF1=>
 cond (ZE (F1=fg))
 ((aA s1.2.2.2.2.2.2.1 s1.1).bind λJ2=>
 (aA s1.2.2.2.2.2.2.1 s1.1).bind λy20=>
 (zp (s1.2.2.2.2.2.2.1.set (V0 s1.1) (⟨J2.ar,J2.aX,J2.ax,J2.ab,J2.aO,J2.ec,J2.aK,J2.aN,2,⟨#[]⟩,J2.bK⟩:ay)) (λy21=>(.be 0 0 0::vi fg::(U 4 (vi s1.1::.be 9 0 0::(U 191 []))))) (λy21=>[ZA ⟨.of 33,10,[[.ms 1,.ms 2,vi s1.2.1,.ms 3,.ms 4,.ms 5,vi s1.2.2.1,.ms 8,.ms 7,vi s1.2.2.2.1]]⟩,ZA ⟨.of 174,6,s1.2.2.2.2.1.map br⟩,ZA ⟨.of 3,1,s1.2.2.2.2.2.1.map aI⟩,ZA ⟨.of 155,11,y21.map aY⟩,ZA ⟨.of 177,4,s1.2.2.2.2.2.2.2.1.map aC⟩,ZA ⟨.of 46,2,s1.2.2.2.2.2.2.2.2.1.map aS⟩,ZB,ZA ⟨.of 3,1,s1.2.2.2.2.2.2.2.2.2.1.map aI⟩,ZA ⟨.of 181,6,s1.2.2.2.2.2.2.2.2.2.2.map bt⟩,ZA ⟨.of 155,11,[[vs sB.ar,vs sB.aX,vi sB.ax,vi sB.ab,vi sB.aO,vi sB.ec,.sl (sB.aK.map aS),vi sB.aN,vi sB.state,vs sB.place,vi sB.bK]]⟩])).bind λy21=>
 (aA sB.aK sB.aN).bind λUI=>
 (nG [0,1,2,3,4,5,8,7]).bind λ_=>
 (fM (⟨(⟨s1.2.2.2.2.1,s1.2.2.2.2.2.1,s1.2.1⟩:ak),y21,s1.2.2.2.2.2.2.2.1,s1.2.2.2.2.2.2.2.2.1,s1.2.2.1,s1.2.2.2.2.2.2.2.2.2.2,s1.2.2.2.2.2.2.2.2.2.1,s1.2.2.2.1⟩:az) (⟨(aH (s1.1+1)),fg,3,⟨#[]⟩,UI⟩:bc)).bind λy23=>
 ZA (.inl ((aH (s1.1+1)),y23.aa.change,y23.now,y23.aT,y23.aa.aB,y23.aa.off,y23.ae,y23.aq,y23.ah,y23.skip,y23.aJ)))
 (ZA (.inl ((aH (s1.1+1)),s1.2.1,s1.2.2.1,s1.2.2.2.1,s1.2.2.2.2.1,s1.2.2.2.2.2.1,s1.2.2.2.2.2.2.1,s1.2.2.2.2.2.2.2.1,s1.2.2.2.2.2.2.2.2.1,s1.2.2.2.2.2.2.2.2.2.1,s1.2.2.2.2.2.2.2.2.2.2))))
 (ZA (.inl ((aH (s1.1+1)),s1.2.1,s1.2.2.1,s1.2.2.2.1,s1.2.2.2.2.1,s1.2.2.2.2.2.1,s1.2.2.2.2.2.2.1,s1.2.2.2.2.2.2.2.1,s1.2.2.2.2.2.2.2.2.1,s1.2.2.2.2.2.2.2.2.2.1,s1.2.2.2.2.2.2.2.2.2.2))))
 (ZA (.inl ((aH (s1.1+1)),s1.2.1,s1.2.2.1,s1.2.2.2.1,s1.2.2.2.2.1,s1.2.2.2.2.2.1,s1.2.2.2.2.2.2.1,s1.2.2.2.2.2.2.2.1,s1.2.2.2.2.2.2.2.2.1,s1.2.2.2.2.2.2.2.2.2.1,s1.2.2.2.2.2.2.2.2.2.2))))
 (ZA (.inr (s1.2.1,s1.2.2.1,s1.2.2.2.1,s1.2.2.2.2.1,s1.2.2.2.2.2.1,s1.2.2.2.2.2.2.1,s1.2.2.2.2.2.2.2.1,s1.2.2.2.2.2.2.2.2.1,s1.2.2.2.2.2.2.2.2.2.1,s1.2.2.2.2.2.2.2.2.2.2)))
instance (fg:Int):bj (iU fg):=⟨λs1=>(.be 0 0 0::vi fg::(U 4 (vi s1.1::(U 192 [])))),λs1=>[ZA ⟨.of 33,10,[[.ms 1,.ms 2,vi s1.2.1,.ms 3,.ms 4,.ms 5,vi s1.2.2.1,.ms 8,.ms 7,vi s1.2.2.2.1]]⟩,ZA ⟨.of 174,6,s1.2.2.2.2.1.map br⟩,ZA ⟨.of 3,1,s1.2.2.2.2.2.1.map aI⟩,ZA ⟨.of 155,11,s1.2.2.2.2.2.2.1.map aY⟩,ZA ⟨.of 177,4,s1.2.2.2.2.2.2.2.1.map aC⟩,ZA ⟨.of 46,2,s1.2.2.2.2.2.2.2.2.1.map aS⟩,ZB,ZA ⟨.of 3,1,s1.2.2.2.2.2.2.2.2.2.1.map aI⟩,ZA ⟨.of 181,6,s1.2.2.2.2.2.2.2.2.2.2.map bt⟩]⟩
def oL(w:az)(fg:Int):Option az:=
 (aD (iT fg) NN (0,w.aa.change,w.now,w.aT,w.aa.aB,w.aa.off,w.ae,w.aq,w.ah,w.skip,w.aJ)).bind (λo0=>
 (aD (iU fg) NN (0,o0.1,o0.2.1,o0.2.2.1,o0.2.2.2.1,o0.2.2.2.2.1,o0.2.2.2.2.2.1,o0.2.2.2.2.2.2.1,o0.2.2.2.2.2.2.2.1,o0.2.2.2.2.2.2.2.2.1,o0.2.2.2.2.2.2.2.2.2)).bind (λo1=>
 ZA (⟨(⟨o1.2.2.2.1,o1.2.2.2.2.1,o1.1⟩:ak),o1.2.2.2.2.2.1,o1.2.2.2.2.2.2.1,o1.2.2.2.2.2.2.2.1,fg,o1.2.2.2.2.2.2.2.2.2,o1.2.2.2.2.2.2.2.2.1,o1.2.2.1⟩:az)))
instance (w:az)(fg:Int):CT prog (oL w fg):=⟨238,[.be 0 0 0,vi fg],[ZA ⟨.of 33,10,[[.ms 1,.ms 2,vi w.aa.change,.ms 3,.ms 4,.ms 5,vi w.now,.ms 6,.ms 7,vi w.aT]]⟩,ZA ⟨.of 174,6,w.aa.aB.map br⟩,ZA ⟨.of 3,1,w.aa.off.map aI⟩,ZA ⟨.of 155,11,w.ae.map aY⟩,ZA ⟨.of 177,4,w.aq.map aC⟩,ZA ⟨.of 46,2,w.ah.map aS⟩,ZA ⟨.of 181,6,w.aJ.map bt⟩,ZA ⟨.of 3,1,w.skip.map aI⟩],λr=>.tu [],λr=>[ZA ⟨.of 33,10,[[.ms 1,.ms 2,vi r.aa.change,.ms 3,.ms 4,.ms 5,vi r.now,.ms 8,.ms 7,vi r.aT]]⟩,ZA ⟨.of 174,6,r.aa.aB.map br⟩,ZA ⟨.of 3,1,r.aa.off.map aI⟩,ZA ⟨.of 155,11,r.ae.map aY⟩,ZA ⟨.of 177,4,r.aq.map aC⟩,ZA ⟨.of 46,2,r.ah.map aS⟩,ZB,ZA ⟨.of 3,1,r.skip.map aI⟩,ZA ⟨.of 181,6,r.aJ.map bt⟩],cw (oL.eq_1 ..) func238 ntmps238 results238⟩
def jt(n:ak):Option ak:=
 (dg (bB ((([]:List bM):List bM).length+(n.aB:List bM).length) 64)).bind λ_=>
 (dg (bB ((([]:List Int):List Int).length+(n.off:List Int).length) 8)).bind λ_=>
 ZA (⟨((([]:List bM):List bM)++n.aB),((([]:List Int):List Int)++n.off),n.change⟩:ak)
instance (n:ak):CT prog (jt n):=⟨183,[.ag (bE n)],[],λr=>.ag [.ms 0,.ms 1,vi r.change],λr=>[ZA ⟨.of 174,6,r.aB.map br⟩,ZA ⟨.of 3,1,r.off.map aI⟩],cw (jt.eq_1 ..) func183 ntmps183 results183⟩
def rK(l:List aU)(order:Int)(kind:Int)(s0:Int×Int):Option ((Int×Int)⊕Int):=
 cond (ZE (s0.2<(l.length:Int)))
 ((jn 4 7 (
 (aA l s0.2).bind λy1=>
 cond (ZE (y1.order=order))
 (cond (ZE (y1.kind=kind))
 (ZA (.inl (aH (s0.1+y1.bh))))
 (ZA (.inl s0.1)))
 (ZA (.inl s0.1)):Option (Int⊕Empty)) (λz2=>(.un::vi order::vi kind::(U 4 (vi z2::.un::.un::.sl (l.map bD)::vi (l.length:Int)::vi s0.2::(U 19 []))))) (λz2=>[])).bind (bm (λz2=>
 ZA (.inl (z2,(aH (s0.2+1))))) (λr=>nomatch r)))
 (ZA (.inr s0.1))
instance (l:List aU)(order:Int)(kind:Int):bj (rK l order kind):=⟨λs0=>(.un::vi order::vi kind::(U 4 (vi s0.1::.un::.un::.sl (l.map bD)::vi (l.length:Int)::vi s0.2::(U 19 [])))),λs0=>[]⟩
def dQ(l:List aU)(order:Int)(kind:Int):Option Int:=
 (aD (rK l order kind) NN (0,0)).bind (λo0=>
 ZA o0)
theorem Ks(l:List aU)(order:Int)(kind:Int){r:Int}(H:dQ l order kind=ZA r):cq prog 103 [.sl (l.map bD),vi order,vi kind] [] (vi r) []:=by
 replace H:=H0 H;unfold dQ at H
 refine jm func103 rfl ntmps103 results103 λQ hQ Pz=>?_
 exact RV
instance (l:List aU)(order:Int)(kind:Int):CT prog (dQ l order kind):=⟨103,[.sl (l.map bD),vi order,vi kind],[],λr=>vi r,λr=>[],Ks l order kind⟩
def bX(l:List aU):Option (List aU):=
 (dg (bB ((([]:List aU):List aU).length+(l:List aU).length) 32)).bind λ_=>
 ZA ((([]:List aU):List aU)++l)
instance (l:List aU):CT prog (bX l):=⟨127,[.sl (l.map bD)],[],λr=>.ms 0,λr=>[ZA ⟨.of 111,4,r.map bD⟩],cw (bX.eq_1 ..) func127 ntmps127 results127⟩
def o9(x:aU):Option Bool:=
 (bf x.order 1 9999).bind λy1=>
 cond y1
 ((bf x.kind 1 3).bind λy2=>
 cond y2
 ((bf x.bh 1 100000).bind λy3=>
 cond y3
 ((bf x.aO 0 100000).bind λy4=>
 ZA y4)
 (ZA ZD))
 (ZA ZD))
 (ZA ZD)
instance (x:aU):CT prog (o9 x):=⟨226,[.ag (bD x)],[],λr=>vb r,λr=>[],cw (o9.eq_1 ..) func226 ntmps226 results226⟩
def rM(l:List aU)(order:Int)(kind:Int)(s0:Int×Int):Option ((Int×Int)⊕Int):=
 cond (ZE (s0.2<(l.length:Int)))
 ((jn 5 4 (
 (aA l s0.2).bind λy1=>
 cond (ZE (y1.order=order))
 ((aA l s0.2).bind λy2=>
 cond (ZE (y2.kind=kind))
 ((aA l s0.2).bind λy3=>
 ZA (.inl (aH (s0.1+y3.bh))))
 (ZA (.inl s0.1)))
 (ZA (.inl s0.1)):Option (Int⊕Empty)) (λz4=>(.sl (l.map bD)::vi order::vi kind::(U 4 (vi z4::vi s0.2::(U 30 []))))) (λz4=>[])).bind (bm (λz4=>
 ZA (.inl (z4,(aH (s0.2+1))))) (λr=>nomatch r)))
 (ZA (.inr s0.1))
instance (l:List aU)(order:Int)(kind:Int):bj (rM l order kind):=⟨λs0=>(.sl (l.map bD)::vi order::vi kind::(U 4 (vi s0.1::vi s0.2::(U 30 [])))),λs0=>[]⟩
def eD(l:List aU)(order:Int)(kind:Int):Option Int:=
 (aD (rM l order kind) NN (0,0)).bind (λo0=>
 ZA o0)
theorem Kt(l:List aU)(order:Int)(kind:Int){r:Int}(H:eD l order kind=ZA r):cq prog 227 [.sl (l.map bD),vi order,vi kind] [] (vi r) []:=by
 replace H:=H0 H;unfold eD at H
 refine jm func227 rfl ntmps227 results227 λQ hQ Pz=>?_
 exact RV
instance (l:List aU)(order:Int)(kind:Int):CT prog (eD l order kind):=⟨227,[.sl (l.map bD),vi order,vi kind],[],λr=>vi r,λr=>[],Kt l order kind⟩
def nX(l:List aU)(order:Int)(kind:Int)(s0:Int×Int):Option ((Int×Int)⊕Int):=
 cond (ZE (s0.2<(l.length:Int)))
 ((jn 5 4 (
 (aA l s0.2).bind λy1=>
 cond (ZE (y1.order=order))
 ((aA l s0.2).bind λy2=>
 cond (ZE (y2.kind=kind))
 (ZA (.inl (aH (s0.1+1))))
 (ZA (.inl s0.1)))
 (ZA (.inl s0.1)):Option (Int⊕Empty)) (λz3=>(.sl (l.map bD)::vi order::vi kind::(U 4 (vi z3::vi s0.2::(U 25 []))))) (λz3=>[])).bind (bm (λz3=>
 ZA (.inl (z3,(aH (s0.2+1))))) (λr=>nomatch r)))
 (ZA (.inr s0.1))
instance (l:List aU)(order:Int)(kind:Int):bj (nX l order kind):=⟨λs0=>(.sl (l.map bD)::vi order::vi kind::(U 4 (vi s0.1::vi s0.2::(U 25 [])))),λs0=>[]⟩
def lQ(l:List aU)(order:Int)(kind:Int):Option Int:=
 (aD (nX l order kind) NN (0,0)).bind (λo0=>
 ZA o0)
instance (l:List aU)(order:Int)(kind:Int):CT prog (lQ l order kind):=⟨228,[.sl (l.map bD),vi order,vi kind],[],λr=>vi r,λr=>[],cw (lQ.eq_1 ..) func228 ntmps228 results228⟩
def ga(l:List aU)(s0:Int):Option (Int⊕(Unit⊕Bool)):=
 cond (ZE (s0<(l.length:Int)))
 ((jn 6 5 (
 (aA l s0).bind λy1=>
 (jn 7 9 (
 (o9 y1).bind λy2=>
 cond (!y2)
 (ZA (.inr ZD))
 (cond (ZE (0<s0))
 ((aA l (aH (s0-1))).bind λy3=>
 cond (ZE (y1.aO<y3.aO))
 (ZA (.inr ZD))
 (ZA (.inl ())))
 (ZA (.inl ()))):Option (Unit⊕Bool)) (λz4=>(.sl (l.map bD)::.un::.un::vi s0::.be 0 0 0::(U 76 []))) (λz4=>[ZA ⟨.of 111,4,[[vi y1.order,vi y1.kind,vi y1.bh,vi y1.aO]]⟩])).bind (bm (λz4=>
 (dg (iC 0 s0 l.length)).bind λ_=>
 (eD (cZ l 0 s0) y1.order 1).bind λy5=>
 cond (ZE (y1.kind=1))
 (cond (ZE (0<y5))
 (ZA (.inr ZD))
 (ZA (.inl ())))
 (cond (ZE (y1.kind=2))
 ((eD (cZ l 0 s0) y1.order 2).bind λy6=>
 cond (ZE (y5<(aH (y6+y1.bh))))
 (ZA (.inr ZD))
 (ZA (.inl ())))
 ((lQ (cZ l 0 s0) y1.order 3).bind λy7=>
 cond (ZE (0<y7))
 (ZA (.inr ZD))
 (cond (ZE (y5<y1.bh))
 (ZA (.inr ZD))
 ((eD (cZ l 0 s0) y1.order 2).bind λy8=>
 cond (!decide (y8=y5))
 (ZA (.inr ZD))
 (ZA (.inl ()))))))) (λr=>ZA (.inr r))):Option (Unit⊕Bool)) (λz9=>(.sl (l.map bD)::.un::.un::vi s0::(U 77 []))) (λz9=>[])).bind (bm (λz9=>
 ZA (.inl (aH (s0+1)))) (λr=>ZA (.inr (.inr r)))))
 (ZA (.inr (.inl ())))
instance (l:List aU):bj (ga l):=⟨λs0=>(.sl (l.map bD)::.un::.un::vi s0::(U 77 [])),λs0=>[]⟩
def dU(l:List aU):Option Bool:=
 cond (ZE (200<(l.length:Int)))
 (ZA ZD)
 ((aD (ga l) NN 0).bind (bm (λo0=>
 ZA ZC) (λr=>ZA r)))
theorem EO(l:List aU){r:Bool}(H:dU l=ZA r):cq prog 132 [.sl (l.map bD)] [] (vb r) []:=by
 replace H:=H0 H;unfold dU at H
 refine jm func132 rfl ntmps132 results132 λQ hQ Pz=>?_
 exact RV
instance (l:List aU):CT prog (dU l):=⟨132,[.sl (l.map bD)],[],λr=>vb r,λr=>[],EO l⟩
def ll(l:List aU)(x:aU):Option ((List aU)×Int):=
 (bX l).bind λy1=>
 (dg (bB ((y1:List aU).length+([x]:List aU).length) 32)).bind λ_=>
 cond (ZE (200<=(l.length:Int)))
 ((bX l).bind λy2=>
 ZA (y2,5))
 ((dU ((y1:List aU)++[x])).bind λy3=>
 cond (!y3)
 ((bX l).bind λy4=>
 ZA (y4,1))
 (ZA (((y1:List aU)++[x]),0)))
instance (l:List aU)(x:aU):CT prog (ll l x):=⟨297,[.sl (l.map bD),.ag (bD x)],[],λr=>.tu [.ms 0,vi r.2],λr=>[ZA ⟨.of 111,4,r.1.map bD⟩],cw (ll.eq_1 ..) func297 ntmps297 results297⟩
def kZ(l:List aU)(order:Int)(bh:Int)(fG:Int):Option ((List aU)×Int):=
 (dU l).bind λy1=>
 cond (!y1)
 ((bX l).bind λy2=>
 ZA (y2,1))
 ((o9 (⟨order,1,bh,fG⟩:aU)).bind λy3=>
 cond (!y3)
 ((bX l).bind λy4=>
 ZA (y4,1))
 ((eD l order 1).bind λy5=>
 cond (ZE (0<y5))
 ((bX l).bind λy6=>
 ZA (y6,2))
 ((ll l (⟨order,1,bh,fG⟩:aU)).bind λy7=>
 ZA (y7.1,y7.2))))
instance (l:List aU)(order:Int)(bh:Int)(fG:Int):CT prog (kZ l order bh fG):=⟨234,[.sl (l.map bD),vi order,vi bh,vi fG],[],λr=>.tu [.ms 0,vi r.2],λr=>[ZA ⟨.of 111,4,r.1.map bD⟩],cw (kZ.eq_1 ..) func234 ntmps234 results234⟩
def nz(l:List aU)(order:Int):Option Int:=
 (dU l).bind λy1=>
 cond (!y1)
 (ZA 0)
 ((eD l order 1).bind λy2=>
 (eD l order 2).bind λy3=>
 ZA (aH (y2-y3)))
instance (l:List aU)(order:Int):CT prog (nz l order):=⟨182,[.sl (l.map bD),vi order],[],λr=>vi r,λr=>[],cw (nz.eq_1 ..) func182 ntmps182 results182⟩
def oN(l:List aU)(order:Int)(bh:Int)(fG:Int):Option ((List aU)×Int):=
 (dU l).bind λy1=>
 cond (!y1)
 ((bX l).bind λy2=>
 ZA (y2,1))
 ((o9 (⟨order,2,bh,fG⟩:aU)).bind λy3=>
 cond (!y3)
 ((bX l).bind λy4=>
 ZA (y4,1))
 ((eD l order 1).bind λy5=>
 cond (ZE (y5=0))
 ((bX l).bind λy6=>
 ZA (y6,3))
 ((nz l order).bind λy7=>
 cond (ZE (y7<bh))
 ((bX l).bind λy8=>
 ZA (y8,4))
 ((ll l (⟨order,2,bh,fG⟩:aU)).bind λy9=>
 ZA (y9.1,y9.2)))))
instance (l:List aU)(order:Int)(bh:Int)(fG:Int):CT prog (oN l order bh fG):=⟨235,[.sl (l.map bD),vi order,vi bh,vi fG],[],λr=>.tu [.ms 0,vi r.2],λr=>[ZA ⟨.of 111,4,r.1.map bD⟩],cw (oN.eq_1 ..) func235 ntmps235 results235⟩
def lE(l:List Int)(s0:Int):Option (Int⊕(Unit⊕Bool)):=
 cond (ZE (s0<(l.length:Int)))
 ((jn 4 3 (
 (aA l s0).bind λy1=>
 (bf y1 0 100).bind λy2=>
 cond (!y2)
 (ZA (.inr ZD))
 (cond (ZE (0<s0))
 ((aA l (aH (s0-1))).bind λy3=>
 (aA l s0).bind λy4=>
 cond (ZE (y4<y3))
 (ZA (.inr ZD))
 (ZA (.inl ())))
 (ZA (.inl ()))):Option (Unit⊕Bool)) (λz5=>(.sl (l.map aI)::.un::.un::vi s0::(U 31 []))) (λz5=>[])).bind (bm (λz5=>
 ZA (.inl (aH (s0+1)))) (λr=>ZA (.inr (.inr r)))))
 (ZA (.inr (.inl ())))
instance (l:List Int):bj (lE l):=⟨λs0=>(.sl (l.map aI)::.un::.un::vi s0::(U 31 [])),λs0=>[]⟩
def eB(l:List Int):Option Bool:=
 (aD (lE l) NN 0).bind (bm (λo0=>
 (bf (l.length:Int) 1 6).bind λy6=>
 ZA y6) (λr=>ZA r))
theorem A0(l:List Int){r:Bool}(H:eB l=ZA r):cq prog 131 [.sl (l.map aI)] [] (vb r) []:=by
 replace H:=H0 H;unfold eB at H
 refine jm func131 rfl ntmps131 results131 λQ hQ Pz=>?_
 exact RV
instance (l:List Int):CT prog (eB l):=⟨131,[.sl (l.map aI)],[],λr=>vb r,λr=>[],A0 l⟩
def ky(pC:Int)(ec:Int)(bK:Int)(aF:List Int):Option Int:=
 (eB aF).bind λy1=>
 cond (!y1)
 (ZA 0)
 ((bf pC 0 100000).bind λy2=>
 cond (!y2)
 (ZA 0)
 ((bf ec 0 200000).bind λy3=>
 cond (!y3)
 (ZA 0)
 ((bf bK 0 200000).bind λy4=>
 cond (!y4)
 (ZA 0)
 (cond (ZE (bK<=ec))
 (ZA 0)
 ((jn 4 6 (
 cond (ZE ((aF.length:Int)<=(IntKind.i64.wrap (Xb (aH ((aH (bK-ec))-1)) 1440))))
 (ZA (.inl (aH ((aF.length:Int)-1))))
 (ZA (.inl (IntKind.i64.wrap (Xb (aH ((aH (bK-ec))-1)) 1440)))):Option (Int⊕Empty)) (λz5=>(vi pC::.un::.un::.sl (aF.map aI)::(U 5 (vi z5::(U 42 []))))) (λz5=>[])).bind (bm (λz5=>
 (aA aF z5).bind λy6=>
 ZA (IntKind.i64.wrap (Xb (aH (pC*y6)) 100))) (λr=>nomatch r)))))))
instance (pC:Int)(ec:Int)(bK:Int)(aF:List Int):CT prog (ky pC ec bK aF):=⟨298,[vi pC,vi ec,vi bK,.sl (aF.map aI)],[],λr=>vi r,λr=>[],cw (ky.eq_1 ..) func298 ntmps298 results298⟩
def lj(l:List aU)(order:Int)(ec:Int)(bK:Int)(aF:List Int)(qO:Int):Option ((List aU)×Int):=
 (eD l order 1).bind λy1=>
 (dU l).bind λy2=>
 cond (!y2)
 ((bX l).bind λy3=>
 ZA (y3,1))
 ((eB aF).bind λy4=>
 cond (!y4)
 ((bX l).bind λy5=>
 ZA (y5,1))
 ((bf order 1 9999).bind λy6=>
 cond (!y6)
 ((bX l).bind λy7=>
 ZA (y7,1))
 ((bf qO 0 100000).bind λy8=>
 cond (!y8)
 ((bX l).bind λy9=>
 ZA (y9,1))
 (cond (ZE (y1=0))
 ((bX l).bind λeE=>
 ZA (eE,3))
 ((nz l order).bind λoq=>
 cond (ZE (0<oq))
 ((bX l).bind λsj=>
 ZA (sj,3))
 ((lQ l order 3).bind λre=>
 cond (ZE (0<re))
 ((bX l).bind λpx=>
 ZA (px,2))
 ((ky y1 ec bK aF).bind λtl=>
 cond (ZE (tl=0))
 ((bX l).bind λsB=>
 ZA (sB,4))
 ((ky y1 ec bK aF).bind λxr=>
 (ll l (⟨order,3,xr,qO⟩:aU)).bind λF1=>
 ZA (F1.1,F1.2)))))))))
instance (l:List aU)(order:Int)(ec:Int)(bK:Int)(aF:List Int)(qO:Int):CT prog (lj l order ec bK aF qO):=⟨236,[.sl (l.map bD),vi order,vi ec,vi bK,.sl (aF.map aI),vi qO],[],λr=>.tu [.ms 0,vi r.2],λr=>[ZA ⟨.of 111,4,r.1.map bD⟩],cw (lj.eq_1 ..) func236 ntmps236 results236⟩
def mv(a:Int)(b:Int):Option Int:=
 cond (ZE (a<b))
 (ZA b)
 (ZA a)
instance (a:Int)(b:Int):CT prog (mv a b):=⟨181,[vi a,vi b],[],λr=>vi r,λr=>[],cw (mv.eq_1 ..) func181 ntmps181 results181⟩
def ib(places:List ByteArray)(cz:Int)(nE:Int)(s0:Int×(List Int)):Option ((Int×(List Int))⊕(List Int)):=
 cond (ZE (s0.1<(places.length:Int)))
 (cond (ZE (s0.1=cz))
 ((mv nE 0).bind λy1=>
 (dg (bB ((s0.2:List Int).length+([y1]:List Int).length) 8)).bind λ_=>
 ZA (.inl ((aH (s0.1+1)),((s0.2:List Int)++[y1]))))
 ((dg (bB ((s0.2:List Int).length+([(-1)]:List Int).length) 8)).bind λ_=>
 ZA (.inl ((aH (s0.1+1)),((s0.2:List Int)++[(-1)])))))
 (ZA (.inr s0.2))
instance (places:List ByteArray)(cz:Int)(nE:Int):bj (ib places cz nE):=⟨λs0=>(.sl (places.map km)::vi cz::vi nE::(U 4 (.ms 0::vi s0.1::(U 19 [])))),λs0=>[ZA ⟨.of 3,1,s0.2.map aI⟩]⟩
def ia(places:List ByteArray)(cz:Int)(nE:Int):Option (List Int):=
 (aD (ib places cz nE) NN (0,([]:List Int))).bind (λo0=>
 ZA o0)
instance (places:List ByteArray)(cz:Int)(nE:Int):CT prog (ia places cz nE):=⟨342,[.sl (places.map km),vi cz,vi nE],[],λr=>.ms 0,λr=>[ZA ⟨.of 3,1,r.map aI⟩],cw (ia.eq_1 ..) func342 ntmps342 results342⟩
def da(n:ak)(fg:Int)(first:Bool):Option Int:=
 cond first
 (ZA fg)
 (ZA (aH (fg+n.change)))
instance (n:ak)(fg:Int)(first:Bool):CT prog (da n fg first):=⟨345,[.ag (bE n),vi fg,vb first],[],λr=>vi r,λr=>[],cw (da.eq_1 ..) func345 ntmps345 results345⟩
def iX(n:ak)(l:List aj)(bo:Int)(fG:Int)(y1:Bool)(s0:Int×(List aj)):Option ((Int×(List aj))⊕(List aj)):=
 cond (ZE (s0.1<(l.length:Int)))
 (cond (!y1)
 ((aA l s0.1).bind λy2=>
 (dg (bB ((s0.2:List aj).length+([y2]:List aj).length) 32)).bind λ_=>
 ZA (.inl ((aH (s0.1+1)),((s0.2:List aj)++[y2]))))
 ((aA l s0.1).bind λy3=>
 cond (!decide (y3.bo=bo))
 ((aA l s0.1).bind λy4=>
 (dg (bB ((s0.2:List aj).length+([y4]:List aj).length) 32)).bind λ_=>
 ZA (.inl ((aH (s0.1+1)),((s0.2:List aj)++[y4]))))
 ((aA l s0.1).bind λy5=>
 (bw n y5.aV).bind λy6=>
 cond (ZE (y6<fG))
 ((aA l s0.1).bind λy7=>
 (dg (bB ((s0.2:List aj).length+([y7]:List aj).length) 32)).bind λ_=>
 ZA (.inl ((aH (s0.1+1)),((s0.2:List aj)++[y7]))))
 (ZA (.inl ((aH (s0.1+1)),s0.2))))))
 (ZA (.inr s0.2))
instance (n:ak)(l:List aj)(bo:Int)(fG:Int)(y1:Bool):bj (iX n l bo fG y1):=⟨λs0=>(.un::.sl (l.map aC)::vi bo::vi fG::.be 0 0 0::(U 4 (.ms 1::vb y1::vi s0.1::(U 40 [])))),λs0=>[ZA ⟨.of 27,3,[[.sl (n.aB.map br),.sl (n.off.map aI),vi n.change]]⟩,ZA ⟨.of 177,4,s0.2.map aC⟩]⟩
def lO(n:ak)(l:List aj)(bo:Int)(fG:Int):Option (List aj):=
 (eA n l).bind λy1=>
 (aD (iX n l bo fG y1) NN (0,([]:List aj))).bind (λo0=>
 ZA o0)
instance (n:ak)(l:List aj)(bo:Int)(fG:Int):CT prog (lO n l bo fG):=⟨300,[.ag (bE n),.sl (l.map aC),vi bo,vi fG],[],λr=>.ms 0,λr=>[ZA ⟨.of 177,4,r.map aC⟩],cw (lO.eq_1 ..) func300 ntmps300 results300⟩
def qG(n:ak)(bG:Int)(nE:Int)(s0:Int):Option (Int⊕(Unit⊕Int)):=
 cond (ZE (s0<=60))
 ((cy n bG s0).bind λy1=>
 cond y1
 ((bw n (⟨bG,s0⟩:aw)).bind λy2=>
 cond (ZE (nE<=y2))
 (ZA (.inr (.inr s0)))
 (ZA (.inl (aH (s0+1)))))
 (ZA (.inl (aH (s0+1)))))
 (ZA (.inr (.inl ())))
instance (n:ak)(bG:Int)(nE:Int):bj (qG n bG nE):=⟨λs0=>(.un::vi bG::vi nE::.be 0 0 0::(U 3 (vi s0::(U 18 [])))),λs0=>[ZA ⟨.of 27,3,[[.sl (n.aB.map br),.sl (n.off.map aI),vi n.change]]⟩]⟩
def rv(n:ak)(bG:Int)(nE:Int):Option Int:=
 (aD (qG n bG nE) NN 0).bind (bm (λo0=>
 ZA (-1)) (λr=>ZA r))
instance (n:ak)(bG:Int)(nE:Int):CT prog (rv n bG nE):=⟨306,[.ag (bE n),vi bG,vi nE],[],λr=>vi r,λr=>[],cw (rv.eq_1 ..) func306 ntmps306 results306⟩
def qx(i:Int)(j:Int)(DY:List aj):Option Bool:=
 (aA DY i).bind λy1=>
 (aA DY j).bind λy2=>
 (fz y1 y2).bind λy3=>
 ZA (ZE (y3<0))
instance (i:Int)(j:Int)(DY:List aj):CT prog (qx i j DY):=⟨276,[vi i,vi j,.rp [.sl (DY.map aC)]],[],λr=>vb r,λr=>[],cw (qx.eq_1 ..) func276 ntmps276 results276⟩
def iV(o:ZI)(a:ZJ):Option (Int×ZI):=
 (bf a.order 1 (o.aG.length:Int)).bind λy1=>
 cond (!y1)
 (ZA (4,o))
 ((oN o.lines a.order a.bh o.world.now).bind λy2=>
 cond (ZE (a.kind=6))
 ((aA o.world.ae (aH (a.order-1))).bind λy3=>
 cond (!decide (y3.state=3))
 (ZA (4,o))
 ((lj o.lines a.order y3.ec y3.bK o.aF o.world.now).bind λy4=>
 cond (!decide (y4.2=0))
 (ZA (4,o))
 (ZA (0,(⟨o.world,o.aP,o.aR,o.aF,o.aG,y4.1,o.aE⟩:ZI)))))
 (cond (!decide (y2.2=0))
 (ZA (4,o))
 (ZA (0,(⟨o.world,o.aP,o.aR,o.aF,o.aG,y2.1,o.aE⟩:ZI)))))
instance (o:ZI)(a:ZJ):CT prog (iV o a):=⟨137,[.be 0 0 0,.ag (ZK a)],[ZA ⟨.of 40,16,[[.sl (o.world.aa.aB.map br),.sl (o.world.aa.off.map aI),vi o.world.aa.change,.sl (o.world.ae.map aY),.sl (o.world.aq.map aC),.sl (o.world.ah.map aS),vi o.world.now,.sl (o.world.aJ.map bt),.sl (o.world.skip.map aI),vi o.world.aT,.ms 1,.ms 2,.ms 3,.ms 4,.ms 5,.ms 6]]⟩,ZA ⟨.of 104,2,o.aP.map b6⟩,ZA ⟨.of 107,4,o.aR.map b9⟩,ZA ⟨.of 3,1,o.aF.map aI⟩,ZA ⟨.of 44,7,o.aG.map bq⟩,ZA ⟨.of 111,4,o.lines.map bD⟩,ZA ⟨.of 48,13,o.aE.map ZK⟩],λr=>vi r.1,λr=>[ZA ⟨.of 40,16,[[.sl (r.2.world.aa.aB.map br),.sl (r.2.world.aa.off.map aI),vi r.2.world.aa.change,.sl (r.2.world.ae.map aY),.sl (r.2.world.aq.map aC),.sl (r.2.world.ah.map aS),vi r.2.world.now,.sl (r.2.world.aJ.map bt),.sl (r.2.world.skip.map aI),vi r.2.world.aT,.ms 1,.ms 2,.ms 3,.ms 4,.ms 7,.ms 6]]⟩,ZA ⟨.of 104,2,r.2.aP.map b6⟩,ZA ⟨.of 107,4,r.2.aR.map b9⟩,ZA ⟨.of 3,1,r.2.aF.map aI⟩,ZA ⟨.of 44,7,r.2.aG.map bq⟩,ZB,ZA ⟨.of 48,13,r.2.aE.map ZK⟩,ZA ⟨.of 111,4,r.2.lines.map bD⟩],cw (iV.eq_1 ..) func137 ntmps137 results137⟩
end Go.Proofs.YtbalgkakkoocjaaGreat
