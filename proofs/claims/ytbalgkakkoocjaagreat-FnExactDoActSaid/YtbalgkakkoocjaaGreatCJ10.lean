/- A part of the proof of the statement in the last file of this claim: texts on the language of the program and on its functions. No condition. -/
import Derived.Test.YtbalgkakkoocjaaGreatCJ6
import Derived.Test.YtbalgkakkoocjaaGreatCJ5
import Derived.Test.YtbalgkakkoocjaaGreatCJ4
import Derived.Test.YtbalgkakkoocjaaGreatCJ7
import Derived.Test.YtbalgkakkoocjaaGreatCJ1
set_option linter.unusedVariables false
set_option linter.unusedSimpArgs false
set_option linter.unusedSectionVars false
open Go.Value renaming int->ZF
open Go.IntKind renaming i64->ZG
open Go renaming undef->ZH
open Option renaming some->ZA,none->ZB
open Bool renaming true->ZC,false->ZD
open Decidable renaming decide->ZE
open Go.Proofs.Tryz
set_option maxHeartbeats 40000000
open _root_.Int renaming tmod->Yn,toNat->V0,tdiv->Xb
open Nat renaming le_refl->VJ,mul_le_mul_right->V1,add_mul->Xm,one_mul->Yj,lt_trichotomy->W1
namespace Go.Proofs.YtbalgkakkoocjaaGreat
set_option maxRecDepth 10000
open Go.RowKit
variable {β:Type}{Q:β->Prop}{r:β}{x:Option β}
def tN(a:List bM)(s0:Int×Int):Option ((Int×Int)⊕(Int⊕Int)):=
 cond (ZE (s0.2<(a.length:Int)))
 ((aA a s0.2).bind λy1=>
 (nS y1 s0.1).bind λy2=>
 cond (ZE (y2<0))
 (ZA (.inr (.inr (-1))))
 (ZA (.inl (y2,(aH (s0.2+1))))))
 (ZA (.inr (.inl s0.1)))
instance (a:List bM):bj (tN a):=⟨λs0=>(.sl (a.map br)::vi s0.1::(U 3 (vi s0.2::(U 21 [])))),λs0=>[]⟩
def rq(a:List bM)(left:Int):Option Int:=
 cond (ZE ((aH (left-(a.length:Int)))<0))
 (ZA (-1))
 ((aD (tN a) NN ((aH (left-(a.length:Int))),0)).bind (bm (λo0=>
 ZA o0) (λr=>ZA r)))
instance (a:List bM)(left:Int):CT prog (rq a left):=⟨215,[.sl (a.map br),vi left],[],λr=>vi r,λr=>[],cw (rq.eq_1 ..) func215 ntmps215 results215⟩
def ni(a:List aw)(left:Int):Option Int:=
 cond (ZE ((aH (left-(a.length:Int)))<0))
 (ZA (-1))
 (ZA (aH (left-(a.length:Int))))
instance (a:List aw)(left:Int):CT prog (ni a left):=⟨121,[.sl (a.map aS),vi left],[],λr=>vi r,λr=>[],cw (ni.eq_1 ..) func121 ntmps121 results121⟩
def kU(a:ay)(left:Int):Option Int:=
 cond (ZE ((aH (left-(a.ar.size:Int)))<0))
 (ZA (-1))
 (cond (ZE ((aH ((aH (left-(a.ar.size:Int)))-(a.aX.size:Int)))<0))
 (ZA (-1))
 ((ni a.aK (aH ((aH (left-(a.ar.size:Int)))-(a.aX.size:Int)))).bind λy1=>
 cond (ZE (y1<0))
 (ZA (-1))
 (cond (ZE ((aH (y1-(a.place.size:Int)))<0))
 (ZA (-1))
 (ZA (aH (y1-(a.place.size:Int)))))))
instance (a:ay)(left:Int):CT prog (kU a left):=⟨216,[.ag (aY a),vi left],[],λr=>vi r,λr=>[],cw (kU.eq_1 ..) func216 ntmps216 results216⟩
def rY(a:List ay)(s0:Int×Int):Option ((Int×Int)⊕(Int⊕Int)):=
 cond (ZE (s0.2<(a.length:Int)))
 ((aA a s0.2).bind λy1=>
 (kU y1 s0.1).bind λy2=>
 cond (ZE (y2<0))
 (ZA (.inr (.inr (-1))))
 (ZA (.inl (y2,(aH (s0.2+1))))))
 (ZA (.inr (.inl s0.1)))
instance (a:List ay):bj (rY a):=⟨λs0=>(.sl (a.map aY)::vi s0.1::(U 3 (vi s0.2::(U 21 [])))),λs0=>[]⟩
def oK(a:List ay)(left:Int):Option Int:=
 cond (ZE ((aH (left-(a.length:Int)))<0))
 (ZA (-1))
 ((aD (rY a) NN ((aH (left-(a.length:Int))),0)).bind (bm (λo0=>
 ZA o0) (λr=>ZA r)))
instance (a:List ay)(left:Int):CT prog (oK a left):=⟨119,[.sl (a.map aY),vi left],[],λr=>vi r,λr=>[],cw (oK.eq_1 ..) func119 ntmps119 results119⟩
def l6(a:List aj)(left:Int):Option Int:=
 cond (ZE ((aH (left-(a.length:Int)))<0))
 (ZA (-1))
 (ZA (aH (left-(a.length:Int))))
instance (a:List aj)(left:Int):CT prog (l6 a left):=⟨120,[.sl (a.map aC),vi left],[],λr=>vi r,λr=>[],cw (l6.eq_1 ..) func120 ntmps120 results120⟩
def mq(a:bc)(left:Int):Option Int:=
 cond (ZE ((aH (left-(a.place.size:Int)))<0))
 (ZA (-1))
 (ZA (aH (left-(a.place.size:Int))))
instance (a:bc)(left:Int):CT prog (mq a left):=⟨217,[.ag (bt a),vi left],[],λr=>vi r,λr=>[],cw (mq.eq_1 ..) func217 ntmps217 results217⟩
def sV(a:List bc)(s0:Int×Int):Option ((Int×Int)⊕(Int⊕Int)):=
 cond (ZE (s0.2<(a.length:Int)))
 ((aA a s0.2).bind λy1=>
 (mq y1 s0.1).bind λy2=>
 cond (ZE (y2<0))
 (ZA (.inr (.inr (-1))))
 (ZA (.inl (y2,(aH (s0.2+1))))))
 (ZA (.inr (.inl s0.1)))
instance (a:List bc):bj (sV a):=⟨λs0=>(.sl (a.map bt)::vi s0.1::(U 3 (vi s0.2::(U 21 [])))),λs0=>[]⟩
def qa(a:List bc)(left:Int):Option Int:=
 cond (ZE ((aH (left-(a.length:Int)))<0))
 (ZA (-1))
 ((aD (sV a) NN ((aH (left-(a.length:Int))),0)).bind (bm (λo0=>
 ZA o0) (λr=>ZA r)))
instance (a:List bc)(left:Int):CT prog (qa a left):=⟨122,[.sl (a.map bt),vi left],[],λr=>vi r,λr=>[],cw (qa.eq_1 ..) func122 ntmps122 results122⟩
def qe(a:fF):Option fF:=
 ZA a
instance (a:fF):CT prog (qe a):=⟨149,[.ag (sE a)],[],λr=>.ag [vi r.ax,vi r.bZ,vs r.aX],λr=>[],cw (qe.eq_1 ..) func149 ntmps149 results149⟩
def pY(a:List aU)(left:Int):Option Int:=
 cond (ZE ((aH (left-(a.length:Int)))<0))
 (ZA (-1))
 (ZA (aH (left-(a.length:Int))))
instance (a:List aU)(left:Int):CT prog (pY a left):=⟨48,[.sl (a.map bD),vi left],[],λr=>vi r,λr=>[],cw (pY.eq_1 ..) func48 ntmps48 results48⟩
def dp(s:ByteArray)(s0:Int):Option (Int⊕(Unit⊕Bool)):=
 cond (ZE (s0<(s.size:Int)))
 ((Ka s s0).bind λy1=>
 cond (ZE (y1<65))
 (ZA (.inr (.inr ZD)))
 ((Ka s s0).bind λy2=>
 cond (ZE (90<y2))
 (ZA (.inr (.inr ZD)))
 (ZA (.inl (aH (s0+1))))))
 (ZA (.inr (.inl ())))
instance (s:ByteArray):bj (dp s):=⟨λs0=>(vs s::.un::.un::vi s0::(U 19 [])),λs0=>[]⟩
def dH(s:ByteArray):Option Bool:=
 (aD (dp s) NN 0).bind (bm (λo0=>
 ZA (ZE ((s.size:Int)=3))) (λr=>ZA r))
instance (s:ByteArray):CT prog (dH s):=⟨192,[vs s],[],λr=>vb r,λr=>[],cw (dH.eq_1 ..) func192 ntmps192 results192⟩
def aZ(n:Int)(low:Int)(high:Int):Option Bool:=
 cond (ZE (low<=n))
 (ZA (ZE (n<=high)))
 (ZA ZD)
instance (n:Int)(low:Int)(high:Int):CT prog (aZ n low high):=⟨105,[vi n,vi low,vi high],[],λr=>vb r,λr=>[],cw (aZ.eq_1 ..) func105 ntmps105 results105⟩
def sJ(l:bM):Option Bool:=
 (dH l.ar).bind λy1=>
 cond y1
 ((dH l.aX).bind λy2=>
 cond y2
 (cond (!decide (l.ar=l.aX))
 ((aZ l.start 0 1439).bind λy3=>
 cond y3
 ((aZ l.oS 1 4320).bind λy4=>
 cond y4
 ((aZ l.AW 1 127).bind λy5=>
 cond y5
 ((aZ l.jl 0 1000000).bind λy6=>
 ZA y6)
 (ZA ZD))
 (ZA ZD))
 (ZA ZD))
 (ZA ZD))
 (ZA ZD))
 (ZA ZD)
instance (l:bM):CT prog (sJ l):=⟨307,[.ag (br l)],[],λr=>vb r,λr=>[],cw (sJ.eq_1 ..) func307 ntmps307 results307⟩
def mD(n:ak)(s0:Int):Option (Int⊕(Unit⊕Bool)):=
 cond (ZE (s0<(n.aB.length:Int)))
 ((aA n.aB s0).bind λy1=>
 (sJ y1).bind λy2=>
 cond (!y2)
 (ZA (.inr (.inr ZD)))
 (ZA (.inl (aH (s0+1)))))
 (ZA (.inr (.inl ())))
instance (n:ak):bj (mD n):=⟨λs0=>(.un::.be 0 0 0::(U 6 (.sl (n.aB.map br)::vi (n.aB.length:Int)::vi s0::(U 48 [])))),λs0=>[ZA ⟨.of 27,3,[[.sl (n.aB.map br),.sl (n.off.map aI),vi n.change]]⟩]⟩
def mE(n:ak)(s1:Int):Option (Int⊕(Unit⊕Bool)):=
 cond (ZE (s1<(n.off.length:Int)))
 ((aA n.off s1).bind λy3=>
 (aZ y3 0 60).bind λy4=>
 cond (!y4)
 (ZA (.inr (.inr ZD)))
 (cond (ZE (0<s1))
 ((aA n.off (aH (s1-1))).bind λy5=>
 cond (ZE (y3<=y5))
 (ZA (.inr (.inr ZD)))
 (ZA (.inl (aH (s1+1)))))
 (ZA (.inl (aH (s1+1))))))
 (ZA (.inr (.inl ())))
instance (n:ak):bj (mE n):=⟨λs1=>(.un::.be 0 0 0::(U 17 (.sl (n.off.map aI)::vi (n.off.length:Int)::vi s1::(U 37 [])))),λs1=>[ZA ⟨.of 27,3,[[.sl (n.aB.map br),.sl (n.off.map aI),vi n.change]]⟩]⟩
def eP(n:ak):Option Bool:=
 (aD (mD n) NN 0).bind (bm (λo0=>
 (aD (mE n) NN 0).bind (bm (λo1=>
 cond (ZE ((n.aB.length:Int)<=20))
 (cond (ZE ((n.off.length:Int)<=10))
 ((aZ n.change 0 240).bind λy6=>
 ZA y6)
 (ZA ZD))
 (ZA ZD)) (λr=>ZA r))) (λr=>ZA r))
instance (n:ak):CT prog (eP n):=⟨261,[.ag (bE n)],[],λr=>vb r,λr=>[],cw (eP.eq_1 ..) func261 ntmps261 results261⟩
def de(n:ak)(t:aw):Option Int:=
 (aA n.aB t.bG).bind λy1=>
 ZA (aH ((aH (t.day*1440))+y1.start))
instance (n:ak)(t:aw):CT prog (de n t):=⟨210,[.ag (bE n),.ag (aS t)],[],λr=>vi r,λr=>[],cw (de.eq_1 ..) func210 ntmps210 results210⟩
def cY(n:ak)(t:aw):Option Int:=
 (de n t).bind λy1=>
 (aA n.aB t.bG).bind λy2=>
 ZA (aH (y1+y2.oS))
instance (n:ak)(t:aw):CT prog (cY n t):=⟨266,[.ag (bE n),.ag (aS t)],[],λr=>vi r,λr=>[],cw (cY.eq_1 ..) func266 ntmps266 results266⟩
def pP(n:ak)(day:Int)(s0:Int):Option (Int⊕(Unit⊕Bool)):=
 cond (ZE (s0<(n.off.length:Int)))
 ((aA n.off s0).bind λy3=>
 cond (ZE (y3=day))
 (ZA (.inr (.inr ZD)))
 (ZA (.inl (aH (s0+1)))))
 (ZA (.inr (.inl ())))
instance (n:ak)(day:Int):bj (pP n day):=⟨λs0=>(.un::.un::vi day::(U 34 (.sl (n.off.map aI)::vi (n.off.length:Int)::vi s0::(U 7 [])))),λs0=>[]⟩
def pO(n:ak)(bG:Int)(day:Int):Option Bool:=
 cond (ZE (bG<0))
 (ZA ZD)
 (cond (ZE ((n.aB.length:Int)<=bG))
 (ZA ZD)
 ((aZ day 0 60).bind λy1=>
 cond (!y1)
 (ZA ZD)
 ((aA n.aB bG).bind λy2=>
 (dg (ZE (0<=(Yn day 7)))).bind λ_=>
 cond (ZE ((IntKind.i64.wrap (BitVec.ofInt IntKind.i64.bits (Int.fdiv y2.AW (2 ^ (min (V0 (Yn day 7)) IntKind.i64.bits))) &&& BitVec.ofInt IntKind.i64.bits 1).toNat)=0))
 (ZA ZD)
 ((aD (pP n day) NN 0).bind (bm (λo0=>
 ZA ZC) (λr=>ZA r))))))
instance (n:ak)(bG:Int)(day:Int):CT prog (pO n bG day):=⟨308,[.ag (bE n),vi bG,vi day],[],λr=>vb r,λr=>[],cw (pO.eq_1 ..) func308 ntmps308 results308⟩
def rl(n:ak)(bG:Int)(day:Int):Option Bool:=
 (eP n).bind λy1=>
 cond y1
 ((pO n bG day).bind λy2=>
 ZA y2)
 (ZA ZD)
instance (n:ak)(bG:Int)(day:Int):CT prog (rl n bG day):=⟨264,[.ag (bE n),vi bG,vi day],[],λr=>vb r,λr=>[],cw (rl.eq_1 ..) func264 ntmps264 results264⟩
def dK(n:ak)(t:aw):Option Bool:=
 (rl n t.bG t.day).bind λy1=>
 ZA y1
instance (n:ak)(t:aw):CT prog (dK n t):=⟨187,[.ag (bE n),.ag (aS t)],[],λr=>vb r,λr=>[],cw (dK.eq_1 ..) func187 ntmps187 results187⟩
def vV(l:List aw)(t:aw)(s0:Int):Option (Int⊕(Unit⊕Bool)):=
 cond (ZE (s0<(l.length:Int)))
 ((aA l s0).bind λy1=>
 cond (ZE (y1=t))
 (ZA (.inr (.inr ZC)))
 (ZA (.inl (aH (s0+1)))))
 (ZA (.inr (.inl ())))
instance (l:List aw)(t:aw):bj (vV l t):=⟨λs0=>(.sl (l.map aS)::.un::.un::.be 0 0 0::.un::vi s0::(U 12 [])),λs0=>[ZA ⟨.of 46,2,[[vi t.bG,vi t.day]]⟩]⟩
def dw(l:List aw)(t:aw):Option Bool:=
 (aD (vV l t) NN 0).bind (bm (λo0=>
 ZA ZD) (λr=>ZA r))
instance (l:List aw)(t:aw):CT prog (dw l t):=⟨221,[.sl (l.map aS),.ag (aS t)],[],λr=>vb r,λr=>[],cw (dw.eq_1 ..) func221 ntmps221 results221⟩
def qy(l:List aj)(t:aw)(s0:Int×Int):Option ((Int×Int)⊕Int):=
 cond (ZE (s0.2<(l.length:Int)))
 ((aA l s0.2).bind λy1=>
 cond (ZE (y1.aV=t))
 (ZA (.inl ((aH (s0.1+y1.ab)),(aH (s0.2+1)))))
 (ZA (.inl (s0.1,(aH (s0.2+1))))))
 (ZA (.inr s0.1))
instance (l:List aj)(t:aw):bj (qy l t):=⟨λs0=>(U 3 (.be 0 0 0::.un::vi s0.1::.un::.un::.sl (l.map aC)::vi (l.length:Int)::vi s0.2::(U 13 []))),λs0=>[ZA ⟨.of 46,2,[[vi t.bG,vi t.day]]⟩]⟩
def kc(l:List aj)(t:aw):Option Int:=
 (aD (qy l t) NN (0,0)).bind (λo0=>
 ZA o0)
instance (l:List aj)(t:aw):CT prog (kc l t):=⟨263,[.sl (l.map aC),.ag (aS t)],[],λr=>vi r,λr=>[],cw (kc.eq_1 ..) func263 ntmps263 results263⟩
def pN(w:az)(o:ay):Option Bool:=
 cond (ZE (0<o.aN))
 ((aA o.aK (aH (o.aN-1))).bind λy1=>
 (cY w.aa y1).bind λy2=>
 cond (ZE (w.now<y2))
 (ZA ZD)
 ((aA w.aa.aB y1.bG).bind λy3=>
 cond (ZE (o.state=1))
 (cond (ZE (o.place=y3.aX))
 (cond (!decide (y3.aX=o.aX))
 (cond (ZE (o.bK=0))
 (cond (ZE (o.aN=(o.aK.length:Int)))
 (ZA ZC)
 ((aA o.aK o.aN).bind λy4=>
 (de w.aa y4).bind λy5=>
 ZA (ZE (w.now<y5))))
 (ZA ZD))
 (ZA ZD))
 (ZA ZD))
 (cond (ZE (o.state=2))
 (cond (ZE (o.place=⟨#[]⟩))
 (cond (ZE (o.bK=0))
 (cond (ZE (o.aN<(o.aK.length:Int)))
 ((aA o.aK o.aN).bind λy6=>
 (de w.aa y6).bind λy7=>
 cond (ZE (y7<=w.now))
 ((aA o.aK o.aN).bind λy8=>
 (cY w.aa y8).bind λy9=>
 ZA (ZE (w.now<y9)))
 (ZA ZD))
 (ZA ZD))
 (ZA ZD))
 (ZA ZD))
 (cond (ZE (o.state=3))
 (cond (ZE (o.aN=(o.aK.length:Int)))
 (cond (ZE (0<o.aN))
 (cond (ZE (o.place=o.aX))
 (cond (ZE (y3.aX=o.aX))
 ((aA o.aK (aH (o.aN-1))).bind λeE=>
 (cY w.aa eE).bind λoq=>
 ZA (ZE (o.bK=oq)))
 (ZA ZD))
 (ZA ZD))
 (ZA ZD))
 (ZA ZD))
 (ZA ZD)))))
 (cond (ZE (o.state=1))
 (cond (ZE (o.place=o.ar))
 (cond (!decide (o.ar=o.aX))
 (cond (ZE (o.bK=0))
 (cond (ZE (o.aN=(o.aK.length:Int)))
 (ZA ZC)
 ((aA o.aK o.aN).bind λsj=>
 (de w.aa sj).bind λre=>
 ZA (ZE (w.now<re))))
 (ZA ZD))
 (ZA ZD))
 (ZA ZD))
 (cond (ZE (o.state=2))
 (cond (ZE (o.place=⟨#[]⟩))
 (cond (ZE (o.bK=0))
 (cond (ZE (o.aN<(o.aK.length:Int)))
 ((aA o.aK o.aN).bind λpx=>
 (de w.aa px).bind λtl=>
 cond (ZE (tl<=w.now))
 ((aA o.aK o.aN).bind λsB=>
 (cY w.aa sB).bind λxr=>
 ZA (ZE (w.now<xr)))
 (ZA ZD))
 (ZA ZD))
 (ZA ZD))
 (ZA ZD))
 (cond (ZE (o.state=3))
 (cond (ZE (o.aN=(o.aK.length:Int)))
 (cond (ZE (0<o.aN))
 (cond (ZE (o.place=o.aX))
 (cond (ZE (o.ar=o.aX))
 ((aA o.aK (aH (o.aN-1))).bind λF1=>
 (cY w.aa F1).bind λJ2=>
 ZA (ZE (o.bK=J2)))
 (ZA ZD))
 (ZA ZD))
 (ZA ZD))
 (ZA ZD))
 (ZA ZD))))
instance (w:az)(o:ay):CT prog (pN w o):=⟨270,[.ag (fa w),.ag (aY o)],[],λr=>vb r,λr=>[],cw (pN.eq_1 ..) func270 ntmps270 results270⟩
def eH(n:ak)(x:ay):Option ByteArray:=
 cond (ZE (x.state=2))
 ((aA x.aK x.aN).bind λy1=>
 (aA n.aB y1.bG).bind λy2=>
 ZA y2.aX)
 (ZA x.place)
instance (n:ak)(x:ay):CT prog (eH n x):=⟨301,[.ag (bE n),.ag (aY x)],[],λr=>vs r,λr=>[],cw (eH.eq_1 ..) func301 ntmps301 results301⟩
def wZ(places:List ByteArray)(s:ByteArray)(s0:Int):Option (Int⊕(Unit⊕Int)):=
 cond (ZE (s0<(places.length:Int)))
 ((aA places s0).bind λy1=>
 cond (ZE (y1=s))
 (ZA (.inr (.inr s0)))
 (ZA (.inl (aH (s0+1)))))
 (ZA (.inr (.inl ())))
instance (places:List ByteArray)(s:ByteArray):bj (wZ places s):=⟨λs0=>(.un::vs s::(U 5 (.sl (places.map km)::vi (places.length:Int)::vi s0::(U 9 [])))),λs0=>[]⟩
def bU(places:List ByteArray)(s:ByteArray):Option Int:=
 (aD (wZ places s) NN 0).bind (bm (λo0=>
 ZA (-1)) (λr=>ZA r))
instance (places:List ByteArray)(s:ByteArray):CT prog (bU places s):=⟨265,[.sl (places.map km),vs s],[],λr=>vi r,λr=>[],cw (bU.eq_1 ..) func265 ntmps265 results265⟩
def rJ(n:ak)(aK:List aw)(aX:ByteArray)(s0:Int×ByteArray×Int):Option ((Int×ByteArray×Int)⊕(ByteArray⊕Bool)):=
 cond (ZE (s0.2.2<(aK.length:Int)))
 ((aA aK s0.2.2).bind λy5=>
 (dK n y5).bind λy6=>
 cond (!y6)
 (ZA (.inr (.inr ZD)))
 ((aA n.aB y5.bG).bind λy7=>
 cond (!decide (y7.ar=s0.2.1))
 (ZA (.inr (.inr ZD)))
 ((de n y5).bind λy8=>
 cond (ZE (y8<s0.1))
 (ZA (.inr (.inr ZD)))
 ((aA n.aB y5.bG).bind λy9=>
 (aA aK s0.2.2).bind λeE=>
 (cY n eE).bind λoq=>
 ZA (.inl ((aH (oq+n.change)),y9.aX,(aH (s0.2.2+1))))))))
 (ZA (.inr (.inl s0.2.1)))
instance (n:ak)(aK:List aw)(aX:ByteArray):bj (rJ n aK aX):=⟨λs0=>(.un::.sl (aK.map aS)::.un::vs aX::vi s0.1::.be 0 0 0::(U 6 (vs s0.2.1::(U 20 (.sl (aK.map aS)::vi (aK.length:Int)::vi s0.2.2::(U 46 [])))))),λs0=>[ZA ⟨.of 27,3,[[.sl (n.aB.map br),.sl (n.off.map aI),vi n.change]]⟩]⟩
def sK(n:ak)(aK:List aw)(cO:ByteArray)(aX:ByteArray)(lF:Int):Option Bool:=
 (dq n).bind λy1=>
 (eP n).bind λy2=>
 cond (!y2)
 (ZA ZD)
 ((bU y1 cO).bind λy3=>
 cond (ZE (y3<0))
 (ZA ZD)
 ((bU y1 aX).bind λy4=>
 cond (ZE (y4<0))
 (ZA ZD)
 ((aD (rJ n aK aX) NN (lF,cO,0)).bind (bm (λo0=>
 ZA (ZE (o0=aX))) (λr=>ZA r)))))
instance (n:ak)(aK:List aw)(cO:ByteArray)(aX:ByteArray)(lF:Int):CT prog (sK n aK cO aX lF):=⟨269,[.ag (bE n),.sl (aK.map aS),vs cO,vs aX,vi lF],[],λr=>vb r,λr=>[],cw (sK.eq_1 ..) func269 ntmps269 results269⟩
def rk(n:ak)(s:bc):Option Bool:=
 (eP n).bind λy1=>
 cond (!y1)
 (ZA ZD)
 ((aZ s.bo 1 9999).bind λy2=>
 cond (!y2)
 (ZA ZD)
 ((aZ s.aO 0 100000).bind λy3=>
 cond (!y3)
 (ZA ZD)
 (cond (ZE (s.kind=1))
 (cond (ZE (s.kind=1))
 ((dq n).bind λy4=>
 (bU y4 s.place).bind λy5=>
 cond (ZE (0<=y5))
 (ZA (ZE (s.aV=(⟨0,0⟩:aw))))
 (ZA ZD))
 (cond (ZE (s.kind=3))
 (cond (ZE (s.place=⟨#[]⟩))
 ((dK n s.aV).bind λy6=>
 cond y6
 ((de n s.aV).bind λy7=>
 ZA (ZE (s.aO<=y7)))
 (ZA ZD))
 (ZA ZD))
 (cond (ZE (s.kind=2))
 (cond (ZE (s.place=⟨#[]⟩))
 ((dK n s.aV).bind λy8=>
 cond y8
 ((cY n s.aV).bind λy9=>
 ZA (ZE (y9<=s.aO)))
 (ZA ZD))
 (ZA ZD))
 (ZA ZD))))
 (cond (ZE (s.kind=4))
 ((dq n).bind λeE=>
 (bU eE s.place).bind λoq=>
 cond (ZE (0<=oq))
 (ZA (ZE (s.aV=(⟨0,0⟩:aw))))
 (ZA ZD))
 (cond (ZE (s.kind=3))
 (cond (ZE (s.place=⟨#[]⟩))
 ((dK n s.aV).bind λsj=>
 cond sj
 ((de n s.aV).bind λre=>
 ZA (ZE (s.aO<=re)))
 (ZA ZD))
 (ZA ZD))
 (cond (ZE (s.kind=2))
 (cond (ZE (s.place=⟨#[]⟩))
 ((dK n s.aV).bind λpx=>
 cond px
 ((cY n s.aV).bind λtl=>
 ZA (ZE (tl<=s.aO)))
 (ZA ZD))
 (ZA ZD))
 (ZA ZD)))))))
instance (n:ak)(s:bc):CT prog (rk n s):=⟨189,[.ag (bE n),.ag (bt s)],[],λr=>vb r,λr=>[],cw (rk.eq_1 ..) func189 ntmps189 results189⟩
def uF(l:List Int)(s0:Int):Option (Int⊕(Unit⊕Bool)):=
 cond (ZE (s0<(l.length:Int)))
 ((aA l s0).bind λy1=>
 (aZ y1 1 2000).bind λy2=>
 cond (!y2)
 (ZA (.inr (.inr ZD)))
 (ZA (.inl (aH (s0+1)))))
 (ZA (.inr (.inl ())))
instance (l:List Int):bj (uF l):=⟨λs0=>(.sl (l.map aI)::(U 4 (.sl (l.map aI)::vi (l.length:Int)::vi s0::(U 10 [])))),λs0=>[]⟩
def jC(l:List Int):Option Bool:=
 (aD (uF l) NN 0).bind (bm (λo0=>
 ZA (ZE ((l.length:Int)=3))) (λr=>ZA r))
instance (l:List Int):CT prog (jC l):=⟨199,[.sl (l.map aI)],[],λr=>vb r,λr=>[],cw (jC.eq_1 ..) func199 ntmps199 results199⟩
def pK(bb:List Int):Option Int:=
 (jC bb).bind λy1=>
 cond (!y1)
 (ZA 0)
 ((mV bb).bind λy2=>
 (aA y2 0).bind λy3=>
 (aA y2 1).bind λy4=>
 (aA y2 2).bind λy5=>
 ZA (aH ((aH (y3+(aH (2*y4))))+(aH (2*y5)))))
instance (bb:List Int):CT prog (pK bb):=⟨200,[.sl (bb.map aI)],[],λr=>vi r,λr=>[],cw (pK.eq_1 ..) func200 ntmps200 results200⟩
def pL(l:fF):Option Bool:=
 (aZ l.ax 1 3).bind λy1=>
 cond y1
 ((aZ l.bZ 0 999999999).bind λy2=>
 cond y2
 ((dH l.aX).bind λy3=>
 ZA y3)
 (ZA ZD))
 (ZA ZD)
instance (l:fF):CT prog (pL l):=⟨198,[.ag (sE l)],[],λr=>vb r,λr=>[],cw (pL.eq_1 ..) func198 ntmps198 results198⟩
def jH(p:aM):Option Bool:=
 (pL p.label).bind λy1=>
 cond y1
 ((dH p.ar).bind λy2=>
 cond y2
 (cond (!decide (p.ar=p.label.aX))
 ((aZ p.ab 1 30000).bind λy3=>
 cond y3
 ((jC p.bb).bind λy4=>
 cond y4
 ((pK p.bb).bind λy5=>
 cond (ZE (y5<=3600))
 ((aZ p.value 0 500000).bind λy6=>
 ZA y6)
 (ZA ZD))
 (ZA ZD))
 (ZA ZD))
 (ZA ZD))
 (ZA ZD))
 (ZA ZD)
instance (p:aM):CT prog (jH p):=⟨104,[.ag (bq p)],[],λr=>vb r,λr=>[],cw (jH.eq_1 ..) func104 ntmps104 results104⟩
def kG(l:List bF)(s0:Int):Option (Int⊕(Unit⊕Bool)):=
 cond (ZE (s0<(l.length:Int)))
 ((jn 3 6 (
 (aA l s0).bind λy1=>
 (dH y1.first).bind λy2=>
 cond (!y2)
 (ZA (.inr ZD))
 ((dH y1.last).bind λy3=>
 cond (!y3)
 (ZA (.inr ZD))
 (cond (!Us y1.first y1.last)
 (ZA (.inr ZD))
 (cond (ZE (0<s0))
 ((aA l (aH (s0-1))).bind λy4=>
 cond (Us y1.first y4.last)
 (ZA (.inr ZD))
 (ZA (.inl ())))
 (ZA (.inl ()))))):Option (Unit⊕Bool)) (λz5=>(.sl (l.map b6)::(U 4 (.sl (l.map b6)::vi (l.length:Int)::vi s0::(U 40 []))))) (λz5=>[])).bind (bm (λz5=>
 ZA (.inl (aH (s0+1)))) (λr=>ZA (.inr (.inr r)))))
 (ZA (.inr (.inl ())))
instance (l:List bF):bj (kG l):=⟨λs0=>(.sl (l.map b6)::(U 4 (.sl (l.map b6)::vi (l.length:Int)::vi s0::(U 40 [])))),λs0=>[]⟩
def jG(l:List bF):Option Bool:=
 (aD (kG l) NN 0).bind (bm (λo0=>
 ZA (ZE ((l.length:Int)<=8))) (λr=>ZA r))
instance (l:List bF):CT prog (jG l):=⟨98,[.sl (l.map b6)],[],λr=>vb r,λr=>[],cw (jG.eq_1 ..) func98 ntmps98 results98⟩
def qz(l:List bF)(jK:ByteArray)(s0:Int):Option (Int⊕(Unit⊕Int)):=
 cond (ZE (s0<(l.length:Int)))
 ((jn 5 8 (
 (aA l s0).bind λy3=>
 cond (Us y3.first jK)
 (cond (Us jK y3.last)
 (ZA (.inr s0))
 (ZA (.inl ())))
 (ZA (.inl ())):Option (Unit⊕Int)) (λz4=>(.un::vs jK::(U 13 (.sl (l.map b6)::vi (l.length:Int)::vi s0::(U 16 []))))) (λz4=>[])).bind (bm (λz4=>
 ZA (.inl (aH (s0+1)))) (λr=>ZA (.inr (.inr r)))))
 (ZA (.inr (.inl ())))
instance (l:List bF)(jK:ByteArray):bj (qz l jK):=⟨λs0=>(.un::vs jK::(U 13 (.sl (l.map b6)::vi (l.length:Int)::vi s0::(U 16 [])))),λs0=>[]⟩
def rm(l:List bF)(jK:ByteArray):Option Int:=
 (jG l).bind λy1=>
 cond (!y1)
 (ZA (-1))
 ((dH jK).bind λy2=>
 cond (!y2)
 (ZA (-1))
 ((aD (qz l jK) NN 0).bind (bm (λo0=>
 ZA (-1)) (λr=>ZA r))))
instance (l:List bF)(jK:ByteArray):CT prog (rm l jK):=⟨196,[.sl (l.map b6),vs jK],[],λr=>vi r,λr=>[],cw (rm.eq_1 ..) func196 ntmps196 results196⟩
def oC(bb:List Int):Option Int:=
 (jC bb).bind λy1=>
 cond (!y1)
 (ZA 0)
 ((aA bb 0).bind λy2=>
 (aA bb 1).bind λy3=>
 (aA bb 2).bind λy4=>
 ZA (aH ((aH (y2*y3))*y4)))
instance (bb:List Int):CT prog (oC bb):=⟨271,[.sl (bb.map aI)],[],λr=>vi r,λr=>[],cw (oC.eq_1 ..) func271 ntmps271 results271⟩
def ic(p:aM):Option Int:=
 (jH p).bind λy1=>
 cond (!y1)
 (ZA 0)
 ((oC p.bb).bind λy2=>
 ZA (if(IntKind.i64.wrap (Xb (aH (y2+4999)) 5000)) > p.ab then(IntKind.i64.wrap (Xb (aH (y2+4999)) 5000))else p.ab))
instance (p:aM):CT prog (ic p):=⟨197,[.ag (bq p)],[],λr=>vi r,λr=>[],cw (ic.eq_1 ..) func197 ntmps197 results197⟩
def eX(w:az)(s0:Int×Int):Option ((Int×Int)⊕Int):=
 cond (ZE (s0.2<(w.ae.length:Int)))
 ((aA w.ae s0.2).bind λy1=>
 cond (ZE (y1.state=2))
 ((aA y1.aK y1.aN).bind λy2=>
 (cY w.aa y2).bind λy3=>
 cond (ZE (0<=y3))
 (cond (ZE (s0.1<0))
 (ZA (.inl (y3,(aH (s0.2+1)))))
 (cond (ZE (y3<s0.1))
 (ZA (.inl (y3,(aH (s0.2+1)))))
 (ZA (.inl (s0.1,(aH (s0.2+1)))))))
 (ZA (.inl (s0.1,(aH (s0.2+1))))))
 (cond (ZE (y1.state=1))
 (cond (ZE (y1.aN<(y1.aK.length:Int)))
 ((aA y1.aK y1.aN).bind λy4=>
 (de w.aa y4).bind λy5=>
 cond (ZE (0<=y5))
 (cond (ZE (s0.1<0))
 (ZA (.inl (y5,(aH (s0.2+1)))))
 (cond (ZE (y5<s0.1))
 (ZA (.inl (y5,(aH (s0.2+1)))))
 (ZA (.inl (s0.1,(aH (s0.2+1)))))))
 (ZA (.inl (s0.1,(aH (s0.2+1))))))
 (cond (ZE (0<=(-1)))
 (cond (ZE (s0.1<0))
 (ZA (.inl ((-1),(aH (s0.2+1)))))
 (cond (ZE ((-1)<s0.1))
 (ZA (.inl ((-1),(aH (s0.2+1)))))
 (ZA (.inl (s0.1,(aH (s0.2+1)))))))
 (ZA (.inl (s0.1,(aH (s0.2+1)))))))
 (cond (ZE (0<=(-1)))
 (cond (ZE (s0.1<0))
 (ZA (.inl ((-1),(aH (s0.2+1)))))
 (cond (ZE ((-1)<s0.1))
 (ZA (.inl ((-1),(aH (s0.2+1)))))
 (ZA (.inl (s0.1,(aH (s0.2+1)))))))
 (ZA (.inl (s0.1,(aH (s0.2+1))))))))
 (ZA (.inr s0.1))
instance (w:az):bj (eX w):=⟨λs0=>(.un::.be 0 0 0::.un::vi s0.1::(U 4 (.sl (w.ae.map aY)::vi (w.ae.length:Int)::vi s0.2::(U 51 [])))),λs0=>[ZA ⟨.of 33,10,[[.sl (w.aa.aB.map br),.sl (w.aa.off.map aI),vi w.aa.change,.sl (w.ae.map aY),.sl (w.aq.map aC),.sl (w.ah.map aS),vi w.now,.sl (w.aJ.map bt),.sl (w.skip.map aI),vi w.aT]]⟩]⟩
def gn(w:az):Option Int:=
 (aD (eX w) NN ((-1),0)).bind (λo0=>
 ZA o0)
instance (w:az):CT prog (gn w):=⟨208,[.ag (fa w)],[],λr=>vi r,λr=>[],cw (gn.eq_1 ..) func208 ntmps208 results208⟩
def fH(l:List aj):Option (List aj):=
 (dg (bB ((([]:List aj):List aj).length+(l:List aj).length) 32)).bind λ_=>
 ZA ((([]:List aj):List aj)++l)
instance (l:List aj):CT prog (fH l):=⟨184,[.sl (l.map aC)],[],λr=>.ms 0,λr=>[ZA ⟨.of 177,4,r.map aC⟩],cw (fH.eq_1 ..) func184 ntmps184 results184⟩
def eR(l:List aw):Option (List aw):=
 (dg (bB ((([]:List aw):List aw).length+(l:List aw).length) 16)).bind λ_=>
 ZA ((([]:List aw):List aw)++l)
instance (l:List aw):CT prog (eR l):=⟨185,[.sl (l.map aS)],[],λr=>.ms 0,λr=>[ZA ⟨.of 46,2,r.map aS⟩],cw (eR.eq_1 ..) func185 ntmps185 results185⟩
def bL(l:List aU):Option (List aU):=
 (dg (bB ((([]:List aU):List aU).length+(l:List aU).length) 32)).bind λ_=>
 ZA ((([]:List aU):List aU)++l)
instance (l:List aU):CT prog (bL l):=⟨95,[.sl (l.map bD)],[],λr=>.ms 0,λr=>[ZA ⟨.of 111,4,r.map bD⟩],cw (bL.eq_1 ..) func95 ntmps95 results95⟩
def mo(x:aU):Option Bool:=
 (aZ x.order 1 9999).bind λy1=>
 cond y1
 ((aZ x.kind 1 3).bind λy2=>
 cond y2
 ((aZ x.bh 1 100000).bind λy3=>
 cond y3
 ((aZ x.aO 0 100000).bind λy4=>
 ZA y4)
 (ZA ZD))
 (ZA ZD))
 (ZA ZD)
instance (x:aU):CT prog (mo x):=⟨195,[.ag (bD x)],[],λr=>vb r,λr=>[],cw (mo.eq_1 ..) func195 ntmps195 results195⟩
def lC(l:List Int)(s0:Int):Option (Int⊕(Unit⊕Bool)):=
 cond (ZE (s0<(l.length:Int)))
 ((jn 3 6 (
 (aA l s0).bind λy1=>
 (aZ y1 0 100).bind λy2=>
 cond (!y2)
 (ZA (.inr ZD))
 (cond (ZE (0<s0))
 ((aA l (aH (s0-1))).bind λy3=>
 cond (ZE (y1<y3))
 (ZA (.inr ZD))
 (ZA (.inl ())))
 (ZA (.inl ()))):Option (Unit⊕Bool)) (λz4=>(.sl (l.map aI)::(U 4 (.sl (l.map aI)::vi (l.length:Int)::vi s0::(U 24 []))))) (λz4=>[])).bind (bm (λz4=>
 ZA (.inl (aH (s0+1)))) (λr=>ZA (.inr (.inr r)))))
 (ZA (.inr (.inl ())))
instance (l:List Int):bj (lC l):=⟨λs0=>(.sl (l.map aI)::(U 4 (.sl (l.map aI)::vi (l.length:Int)::vi s0::(U 24 [])))),λs0=>[]⟩
def eu(l:List Int):Option Bool:=
 (aD (lC l) NN 0).bind (bm (λo0=>
 (aZ (l.length:Int) 1 6).bind λy5=>
 ZA y5) (λr=>ZA r))
theorem AZ(l:List Int){r:Bool}(H:eu l=ZA r):cq prog 100 [.sl (l.map aI)] [] (vb r) []:=by
 replace H:=H0 H;unfold eu at H
 refine jm func100 rfl ntmps100 results100 λQ hQ Pz=>?_
 exact RV
instance (l:List Int):CT prog (eu l):=⟨100,[.sl (l.map aI)],[],λr=>vb r,λr=>[],AZ l⟩
def mU(pC:Int)(ec:Int)(bK:Int)(aF:List Int):Option Int:=
 (eu aF).bind λy1=>
 cond (!y1)
 (ZA 0)
 ((aZ pC 0 100000).bind λy2=>
 cond (!y2)
 (ZA 0)
 ((aZ ec 0 200000).bind λy3=>
 cond (!y3)
 (ZA 0)
 ((aZ bK 0 200000).bind λy4=>
 cond (!y4)
 (ZA 0)
 (cond (ZE (bK<=ec))
 (ZA 0)
 ((aA aF (if(aH ((aF.length:Int)-1))<(IntKind.i64.wrap (Xb (aH ((aH (bK-ec))-1)) 1440))then(aH ((aF.length:Int)-1))else(IntKind.i64.wrap (Xb (aH ((aH (bK-ec))-1)) 1440)))).bind λy5=>
 ZA (IntKind.i64.wrap (Xb (aH (pC*y5)) 100)))))))
instance (pC:Int)(ec:Int)(bK:Int)(aF:List Int):CT prog (mU pC ec bK aF):=⟨207,[vi pC,vi ec,vi bK,.sl (aF.map aI)],[],λr=>vi r,λr=>[],cw (mU.eq_1 ..) func207 ntmps207 results207⟩
def ep{α:Type}(x:Option α)(P:α->Prop):Prop:=∃r,x=ZA r/\P r
theorem ep.bind{α β:Type}{x:Option α}{P:α->Prop}{f:α->Option β}{Q:β->Prop}(h:ep x P)(k:∀r,P r->ep (f r) Q):ep (x.bind f) Q:=by
 obtain⟨r,rfl,hr⟩:=h;exact k r hr
theorem ep.cond{β:Type}{b:Bool}{x y:Option β}{Q:β->Prop}(h:b=ZC->ep x Q)(k:b=ZD->ep y Q):ep (cond b x y) Q:=by
 cases b with
 |true=>exact h rfl
 |false=>exact k rfl
theorem ep.ret(h:Q r):ep (ZA r) Q:=⟨r,rfl,h⟩
theorem ep.of(h:x=ZA r)(h':Q r):ep x Q:=⟨r,h,h'⟩
theorem ep.mono{P Q:β->Prop}(h:ep x P)(k:∀r,P r->Q r):ep x Q:=by
 obtain⟨r,e,hr⟩:=h;exact⟨r,e,k r hr⟩
theorem ep.yx{ρ:List Nat}{f:Unit->Option β}(k:ep (f ()) Q):ep ((nG ρ).bind f) Q:=k
theorem ep.vD{β:Type}{t:List PV}{m:Mem}{f:Unit->Option β}{Q:β->Prop}(k:ep (f ()) Q):ep ((Go.Proofs.YtbalgkakkoocjaaGreat.vD t m).bind f) Q:=k
theorem ep.dg{β:Type}{b:Bool}{f:Unit->Option β}{Q:β->Prop}(h:b=ZC)(k:ep (f ()) Q):ep ((Go.Proofs.YtbalgkakkoocjaaGreat.dg b).bind f) Q:=by
 subst h;exact k
def Bi{σ ο:Type}(I:Nat->σ->Prop)(P:ο->Prop)(k:Nat):σ⊕ο->Prop
 |.inl s'=>∃k',k'<k/\I k' s'
 |.inr o=>P o
theorem ep.loop{σ ο:Type}{body:σ->Option (σ⊕ο)}(I:Nat->σ->Prop){P:ο->Prop}(h:∀k s,I k s->ep (body s) (Bi I P k)):∀(N k:Nat) (s:σ),I k s->k<N->ep (aD body N s) P
 |0,k,s,_,hN=>YG
 |N+1,k,s,hI,hN=>by
  obtain⟨r,e,hr⟩:=h k s hI;simp only[aD,e]
  cases r with
  |inr o=>exact⟨o,rfl,hr⟩
  |inl s'=>
   obtain⟨k',hk,hI'⟩:=hr;exact ep.loop I h N k' s' hI' YG
theorem wO{a b c:Nat}(h:a+b<=1099511627776)(hc:c<=128):bB (a+b) c=true:=by
 unfold bB;refine Yp ⟨YG,?_⟩;have:(a+b)*c<=1099511627776*128:=Nat.mul_le_mul h hc;omega
def kN(n:ak)(fg:Int)(start:Bool):Option Int:=
 cond start
 (ZA fg)
 (ZA (aH (fg+n.change)))
instance (n:ak)(fg:Int)(start:Bool):CT prog (kN n fg start):=⟨329,[.ag (bE n),vi fg,vb start],[],λr=>vi r,λr=>[],cw (kN.eq_1 ..) func329 ntmps329 results329⟩
def sL(n:ak)(bG:Int)(nE:Int)(s0:Int):Option (Int⊕(Unit⊕(aw×Bool))):=
 cond (ZE (s0<=60))
 ((pO n bG s0).bind λy1=>
 cond y1
 ((de n (⟨bG,s0⟩:aw)).bind λy2=>
 cond (ZE (nE<=y2))
 (ZA (.inr (.inr ((⟨bG,s0⟩:aw),ZC))))
 (ZA (.inl (aH (s0+1)))))
 (ZA (.inl (aH (s0+1)))))
 (ZA (.inr (.inl ())))
instance (n:ak)(bG:Int)(nE:Int):bj (sL n bG nE):=⟨λs0=>(.un::vi bG::vi nE::.be 0 0 0::.un::.un::.be 1 0 0::.un::vi s0::(U 21 [])),λs0=>[ZA ⟨.of 27,3,[[.sl (n.aB.map br),.sl (n.off.map aI),vi n.change]]⟩,ZA ⟨.of 46,2,[[vi 0,vi 0]]⟩]⟩
def wY(n:ak)(bG:Int)(nE:Int):Option (aw×Bool):=
 (aD (sL n bG nE) NN 0).bind (bm (λo0=>
 ZA ((⟨0,0⟩:aw),ZD)) (λr=>ZA r))
instance (n:ak)(bG:Int)(nE:Int):CT prog (wY n bG nE):=⟨368,[.ag (bE n),vi bG,vi nE],[],λr=>.tu [.ag [vi r.1.bG,vi r.1.day],vb r.2],λr=>[],cw (wY.eq_1 ..) func368 ntmps368 results368⟩
def oD(bG:Int)(fg:Int)(DY:ak):Option (aw×Bool):=
 (wY DY bG fg).bind λy1=>
 ZA (y1.1,y1.2)
instance (bG:Int)(fg:Int)(DY:ak):CT prog (oD bG fg DY):=⟨367,[vi bG,vi fg,.rp [.sl (DY.aB.map br),.sl (DY.off.map aI),vi DY.change]],[],λr=>.tu [.ag [vi r.1.bG,vi r.1.day],vb r.2],λr=>[],cw (oD.eq_1 ..) func367 ntmps367 results367⟩
def nV(n:ak)(bz:ak)(fG:Int)(aB:Int)(y1:List ByteArray)(y2:Int)(s0:Int×(List Int)):Option ((Int×(List Int))⊕(List Int)):=
 cond (ZE (s0.1<(y1.length:Int)))
 ((dg (bB ((s0.2:List Int).length+([(-1)]:List Int).length) 8)).bind λ_=>
 ZA (.inl ((aH (s0.1+1)),((s0.2:List Int)++[(-1)]))))
 (ZA (.inr s0.2))
instance (n:ak)(bz:ak)(fG:Int)(aB:Int)(y1:List ByteArray)(y2:Int):bj (nV n bz fG aB y1 y2):=⟨λs0=>(.un::.fn 367 [.rp [.sl (bz.aB.map br),.sl (bz.off.map aI),vi bz.change]]::.un::vi fG::vi aB::.be 0 0 0::(U 5 (.ms 1::vi y2::.ms 2::(U 26 (vi (y1.length:Int)::vi s0.1::(U 83 [])))))),λs0=>[ZA ⟨.of 27,3,[[.sl (n.aB.map br),.sl (n.off.map aI),vi n.change]]⟩,ZA ⟨.of 9,1,y1.map km⟩,ZA ⟨.of 3,1,s0.2.map aI⟩]⟩
def j8(n:ak)(bz:ak)(aB:Int)(y1:List ByteArray)(y2:Int)(s1:Int×(List Int))(s2:Int×Bool×(List Int)):Option ((Int×Bool×(List Int))⊕(Bool×(List Int))):=
 cond (ZE (s2.1<(n.aB.length:Int)))
 ((aA n.aB s2.1).bind λy4=>
 (bU y1 y4.ar).bind λy5=>
 (bU y1 y4.aX).bind λy6=>
 (aA s1.2 y5).bind λy7=>
 cond (ZE (y7<0))
 (ZA (.inl ((aH (s2.1+1)),s2.2.1,s2.2.2)))
 ((aA s1.2 y5).bind λy8=>
 (kN n y8 (ZE (y5=y2))).bind λy9=>
 (oD s2.1 y9 bz).bind λeE=>
 cond eE.2
 ((aA s2.2.2 y6).bind λoq=>
 cond (ZE (oq<0))
 ((cY n eE.1).bind λsj=>
 (aA s2.2.2 y6).bind λre=>
 ZA (.inl ((aH (s2.1+1)),ZC,(s2.2.2.set (V0 y6) sj))))
 ((cY n eE.1).bind λpx=>
 (aA s2.2.2 y6).bind λtl=>
 cond (ZE (px<tl))
 ((cY n eE.1).bind λsB=>
 (aA s2.2.2 y6).bind λxr=>
 ZA (.inl ((aH (s2.1+1)),ZC,(s2.2.2.set (V0 y6) sB))))
 (ZA (.inl ((aH (s2.1+1)),s2.2.1,s2.2.2)))))
 (ZA (.inl ((aH (s2.1+1)),s2.2.1,s2.2.2)))))
 (ZA (.inr (s2.2.1,s2.2.2)))
instance (n:ak)(bz:ak)(aB:Int)(y1:List ByteArray)(y2:Int)(s1:Int×(List Int)):bj (j8 n bz aB y1 y2 s1):=⟨λs2=>(.un::.fn 367 [.rp [.sl (bz.aB.map br),.sl (bz.off.map aI),vi bz.change]]::.un::.un::vi aB::.be 0 0 0::(U 5 (.ms 1::vi y2::.ms 2::vi s1.1::.ms 3::vb s2.2.1::(U 44 (.sl (n.aB.map br)::vi (n.aB.length:Int)::vi s2.1::(U 61 [])))))),λs2=>[ZA ⟨.of 27,3,[[.sl (n.aB.map br),.sl (n.off.map aI),vi n.change]]⟩,ZA ⟨.of 9,1,y1.map km⟩,ZA ⟨.of 3,1,s1.2.map aI⟩,ZA ⟨.of 3,1,s2.2.2.map aI⟩]⟩
def j7(n:ak)(bz:ak)(aB:Int)(y1:List ByteArray)(y2:Int)(s1:Int×(List Int)):Option ((Int×(List Int))⊕(List Int)):=
 cond (ZE (s1.1<aB))
 ((dg (bB ((([]:List Int):List Int).length+(s1.2:List Int).length) 8)).bind λ_=>
 (aD (j8 n bz aB y1 y2 s1) NN (0,ZD,((([]:List Int):List Int)++s1.2))).bind (λo2=>
 cond (!o2.1)
 (ZA (.inr o2.2))
 (ZA (.inl ((aH (s1.1+1)),o2.2)))))
 (ZA (.inr s1.2))
instance (n:ak)(bz:ak)(aB:Int)(y1:List ByteArray)(y2:Int):bj (j7 n bz aB y1 y2):=⟨λs1=>(.un::.fn 367 [.rp [.sl (bz.aB.map br),.sl (bz.off.map aI),vi bz.change]]::.un::.un::vi aB::.be 0 0 0::(U 5 (.ms 1::vi y2::.ms 2::vi s1.1::(U 110 [])))),λs1=>[ZA ⟨.of 27,3,[[.sl (n.aB.map br),.sl (n.off.map aI),vi n.change]]⟩,ZA ⟨.of 9,1,y1.map km⟩,ZA ⟨.of 3,1,s1.2.map aI⟩]⟩
def jY(n:ak)(bz:ak)(cO:ByteArray)(fG:Int)(aB:Int):Option (List Int):=
 (dq n).bind λy1=>
 (bU y1 cO).bind λy2=>
 cond (ZE (y2<0))
 (ZA ([]))
 (cond (ZE (100000<fG))
 (ZA ([]))
 (cond (ZE (aB<0))
 (ZA ([]))
 ((aD (nV n bz fG aB y1 y2) NN (0,([]:List Int))).bind (λo0=>
 (aA o0 y2).bind λy3=>
 (aD (j7 n bz aB y1 y2) NN (0,(o0.set (V0 y2) (if 0 > fG then 0 else fG)))).bind (λo1=>
 ZA o1)))))
instance (n:ak)(bz:ak)(cO:ByteArray)(fG:Int)(aB:Int):CT prog (jY n bz cO fG aB):=⟨312,[.ag (bE n),.fn 367 [.rp [.sl (bz.aB.map br),.sl (bz.off.map aI),vi bz.change]],vs cO,vi fG,vi aB],[],λr=>.ms 0,λr=>[ZA ⟨.of 3,1,r.map aI⟩],cw (jY.eq_1 ..) func312 ntmps312 results312⟩
def um(n:ak):Option ak:=
 ZA (n)
instance (n:ak):CT prog (um n):=⟨341,[.ag (bE n)],[],λr=>.fn 367 [.rp [.sl (r.aB.map br),.sl (r.off.map aI),vi r.change]],λr=>[],cw (um.eq_1 ..) func341 ntmps341 results341⟩
def mC(n:ak)(cz:ByteArray)(nE:Int)(aB:Int):Option (List Int):=
 (eP n).bind λy1=>
 cond (!y1)
 (ZA ([]))
 ((um n).bind λy2=>
 (jY n y2 cz nE aB).bind λy3=>
 ZA y3)
instance (n:ak)(cz:ByteArray)(nE:Int)(aB:Int):CT prog (mC n cz nE aB):=⟨319,[.ag (bE n),vs cz,vi nE,vi aB],[],λr=>.ms 0,λr=>[ZA ⟨.of 3,1,r.map aI⟩],cw (mC.eq_1 ..) func319 ntmps319 results319⟩
def jB(n:ak)(cz:ByteArray)(aX:ByteArray)(fG:Int):Option Int:=
 (dq n).bind λy1=>
 (mC n cz fG (y1.length:Int)).bind λy2=>
 (bU y1 aX).bind λy3=>
 cond (ZE (y3<0))
 (ZA (-1))
 (cond (ZE ((y2.length:Int)=0))
 (ZA (-1))
 ((aA y2 y3).bind λy4=>
 ZA y4))
instance (n:ak)(cz:ByteArray)(aX:ByteArray)(fG:Int):CT prog (jB n cz aX fG):=⟨277,[.ag (bE n),vs cz,vs aX,vi fG],[],λr=>vi r,λr=>[],cw (jB.eq_1 ..) func277 ntmps277 results277⟩
def eQ(n:ak)(ax:Int)(cO:ByteArray)(aX:ByteArray)(lF:Int):Option Int:=
 (jB n cO aX lF).bind λy1=>
 cond (ZE (y1=(-1)))
 (ZA (-1))
 ((aZ ax 1 3).bind λy2=>
 cond (!y2)
 (ZA (-1))
 (cond (ZE (1080<(Yn y1 1440)))
 ((aA ([0,1,4]:List Int) (aH (ax-1))).bind λy3=>
 ZA (aH ((aH ((aH ((aH ((IntKind.i64.wrap (Xb y1 1440))+1))+y3))*1440))+1080)))
 ((aA ([0,1,4]:List Int) (aH (ax-1))).bind λy4=>
 ZA (aH ((aH ((aH ((IntKind.i64.wrap (Xb y1 1440))+y4))*1440))+1080)))))
instance (n:ak)(ax:Int)(cO:ByteArray)(aX:ByteArray)(lF:Int):CT prog (eQ n ax cO aX lF):=⟨203,[.ag (bE n),vi ax,vs cO,vs aX,vi lF],[],λr=>vi r,λr=>[],cw (eQ.eq_1 ..) func203 ntmps203 results203⟩
end Go.Proofs.YtbalgkakkoocjaaGreat
namespace Go.Proofs.YtbalgkakkoocjaaGreat
set_option maxRecDepth 10000
open Go.RowKit Go.Lib Go.Sort
set_option maxRecDepth 100000
section
variable {α:Type} [Inhabited α] {lt:α->α->Bool}
def MI(lt:α->α->Bool)(bs n q:Nat)(d:Array α):Prop:=(∀p,p<q->SortedIn lt (p*(2*bs)) (p*(2*bs)+2*bs) d)/\∀p,2*q<=p->SortedIn lt (p*bs) (min (p*bs+bs) n) d
theorem ZpP(q bs:Nat):(2*q)*bs=q*(2*bs):=by grind
theorem MI.zero{bs n:Nat}{d:Array α}(h:Zdj lt bs n d):MI lt bs n 0 d:=⟨λp hp=>YG,λp _=>h p⟩
theorem MI.left{bs n q A:Nat}{d:Array α}(h:MI lt bs n q d)(hA:A=q*(2*bs))(hn:A+bs<=n):SortedIn lt A (A+bs) d:=by
 have:=h.2 (2*q) (VJ _)
 grind
theorem MI.right{bs n q A:Nat}{d:Array α}(h:MI lt bs n q d)(hA:A=q*(2*bs)):SortedIn lt (A+bs) (min (A+2*bs) n) d:=by
 have:=h.2 (2*q+1) YG
 grind
theorem MI.last{bs n q A:Nat}{d:Array α}(h:MI lt bs n q d)(hA:A=q*(2*bs))(hn:n<=A+bs):SortedIn lt A n d:=by
 have:=h.2 (2*q) (VJ _)
 grind
theorem MI.step{bs n q A:Nat}{d e:Array α}(h:MI lt bs n q d)(hA:A=q*(2*bs))(hp:PermIn A (A+2*bs) d e)(hs:SortedIn lt A (A+2*bs) e):MI lt bs n (q+1) e:=by
 refine⟨λp hpq=>?_,λp hpq=>?_⟩
 ·rcases Nat.lt_or_ge p q with h1|h1
  ·have h2:(p+1)*(2*bs)<=q*(2*bs):=V1 _ h1
   rw[Xm,Yj]at h2
   exact Cj (h.1 p h1) λk _ hk=>hp.2.1 k (.inl YG)
  grind
 ·have h2:(2*(q+1))*bs<=p*bs:=V1 _ hpq
  rw[ZpP,Xm,Yj]at h2
  exact Cj (h.2 p YG) λk hk _=>hp.2.1 k (.inr YG)
theorem MI.fin{bs n q A:Nat}{d e:Array α}(h:MI lt bs n q d)(hA:A=q*(2*bs))(hn:n<A+2*bs)(hp:PermIn A n d e)(hs:SortedIn lt A n e):Zdj lt (2*bs) n e:=by
 intro p
 rcases W1 p q with h1|h1|h1
 ·have h2:(p+1)*(2*bs)<=q*(2*bs):=V1 _ h1
  rw[Xm,Yj]at h2
  exact Cj (AK (h.1 p h1) (VJ _) (Nat.min_le_left _ _)) λk _ hk=>hp.2.1 k (.inl YG)
 ·grind
 ·have h2:(q+1)*(2*bs)<=p*(2*bs):=V1 _ h1
  rw[Xm,Yj]at h2
  exact Zaz YG
def BI(lt:α->α->Bool)(q:Nat)(d:Array α):Prop:=∀p,p<q->SortedIn lt (p*20) (p*20+20) d
theorem BI.step{q:Nat}{d e:Array α}(h:BI lt q d)(hp:PermIn (q*20) (q*20+20) d e)(hs:SortedIn lt (q*20) (q*20+20) e):BI lt (q+1) e:=λp hpq=>by
 by_cases h1:p=q
 ·simp_all
 ·exact Cj (h p YG) λk _ hk=>hp.2.1 k (.inl YG)
theorem BI.fin{q n:Nat}{d e:Array α}(h:BI lt q d)(hn:n<q*20+20)(hp:PermIn (q*20) n d e)(hs:SortedIn lt (q*20) n e):Zdj lt 20 n e:=λp=>by
 rcases W1 p q with h1|h1|h1
 ·exact Cj (AK (h p h1) (VJ _) (Nat.min_le_left _ _)) λk _ hk=>hp.2.1 k (.inl YG)
 ·grind
 ·exact Zaz YG
variable {enc:α->List Value} {k:Nat} {g:Nat} {T:TypeId} {cs:Nat}
variable (hk:∀x,(enc x).length=k) (f:Nat) (lb:Array Value) (sf:Nat) (sb:Array Value) (n:Nat) (hn:n<1152921504606846976) (ri:SwapSwapsK prog sf sb enc k g 0 n)
include hk hn ri
theorem Zgr(hO:SWO lt)(eg:∀args w,(callFunc f args).run prog w=.ok (.enter f args) w){d:Array α}{W:World}(hd:d.size=n)(h0:SU enc k g T cs W d W)(hL:wL f lb enc k lt g T cs n W):
 Calls prog 317 #[LS f lb sf sb,ZF ZG n] W λe w'=>e=.returned (.tuple #[])/\∃e,SU enc k g T cs W e w'/\PermIn 0 n d e/\SortedIn lt 0 n e:=by
 have hB:SU enc k g T cs W d (W.alloc (vz f lb sf sb)):=h0.more (Up.al _ (Up.rfl' W));have HL:Hid (∀d' W',SU enc k g T cs (W.alloc (vz f lb sf sb)) d' W'->wL f lb enc k lt g T cs n W'):=λd' W' h'=>hL.on (hB.trans h')
 have HB:Hid (SU enc k g T cs W d (W.alloc (vz f lb sf sb))):=hB;have hI:=fun(d':Array α) (W':World) (yL:d'.size=n) (h':SU enc k g T cs W' d' W') (hL':wL f lb enc k lt g T cs n W') (a b:Nat) (IJ:a<=b) (hb:b<=n)=>ZbR hk f lb sf sb n hn ri eg yL h' hL' a b IJ hb
 have hM:=fun(d':Array α) (W':World) (yL:d'.size=n) (h':SU enc k g T cs W' d' W') (hL':wL f lb enc k lt g T cs n W') (a m b:Nat)=>ZlK hk f lb sf sb n hn ri hO eg (b-a) d' W' yL h' hL' a m b (VJ _)
 have HI:Hid _:=hI;have HM:Hid _:=hM;have hg:=h0.lt;clear h0 hL hI hM
 go_enter func317,ntmps317
 go_wp2
 go_loopw [5,6] (λv5 v6 wr=>∃(q:Nat) (dk:Array α),v5=ZF ZG ((q:Int)*20)/\v6=ZF ZG ((q:Int)*20+20)/\q*20<=n/\PermIn 0 n d dk/\BI lt q dk/\SU enc k g T cs (W.alloc (vz f lb sf sb)) dk wr) (λv5 v6 _=>n-(intOf v5).toNat)
 case atStart=>exact⟨0,d,by rfl,by rfl,YG,permIn_refl _ _ _,λp hp=>YG,hB.self⟩
 case round=>
  obtain⟨q,dk,rfl,rfl,hq,hP,hBI,hS⟩:=hrel;have c0:wr.cell? ⟨W.heap.size,0,ZB⟩=ZA (.func (.func f) #[] lb):=by rw[hS.tq YJ YG];simp
  have c1:wr.cell? ⟨W.heap.size,1,ZB⟩=ZA (.func (.func sf) #[] sb):=by rw[hS.tq YJ YG];simp
  have Vi:dk.size=n:=hP.1.trans hd;have HS:Hid (SU enc k g T cs (W.alloc (vz f lb sf sb)) dk wr):=hS;have HP:Hid (PermIn 0 n d dk):=hP;have HBI:Hid (BI lt q dk):=hBI;clear hS hB hP hBI
  by_cases hle:q*20+20<=n
  ·have ZhE:(q:Int)*20+20<=(n:Int):=YG
   have hc:=HI.out dk wr Vi HS.out.self (HL.out dk wr HS.out) (q*20) (q*20+20) YG hle;rw[show((q*20:Nat):Int)=(q:Int)*20 by omega,show((q*20+20:Nat):Int)=(q:Int)*20+20 by omega]at hc
   go_wp2_with (go_at_call 339;refine hc.mono ?_;rintro e w' ⟨rfl,hE⟩)
   have x:=insertionSort_holds hO dk (q*20) (q*20+20) YG YG;exact⟨⟨q+1,_,by grind,by grind,YG,permIn_trans _ _ _ _ _ HP.out (permIn_mono _ _ _ _ _ _ YG YG YG x.1),HBI.out.step x.1 x.2,HS.out.trans hE⟩,by simp[intOf];omega⟩
  ·have ZhE:¬(q:Int)*20+20<=(n:Int):=YG
   have hc:=HI.out dk wr Vi HS.out.self (HL.out dk wr HS.out) (q*20) n hq (VJ _);rw[show((q*20:Nat):Int)=(q:Int)*20 by omega]at hc
   go_wp2_with (go_at_call 339;refine hc.mono ?_;rintro e w' ⟨rfl,hE⟩)
   have x:=insertionSort_holds hO dk (q*20) n YG YG;have hR0:=HBI.out.fin YG x.1 x.2;have hP0:=permIn_trans _ _ _ _ _ HP.out (permIn_mono _ _ _ _ _ _ YG (VJ _) YG x.1);have hS0:=HS.out.trans hE;clear x c0 c1
   go_loopw [4,5,6,7] (λv4 v5 v6 v7 wr=>∃(bs:Nat) (dk:Array α),v4=ZF ZG (bs:Int)/\1<=bs/\bs<=2*n+20/\PermIn 0 n d dk/\Zdj lt bs n dk/\SU enc k g T cs (W.alloc (vz f lb sf sb)) dk wr) (λv4 _ _ _ _=>n-(intOf v4).toNat)
   case atStart=>grind
   case round=>
    obtain⟨bs,dk2,rfl,uQ,xj,hP2,hR2,Mw⟩:=hrel;have HP2:Hid (PermIn 0 n d dk2):=hP2;have HR2:Hid (Zdj lt bs n dk2):=hR2;have R6:Hid (SU enc k g T cs (W.alloc (vz f lb sf sb)) dk2 wr):=Mw;clear hP2 hR2 Mw hP0 hR0 hS0 hE ZhE hle hc HS HP HBI hq
    by_cases bO:bs<n
    ·go_wp2
     go_loopw [5,6] (λv5 v6 wr=>∃(A:Nat) (dk:Array α),v5=ZF ZG (A:Int)/\v6=ZF ZG ((A:Int)+2*(bs:Int))/\A<=n/\PermIn 0 n d dk/\(∃q,A=q*(2*bs)/\MI lt bs n q dk)/\SU enc k g T cs (W.alloc (vz f lb sf sb)) dk wr) (λv5 v6 _=>n-(intOf v5).toNat)
     case atStart=>exact⟨0,dk2,by rfl,by go_num,YG,HP2.out,⟨0,YG,MI.zero HR2.out⟩,R6.out⟩
     case round=>
      obtain⟨A,dk3,rfl,rfl,hA,hP3,hM3,hS3⟩:=hrel;have c0:wr.cell? ⟨W.heap.size,0,ZB⟩=ZA (.func (.func f) #[] lb):=by rw[hS3.tq YJ YG];simp
      have c1:wr.cell? ⟨W.heap.size,1,ZB⟩=ZA (.func (.func sf) #[] sb):=by rw[hS3.tq YJ YG];simp
      have Zm7:dk3.size=n:=hP3.1.trans hd;have HP3:Hid (PermIn 0 n d dk3):=hP3;have HM3:Hid (∃q,A=q*(2*bs)/\MI lt bs n q dk3):=hM3;have HS3:Hid (SU enc k g T cs (W.alloc (vz f lb sf sb)) dk3 wr):=hS3;clear hP3 hM3 hS3
      by_cases hle:A+2*bs<=n
      ·have ZhE:(A:Int)+2*(bs:Int)<=(n:Int):=YG
       have hc:=HM.out dk3 wr Zm7 HS3.out.self (HL.out dk3 wr HS3.out) A (A+bs) (A+2*bs) YG YG hle (by obtain⟨q,h1,h2⟩:=HM3.out;exact h2.left h1 YG) (by obtain⟨q,h1,h2⟩:=HM3.out;have:=h2.right h1;simp_all)
       rw[show((A+bs:Nat):Int)=(A:Int)+(bs:Int)by omega,show((A+2*bs:Nat):Int)=(A:Int)+2*(bs:Int)by omega]at hc
       go_wp2_with (go_at_call 340;refine hc.mono ?_;rintro e w' ⟨rfl,hE⟩)
       obtain⟨e,Sa,Od,Vh⟩:=hE;exact⟨⟨A+2*bs,e,by rfl,by rfl,hle,permIn_trans _ _ _ _ _ HP3.out (permIn_mono _ _ _ _ _ _ YG hle YG Od),(by obtain⟨q,h1,h2⟩:=HM3.out;exact⟨q+1,by grind,h2.step h1 Od Vh⟩),HS3.out.trans Sa⟩,by simp[intOf];omega⟩
      ·have ZhE:¬(A:Int)+2*(bs:Int)<=(n:Int):=YG
       by_cases hm:A+bs<n
       ·have hmz:(A:Int)+(bs:Int)<(n:Int):=YG
        have hc:=HM.out dk3 wr Zm7 HS3.out.self (HL.out dk3 wr HS3.out) A (A+bs) n YG YG (VJ _) (by obtain⟨q,h1,h2⟩:=HM3.out;exact h2.left h1 YG) (by obtain⟨q,h1,h2⟩:=HM3.out;have:=h2.right h1;grind)
        rw[show((A+bs:Nat):Int)=(A:Int)+(bs:Int)by omega]at hc
        go_wp2_with (go_at_call 340;refine hc.mono ?_;rintro e w' ⟨rfl,hE⟩)
        obtain⟨e,Sa,Od,Vh⟩:=hE;exact⟨⟨2*bs,e,by grind,YG,YG,permIn_trans _ _ _ _ _ HP3.out (permIn_mono _ _ _ _ _ _ YG (VJ _) YG Od),(by obtain⟨q,h1,h2⟩:=HM3.out;exact h2.fin h1 YG Od Vh),HS3.out.trans Sa⟩,by simp[intOf];omega⟩
       ·have hmz:¬(A:Int)+(bs:Int)<(n:Int):=YG
        go_wp2
        exact⟨⟨2*bs,dk3,by grind,YG,YG,HP3.out,(by obtain⟨q,h1,h2⟩:=HM3.out;exact h2.fin h1 YG (permIn_refl _ _ _) (h2.last h1 YG)),HS3.out⟩,by simp[intOf];omega⟩
    ·have Ev:¬(bs:Int)<(n:Int):=YG
     go_wp2
     go_end0
     refine⟨rfl,dk2,HB.out.trans R6.out,HP2.out,?_⟩;have:=HR2.out 0
     simp_all
end
end Go.Proofs.YtbalgkakkoocjaaGreat
