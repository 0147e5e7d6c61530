/- A part of the proof of the statement in the last file of this claim: texts on the language of the program and on its functions. No condition. -/
import Derived.Test.YtdilaemengjipaaGreatDoorCA4
import Derived.Test.YtdilaemengjipaaGreatDoorCA1
import Derived.Sort.LotA
import Derived.Test.YtdilaemengjipaaGreatDoorProg
import Derived.Shelf.SlSortFuncK.RowK2
import Derived.Shelf.GgSortFunc.SmallK
import Derived.Deep.DeepCutAuto
import Derived.Laws.BytesArg
import Derived.Lib.ItoaLen
set_option linter.unusedVariables false
set_option linter.unusedSimpArgs false
set_option linter.unusedSectionVars false
open Go.Value renaming int->YM
open Go.IntKind renaming i64->YN
open Go renaming undef->YO
open Option renaming some->YH,none->YI
open Bool renaming true->YJ,false->YK
open Decidable renaming decide->YL
open Go.Proofs.Tryz
set_option maxHeartbeats 40000000
open BitVec renaming ofInt->V9
open Nat renaming lt_or_ge->Wv,le_refl->VX,lt_trichotomy->WJ,zero_add->We
open _root_.Array renaming getElem?_eq_some_iff->Wh
open UInt8 renaming ofNat->WY
open _root_.ByteArray renaming ext->Xk,data_append->XP,size->W4
namespace Go.Proofs.YtdilaemengjipaaGreatDoor
set_option maxRecDepth 10000
open Go.RowKit
def eA(l:List Int):Option (List Int):=
 (bW (bm ((([]:List Int):List Int).length+(l:List Int).length) 8)).bind λ_=>
 YH ((([]:List Int):List Int)++l)
instance (l:List Int):CT prog (eA l):=⟨105,[.sl (l.map aE)],[],λr=>.ms 0,λr=>[YH ⟨.of 3,1,r.map aE⟩],cw (eA.eq_1 ..) func105 ntmps105 results105⟩
def fq(l:bK):Option Bool:=
 (bT l.au).bind λy1=>
 cond y1
 ((bT l.a8).bind λy2=>
 cond y2
 (cond (!decide (l.au=l.a8))
 ((bc l.start 0 1439).bind λy3=>
 cond y3
 ((bc l.mP 1 4320).bind λy4=>
 cond y4
 ((bc l.uK 1 127).bind λy5=>
 cond y5
 ((bc l.iU 0 1000000).bind λy6=>
 YH y6)
 (YH YK))
 (YH YK))
 (YH YK))
 (YH YK))
 (YH YK))
 (YH YK)
instance (l:bK):CT prog (fq l):=⟨346,[.ag (bn l)],[],λr=>vb r,λr=>[],cw (fq.eq_1 ..) func346 ntmps346 results346⟩
def bX(n:aj)(s0:Int):Option (Int⊕(Unit⊕Bool)):=
 cond (YL (s0<(n.aA.length:Int)))
 ((aB n.aA s0).bind λy1=>
 (fq y1).bind λy2=>
 cond (!y2)
 (YH (.inr (.inr YK)))
 (YH (.inl (aI (s0+1)))))
 (YH (.inr (.inl ())))
instance (n:aj):bo (bX n):=⟨λs0=>(.un::.be 0 0 0::.un::vi s0::(U 62 [])),λs0=>[YH ⟨.of 27,3,[[.sl (n.aA.map bn),.sl (n.off.map aE),vi n.change]]⟩]⟩
def bY(n:aj)(s1:Int):Option (Int⊕(Unit⊕Bool)):=
 cond (YL (s1<(n.off.length:Int)))
 ((aB n.off s1).bind λy3=>
 (bc y3 0 60).bind λy4=>
 cond (!y4)
 (YH (.inr (.inr YK)))
 (cond (YL (0<s1))
 ((aB n.off (aI (s1-1))).bind λy5=>
 (aB n.off s1).bind λy6=>
 cond (YL (y6<=y5))
 (YH (.inr (.inr YK)))
 (YH (.inl (aI (s1+1)))))
 (YH (.inl (aI (s1+1))))))
 (YH (.inr (.inl ())))
instance (n:aj):bo (bY n):=⟨λs1=>(.un::.be 0 0 0::.un::.un::vi s1::(U 61 [])),λs1=>[YH ⟨.of 27,3,[[.sl (n.aA.map bn),.sl (n.off.map aE),vi n.change]]⟩]⟩
def aV(n:aj):Option Bool:=
 (aD (bX n) NN 0).bind (bk (λo0=>
 (aD (bY n) NN 0).bind (bk (λo1=>
 cond (YL ((n.aA.length:Int)<=20))
 (cond (YL ((n.off.length:Int)<=10))
 ((bc n.change 0 240).bind λy7=>
 YH y7)
 (YH YK))
 (YH YK)) (λr=>YH r))) (λr=>YH r))
instance (n:aj):CT prog (aV n):=⟨277,[.ag (bA n)],[],λr=>vb r,λr=>[],cw (aV.eq_1 ..) func277 ntmps277 results277⟩
def df(n:aj)(t:av):Option Int:=
 (aB n.aA t.bD).bind λy1=>
 YH (aI ((aI (t.day*1440))+y1.start))
instance (n:aj)(t:av):CT prog (df n t):=⟨145,[.ag (bA n),.ag (aW t)],[],λr=>vi r,λr=>[],cw (df.eq_1 ..) func145 ntmps145 results145⟩
def cX(n:aj)(t:av):Option Int:=
 (df n t).bind λy1=>
 (aB n.aA t.bD).bind λy2=>
 YH (aI (y1+y2.mP))
instance (n:aj)(t:av):CT prog (cX n t):=⟨155,[.ag (bA n),.ag (aW t)],[],λr=>vi r,λr=>[],cw (cX.eq_1 ..) func155 ntmps155 results155⟩
def ot(n:aj)(day:Int)(s0:Int):Option (Int⊕(Unit⊕Bool)):=
 cond (YL (s0<(n.off.length:Int)))
 ((aB n.off s0).bind λy3=>
 cond (YL (y3=day))
 (YH (.inr (.inr YK)))
 (YH (.inl (aI (s0+1)))))
 (YH (.inr (.inl ())))
instance (n:aj)(day:Int):bo (ot n day):=⟨λs0=>(.un::.un::vi day::(U 34 (.sl (n.off.map aE)::vi (n.off.length:Int)::vi s0::(U 7 [])))),λs0=>[]⟩
def oq(n:aj)(bD:Int)(day:Int):Option Bool:=
 cond (YL (bD<0))
 (YH YK)
 (cond (YL ((n.aA.length:Int)<=bD))
 (YH YK)
 ((aZ day 0 60).bind λy1=>
 cond (!y1)
 (YH YK)
 ((aB n.aA bD).bind λy2=>
 (bW (YL (0<=(Int.tmod day 7)))).bind λ_=>
 cond (YL ((IntKind.i64.wrap (V9 IntKind.i64.bits (Int.fdiv y2.uK (2 ^ (min (Int.toNat (Int.tmod day 7)) IntKind.i64.bits))) &&& V9 IntKind.i64.bits 1).toNat)=0))
 (YH YK)
 ((aD (ot n day) NN 0).bind (bk (λo0=>
 YH YJ) (λr=>YH r))))))
instance (n:aj)(bD:Int)(day:Int):CT prog (oq n bD day):=⟨205,[.ag (bA n),vi bD,vi day],[],λr=>vb r,λr=>[],cw (oq.eq_1 ..) func205 ntmps205 results205⟩
def pR(l:List Int)(x:Int)(s0:Int):Option (Int⊕(Unit⊕Bool)):=
 cond (YL (s0<(l.length:Int)))
 ((aB l s0).bind λy1=>
 cond (YL (y1=x))
 (YH (.inr (.inr YJ)))
 (YH (.inl (aI (s0+1)))))
 (YH (.inr (.inl ())))
instance (l:List Int)(x:Int):bo (pR l x):=⟨λs0=>(.sl (l.map aE)::vi x::(U 3 (vi s0::(U 12 [])))),λs0=>[]⟩
def jQ(l:List Int)(x:Int):Option Bool:=
 (aD (pR l x) NN 0).bind (bk (λo0=>
 YH YK) (λr=>YH r))
instance (l:List Int)(x:Int):CT prog (jQ l x):=⟨280,[.sl (l.map aE),vi x],[],λr=>vb r,λr=>[],cw (jQ.eq_1 ..) func280 ntmps280 results280⟩
def cA(n:aj)(bD:Int)(day:Int):Option Bool:=
 (bc bD 0 (aI ((n.aA.length:Int)-1))).bind λy1=>
 cond y1
 ((bc day 0 60).bind λy2=>
 cond y2
 ((aB n.aA bD).bind λy3=>
 (bW (YL (0<=(Int.tmod day 7)))).bind λ_=>
 cond (YL ((IntKind.i64.wrap (V9 IntKind.i64.bits (Int.fdiv y3.uK (2 ^ (min (Int.toNat (Int.tmod day 7)) IntKind.i64.bits))) &&& V9 IntKind.i64.bits 1).toNat)=1))
 ((jQ n.off day).bind λy4=>
 YH (!y4))
 (YH YK))
 (YH YK))
 (YH YK)
instance (n:aj)(bD:Int)(day:Int):CT prog (cA n bD day):=⟨214,[.ag (bA n),vi bD,vi day],[],λr=>vb r,λr=>[],cw (cA.eq_1 ..) func214 ntmps214 results214⟩
def jZ(n:aj)(bD:Int)(day:Int):Option Bool:=
 (aV n).bind λy1=>
 cond y1
 ((cA n bD day).bind λy2=>
 YH y2)
 (YH YK)
instance (n:aj)(bD:Int)(day:Int):CT prog (jZ n bD day):=⟨293,[.ag (bA n),vi bD,vi day],[],λr=>vb r,λr=>[],cw (jZ.eq_1 ..) func293 ntmps293 results293⟩
def dC(n:aj)(t:av):Option Bool:=
 (jZ n t.bD t.day).bind λy1=>
 YH y1
instance (n:aj)(t:av):CT prog (dC n t):=⟨229,[.ag (bA n),.ag (aW t)],[],λr=>vb r,λr=>[],cw (dC.eq_1 ..) func229 ntmps229 results229⟩
def dR(a:Int)(b:Int):Option Int:=
 cond (YL (a<b))
 (YH (-1))
 (cond (YL (b<a))
 (YH 1)
 (YH 0))
instance (a:Int)(b:Int):CT prog (dR a b):=⟨93,[vi a,vi b],[],λr=>vi r,λr=>[],cw (dR.eq_1 ..) func93 ntmps93 results93⟩
def lr(a:aq)(b:aq):Option Bool:=
 cond (!decide (a.bj.day=b.bj.day))
 (YH (YL (a.bj.day<b.bj.day)))
 (cond (!decide (a.bj.bD=b.bj.bD))
 (YH (YL (a.bj.bD<b.bj.bD)))
 (YH (YL (a.bw<b.bw))))
instance (a:aq)(b:aq):CT prog (lr a b):=⟨278,[.ag (aC a),.ag (aC b)],[],λr=>vb r,λr=>[],cw (lr.eq_1 ..) func278 ntmps278 results278⟩
def om(w:ax)(o:az):Option Bool:=
 cond (YL (0<o.aN))
 ((aB o.aG (aI (o.aN-1))).bind λy1=>
 (cX w.aa y1).bind λy2=>
 cond (YL (w.now<y2))
 (YH YK)
 ((aB w.aa.aA y1.bD).bind λy3=>
 cond (YL (o.state=1))
 (cond (YL (o.place=y3.a8))
 (cond (!decide (y3.a8=o.a8))
 (cond (YL (o.bB=0))
 (cond (YL (o.aN=(o.aG.length:Int)))
 (YH YJ)
 ((aB o.aG o.aN).bind λy4=>
 (df w.aa y4).bind λy5=>
 YH (YL (w.now<y5))))
 (YH YK))
 (YH YK))
 (YH YK))
 (cond (YL (o.state=2))
 (cond (YL (o.place=⟨#[]⟩))
 (cond (YL (o.bB=0))
 (cond (YL (o.aN<(o.aG.length:Int)))
 ((aB o.aG o.aN).bind λy6=>
 (df w.aa y6).bind λy7=>
 cond (YL (y7<=w.now))
 ((aB o.aG o.aN).bind λy8=>
 (cX w.aa y8).bind λy9=>
 YH (YL (w.now<y9)))
 (YH YK))
 (YH YK))
 (YH YK))
 (YH YK))
 (cond (YL (o.state=3))
 (cond (YL (o.aN=(o.aG.length:Int)))
 (cond (YL (0<o.aN))
 (cond (YL (o.place=o.a8))
 (cond (YL (y3.a8=o.a8))
 ((aB o.aG (aI (o.aN-1))).bind λdL=>
 (cX w.aa dL).bind λji=>
 YH (YL (o.bB=ji)))
 (YH YK))
 (YH YK))
 (YH YK))
 (YH YK))
 (YH YK)))))
 (cond (YL (o.state=1))
 (cond (YL (o.place=o.au))
 (cond (!decide (o.au=o.a8))
 (cond (YL (o.bB=0))
 (cond (YL (o.aN=(o.aG.length:Int)))
 (YH YJ)
 ((aB o.aG o.aN).bind λoX=>
 (df w.aa oX).bind λmf=>
 YH (YL (w.now<mf))))
 (YH YK))
 (YH YK))
 (YH YK))
 (cond (YL (o.state=2))
 (cond (YL (o.place=⟨#[]⟩))
 (cond (YL (o.bB=0))
 (cond (YL (o.aN<(o.aG.length:Int)))
 ((aB o.aG o.aN).bind λkX=>
 (df w.aa kX).bind λpg=>
 cond (YL (pg<=w.now))
 ((aB o.aG o.aN).bind λmu=>
 (cX w.aa mu).bind λrn=>
 YH (YL (w.now<rn)))
 (YH YK))
 (YH YK))
 (YH YK))
 (YH YK))
 (cond (YL (o.state=3))
 (cond (YL (o.aN=(o.aG.length:Int)))
 (cond (YL (0<o.aN))
 (cond (YL (o.place=o.a8))
 (cond (YL (o.au=o.a8))
 ((aB o.aG (aI (o.aN-1))).bind λsi=>
 (cX w.aa si).bind λvH=>
 YH (YL (o.bB=vH)))
 (YH YK))
 (YH YK))
 (YH YK))
 (YH YK))
 (YH YK))))
instance (w:ax)(o:az):CT prog (om w o):=⟨159,[.ag (fY w),.ag (ba o)],[],λr=>vb r,λr=>[],cw (om.eq_1 ..) func159 ntmps159 results159⟩
def e9(x:az):Option Int:=
 cond (YL (x.state=2))
 (YH (aI (x.aN+1)))
 (YH x.aN)
instance (x:az):CT prog (e9 x):=⟨231,[.ag (ba x)],[],λr=>vi r,λr=>[],cw (e9.eq_1 ..) func231 ntmps231 results231⟩
def fb(w:ax)(s0:Int×Int):Option ((Int×Int)⊕Int):=
 cond (YL (s0.2<(w.ae.length:Int)))
 ((aB w.ae s0.2).bind λy1=>
 cond (YL (y1.state=2))
 ((aB y1.aG y1.aN).bind λy2=>
 (cX w.aa y2).bind λy3=>
 cond (YL (0<=y3))
 (cond (YL (s0.1<0))
 (YH (.inl (y3,(aI (s0.2+1)))))
 (cond (YL (y3<s0.1))
 (YH (.inl (y3,(aI (s0.2+1)))))
 (YH (.inl (s0.1,(aI (s0.2+1)))))))
 (YH (.inl (s0.1,(aI (s0.2+1))))))
 (cond (YL (y1.state=1))
 (cond (YL (y1.aN<(y1.aG.length:Int)))
 ((aB y1.aG y1.aN).bind λy4=>
 (df w.aa y4).bind λy5=>
 cond (YL (0<=y5))
 (cond (YL (s0.1<0))
 (YH (.inl (y5,(aI (s0.2+1)))))
 (cond (YL (y5<s0.1))
 (YH (.inl (y5,(aI (s0.2+1)))))
 (YH (.inl (s0.1,(aI (s0.2+1)))))))
 (YH (.inl (s0.1,(aI (s0.2+1))))))
 (cond (YL (0<=(-1)))
 (cond (YL (s0.1<0))
 (YH (.inl ((-1),(aI (s0.2+1)))))
 (cond (YL ((-1)<s0.1))
 (YH (.inl ((-1),(aI (s0.2+1)))))
 (YH (.inl (s0.1,(aI (s0.2+1)))))))
 (YH (.inl (s0.1,(aI (s0.2+1)))))))
 (cond (YL (0<=(-1)))
 (cond (YL (s0.1<0))
 (YH (.inl ((-1),(aI (s0.2+1)))))
 (cond (YL ((-1)<s0.1))
 (YH (.inl ((-1),(aI (s0.2+1)))))
 (YH (.inl (s0.1,(aI (s0.2+1)))))))
 (YH (.inl (s0.1,(aI (s0.2+1))))))))
 (YH (.inr s0.1))
instance (w:ax):bo (fb w):=⟨λs0=>(.un::.be 0 0 0::.un::vi s0.1::(U 4 (.sl (w.ae.map ba)::vi (w.ae.length:Int)::vi s0.2::(U 51 [])))),λs0=>[YH ⟨.of 33,10,[[.sl (w.aa.aA.map bn),.sl (w.aa.off.map aE),vi w.aa.change,.sl (w.ae.map ba),.sl (w.ar.map aC),.sl (w.ah.map aW),vi w.now,.sl (w.aH.map bt),.sl (w.skip.map aE),vi w.bd]]⟩]⟩
def gw(w:ax):Option Int:=
 (aD (fb w) NN ((-1),0)).bind (λo0=>
 YH o0)
instance (w:ax):CT prog (gw w):=⟨143,[.ag (fY w)],[],λr=>vi r,λr=>[],cw (gw.eq_1 ..) func143 ntmps143 results143⟩
def j2(l:List aq):Option (List aq):=
 (bW (bm ((([]:List aq):List aq).length+(l:List aq).length) 32)).bind λ_=>
 YH ((([]:List aq):List aq)++l)
instance (l:List aq):CT prog (j2 l):=⟨168,[.sl (l.map aC)],[],λr=>.ms 0,λr=>[YH ⟨.of 147,4,r.map aC⟩],cw (j2.eq_1 ..) func168 ntmps168 results168⟩
@[go_sem] theorem ZfJ:tG prog 250:=⟨_,func250,rfl,by kernel_rfl⟩
@[go_sem] theorem ZfK:tG prog 366:=⟨_,func366,rfl,by kernel_rfl⟩
end Go.Proofs.YtdilaemengjipaaGreatDoor
namespace Go.Proofs.YtdilaemengjipaaGreatDoor
set_option maxRecDepth 10000
open Go.Sort
variable {a b i j m:Nat}
section
variable {α:Type} [Inhabited α]
def vG(d:Array α)(a b:Nat):Nat->Array α
 |0=>d
 |n+1=>swp (vG d a b n) (a+n) (b+n)
theorem oV(d:Array α)(a b:Nat):∀n,(vG d a b n).size=d.size
 |0=>rfl
 |n+1=>by rw[vG,size_swp,oV d a b n]
theorem wi(d:Array α){a b lo hi:Nat}(h1:lo<=a):∀n,a+n<=hi->lo<=b->b+n<=hi->hi<=d.size->PermIn lo hi d (vG d a b n)
 |0,_,_,_,_=>permIn_refl _ _ _
 |n+1,h2,h3,h4,h5=>permIn_trans _ _ _ _ _ (wi d h1 n X9 h3 X9 h5) (swp_permIn _ _ _ _ _ X9 X9 X9 X9 YC)
theorem yG(d:Array α){a b:Nat}:∀n,a+n<=b->b+n<=d.size->∀k,(vG d a b n)[k]! = if a<=k/\k<a+n then d[b+(k-a)]! else if b<=k/\k<b+n then d[a+(k-b)]! else d[k]!
 |0,_,_,k=>by rw[if_neg X9,if_neg X9];rfl
 |n+1,h1,h2,k=>by
  have ih:=yG d (a:=a) (b:=b) n X9 X9;rw[vG,swp_get (vG d a b n) (i:=a+n) (j:=b+n) YC YC]
  grind
def pe(d:Array α)(a m b k:Nat):α:=if a<=k/\k<a+(b-m)then d[m+(k-a)]! else if a+(b-m)<=k/\k<b then d[k-(b-m)]! else d[k]!
theorem Zah(e:Array α)(h:j<i)(hi:i<=m)(hs:m+j<=e.size)(k:Nat):pe (vG e (m-i) m j) (m-i+j) m (m+j) k=pe e (m-i) m (m+j) k:=by
 unfold pe;simp only[yG e (a:=m-i) (b:=m) j X9 X9]
 grind
theorem Zai(e:Array α)(h:i<j)(hi:i<=m)(hs:m+j<=e.size)(k:Nat):pe (vG e (m-i) (m+j-i) i) (m-i) m (m+j-i) k=pe e (m-i) m (m+j) k:=by
 unfold pe;simp only[yG e (a:=m-i) (b:=m+j-i) i X9 X9]
 grind
theorem Zag(e:Array α)(hi:i<=m)(hs:m+i<=e.size)(k:Nat):(vG e (m-i) m i)[k]! = pe e (m-i) m (m+i) k:=by
 unfold pe;rw[yG e i X9 X9]
 grind
theorem zE(d:Array α)(h:m<=a\/b<=m)(B8:a<=m)(hb:m<=b)(k:Nat):d[k]! = pe d a m b k:=by
 unfold pe
 grind
def Tc(d:Array α)(a:Nat):Nat->Array α
 |0=>d
 |n+1=>swp (Tc d a n) (a+n) (a+n+1)
theorem sK(d:Array α)(a:Nat):∀n,(Tc d a n).size=d.size
 |0=>rfl
 |n+1=>by rw[Tc,size_swp,sK d a n]
theorem Jz(d:Array α){a hi:Nat}:∀n,a+n<hi->hi<=d.size->PermIn a hi d (Tc d a n)
 |0,_,_=>permIn_refl _ _ _
 |n+1,h2,h5=>permIn_trans _ _ _ _ _ (Jz d n X9 h5) (swp_permIn _ _ _ _ _ X9 X9 X9 X9 YD)
theorem Nd(d:Array α){a:Nat}:∀n,a+n<d.size->∀k,(Tc d a n)[k]! = pe d a (a+1) (a+1+n) k
 |0,h,k=>zE d (.inr X9) X9 X9 k
 |n+1,h,k=>by
  have ih:=Nd d (a:=a) n X9;rw[Tc,swp_get (Tc d a n) (i:=a+n) (j:=a+n+1) YD YD,ih,ih,ih];unfold pe
  grind
def Tb(d:Array α)(m:Nat):Nat->Array α
 |0=>d
 |n+1=>swp (Tb d m n) (m-n) (m-n-1)
theorem sJ(d:Array α)(m:Nat):∀n,(Tb d m n).size=d.size
 |0=>rfl
 |n+1=>by rw[Tb,size_swp,sJ d m n]
theorem Jy(d:Array α){m lo:Nat}:∀n,lo+n<=m->m<d.size->PermIn lo (m+1) d (Tb d m n)
 |0,_,_=>permIn_refl _ _ _
 |n+1,h2,h5=>permIn_trans _ _ _ _ _ (Jy d n X9 h5) (swp_permIn _ _ _ _ _ X9 X9 X9 X9 YE)
theorem Nc(d:Array α){m:Nat}:∀n,n<=m->m<d.size->∀k,(Tb d m n)[k]! = pe d (m-n) m (m+1) k
 |0,h,h',k=>zE d (.inl X9) X9 X9 k
 |n+1,h,h',k=>by
  have ih:=Nc d (m:=m) n X9 h';rw[Tb,swp_get (Tb d m n) (i:=m-n) (j:=m-n-1) YE YE,ih,ih,ih];unfold pe
  grind
variable {lt:α->α->Bool}
theorem tk(hO:SWO lt){d:Array α}(h:SortedIn lt a b d)(h1:a<=i)(h2:i<=j)(h3:j<b):lt d[j]! d[i]! = false:=by
 rcases Wv i j with h4|h4
 ·exact h i j h1 h4 h3
 ·have:i=j:=X9
  subst this;exact hO.irrefl _
theorem wg{a b a' b':Nat}{d:Array α}(h:SortedIn lt a b d)(h1:a<=a')(h2:b'<=b):SortedIn lt a' b' d:=λi j hi yN hj=>h i j X9 yN X9
theorem xn{d e:Array α}(h:SortedIn lt a b d)(he:∀k,a<=k->k<b->e[k]! = d[k]!):SortedIn lt a b e:=λi j hi yN hj=>by
 rw[he i hi X9,he j X9 hj];exact h i j hi yN hj
theorem Nf{d:Array α}(h:b<=a+1):SortedIn lt a b d:=λi j hi yN hj=>X9
theorem ZbW(hO:SWO lt){a m b s t mid:Nat}{d e:Array α}(h1:SortedIn lt a m d)(h2:SortedIn lt m b d)(hs:a<=s/\s<=m)(ht:m<=t/\t<=b)(Zb6:s+(t-m)=mid)
 (c1:a<s->t<b->lt d[t]! d[s-1]! = YK) (c2:s<m->m<t->lt d[t-1]! d[s]! = YJ) (hr:∀k,e[k]! = pe d s m t k):
 SortedIn lt a s e/\SortedIn lt s mid e/\SortedIn lt mid t e/\SortedIn lt t b e/\∀i j,a<=i->i<mid->mid<=j->j<b->lt e[j]! e[i]! = false:=by
 have g1:∀k,k<s->e[k]! = d[k]!:=λk h=>by rw[hr];unfold pe;grind
 have g2:∀k,s<=k->k<mid->e[k]! = d[m+(k-s)]!:=λk h h'=>by rw[hr];unfold pe;grind
 have g3:∀k,mid<=k->k<t->e[k]! = d[k-(t-m)]!:=λk h h'=>by rw[hr];unfold pe;grind
 have g4:∀k,t<=k->e[k]! = d[k]!:=λk h=>by rw[hr];unfold pe;rw[if_neg X9,if_neg X9]
 refine⟨λi j hi yN hj=>?_,λi j hi yN hj=>?_,λi j hi yN hj=>?_,λi j hi yN hj=>?_,λi j hi mZ hj Cd=>?_⟩
 ·rw[g1 i X9,g1 j hj];exact h1 i j hi yN X9
 ·rw[g2 i hi X9,g2 j X9 hj];exact h2 _ _ X9 X9 X9
 ·rw[g3 i hi X9,g3 j X9 hj];exact h1 _ _ X9 X9 X9
 ·rw[g4 i hi,g4 j X9];exact h2 i j X9 yN hj
 ·rcases Wv i s with x|x<;>rcases Wv j t with y|y
  ·rw[g1 i x,g3 j hj y];exact h1 _ _ hi X9 X9
  ·rw[g1 i x,g4 j y]
   have a1:=tk hO h2 (i:=t) (j:=j) ht.1 y Cd;have a2:=c1 X9 X9;have a3:=tk hO h1 (i:=i) (j:=s-1) hi X9 X9;exact hO.ntrans _ _ _ (hO.ntrans _ _ _ a1 a2) a3
  ·rw[g2 i x mZ,g3 j hj y]
   have a1:=tk hO h2 (i:=m+(i-s)) (j:=t-1) X9 X9 X9;have a2:=c2 X9 X9;have a3:=tk hO h1 (i:=s) (j:=j-(t-m)) hs.1 X9 X9
   cases hv:lt d[j-(t-m)]! d[m+(i-s)]! with
   |false=>rfl
   |true=>
    cases hw:lt d[j-(t-m)]! d[t-1]! with
    |false=>rw[hO.ntrans _ _ _ hw a1]at hv;grind
    |true=>rw[hO.trans _ _ _ hw a2]at a3;omega
  ·rw[g2 i x mZ,g4 j y];exact h2 _ _ X9 X9 Cd
theorem glue(hO:SWO lt){a mid b:Nat}{e e1 e2:Array α}(hb:b<=e.size)(ha:a<=mid)(hm:mid<=b)(p1:PermIn a mid e e1)(p2:PermIn mid b e1 e2)(s1:SortedIn lt a mid e1)(s2:SortedIn lt mid b e2)
 (hc:∀i j,a<=i->i<mid->mid<=j->j<b->lt e[j]! e[i]! = YK):PermIn a b e e2/\SortedIn lt a b e2:=by
 have z1:=p1.1;refine⟨permIn_trans _ _ _ _ _ (permIn_mono _ _ _ _ _ _ (VX _) hm hb p1) (permIn_mono _ _ _ _ _ _ ha (VX _) X9 p2),λi j hi yN hj=>?_⟩
 have k1:∀i j,a<=i->i<mid->mid<=j->j<b->lt e1[j]! e1[i]! = false:=λi j hi mZ hj Cd=>by
  rw[p1.2.1 j (.inr hj)];exact permIn_all e e1 a mid (λx=>lt e[j]! x=YK) X9 p1 (λi h h'=>hc i j h h' hj Cd) i hi mZ
 have k2:∀i j,a<=i->i<mid->mid<=j->j<b->lt e2[j]! e2[i]! = false:=λi j hi mZ hj Cd=>by
  rw[p2.2.1 i (.inl mZ)];exact permIn_all e1 e2 mid b (λy=>lt y e1[i]! = YK) X9 p2 (λj h h'=>k1 i j hi mZ h h') j hj Cd
 rcases Wv i mid with x|x
 ·rcases Wv j mid with y|y
  ·rw[p2.2.1 i (.inl x),p2.2.1 j (.inl y)];exact s1 i j hi yN y
  grind
 ·exact s2 i j x yN hj
theorem RN(hO:SWO lt){d e:Array α}(h:SortedIn lt (a+1) b d)(h1:a+1<=i)(h2:i<=b)(c1:i=a+1\/lt d[i-1]! d[a]! = YJ)(c2:i=b\/lt d[i]! d[a]! = YK)(hr:∀k,e[k]! = pe d a (a+1) i k):SortedIn lt a b e:=by
 have g1:∀k,a<=k->k<i-1->e[k]! = d[k+1]!:=λk h h'=>by rw[hr];unfold pe;grind
 have g2:e[i-1]! = d[a]!:=by rw[hr];unfold pe;grind
 have g3:∀k,i<=k->e[k]! = d[k]!:=λk h=>by rw[hr];unfold pe;grind
 have lo:∀p,a<=p->p<i-1->lt d[a]! d[p+1]! = false:=λp h5 h6=>by
  rcases c1 with c1|c1
  ·omega
  ·exact hO.ntrans _ _ _ (hO.asymmA c1) (tk hO h (i:=p+1) (j:=i-1) X9 X9 X9)
 have hi:∀q,i<=q->q<b->lt d[q]! d[a]! = false:=λq h5 h6=>by
  rcases c2 with c2|c2
  ·omega
  ·exact hO.ntrans _ _ _ (tk hO h (i:=i) (j:=q) h1 h5 h6) c2
 intro p q hp hpq hq
 rcases WJ p (i-1)with x|x|x
 ·rcases WJ q (i-1)with y|y|y
  ·rw[g1 p hp x,g1 q X9 y];exact h _ _ X9 X9 X9
  ·grind
  ·rw[g1 p hp x,g3 q X9];exact h _ _ X9 X9 hq
 ·grind
 ·rw[g3 p X9,g3 q X9];exact h _ _ X9 hpq hq
theorem Ou(hO:SWO lt){d e:Array α}(h:SortedIn lt a m d)(h1:a<=i)(h2:i<=m)(c1:i=a\/lt d[m]! d[i-1]! = YK)(c2:i=m\/lt d[m]! d[i]! = YJ)(hr:∀k,e[k]! = pe d i m (m+1) k):SortedIn lt a (m+1) e:=by
 have g1:∀k,k<i->e[k]! = d[k]!:=λk h=>by rw[hr];unfold pe;grind
 have g2:e[i]! = d[m]!:=by rw[hr];unfold pe;simp
 have g3:∀k,i<k->k<=m->e[k]! = d[k-1]!:=λk h h'=>by rw[hr];unfold pe;grind
 have lo:∀p,a<=p->p<i->lt d[m]! d[p]! = false:=λp h5 h6=>by
  rcases c1 with c1|c1
  ·omega
  ·exact hO.ntrans _ _ _ c1 (tk hO h (i:=p) (j:=i-1) h5 X9 X9)
 have hi:∀q,i<q->q<=m->lt d[q-1]! d[m]! = false:=λq h5 h6=>by
  rcases c2 with c2|c2
  ·omega
  ·exact hO.ntrans _ _ _ (tk hO h (i:=i) (j:=q-1) h1 X9 X9) (hO.asymmA c2)
 intro p q hp hpq hq
 rcases WJ p i with x|x|x
 ·rcases WJ q i with y|y|y
  ·rw[g1 p x,g1 q y];exact h _ _ hp hpq X9
  ·grind
  ·rw[g1 p x,g3 q y X9];exact tk hO h X9 X9 X9
 ·grind
 ·rw[g3 p x X9,g3 q X9 X9];exact tk hO h X9 X9 X9
def Qb(lt:α->α->Bool)(bs n:Nat)(d:Array α):Prop:=∀q,SortedIn lt (q*bs) (min (q*bs+bs) n) d
end
end Go.Proofs.YtdilaemengjipaaGreatDoor
namespace Go.Proofs.YtdilaemengjipaaGreatDoor
set_option maxRecDepth 10000
open Go.RowKit Go.Lib Go.Sort
set_option maxRecDepth 100000
variable {W w0:World}
section
variable {α:Type} [Inhabited α] {enc:α->List Value} {k:Nat} {g:Nat} {T:TypeId} {cs:Nat}
structure SU(enc:α->List Value)(k:Nat)(g:Nat)(T:TypeId)(cs:Nat)(w0:World)(d:Array α)(W:World):Prop where
 up:Dp (λb=>b=g) w0 W
 hold:HoldsK enc k W g 0 d
 row:∃cells,W.heap[g]?=YH (.cells cells T (0,0))/\cells.size=cs
theorem SU.lt{d:Array α}(h:SU enc k g T cs w0 d W):g<W.heap.size:=by
 obtain⟨c,h1,_⟩:=h.row
 grind
theorem SU.more{w0 W W':World}{d:Array α}(h:SU enc k g T cs w0 d W)(u:Up W W'):SU enc k g T cs w0 d W':=by
 have hl:=h.lt;refine⟨⟨u.os.trans h.up.os,u.tape.trans h.up.tape,u.output.trans h.up.output,Nat.le_trans h.up.size u.size,λb hb hn=>(u.block b (Nat.lt_of_lt_of_le hb h.up.size)).trans (h.up.block b hb hn)⟩,λj hj=>⟨(u.cell (p:=⟨g,0+j,YI⟩) hl).trans (h.hold j hj).1,(u.frozen (p:=⟨g,0+j,YI⟩) hl).trans (h.hold j hj).2⟩,?_⟩
 obtain⟨c,h1,h2⟩:=h.row;exact⟨c,(u.block g hl).trans h1,h2⟩
theorem SU.trans{w0 W W':World}{d d':Array α}(h:SU enc k g T cs w0 d W)(h':SU enc k g T cs W d' W'):SU enc k g T cs w0 d' W':=⟨h.up.trans h'.up λ_ _ h=>h,h'.hold,h'.row⟩
theorem SU.self{d:Array α}(h:SU enc k g T cs w0 d W):SU enc k g T cs W d W:=⟨Dp.refl _ _,h.hold,h.row⟩
theorem SU.Ah{d:Array α}(h:SU enc k g T cs w0 d W){b o:Nat}(hb:b<w0.heap.size)(hn:b≠g):W.cell? ⟨b,o,YI⟩=w0.cell? ⟨b,o,YI⟩:=cell_of_heap (h.up.block b hb hn)
theorem SU.swap(hk:∀x,(enc x).length=k){d:Array α}(h:SU enc k g T cs w0 d W){i j:Nat}(hi:i<d.size)(hj:j<d.size):SU enc k g T cs w0 (swp d i j) ((W.setCells g (i*k) (enc d[j]!)).setCells g (j*k) (enc d[i]!)):=by
 have e:=putRowK_swp enc k hk W g 0 d i j hi hj;rw[putRowK_self enc k W g 0 d h.hold,We,We]at e
 rw[e];have hl:=h.lt;refine⟨h.up.trans (O':=λb=>b=g) ⟨rfl,rfl,rfl,by rw[size_putRowK];omega,λb hb hn=>?_⟩ λ_ _ h=>h,holdsK_putRowK enc k W g 0 d _ h.hold (size_swp _ _ _),?_⟩
 ·show(W.heap.modify g _)[b]?=_
  grind
 ·obtain⟨c,h1,h2⟩:=h.row
  refine⟨putCells id 0 (flatK enc k (swp d i j)) c,?_,?_⟩
  ·show(W.heap.modify g _)[g]?=_
   rw[Array.getElem?_modify,if_pos rfl,h1];rfl
  ·simp[putCells,h2]
def sQ(f:Nat)(lb:Array Value)(enc:α->List Value)(k:Nat)(lt:α->α->Bool)(g:Nat)(T:TypeId)(cs n:Nat)(w0:World):Prop:=
 ∀(d:Array α) (W:World),SU enc k g T cs w0 d W->d.size=n->∀i j:Nat,i<n->j<n->Calls prog f (#[YM YN i,YM YN j]++lb) W λe w'=>e=.returned (.bool (lt d[i]! d[j]!))/\Up W w'
theorem sQ.on{f:Nat}{lb:Array Value}{lt:α->α->Bool}{n:Nat}{d:Array α}(h:sQ f lb enc k lt g T cs n w0)(hW:SU enc k g T cs w0 d W):sQ f lb enc k lt g T cs n W:=λd' W' h'=>h d' W' (hW.trans h')
abbrev LS(f:Nat)(lb:Array Value)(sf:Nat)(sb:Array Value):Value:=.agg #[.func (.func f) #[] lb,.func (.func sf) #[] sb]
abbrev rZ(f:Nat)(lb:Array Value)(sf:Nat)(sb:Array Value):Obj:=.cells #[.func (.func f) #[] lb,.func (.func sf) #[] sb] 272
variable (hk:∀x,(enc x).length=k) (f:Nat) (lb:Array Value) (sf:Nat) (sb:Array Value) (n:Nat) (hn:n<1152921504606846976) (pq:SwapSwapsK prog sf sb enc k g 0 n)
include hk hn pq
theorem ZaC{d:Array α}(hd:d.size=n)(h0:SU enc k g T cs W d W)(a b m:Nat)(h1:a+m<=b)(h2:b+m<=n):
 Calls prog 388 #[LS f lb sf sb,YM YN a,YM YN b,YM YN m] W λe w'=>e=.returned (.tuple #[])/\SU enc k g T cs W (vG d a b m) w':=by
 have hg:=h0.lt;have hB:SU enc k g T cs W d (W.alloc (rZ f lb sf sb)):=h0.more (Up.al _ (Up.rfl' W))
 go_enter func388,ntmps388
 go_wp2
 go_loopw [8] (λvi wr=>∃i:Nat,vi=YM YN i/\i<=m/\SU enc k g T cs (W.alloc (rZ f lb sf sb)) (vG d a b i) wr) (λvi _=>m-(intOf vi).toNat)
 case atStart=>exact⟨0,by rfl,X9,hB.self⟩
 case round=>
  obtain⟨i,rfl,him,hS⟩:=hrel;have c1:wr.cell? ⟨W.heap.size,1,YI⟩=YH (.func (.func sf) #[] sb):=by rw[hS.Ah Ye X9];simp
  have HS:Hid (SU enc k g T cs (W.alloc (rZ f lb sf sb)) (vG d a b i) wr):=hS;clear hS
  by_cases hi:i<m
  ·have hs:=pq wr (vG d a b i) HS.out.hold YC (a+i) (b+i) X9 X9
   rw[show((a+i:Nat):Int)=(a:Int)+(i:Int)by omega,show((b+i:Nat):Int)=(b:Int)+(i:Int)by omega]at hs
   go_wp2
   exact⟨⟨i+1,by rfl,X9,HS.out.swap hk YC YC⟩,by simp[intOf];omega⟩
  ·go_wp2
   go_end0
   have:i=m:=X9;subst this;exact⟨rfl,hB.trans HS.out⟩
theorem SZ{d:Array α}(hd:d.size=n)(h0:SU enc k g T cs W d W)(a m b:Nat)(h1:a<=m)(h2:m<=b)(h3:b<=n)(h4:a<m/\m<b):
 Calls prog 365 #[LS f lb sf sb,YM YN a,YM YN m,YM YN b] W λe w'=>e=.returned (.tuple #[])/\∃e,SU enc k g T cs W e w'/\PermIn a b d e/\∀k,e[k]! = pe d a m b k:=by
 have hg:=h0.lt;have hB:SU enc k g T cs W d (W.alloc (rZ f lb sf sb)):=h0.more (Up.al _ (Up.rfl' W));have TF:=fun(d':Array α) (W':World) (wV:d'.size=n) (h':SU enc k g T cs W' d' W') (a b m:Nat) (h1:a+m<=b) (h2:b+m<=n)=>ZaC hk f lb sf sb n hn pq (T:=T) (cs:=cs) wV h' a b m h1 h2
 go_enter func365,ntmps365
 go_wp2
 go_loopw [8,9] (λvi vj wr=>∃(i j:Nat) (e:Array α),vi=YM YN i/\vj=YM YN j/\0<i/\0<j/\i<=m-a/\j<=b-m/\e.size=n/\PermIn a b d e/\(∀k,pe e (m-i) m (m+j) k=pe d a m b k)/\SU enc k g T cs (W.alloc (rZ f lb sf sb)) e wr) (λvi vj _=>(intOf vi).toNat+(intOf vj).toNat)
 case atStart=>exact⟨m-a,b-m,d,by go_num,by go_num,X9,X9,VX _,VX _,hd,permIn_refl _ _ _,λk=>by grind,hB.self⟩
 case round=>
  obtain⟨i,j,e,rfl,rfl,hi,hj,hia,hjb,he,hP,hR,hS⟩:=hrel;have c0:wr.cell? ⟨W.heap.size,0,YI⟩=YH (.func (.func f) #[] lb):=by rw[hS.Ah Ye X9];simp
  have c1:wr.cell? ⟨W.heap.size,1,YI⟩=YH (.func (.func sf) #[] sb):=by rw[hS.Ah Ye X9];simp
  have HS:Hid (SU enc k g T cs (W.alloc (rZ f lb sf sb)) e wr):=hS;have HR:Hid (∀k,pe e (m-i) m (m+j) k=pe d a m b k):=hR;have HB:Hid (SU enc k g T cs W d (W.alloc (rZ f lb sf sb))):=hB;clear hS hR hB h0
  by_cases yN:i=j
  ·subst yN
   have q:=TF e wr he HS.out.self (m-i) m i X9 X9;rw[show((m-i:Nat):Int)=(m:Int)-(i:Int)by omega]at q
   go_wp2_with (go_at_call 388;refine q.mono ?_;rintro e w' ⟨rfl,hw⟩)
   go_end0
   exact⟨rfl,vG e (m-i) m i,(HB.out.trans HS.out).trans hw,permIn_trans _ _ _ _ _ hP (wi e X9 i X9 X9 X9 X9),λk=>(Zag e X9 X9 k).trans (HR.out k)⟩
  ·by_cases Cc:j<i
   ·have q:=TF e wr he HS.out.self (m-i) m j X9 X9
    rw[show((m-i:Nat):Int)=(m:Int)-(i:Int)by omega]at q
    go_wp2_with (go_at_call 388;refine q.mono ?_;rintro e w' ⟨rfl,hw⟩)
    refine⟨⟨i-j,j,vG e (m-i) m j,by go_num,rfl,X9,hj,X9,hjb,by rw[oV];omega,permIn_trans _ _ _ _ _ hP (wi e X9 j X9 X9 X9 X9),λk=>?_,HS.out.trans hw⟩,by simp[intOf];omega⟩
    rw[show m-(i-j)=m-i+j by omega]
    exact(Zah e Cc X9 X9 k).trans (HR.out k)
   ·have q:=TF e wr he HS.out.self (m-i) (m+j-i) i X9 X9
    rw[show((m-i:Nat):Int)=(m:Int)-(i:Int)by omega,show((m+j-i:Nat):Int)=(m:Int)+(j:Int)-(i:Int)by omega]at q
    go_wp2_with (go_at_call 388;refine q.mono ?_;rintro e w' ⟨rfl,hw⟩)
    refine⟨⟨i,j-i,vG e (m-i) (m+j-i) i,rfl,by go_num,hi,X9,hia,X9,by rw[oV];omega,permIn_trans _ _ _ _ _ hP (wi e X9 i X9 X9 X9 X9),λk=>?_,HS.out.trans hw⟩,by simp[intOf];omega⟩
    rw[show m+(j-i)=m+j-i by omega]
    exact(Zai e X9 X9 X9 k).trans (HR.out k)
omit hk hn pq in
theorem AX{lt:α->α->Bool}{d0:Array α}(hL:sQ f lb enc k lt g T cs n W)(h0:SU enc k g T cs W d0 W){dj:Array α}{wr:World}(hS:SU enc k g T cs (W.alloc (rZ f lb sf sb)) dj wr)(hd:dj.size=n)(TF:SwapSwapsK prog sf sb enc k g 0 n)(i j:Nat)(hi:i<n)(hj:j<n):
 Calls prog f (#[YM YN i,YM YN j]++lb) wr λe w'=>e=.returned (.bool (lt dj[i]! dj[j]!))/\SU enc k g T cs (W.alloc (rZ f lb sf sb)) dj w'/\w'.cell? ⟨W.heap.size,0,YI⟩=YH (.func (.func f) #[] lb)/\w'.cell? ⟨W.heap.size,1,YI⟩=YH (.func (.func sf) #[] sb)/\
  (callFunc sf (#[YM YN i,YM YN j]++sb)).run prog w'=.ok (.value (.tuple #[])) ((w'.setCells g (i*k) (enc dj[j]!)).setCells g (j*k) (enc dj[i]!)):=by
 have hg:=h0.lt;refine(hL.on (h0.more (Up.al _ (Up.rfl' W))) dj wr hS hd i j hi hj).mono ?_;rintro e w' ⟨he,hu⟩;have hS':=hS.more hu;have hs:=TF w' dj hS'.hold hd i j hi hj;rw[We,We]at hs
 exact⟨he,hS',by rw[hS'.Ah Ye X9];simp,by rw[hS'.Ah Ye X9];simp,hs⟩
theorem Ot{lt:α->α->Bool}(eg:∀args w,(callFunc f args).run prog w=.ok (.enter f args) w){d:Array α}(hd:d.size=n)(h0:SU enc k g T cs W d W)(hL:sQ f lb enc k lt g T cs n W)(a b:Nat)(B8:a<=b)(hb:b<=n):
 Calls prog 320 #[LS f lb sf sb,YM YN a,YM YN b] W λe w'=>e=.returned (.tuple #[])/\SU enc k g T cs W (Sort.insertionSort lt d a b) w':=by
 have hB:SU enc k g T cs W d (W.alloc (rZ f lb sf sb)):=h0.more (Up.al _ (Up.rfl' W));have tE:=λdj wr hS wV i j hi hj=>AX (dj:=dj) (wr:=wr) f lb sf sb n hL h0 hS wV pq i j hi hj
 have HB:Hid (SU enc k g T cs W d (W.alloc (rZ f lb sf sb))):=hB;have hg:=h0.lt;clear h0 hL
 go_enter func320,ntmps320
 go_wp2
 go_loopw [6] (λvi wr=>∃(i:Nat) (dk:Array α),vi=YM YN i/\a<i/\i<=b+1/\dk.size=n/\SU enc k g T cs (W.alloc (rZ f lb sf sb)) dk wr/\
  insOuter lt a b i dk=insOuter lt a b (a+1) d) (λvi _=>b+1-(intOf vi).toNat)
 case atStart=>exact⟨a+1,d,by go_num,X9,X9,hd,hB.self,rfl⟩
 case round=>
  obtain⟨i,dk,rfl,hai,hib,hsk,GR,hO⟩:=hrel;have HO:Hid (insOuter lt a b i dk=insOuter lt a b (a+1) d):=hO;clear hO
  go_wp2
  ·go_loopw [7] (λvj wr2=>∃(j:Nat) (dj:Array α),vj=YM YN j/\a<=j/\j<=i/\dj.size=n/\SU enc k g T cs (W.alloc (rZ f lb sf sb)) dj wr2/\
    insInner lt a j dj=insInner lt a i dk) (λvj _=>(intOf vj).toNat)
   case atStart=>exact⟨i,dk,rfl,X9,VX _,hsk,GR,rfl⟩
   case round=>
    obtain⟨j,dj,rfl,haj,FH,hsj,Az,hI⟩:=hrel;have bU:i<b:=by assumption
    have c0:wr.cell? ⟨W.heap.size,0,YI⟩=YH (.func (.func f) #[] lb):=by rw[Az.Ah Ye X9];simp
    have c1:wr.cell? ⟨W.heap.size,1,YI⟩=YH (.func (.func sf) #[] sb):=by rw[Az.Ah Ye X9];simp
    have HW:Hid (SU enc k g T cs (W.alloc (rZ f lb sf sb)) dj wr):=Az;have HI:Hid (insInner lt a j dj=insInner lt a i dk):=hI;clear Az hI GR hB;have out:(j<=a\/lt dj[j]! dj[j-1]! = YK)->∀W',SU enc k g T cs (W.alloc (rZ f lb sf sb)) dj W'->∃(i':Nat) (dk':Array α),Value.int .i64 ((i:Int)+1)=YM YN (i':Nat)/\a<i'/\i'<=b+1/\dk'.size=n/\
     SU enc k g T cs (W.alloc (rZ f lb sf sb)) dk' W'/\insOuter lt a b i' dk'=insOuter lt a b (a+1) d:=λhs W' hW=>
     ⟨i+1,dj,by go_num,X9,X9,hsj,hW,
      by rw[<-HO.out,insOuter_go _ _ _ _ _ bU,<-HI.out,insInner_stop _ _ _ _ hs]⟩
    have OUT:Hid _:=out;clear out
    by_cases hja:a<j
    ·have hl:=tE dj wr HW.out hsj j (j-1) X9 X9
     rw[show(((j-1:Nat):Int))=(j:Int)-1 by omega]at hl
     clear tE
     cases sM:lt dj[j]! dj[j-1]! with
     |true=>
      rw[sM]at hl
      go_wp2_with (go_at_fn f;refine hl.mono ?_;rintro e w' ⟨rfl,hS,c0',c1',hs⟩)
      refine⟨?_,by simp[intOf];omega⟩
      (repeat apply Exists.intro)
      refine⟨⟨j-1,swp dj j (j-1),by congr 1<;>omega,X9,X9,by rw[size_swp];exact hsj,hS.swap hk X9 X9,?_⟩,by rw[X1 bU,show((j-1:Nat):Int)=(j:Int)-1 by omega]⟩
      rw[<-HI.out,insInner_go lt a j dj hja sM]
     |false=>
      rw[sM]at hl
      go_wp2_with (go_at_fn f;refine hl.mono ?_;rintro e w' ⟨rfl,hS,c0',c1',hs⟩)
      exact⟨OUT.out (.inr sM) _ hS,by simp[intOf];omega⟩
    ·go_wp2
     exact⟨OUT.out (.inl X9) _ HW.out,by simp[intOf];omega⟩
  ·have yM:¬i<b:=by assumption
   go_end0
   exact⟨rfl,by unfold Sort.insertionSort;rw[<-HO.out,insOuter_stop _ _ _ _ _ yM];exact HB.out.trans GR⟩
end
section
variable {α:Type} [Inhabited α] {enc:α->List Value} {k:Nat} {g:Nat} {T:TypeId} {cs:Nat}
variable (hk:∀x,(enc x).length=k) (f:Nat) (lb:Array Value) (sf:Nat) (sb:Array Value) (n:Nat) (hn:n<1152921504606846976) (pq:SwapSwapsK prog sf sb enc k g 0 n)
include hk hn pq
theorem ZcN{lt:α->α->Bool}(hO:SWO lt)(eg:∀args w,(callFunc f args).run prog w=.ok (.enter f args) w){d:Array α}(hd:d.size=n)(h0:SU enc k g T cs W d W)(hL:sQ f lb enc k lt g T cs n W)(a m b:Nat)(h1:m=a+1)(h2:m<b)(hb:b<=n)(hs:SortedIn lt m b d):
 Calls prog 321 #[LS f lb sf sb,YM YN a,YM YN m,YM YN b] W λe w'=>e=.returned (.tuple #[])/\∃e,SU enc k g T cs W e w'/\PermIn a b d e/\SortedIn lt a b e:=by
 have hB:SU enc k g T cs W d (W.alloc (rZ f lb sf sb)):=h0.more (Up.al _ (Up.rfl' W));have tE:=λdj wr hS wV i j hi hj=>AX (dj:=dj) (wr:=wr) f lb sf sb n hL h0 hS wV pq i j hi hj
 have HB:Hid (SU enc k g T cs W d (W.alloc (rZ f lb sf sb))):=hB;have HSs:Hid (SortedIn lt m b d):=hs;have hg:=h0.lt;clear h0 hL hs;have hma:(m:Int)-(a:Int)=1:=X9;have H1:Hid (m=a+1):=h1;clear h1
 go_enter func321,ntmps321
 go_wp2
 go_loopw [8,9] (λvi vj wr=>∃(i j:Nat),vi=YM YN i/\vj=YM YN j/\m<=i/\i<=j/\j<=b/\(i=m\/lt d[i-1]! d[a]! = YJ)/\(j=b\/lt d[j]! d[a]! = YK)/\SU enc k g T cs (W.alloc (rZ f lb sf sb)) d wr) (λvi vj _=>(intOf vj).toNat-(intOf vi).toNat)
 case atStart=>exact⟨m,b,rfl,rfl,X9,X9,X9,.inl rfl,.inl rfl,hB.self⟩
 case round=>
  obtain⟨i,j,rfl,rfl,hi,yN,hj,Ax,GN,hS⟩:=hrel;have c0:wr.cell? ⟨W.heap.size,0,YI⟩=YH (.func (.func f) #[] lb):=by rw[hS.Ah Ye X9];simp
  have c1:wr.cell? ⟨W.heap.size,1,YI⟩=YH (.func (.func sf) #[] sb):=by rw[hS.Ah Ye X9];simp
  have HS:Hid (SU enc k g T cs (W.alloc (rZ f lb sf sb)) d wr):=hS;have HC1:Hid (i=m\/lt d[i-1]! d[a]! = YJ):=Ax;have HC2:Hid (j=b\/lt d[j]! d[a]! = YK):=GN;clear hS hB Ax GN
  by_cases bU:i<j
  ·have hl:=tE d wr HS.out hd ((i+j) / 2) a X9 X9
   rw[show(((i+j) / 2:Nat):Int)=((i:Int)+(j:Int)) / 2 by omega]at hl
   clear tE
   cases sM:lt d[(i+j) / 2]! d[a]! with
   |true=>
    rw[sM]at hl
    go_wp2_with (go_at_fn f;refine hl.mono ?_;rintro e w' ⟨rfl,hS,c0',c1',_⟩)
    refine⟨?_,by simp[intOf];omega⟩
    exact⟨(i+j) / 2+1,j,by rfl,rfl,X9,X9,X9,.inr Yg,HC2.out,hS⟩
   |false=>
    rw[sM]at hl
    go_wp2_with (go_at_fn f;refine hl.mono ?_;rintro e w' ⟨rfl,hS,c0',c1',_⟩)
    refine⟨?_,by simp[intOf];omega⟩
    exact⟨i,(i+j) / 2,rfl,by rfl,X9,X9,X9,HC1.out,.inr sM,hS⟩
  ·have Zb2:i=j:=X9
   subst Zb2
   go_wp2
   go_loopw [11] (λvq wr2=>∃q:Nat,vq=YM YN ((a:Int)+(q:Int))/\a+q+1<=i/\SU enc k g T cs (W.alloc (rZ f lb sf sb)) (Tc d a q) wr2) (λvq _=>i-(intOf vq).toNat)
   case atStart=>exact⟨0,by rfl,X9,HS.out⟩
   case round=>
    obtain⟨q,rfl,hq,Ib⟩:=hrel;have c0:wr.cell? ⟨W.heap.size,0,YI⟩=YH (.func (.func f) #[] lb):=by rw[Ib.Ah Ye X9];simp
    have c1:wr.cell? ⟨W.heap.size,1,YI⟩=YH (.func (.func sf) #[] sb):=by rw[Ib.Ah Ye X9];simp
    have JX:Hid (SU enc k g T cs (W.alloc (rZ f lb sf sb)) (Tc d a q) wr):=Ib;clear Ib
    by_cases hqi:a+q+1<i
    ·have hs:=pq wr (Tc d a q) JX.out.hold YD (a+q) (a+q+1) X9 X9
     rw[We,We,show((a+q+1:Nat):Int)=(a:Int)+(q:Int)+1 by omega,show((a+q:Nat):Int)=(a:Int)+(q:Int)by omega]at hs
     have Im:(a:Int)+(q:Int)<(i:Int)-1:=X9
     go_wp2
     exact⟨⟨q+1,by rfl,X9,JX.out.swap hk YD YD⟩,by simp[intOf];omega⟩
    ·have ZfY:¬(a:Int)+(q:Int)<(i:Int)-1:=X9
     go_wp2
     (try simp only[Exit.inBlock,Exit.then])
     refine bodyPost_ret (results_none rfl _ _ _) rfl ?_;refine⟨rfl,Tc d a q,HB.out.trans JX.out,Jz d q X9 X9,?_⟩;obtain rfl:=H1.out;exact RN hO HSs.out X9 hj HC1.out HC2.out (λk=>by rw[show i=a+1+q by omega];exact Nd d q X9 k)
theorem ZcO{lt:α->α->Bool}(hO:SWO lt)(eg:∀args w,(callFunc f args).run prog w=.ok (.enter f args) w){d:Array α}(hd:d.size=n)(h0:SU enc k g T cs W d W)(hL:sQ f lb enc k lt g T cs n W)(a m b:Nat)(h1:b=m+1)(h2:a+1<m)(hb:b<=n)(hs:SortedIn lt a m d):
 Calls prog 321 #[LS f lb sf sb,YM YN a,YM YN m,YM YN b] W λe w'=>e=.returned (.tuple #[])/\∃e,SU enc k g T cs W e w'/\PermIn a b d e/\SortedIn lt a b e:=by
 have hB:SU enc k g T cs W d (W.alloc (rZ f lb sf sb)):=h0.more (Up.al _ (Up.rfl' W));have tE:=λdj wr hS wV i j hi hj=>AX (dj:=dj) (wr:=wr) f lb sf sb n hL h0 hS wV pq i j hi hj
 have HB:Hid (SU enc k g T cs W d (W.alloc (rZ f lb sf sb))):=hB;have HSs:Hid (SortedIn lt a m d):=hs;have hg:=h0.lt;clear h0 hL hs;have hna:((m:Int)-(a:Int)==1)=false:=by grind
 have hmb:(b:Int)-(m:Int)=1:=X9;have H1:Hid (b=m+1):=h1;have Zht:m<b:=X9;clear h1
 go_enter func321,ntmps321
 go_wp2
 clear hna hmb
 go_loopw [12,13] (λvi vj wr=>∃(i j:Nat),vi=YM YN i/\vj=YM YN j/\a<=i/\i<=j/\j<=m/\(i=a\/lt d[m]! d[i-1]! = YK)/\(j=m\/lt d[m]! d[j]! = YJ)/\SU enc k g T cs (W.alloc (rZ f lb sf sb)) d wr) (λvi vj _=>(intOf vj).toNat-(intOf vi).toNat)
 case atStart=>exact⟨a,m,rfl,rfl,X9,X9,X9,.inl rfl,.inl rfl,hB.self⟩
 case round=>
  obtain⟨i,j,rfl,rfl,hi,yN,hj,Ax,GN,hS⟩:=hrel;have c0:wr.cell? ⟨W.heap.size,0,YI⟩=YH (.func (.func f) #[] lb):=by rw[hS.Ah Ye X9];simp
  have c1:wr.cell? ⟨W.heap.size,1,YI⟩=YH (.func (.func sf) #[] sb):=by rw[hS.Ah Ye X9];simp
  have HS:Hid (SU enc k g T cs (W.alloc (rZ f lb sf sb)) d wr):=hS;have HC1:Hid (i=a\/lt d[m]! d[i-1]! = YK):=Ax;have HC2:Hid (j=m\/lt d[m]! d[j]! = YJ):=GN;clear hS hB Ax GN
  by_cases bU:i<j
  ·have hl:=tE d wr HS.out hd m ((i+j) / 2) X9 X9
   rw[show(((i+j) / 2:Nat):Int)=((i:Int)+(j:Int)) / 2 by omega]at hl
   clear tE
   cases sM:lt d[m]! d[(i+j) / 2]! with
   |true=>
    rw[sM]at hl
    go_wp2_with (go_at_fn f;refine hl.mono ?_;rintro e w' ⟨rfl,hS,c0',c1',_⟩)
    refine⟨?_,by simp[intOf];omega⟩
    exact⟨i,(i+j) / 2,rfl,by rfl,X9,X9,X9,HC1.out,.inr sM,hS⟩
   |false=>
    rw[sM]at hl
    go_wp2_with (go_at_fn f;refine hl.mono ?_;rintro e w' ⟨rfl,hS,c0',c1',_⟩)
    refine⟨?_,by simp[intOf];omega⟩
    exact⟨(i+j) / 2+1,j,by rfl,rfl,X9,X9,X9,.inr Yg,HC2.out,hS⟩
  ·have Zb2:i=j:=X9
   subst Zb2
   go_wp2
   go_loopw [15] (λvq wr2=>∃q:Nat,vq=YM YN ((m:Int)-(q:Int))/\q+i<=m/\SU enc k g T cs (W.alloc (rZ f lb sf sb)) (Tb d m q) wr2) (λvq _=>(intOf vq).toNat)
   case atStart=>exact⟨0,by rfl,X9,HS.out⟩
   case round=>
    obtain⟨q,rfl,hq,Ib⟩:=hrel;have c0:wr.cell? ⟨W.heap.size,0,YI⟩=YH (.func (.func f) #[] lb):=by rw[Ib.Ah Ye X9];simp
    have c1:wr.cell? ⟨W.heap.size,1,YI⟩=YH (.func (.func sf) #[] sb):=by rw[Ib.Ah Ye X9];simp
    have JX:Hid (SU enc k g T cs (W.alloc (rZ f lb sf sb)) (Tb d m q) wr):=Ib;clear Ib
    by_cases hqi:q+i<m
    ·have hs:=pq wr (Tb d m q) JX.out.hold YE (m-q) (m-q-1) X9 X9
     rw[We,We,show((m-q-1:Nat):Int)=(m:Int)-(q:Int)-1 by omega,show((m-q:Nat):Int)=(m:Int)-(q:Int)by omega]at hs
     have Im:(i:Int)<(m:Int)-(q:Int):=X9
     go_wp2
     exact⟨⟨q+1,by grind,X9,JX.out.swap hk YE YE⟩,by simp[intOf];omega⟩
    ·have ZfY:¬(i:Int)<(m:Int)-(q:Int):=X9
     go_wp2
     (try simp only[Exit.inBlock,Exit.then])
     refine bodyPost_ret (results_none rfl _ _ _) rfl ?_;obtain rfl:=H1.out;refine⟨rfl,Tb d m q,HB.out.trans JX.out,Jy d q X9 X9,?_⟩;exact Ou hO HSs.out hi hj HC1.out HC2.out (λk=>by rw[show i=m-q by omega];exact Nc d q X9 X9 k)
end
end Go.Proofs.YtdilaemengjipaaGreatDoor
namespace Go.Proofs.YtdilaemengjipaaGreatDoor
set_option maxRecDepth 10000
open Go.RowKit
class uR{α β:Type}[eQ β](c:α->List PV)(g:α->β):Prop where
 len:∀x,(c x).length=eQ.k β
 aP:∀x (j:Nat) (p:PV),(c x)[j]?=YH p->∃u,(eQ.cells (g x))[j]?=YH u/\p=.v u
theorem M5{α β:Type}[eQ β]{c:α->List PV}(g:α->β)[hf:uR c g]{w:World}{S:Nat->Prop}{xs:List α}{x:Value}(wu:∀b,S b->b<w.heap.size)(h:fg w S (.sl (xs.map c)) x):
 ∃A n,x=.slice A xs.length n/\xs.length<=n/\(xs≠[]->n<=maxLen)/\Rd w w.heap.size A (xs.map g):=by
 generalize hq:PV.sl (xs.map c)=q at h
 cases h with
 |v x h=>cases hq
 |ud=>cases hq
 |un=>cases hq
 |rp=>cases hq
 |fn=>cases hq
 |nil A n=>
  have:xs=[]:=by simpa using hq
  exact⟨A,n,by rw[this];rfl,by rw[this];simp,λh=>absurd this h,by rw[this];exact Rd.Vs⟩
 |sl es b off k n u hS hkp va hm xT AS h1 hrr=>
  obtain rfl:xs.map c=es:=by simpa using hq
  refine⟨_,n,by simp,by simpa using va,λ_=>hm,λiq=>⟨b,off,rfl,wu b hS,λt u' It=>?_⟩⟩
  have Zeb:xs≠[]:=λe=>iq (by rw[e];rfl)
  have gH:0<xs.length:=List.length_pos_iff.2 Zeb;have UM:k=eQ.k β:=((xT 0 (c xs[0]) (by simp[gH])).symm).trans (hf.len _)
  subst UM;have Zd4:0<eQ.k β:=hkp;have ht:=(List.getElem?_eq_some_iff.1 It).1;rw[rz,List.length_map]at ht
  have hi:t / eQ.k β<xs.length:=by rw[Nat.div_lt_iff_lt_mul Zd4];exact ht
  have hj:=Nat.mod_lt t Zd4;have e0:t / eQ.k β*eQ.k β+t % eQ.k β=t:=by rw[Nat.mul_comm];exact Nat.div_add_mod t _
  have e1:(xs.map c)[t / eQ.k β]?=YH (c xs[t / eQ.k β]):=by simp[hi]
  have e2:(c xs[t / eQ.k β])[t % eQ.k β]?=YH ((c xs[t / eQ.k β])[t % eQ.k β]'(by rw[hf.len];exact hj)):=List.getElem?_eq_getElem _
  obtain⟨v,hv,hp⟩:=hf.aP _ _ _ e2;have Og:=ug (xs:=xs.map g) (i:=t / eQ.k β) (x:=g xs[t / eQ.k β]) (by simp[hi]) hv
  rw[e0,It]at Og
  obtain rfl:=Option.some.inj Og;have hc:=AS _ _ _ _ e1 e2;have hz:=hrr _ _ _ _ e1 e2;rw[hp]at hz
  have uM:u (t / eQ.k β) (t % eQ.k β)=u':=by
   generalize u (t / eQ.k β) (t % eQ.k β)=z at hz
   cases hz with
   |v _ _=>rfl
  rw[uM]at hc
  rw[<-e0,<-Nat.add_assoc];exact hc
theorem Zdh{vs:Array Value}{x0 x1 x2:Value}(h:vs.size=3)(h0:vs[0]?=YH x0)(h1:vs[1]?=YH x1)(h2:vs[2]?=YH x2):vs=#[x0,x1,x2]:=by
 apply Array.ext (by simp[h])
 intro i hi h3;have a0:=(Wh.1 h0).2;have a1:=(Wh.1 h1).2;have a2:=(Wh.1 h2).2
 match i,hi with
 |0,_=>simpa using a0
 |1,_=>simpa using a1
 |2,_=>simpa using a2
 |i+3,hi=>omega
theorem LG{w:World}{E:Env}{a x:Value}(h:dE w E (.v a) x):x=a:=h.gW.1
instance :uR aE (id:Int->Int):=⟨λx=>rfl,λx j p h=>by
 cases j with
 |zero=>obtain rfl:vi x=p:=by simpa using h
        exact⟨_,rfl,rfl⟩
 |succ j=>simp[aE]at h⟩
def dg(u:Nat):List UInt8:=if h:u=0 then []else dg (u / 10)++[WY (48+u % 10)]
termination_by u
decreasing_by omega
theorem Fu:dg 0=[]:=by rw[dg,dif_pos rfl]
theorem Kr{u:Nat}(h:0<u):dg u=dg (u / 10)++[WY (48+u % 10)]:=by rw[dg,dif_neg X9]
theorem Kq:∀(k u:Nat),u<=k->0<u->dg u=Lib.decDigits u
 |0,u,h,h0=>X9
 |k+1,u,h,h0=>by
  rw[Kr h0,Lib.decDigits]
  by_cases wm:u<10
  ·rw[dif_pos wm,show u / 10=0 by omega,Fu,show u % 10=u by omega];rfl
  ·rw[dif_neg wm,Kq k (u / 10) X9 X9]
def j4(l:List UInt8):ByteArray:=⟨l.toArray⟩
theorem De(c:Nat)(l:List UInt8):strOfNums [(c:Int)]++j4 l=j4 (WY c::l):=by
 apply Xk;rw[XP];simp[strOfNums,j4]
theorem dw(l:List UInt8):(j4 l).size=l.length:=by simp[j4,W4]
theorem ZbG(u:Nat)(h:u<=9223372036854775808):(dg u).length<=21:=by
 rcases Nat.eq_zero_or_pos u with rfl|h0
 ·rw[Fu];simp
 ·rw[Kq u u (VX _) h0]
  have:=Lib.itoa_length_le (-(u:Int)) X9 X9;unfold Lib.itoa at this
  rw[if_pos X9,show(-(u:Int)).natAbs=u by omega]at this
  simp at this
  omega
theorem B4(n:Int)(h0:-9223372036854775808<=n)(h1:n<=9223372036854775807)(w:World):
 Calls prog 118 #[YM YN n] w λe w'=>e=.returned (.string (j4 (Lib.itoa n)))/\Up w w':=by
 by_cases hn0:n=0
 ·subst hn0
  go_enter func118,ntmps118
  go_wp2
  go_ret
  refine⟨?_,by(repeat(first|exact Up.rfl' _|(refine Up.al _ ?_) |(refine Up.dr _ ?_) |(refine Up.uO ?_) |(refine Up.sc ?_ Yh _) |(refine Up.step Yp ?_)))⟩
  congr 1
  unfold Lib.itoa;rw[if_neg X9,Lib.decDigits,dif_pos (by decide)]
  rfl
 ·have rV:∀l:List UInt8,dg n.natAbs=l->(if n<0 then 45::l else l)=Lib.itoa n:=by
   rintro l rfl;rw[Kq _ _ (VX _) X9];unfold Lib.itoa
   split
   ·rfl
   ·rw[show n.natAbs=n.toNat by omega]
  have hlen:=ZbG n.natAbs X9
  go_enter func118,ntmps118
  go_wp2
  go_loopw [3,4] (λss xx wr=>∃(m:Int) (l:List UInt8),xx=YM YN m/\ss=.string (j4 l)/\dg m.natAbs++l=dg n.natAbs/\-9223372036854775808<=m/\m<=9223372036854775807/\Up w wr) (λ_ xx _=>(intOf xx).natAbs)
  case atStart=>exact⟨n,[],rfl,rfl,by simp,h0,h1,by(repeat(first|exact Up.rfl' _|(refine Up.al _ ?_) |(refine Up.dr _ ?_) |(refine Up.uO ?_) |(refine Up.sc ?_ Yh _) |(refine Up.step Yp ?_)))⟩
  case round=>
   obtain⟨m,l,rfl,rfl,hd,hm0,Io,hb⟩:=hrel;have hl:l.length<=21:=by
    have:=congrArg List.length hd;rw[List.length_append]at this
    omega
   by_cases hz:m=0
   ·subst hz
    have wV:l=dg n.natAbs:=by simpa[Fu]using hd
    have hs:(j4 l).size<=30:=by rw[dw];omega
    have hf:=rV l wV.symm;clear rV;have h45:(⟨#[45]⟩:ByteArray).size=1:=rfl;have HF:=Lib.hid hf;clear hf hd wV
    go_wp2
    all_goals(try(exfalso;omega))
    all_goals(go_ret;refine⟨?_,by(repeat(first|exact Up.rfl' _|(refine Up.al _ ?_) |(refine Up.dr _ ?_) |(refine Up.uO ?_) |(refine Up.sc ?_ Yh _) |(refine Up.step Yp ?_)))⟩;have hf:=HF.out;first|(rw[if_pos X9]at hf;rw[<-hf];rfl) |(rw[if_neg X9]at hf;exact congrArg (λl=>Ending.returned (.string (j4 l))) hf))
   ·have hs:(j4 l).size<=30:=by rw[dw];omega
    have hu8:∀c:Nat,c<10->WY (48+c)=WY (48+c):=λ_ _=>rfl
    by_cases Zhv:m<0
    ·obtain⟨u,rfl⟩:∃u:Nat,m=-(u:Int):=⟨m.natAbs,X9⟩
     have hu:0<u:=X9;rw[show(-(u:Int)).natAbs=u by omega,Kr hu]at hd
     have zj:=λz:Int=>run_convert_bytes_arg (P:=prog) (wr.alloc (.cells #[.int .u8 z] 5)) 22 5 Tryz.underlying22 Tryz.underlying5 wr.heap.size 0 1 1 [z] rfl (λi hi=>(by obtain rfl:i=0:=X9;simp[go_sem])) 9 Tryz.underlying9
     have Zhl:=zj (48+(u:Int) % 10);have Zhm:=zj (48 + -((u:Int) % 10));clear zj;have wu:(strOfNums [48+(u:Int) % 10]).size=1:=by simp[strOfNums,W4]
     have ZhA:(strOfNums [48 + -((u:Int) % 10)]).size=1:=by simp[strOfNums,W4]
     go_wp2
     all_goals(try(exfalso;omega))
     ·refine⟨⟨-((u / 10:Nat):Int),WY (48+u % 10)::l,by congr 1,?_,?_,X9,X9,by(repeat(first|exact Up.rfl' _|(refine Up.al _ ?_) |(refine Up.dr _ ?_) |(refine Up.uO ?_) |(refine Up.sc ?_ Yh _) |(refine Up.step Yp ?_)))⟩,by simp[intOf];omega⟩
      ·rw[show(48+(u:Int) % 10)=((48+u % 10:Nat):Int)by omega,De]
      ·rw[show(-((u / 10:Nat):Int)).natAbs=u / 10 by omega,<-hd];simp
     ·refine⟨⟨-((u / 10:Nat):Int),WY (48+u % 10)::l,by congr 1,?_,?_,X9,X9,by(repeat(first|exact Up.rfl' _|(refine Up.al _ ?_) |(refine Up.dr _ ?_) |(refine Up.uO ?_) |(refine Up.sc ?_ Yh _) |(refine Up.step Yp ?_)))⟩,by simp[intOf];omega⟩
      ·rw[show(48 + -((u:Int) % 10))=((48+u % 10:Nat):Int)by omega,De]
      ·rw[show(-((u / 10:Nat):Int)).natAbs=u / 10 by omega,<-hd];simp
    ·obtain⟨u,rfl⟩:∃u:Nat,m=(u:Int):=⟨m.toNat,X9⟩
     have hu:0<u:=X9;rw[show((u:Int)).natAbs=u by omega,Kr hu]at hd
     have zj:=run_convert_bytes_arg (P:=prog) (wr.alloc (.cells #[.int .u8 (48+(u:Int) % 10)] 5)) 22 5 Tryz.underlying22 Tryz.underlying5 wr.heap.size 0 1 1 [48+(u:Int) % 10] rfl (λi hi=>(by obtain rfl:i=0:=X9;simp[go_sem])) 9 Tryz.underlying9
     have wu:(strOfNums [48+(u:Int) % 10]).size=1:=by simp[strOfNums,W4]
     go_wp2
     refine⟨⟨((u / 10:Nat):Int),WY (48+u % 10)::l,by congr 1,?_,?_,X9,X9,by(repeat(first|exact Up.rfl' _|(refine Up.al _ ?_) |(refine Up.dr _ ?_) |(refine Up.uO ?_) |(refine Up.sc ?_ Yh _) |(refine Up.step Yp ?_)))⟩,by simp[intOf];omega⟩
     ·rw[show(48+(u:Int) % 10)=((48+u % 10:Nat):Int)by omega,De]
     ·rw[show(((u / 10:Nat):Int)).natAbs=u / 10 by omega,<-hd];simp
end Go.Proofs.YtdilaemengjipaaGreatDoor
