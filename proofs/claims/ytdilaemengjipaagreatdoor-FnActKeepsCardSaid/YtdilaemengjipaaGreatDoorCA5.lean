/- A part of the proof of the statement in the last file of this claim: texts on the language of the program and on its functions. No condition. -/
import Derived.Test.YtdilaemengjipaaGreatDoorCA4
import Derived.Test.YtdilaemengjipaaGreatDoorCA1
set_option linter.unusedVariables false
set_option linter.unusedSimpArgs false
set_option linter.unusedSectionVars false
open Option renaming some->YH,none->YI
open Bool renaming true->YJ,false->YK
open Decidable renaming decide->YL
open Go.Proofs.Tryz
set_option maxHeartbeats 40000000
namespace Go.Proofs.YtdilaemengjipaaGreatDoor
set_option maxRecDepth 10000
open Go.RowKit
def oQ(l:List aq)(t:av)(s0:Int×Int):Option ((Int×Int)⊕Int):=
 cond (YL (s0.2<(l.length:Int)))
 ((aB l s0.2).bind λy1=>
 cond (YL (y1.bj=t))
 (YH (.inl ((aI (s0.1+y1.ab)),(aI (s0.2+1)))))
 (YH (.inl (s0.1,(aI (s0.2+1))))))
 (YH (.inr s0.1))
instance (l:List aq)(t:av):bo (oQ l t):=⟨λs0=>(U 3 (.be 0 0 0::.un::vi s0.1::.un::.un::.sl (l.map aC)::vi (l.length:Int)::vi s0.2::(U 13 []))),λs0=>[YH ⟨.of 46,2,[[vi t.bD,vi t.day]]⟩]⟩
def jY(l:List aq)(t:av):Option Int:=
 (aD (oQ l t) NN (0,0)).bind (λo0=>
 YH o0)
instance (l:List aq)(t:av):CT prog (jY l t):=⟨152,[.sl (l.map aC),.ag (aW t)],[],λr=>vi r,λr=>[],cw (jY.eq_1 ..) func152 ntmps152 results152⟩
def pX(n:aj)(s0:Int×(List ByteArray))(y2:bK)(s1:Int):Option (Int⊕Int):=
 cond (YL (s1<(s0.2.length:Int)))
 ((aB s0.2 s1).bind λy3=>
 cond (qM y3 y2.a8)
 (YH (.inl (aI (s1+1))))
 (YH (.inr s1)))
 (YH (.inr s1))
instance (n:aj)(s0:Int×(List ByteArray))(y2:bK):bo (pX n s0 y2):=⟨λs1=>(.un::.be 0 0 0::.un::.ms 1::vi s0.1::vs y2.a8::vi s1::(U 65 [])),λs1=>[YH ⟨.of 27,3,[[.sl (n.aA.map bn),.sl (n.off.map aE),vi n.change]]⟩,YH ⟨.of 9,1,s0.2.map jK⟩]⟩
def pY(n:aj)(s0:Int×(List ByteArray))(y1:bK)(s2:Int):Option (Int⊕Int):=
 cond (YL (s2<(s0.2.length:Int)))
 ((aB s0.2 s2).bind λy5=>
 cond (qM y5 y1.au)
 (YH (.inl (aI (s2+1))))
 (YH (.inr s2)))
 (YH (.inr s2))
instance (n:aj)(s0:Int×(List ByteArray))(y1:bK):bo (pY n s0 y1):=⟨λs2=>(.un::.be 0 0 0::.un::.ms 1::vi s0.1::vs y1.au::vi s2::(U 65 [])),λs2=>[YH ⟨.of 27,3,[[.sl (n.aA.map bn),.sl (n.off.map aE),vi n.change]]⟩,YH ⟨.of 9,1,s0.2.map jK⟩]⟩
def iP(n:aj)(s0:Int×(List ByteArray)):Option ((Int×(List ByteArray))⊕(List ByteArray)):=
 cond (YL (s0.1<(aI (2*(n.aA.length:Int)))))
 ((aB n.aA (IntKind.i64.wrap (Int.tdiv s0.1 2))).bind λy1=>
 cond (YL ((Int.tmod s0.1 2)=1))
 ((aB n.aA (IntKind.i64.wrap (Int.tdiv s0.1 2))).bind λy2=>
 (aD (pX n s0 y2) NN 0).bind (λo1=>
 cond (YL (o1=(s0.2.length:Int)))
 ((bW (gg 0 o1 s0.2.length)).bind λ_=>
 (bW (bm ((([]:List ByteArray):List ByteArray).length+((cH s0.2 0 o1):List ByteArray).length) 16)).bind λ_=>
 (bW (bm ((((([]:List ByteArray):List ByteArray)++(cH s0.2 0 o1)):List ByteArray).length+([y2.a8]:List ByteArray).length) 16)).bind λ_=>
 (bW (gg o1 (s0.2.length:Int) s0.2.length)).bind λ_=>
 (bW (bm ((((((([]:List ByteArray):List ByteArray)++(cH s0.2 0 o1)):List ByteArray)++[y2.a8]):List ByteArray).length+((cH s0.2 o1 (s0.2.length:Int)):List ByteArray).length) 16)).bind λ_=>
 YH (.inl ((aI (s0.1+1)),((((((([]:List ByteArray):List ByteArray)++(cH s0.2 0 o1)):List ByteArray)++[y2.a8]):List ByteArray)++(cH s0.2 o1 (s0.2.length:Int))))))
 ((aB s0.2 o1).bind λy4=>
 cond (!decide (y4=y2.a8))
 ((bW (gg 0 o1 s0.2.length)).bind λ_=>
 (bW (bm ((([]:List ByteArray):List ByteArray).length+((cH s0.2 0 o1):List ByteArray).length) 16)).bind λ_=>
 (bW (bm ((((([]:List ByteArray):List ByteArray)++(cH s0.2 0 o1)):List ByteArray).length+([y2.a8]:List ByteArray).length) 16)).bind λ_=>
 (bW (gg o1 (s0.2.length:Int) s0.2.length)).bind λ_=>
 (bW (bm ((((((([]:List ByteArray):List ByteArray)++(cH s0.2 0 o1)):List ByteArray)++[y2.a8]):List ByteArray).length+((cH s0.2 o1 (s0.2.length:Int)):List ByteArray).length) 16)).bind λ_=>
 YH (.inl ((aI (s0.1+1)),((((((([]:List ByteArray):List ByteArray)++(cH s0.2 0 o1)):List ByteArray)++[y2.a8]):List ByteArray)++(cH s0.2 o1 (s0.2.length:Int))))))
 (YH (.inl ((aI (s0.1+1)),s0.2))))))
 ((aD (pY n s0 y1) NN 0).bind (λo2=>
 cond (YL (o2=(s0.2.length:Int)))
 ((bW (gg 0 o2 s0.2.length)).bind λ_=>
 (bW (bm ((([]:List ByteArray):List ByteArray).length+((cH s0.2 0 o2):List ByteArray).length) 16)).bind λ_=>
 (bW (bm ((((([]:List ByteArray):List ByteArray)++(cH s0.2 0 o2)):List ByteArray).length+([y1.au]:List ByteArray).length) 16)).bind λ_=>
 (bW (gg o2 (s0.2.length:Int) s0.2.length)).bind λ_=>
 (bW (bm ((((((([]:List ByteArray):List ByteArray)++(cH s0.2 0 o2)):List ByteArray)++[y1.au]):List ByteArray).length+((cH s0.2 o2 (s0.2.length:Int)):List ByteArray).length) 16)).bind λ_=>
 YH (.inl ((aI (s0.1+1)),((((((([]:List ByteArray):List ByteArray)++(cH s0.2 0 o2)):List ByteArray)++[y1.au]):List ByteArray)++(cH s0.2 o2 (s0.2.length:Int))))))
 ((aB s0.2 o2).bind λy6=>
 cond (!decide (y6=y1.au))
 ((bW (gg 0 o2 s0.2.length)).bind λ_=>
 (bW (bm ((([]:List ByteArray):List ByteArray).length+((cH s0.2 0 o2):List ByteArray).length) 16)).bind λ_=>
 (bW (bm ((((([]:List ByteArray):List ByteArray)++(cH s0.2 0 o2)):List ByteArray).length+([y1.au]:List ByteArray).length) 16)).bind λ_=>
 (bW (gg o2 (s0.2.length:Int) s0.2.length)).bind λ_=>
 (bW (bm ((((((([]:List ByteArray):List ByteArray)++(cH s0.2 0 o2)):List ByteArray)++[y1.au]):List ByteArray).length+((cH s0.2 o2 (s0.2.length:Int)):List ByteArray).length) 16)).bind λ_=>
 YH (.inl ((aI (s0.1+1)),((((((([]:List ByteArray):List ByteArray)++(cH s0.2 0 o2)):List ByteArray)++[y1.au]):List ByteArray)++(cH s0.2 o2 (s0.2.length:Int))))))
 (YH (.inl ((aI (s0.1+1)),s0.2)))))))
 (YH (.inr s0.2))
instance (n:aj):bo (iP n):=⟨λs0=>(.un::.be 0 0 0::.un::.ms 1::vi s0.1::(U 67 [])),λs0=>[YH ⟨.of 27,3,[[.sl (n.aA.map bn),.sl (n.off.map aE),vi n.change]]⟩,YH ⟨.of 9,1,s0.2.map jK⟩]⟩
def cW(n:aj):Option (List ByteArray):=
 (aD (iP n) NN (0,([]:List ByteArray))).bind (λo0=>
 YH o0)
instance (n:aj):CT prog (cW n):=⟨182,[.ag (bA n)],[],λr=>.ms 0,λr=>[YH ⟨.of 9,1,r.map jK⟩],cw (cW.eq_1 ..) func182 ntmps182 results182⟩
def jd(w:ax)(id:Int)(t:av)(s0:Int):Option (Int⊕(Unit⊕Bool)):=
 cond (YL (s0<(w.ar.length:Int)))
 ((aB w.ar s0).bind λy1=>
 cond (YL (y1.bw=id))
 (cond (YL (y1.bj=t))
 ((aB w.ae (aI (id-1))).bind λy2=>
 YH (.inr (.inr (YL (y1.ab=y2.ab)))))
 (YH (.inl (aI (s0+1)))))
 (YH (.inl (aI (s0+1)))))
 (YH (.inr (.inl ())))
instance (w:ax)(id:Int)(t:av):bo (jd w id t):=⟨λs0=>(.un::vi id::.un::.be 0 0 0::.un::.be 1 0 0::(U 4 (.sl (w.ar.map aC)::vi (w.ar.length:Int)::vi s0::(U 24 [])))),λs0=>[YH ⟨.of 33,10,[[.sl (w.aa.aA.map bn),.sl (w.aa.off.map aE),vi w.aa.change,.sl (w.ae.map ba),.sl (w.ar.map aC),.sl (w.ah.map aW),vi w.now,.sl (w.aH.map bt),.sl (w.skip.map aE),vi w.bd]]⟩,YH ⟨.of 46,2,[[vi t.bD,vi t.day]]⟩]⟩
def lF(w:ax)(id:Int)(t:av):Option Bool:=
 (aD (jd w id t) NN 0).bind (bk (λo0=>
 YH YK) (λr=>YH r))
instance (w:ax)(id:Int)(t:av):CT prog (lF w id t):=⟨157,[.ag (fY w),vi id,.ag (aW t)],[],λr=>vb r,λr=>[],cw (lF.eq_1 ..) func157 ntmps157 results157⟩
end Go.Proofs.YtdilaemengjipaaGreatDoor
