/- A part of the proof of the statement in the last file of this claim: texts on the language of the program and on its functions. No condition. -/
import Derived.Test.YtdilaemengjipaaGreatDoorCJ4
import Derived.Test.YtdilaemengjipaaGreatDoorCJ7
import Derived.Test.YtdilaemengjipaaGreatDoorCJ5
import Derived.Test.YtdilaemengjipaaGreatDoorCJ10
import Derived.Test.YtdilaemengjipaaGreatDoorCJ8
import Derived.Test.YtdilaemengjipaaGreatDoorCJ6
import Derived.Test.YtdilaemengjipaaGreatDoorCJ1
set_option linter.unusedVariables false
set_option linter.unusedSimpArgs false
set_option linter.unusedSectionVars false
open Option renaming some->YW,none->YX
open Bool renaming true->YY,false->YZ
open Decidable renaming decide->Y0
open Go.Proofs.Tryz
set_option maxHeartbeats 40000000
namespace Go.Proofs.YtdilaemengjipaaGreatDoor
set_option maxRecDepth 10000
open Go.RowKit
def dA(n:ah)(aK:List av)(aY:ByteArray)(s0:ByteArray×Int×Int):Option ((ByteArray×Int×Int)⊕(ByteArray⊕Bool)):=
 cond (Y0 (s0.2.2<(aK.length:Int)))
 ((aB aK s0.2.2).bind λy5=>
 (dN n y5).bind λy6=>
 cond (!y6)
 (YW (.inr (.inr YZ)))
 ((aB aK s0.2.2).bind λy7=>
 (aB n.aA y7.bH).bind λy8=>
 cond (!decide (y8.ar=s0.1))
 (YW (.inr (.inr YZ)))
 ((aB aK s0.2.2).bind λy9=>
 (bt n y9).bind λeh=>
 cond (Y0 (eh<s0.2.1))
 (YW (.inr (.inr YZ)))
 ((aB aK s0.2.2).bind λlr=>
 (aB n.aA lr.bH).bind λoV=>
 (aB aK s0.2.2).bind λoD=>
 (bm n oD).bind λnF=>
 YW (.inl (oV.aY,(aM (nF+n.change)),(aM (s0.2.2+1))))))))
 (YW (.inr (.inl s0.1)))
instance (n:ah)(aK:List av)(aY:ByteArray):bp (dA n aK aY):=⟨λs0=>(.un::.sl (aK.map aU)::.un::vs aY::.un::.be 0 0 0::(U 6 (vs s0.1::vi s0.2.1::vi s0.2.2::(U 78 [])))),λs0=>[YW ⟨.of 27,3,[[.sl (n.aA.map bo),.sl (n.off.map aG),vi n.change]]⟩]⟩
def eW(n:ah)(aK:List av)(cV:ByteArray)(aY:ByteArray)(lj:Int):Option Bool:=
 (dh n).bind λy1=>
 (aW n).bind λy2=>
 cond (!y2)
 (YW YZ)
 ((cb y1 cV).bind λy3=>
 cond (Y0 (y3<0))
 (YW YZ)
 ((cb y1 aY).bind λy4=>
 cond (Y0 (y4<0))
 (YW YZ)
 ((aE (dA n aK aY) NN (cV,lj,0)).bind (bh (λo0=>
 YW (Y0 (o0=aY))) (λr=>YW r)))))
instance (n:ah)(aK:List av)(cV:ByteArray)(aY:ByteArray)(lj:Int):CT prog (eW n aK cV aY lj):=⟨284,[.ag (bB n),.sl (aK.map aU),vs cV,vs aY,vi lj],[],λr=>vb r,λr=>[],cw (eW.eq_1 ..) func284 ntmps284 results284⟩
def cH(n:ah)(s:br):Option Bool:=
 (aW n).bind λy1=>
 cond (!y1)
 (YW YZ)
 ((bb s.bz 1 9999).bind λy2=>
 cond (!y2)
 (YW YZ)
 ((bb s.aQ 0 100000).bind λy3=>
 cond (!y3)
 (YW YZ)
 (cond (Y0 (s.kind=1))
 (cond (Y0 (s.kind=1))
 ((dh n).bind λy4=>
 (cb y4 s.place).bind λy5=>
 cond (Y0 (0<=y5))
 (YW (Y0 (s.bk=(⟨0,0⟩:av))))
 (YW YZ))
 (cond (Y0 (s.kind=3))
 (cond (Y0 (s.place=⟨#[]⟩))
 ((dN n s.bk).bind λy6=>
 cond y6
 ((bt n s.bk).bind λy7=>
 YW (Y0 (s.aQ<=y7)))
 (YW YZ))
 (YW YZ))
 (cond (Y0 (s.kind=2))
 (cond (Y0 (s.place=⟨#[]⟩))
 ((dN n s.bk).bind λy8=>
 cond y8
 ((bm n s.bk).bind λy9=>
 YW (Y0 (y9<=s.aQ)))
 (YW YZ))
 (YW YZ))
 (YW YZ))))
 (cond (Y0 (s.kind=4))
 ((dh n).bind λeh=>
 (cb eh s.place).bind λlr=>
 cond (Y0 (0<=lr))
 (YW (Y0 (s.bk=(⟨0,0⟩:av))))
 (YW YZ))
 (cond (Y0 (s.kind=3))
 (cond (Y0 (s.place=⟨#[]⟩))
 ((dN n s.bk).bind λoV=>
 cond oV
 ((bt n s.bk).bind λoD=>
 YW (Y0 (s.aQ<=oD)))
 (YW YZ))
 (YW YZ))
 (cond (Y0 (s.kind=2))
 (cond (Y0 (s.place=⟨#[]⟩))
 ((dN n s.bk).bind λnF=>
 cond nF
 ((bm n s.bk).bind λpZ=>
 YW (Y0 (pZ<=s.aQ)))
 (YW YZ))
 (YW YZ))
 (YW YZ)))))))
instance (n:ah)(s:br):CT prog (cH n s):=⟨216,[.ag (bB n),.ag (bw s)],[],λr=>vb r,λr=>[],cw (cH.eq_1 ..) func216 ntmps216 results216⟩
def kS(w:ax)(i:Int)(y1:az)(s0:ByteArray×Int):Option ((ByteArray×Int)⊕(ByteArray⊕Bool)):=
 cond (Y0 (s0.2<(y1.aK.length:Int)))
 ((aB y1.aK s0.2).bind λeh=>
 (aB y1.aK s0.2).bind λlr=>
 (cJ w.aa eh.bH lr.day).bind λoV=>
 cond (!oV)
 (YW (.inr (.inr YZ)))
 ((aB y1.aK s0.2).bind λoD=>
 (mV w.au (aM (i+1)) oD y1.ab).bind λnF=>
 cond (!nF)
 (YW (.inr (.inr YZ)))
 ((aB y1.aK s0.2).bind λpZ=>
 (aB w.aa.aA pZ.bH).bind λod=>
 cond (Y0 (od.aY=y1.aY))
 (cond (Y0 ((aM (s0.2+1))<(y1.aK.length:Int)))
 (YW (.inr (.inr YZ)))
 (YW (.inl (od.aY,(aM (s0.2+1))))))
 (YW (.inl (od.aY,(aM (s0.2+1))))))))
 (YW (.inr (.inl s0.1)))
instance (w:ax)(i:Int)(y1:az):bp (kS w i y1):=⟨λs0=>(.un::vi i::.be 0 0 0::.un::.un::.be 1 0 0::.be 2 0 0::.un::vs s0.1::vi s0.2::(U 162 [])),λs0=>[YW ⟨.of 33,10,[[.sl (w.aa.aA.map bo),.sl (w.aa.off.map aG),vi w.aa.change,.sl (w.aj.map aZ),.sl (w.au.map aC),.sl (w.ae.map aU),vi w.now,.sl (w.aN.map bw),.sl (w.skip.map aG),vi w.bg]]⟩,YW ⟨.of 27,3,[[.sl (w.aa.aA.map bo),.sl (w.aa.off.map aG),vi w.aa.change]]⟩,YW ⟨.of 94,11,[[vs y1.ar,vs y1.aY,vi y1.aw,vi y1.ab,vi y1.aQ,vi y1.eJ,.sl (y1.aK.map aU),vi y1.aO,vi y1.state,vs y1.place,vi y1.bQ]]⟩]⟩
def jh(w:ax)(y1:az)(s1:Int):Option (Int⊕(Unit⊕Bool)):=
 cond (Y0 (s1<(y1.aK.length:Int)))
 ((aB y1.aK s1).bind λD5=>
 (dB w.ae D5).bind λHj=>
 cond Hj
 (YW (.inr (.inr YZ)))
 (YW (.inl (aM (s1+1)))))
 (YW (.inr (.inl ())))
instance (w:ax)(y1:az):bp (jh w y1):=⟨λs1=>(.un::.un::.be 0 0 0::(U 3 (.be 1 0 0::(U 3 (vi s1::(U 161 [])))))),λs1=>[YW ⟨.of 33,10,[[.sl (w.aa.aA.map bo),.sl (w.aa.off.map aG),vi w.aa.change,.sl (w.aj.map aZ),.sl (w.au.map aC),.sl (w.ae.map aU),vi w.now,.sl (w.aN.map bw),.sl (w.skip.map aG),vi w.bg]]⟩,YW ⟨.of 94,11,[[vs y1.ar,vs y1.aY,vi y1.aw,vi y1.ab,vi y1.aQ,vi y1.eJ,.sl (y1.aK.map aU),vi y1.aO,vi y1.state,vs y1.place,vi y1.bQ]]⟩]⟩
def nV(w:ax)(i:Int):Option Bool:=
 (aB w.aj i).bind λy1=>
 (dh w.aa).bind λy2=>
 (cb y2 y1.ar).bind λy3=>
 cond (Y0 (y3<0))
 (YW YZ)
 ((cb y2 y1.aY).bind λy4=>
 cond (Y0 (y4<0))
 (YW YZ)
 (cond (Y0 (y1.ar=y1.aY))
 (YW YZ)
 ((bb y1.aw 1 3).bind λy5=>
 cond (!y5)
 (YW YZ)
 ((bb y1.ab 1 30000).bind λy6=>
 cond (!y6)
 (YW YZ)
 ((bb y1.aQ 0 w.now).bind λy7=>
 cond (!y7)
 (YW YZ)
 ((bb y1.eJ 0 200000).bind λy8=>
 cond (!y8)
 (YW YZ)
 ((bb y1.aO 0 (y1.aK.length:Int)).bind λy9=>
 cond (!y9)
 (YW YZ)
 ((aE (kS w i y1) NN (y1.ar,0)).bind (bh (λo0=>
 (eW w.aa y1.aK y1.ar o0 (aM (y1.aQ+1))).bind λrP=>
 cond (!rP)
 (YW YZ)
 ((cd w.aa y1 w.now).bind λva=>
 cond (!va)
 (YW YZ)
 ((fo y1).bind λwJ=>
 (aE (jh w y1) NN wJ).bind (bh (λo1=>
 YW YY) (λr=>YW r))))) (λr=>YW r))))))))))
instance (w:ax)(i:Int):CT prog (nV w i):=⟨217,[.ag (gK w),vi i],[],λr=>vb r,λr=>[],cw (nV.eq_1 ..) func217 ntmps217 results217⟩
def iD(w:ax)(y1:(List Int))(s0:Int×(List az)):Option ((Int×(List az))⊕(List az)):=
 cond (Y0 (s0.1<(w.aj.length:Int)))
 ((aB w.aj s0.1).bind λy2=>
 (cr (bn ((([]:List av):List av).length+(y2.aK:List av).length) 16)).bind λ_=>
 (A8 (.un::.be 0 0 0::.be 1 0 0::.be 2 0 0::vi s0.1::.be 6 0 0::(U 59 [])) [YW ⟨.of 33,10,[[.sl (w.aa.aA.map bo),.sl (w.aa.off.map aG),vi w.aa.change,.sl (w.aj.map aZ),.sl (w.au.map aC),.sl (w.ae.map aU),vi w.now,.sl (w.aN.map bw),.sl (w.skip.map aG),vi w.bg]]⟩,YW ⟨.of 33,10,[[.v (.slice YX 0 0),.v (.slice YX 0 0),vi 0,.v (.slice YX 0 0),.v (.slice YX 0 0),.v (.slice YX 0 0),vi 0,.v (.slice YX 0 0),.v (.slice YX 0 0),vi 0]]⟩,YW ⟨.of 33,10,[[.ms 3,.ms 4,vi w.aa.change,.ms 5,.sl (w.au.map aC),.sl (w.ae.map aU),vi w.now,.sl (w.aN.map bw),.sl (w.skip.map aG),vi w.bg]]⟩,YW ⟨.of 144,6,((([]:List bP):List bP)++w.aa.aA).map bo⟩,YW ⟨.of 3,1,y1.map aG⟩,YW ⟨.of 94,11,s0.2.map aZ⟩,YW ⟨.of 94,11,[[vs y2.ar,vs y2.aY,vi y2.aw,vi y2.ab,vi y2.aQ,vi y2.eJ,.sl (((([]:List av):List av)++y2.aK).map aU),vi y2.aO,vi y2.state,vs y2.place,vi y2.bQ]]⟩]).bind λ_=>
 (cr (bn ((s0.2:List az).length+([(⟨y2.ar,y2.aY,y2.aw,y2.ab,y2.aQ,y2.eJ,((([]:List av):List av)++y2.aK),y2.aO,y2.state,y2.place,y2.bQ⟩:az)]:List az).length) 128)).bind λ_=>
 YW (.inl ((aM (s0.1+1)),((s0.2:List az)++[(⟨y2.ar,y2.aY,y2.aw,y2.ab,y2.aQ,y2.eJ,((([]:List av):List av)++y2.aK),y2.aO,y2.state,y2.place,y2.bQ⟩:az)]))))
 (YW (.inr s0.2))
instance (w:ax)(y1:(List Int)):bp (iD w y1):=⟨λs0=>(.un::.be 0 0 0::.be 1 0 0::.be 2 0 0::vi s0.1::(U 60 [])),λs0=>[YW ⟨.of 33,10,[[.sl (w.aa.aA.map bo),.sl (w.aa.off.map aG),vi w.aa.change,.sl (w.aj.map aZ),.sl (w.au.map aC),.sl (w.ae.map aU),vi w.now,.sl (w.aN.map bw),.sl (w.skip.map aG),vi w.bg]]⟩,YW ⟨.of 33,10,[[.v (.slice YX 0 0),.v (.slice YX 0 0),vi 0,.v (.slice YX 0 0),.v (.slice YX 0 0),.v (.slice YX 0 0),vi 0,.v (.slice YX 0 0),.v (.slice YX 0 0),vi 0]]⟩,YW ⟨.of 33,10,[[.ms 3,.ms 4,vi w.aa.change,.ms 5,.sl (w.au.map aC),.sl (w.ae.map aU),vi w.now,.sl (w.aN.map bw),.sl (w.skip.map aG),vi w.bg]]⟩,YW ⟨.of 144,6,((([]:List bP):List bP)++w.aa.aA).map bo⟩,YW ⟨.of 3,1,y1.map aG⟩,YW ⟨.of 94,11,s0.2.map aZ⟩]⟩
def eC(w:ax):Option ax:=
 (cr (bn ((([]:List bP):List bP).length+(w.aa.aA:List bP).length) 64)).bind λ_=>
 (eF w.aa.off).bind λy1=>
 (aE (iD w y1) NN (0,([]:List az))).bind (λo0=>
 (kn w.au).bind λy3=>
 (cr (bn ((([]:List av):List av).length+(w.ae:List av).length) 16)).bind λ_=>
 (cr (bn ((([]:List br):List br).length+(w.aN:List br).length) 56)).bind λ_=>
 (eF w.skip).bind λy4=>
 YW (⟨(⟨((([]:List bP):List bP)++w.aa.aA),y1,w.aa.change⟩:ah),o0,y3,((([]:List av):List av)++w.ae),w.now,((([]:List br):List br)++w.aN),y4,w.bg⟩:ax))
instance (w:ax):CT prog (eC w):=⟨104,[.ag (gK w)],[],λr=>.ag [.ms 0,.ms 1,vi r.aa.change,.ms 2,.ms 3,.ms 4,vi r.now,.ms 5,.ms 6,vi r.bg],λr=>[YW ⟨.of 144,6,r.aa.aA.map bo⟩,YW ⟨.of 3,1,r.aa.off.map aG⟩,YW ⟨.of 94,11,r.aj.map aZ⟩,YW ⟨.of 147,4,r.au.map aC⟩,YW ⟨.of 46,2,r.ae.map aU⟩,YW ⟨.of 151,6,r.aN.map bw⟩,YW ⟨.of 3,1,r.skip.map aG⟩],cw (eC.eq_1 ..) func104 ntmps104 results104⟩
def iy(places:List ByteArray)(cK:Int)(mY:Int)(s0:Int×(List Int)):Option ((Int×(List Int))⊕(List Int)):=
 cond (Y0 (s0.1<(places.length:Int)))
 (cond (Y0 (s0.1=cK))
 ((fA mY 0).bind λy1=>
 (cr (bn ((s0.2:List Int).length+([y1]:List Int).length) 8)).bind λ_=>
 YW (.inl ((aM (s0.1+1)),((s0.2:List Int)++[y1]))))
 ((cr (bn ((s0.2:List Int).length+([(-1)]:List Int).length) 8)).bind λ_=>
 YW (.inl ((aM (s0.1+1)),((s0.2:List Int)++[(-1)])))))
 (YW (.inr s0.2))
instance (places:List ByteArray)(cK:Int)(mY:Int):bp (iy places cK mY):=⟨λs0=>(.sl (places.map iU)::vi cK::vi mY::(U 4 (.ms 0::vi s0.1::(U 19 [])))),λs0=>[YW ⟨.of 3,1,s0.2.map aG⟩]⟩
def ix(places:List ByteArray)(cK:Int)(mY:Int):Option (List Int):=
 (aE (iy places cK mY) NN (0,([]:List Int))).bind (λo0=>
 YW o0)
instance (places:List ByteArray)(cK:Int)(mY:Int):CT prog (ix places cK mY):=⟨376,[.sl (places.map iU),vi cK,vi mY],[],λr=>.ms 0,λr=>[YW ⟨.of 3,1,r.map aG⟩],cw (ix.eq_1 ..) func376 ntmps376 results376⟩
def pW(l:List aq)(b:aq)(s0:Int):Option (Int⊕Int):=
 cond (Y0 (s0<(l.length:Int)))
 ((aB l s0).bind λy1=>
 (lJ y1 b).bind λy2=>
 cond y2
 (YW (.inl (aM (s0+1))))
 (YW (.inr s0)))
 (YW (.inr s0))
instance (l:List aq)(b:aq):bp (pW l b):=⟨λs0=>(.sl (l.map aC)::.un::.un::.be 0 0 0::.un::vi s0::(U 25 [])),λs0=>[YW ⟨.of 147,4,[[vi b.bz,vi b.bk.bH,vi b.bk.day,vi b.ab]]⟩]⟩
def nB(l:List aq)(b:aq):Option (List aq):=
 (aE (pW l b) NN 0).bind (λo0=>
 (cr (fJ 0 o0 l.length)).bind λ_=>
 (kn (cM l 0 o0)).bind λy3=>
 (cr (bn ((y3:List aq).length+([b]:List aq).length) 32)).bind λ_=>
 (cr (fJ o0 (l.length:Int) l.length)).bind λ_=>
 (cr (bn ((((y3:List aq)++[b]):List aq).length+((cM l o0 (l.length:Int)):List aq).length) 32)).bind λ_=>
 YW ((((y3:List aq)++[b]):List aq)++(cM l o0 (l.length:Int))))
instance (l:List aq)(b:aq):CT prog (nB l b):=⟨350,[.sl (l.map aC),.ag (aC b)],[],λr=>.ms 0,λr=>[YW ⟨.of 147,4,r.map aC⟩],cw (nB.eq_1 ..) func350 ntmps350 results350⟩
def gM(bH:Int)(fG:Int)(zb:ah)(Vg:List av)(Vh:List aq)(Vi:Int)(s0:Int):Option (Int⊕(Unit⊕(av×Bool))):=
 cond (Y0 (s0<=60))
 ((oL zb bH s0).bind λy1=>
 cond y1
 ((dq zb (⟨bH,s0⟩:av)).bind λy2=>
 cond (Y0 (fG<=y2))
 ((fb Vg (⟨bH,s0⟩:av)).bind λy3=>
 cond (!y3)
 ((aB zb.aA bH).bind λy4=>
 (kj Vh (⟨bH,s0⟩:av)).bind λy5=>
 cond (Y0 (Vi<=(aM (y4.jk-y5))))
 (YW (.inr (.inr ((⟨bH,s0⟩:av),YY))))
 (YW (.inl (aM (s0+1)))))
 (YW (.inl (aM (s0+1)))))
 (YW (.inl (aM (s0+1)))))
 (YW (.inl (aM (s0+1)))))
 (YW (.inr (.inl ())))
instance (bH:Int)(fG:Int)(zb:ah)(Vg:List av)(Vh:List aq)(Vi:Int):bp (gM bH fG zb Vg Vh Vi):=⟨λs0=>(vi bH::vi fG::.rp [.sl (zb.aA.map bo),.sl (zb.off.map aG),vi zb.change]::.rp [.sl (Vg.map aU)]::.rp [.sl (Vh.map aC)]::.rp [vi Vi]::.un::.un::.be 0 0 0::.un::vi s0::(U 41 [])),λs0=>[YW ⟨.of 46,2,[[vi 0,vi 0]]⟩]⟩
def iH(bH:Int)(fG:Int)(zb:ah)(Vg:List av)(Vh:List aq)(Vi:Int):Option (av×Bool):=
 (aE (gM bH fG zb Vg Vh Vi) NN 0).bind (bh (λo0=>
 YW ((⟨0,0⟩:av),YZ)) (λr=>YW r))
instance (bH:Int)(fG:Int)(zb:ah)(Vg:List av)(Vh:List aq)(Vi:Int):CT prog (iH bH fG zb Vg Vh Vi):=⟨250,[vi bH,vi fG,.rp [.sl (zb.aA.map bo),.sl (zb.off.map aG),vi zb.change],.rp [.sl (Vg.map aU)],.rp [.sl (Vh.map aC)],.rp [vi Vi]],[],λr=>.tu [.ag [vi r.1.bH,vi r.1.day],vb r.2],λr=>[],cw (iH.eq_1 ..) func250 ntmps250 results250⟩
def qI(n:ah)(bH:Int)(mY:Int)(s0:Int):Option (Int⊕(Unit⊕(av×Bool))):=
 cond (Y0 (s0<=60))
 ((oL n bH s0).bind λy1=>
 cond y1
 ((dq n (⟨bH,s0⟩:av)).bind λy2=>
 cond (Y0 (mY<=y2))
 (YW (.inr (.inr ((⟨bH,s0⟩:av),YY))))
 (YW (.inl (aM (s0+1)))))
 (YW (.inl (aM (s0+1)))))
 (YW (.inr (.inl ())))
instance (n:ah)(bH:Int)(mY:Int):bp (qI n bH mY):=⟨λs0=>(.un::vi bH::vi mY::.be 0 0 0::.un::.un::.be 1 0 0::.un::vi s0::(U 21 [])),λs0=>[YW ⟨.of 27,3,[[.sl (n.aA.map bo),.sl (n.off.map aG),vi n.change]]⟩,YW ⟨.of 46,2,[[vi 0,vi 0]]⟩]⟩
def tg(n:ah)(bH:Int)(mY:Int):Option (av×Bool):=
 (aE (qI n bH mY) NN 0).bind (bh (λo0=>
 YW ((⟨0,0⟩:av),YZ)) (λr=>YW r))
instance (n:ah)(bH:Int)(mY:Int):CT prog (tg n bH mY):=⟨367,[.ag (bB n),vi bH,vi mY],[],λr=>.tu [.ag [vi r.1.bH,vi r.1.day],vb r.2],λr=>[],cw (tg.eq_1 ..) func367 ntmps367 results367⟩
def nO(bH:Int)(fG:Int)(zb:ah):Option (av×Bool):=
 (tg zb bH fG).bind λy1=>
 YW (y1.1,y1.2)
instance (bH:Int)(fG:Int)(zb:ah):CT prog (nO bH fG zb):=⟨366,[vi bH,vi fG,.rp [.sl (zb.aA.map bo),.sl (zb.off.map aG),vi zb.change]],[],λr=>.tu [.ag [vi r.1.bH,vi r.1.day],vb r.2],λr=>[],cw (nO.eq_1 ..) func366 ntmps366 results366⟩
def o6(i:Int)(j:Int)(zb:List aq):Option Bool:=
 (aB zb i).bind λy1=>
 (aB zb j).bind λy2=>
 (fY y1 y2).bind λy3=>
 YW (Y0 (y3<0))
instance (i:Int)(j:Int)(zb:List aq):CT prog (o6 i j zb):=⟨201,[vi i,vi j,.rp [.sl (zb.map aC)]],[],λr=>vb r,λr=>[],cw (o6.eq_1 ..) func201 ntmps201 results201⟩
def gW(p:aL):Option aL:=
 (eF p.bE).bind λy1=>
 YW (⟨p.label,p.ar,p.ab,y1,p.value⟩:aL)
instance (p:aL):CT prog (gW p):=⟨107,[.ag (bA p)],[],λr=>.ag [vi r.label.aw,vi r.label.bO,vs r.label.aY,vs r.ar,vi r.ab,.sl (r.bE.map aG),vi r.value],λr=>[],cw (gW.eq_1 ..) func107 ntmps107 results107⟩
end Go.Proofs.YtdilaemengjipaaGreatDoor
