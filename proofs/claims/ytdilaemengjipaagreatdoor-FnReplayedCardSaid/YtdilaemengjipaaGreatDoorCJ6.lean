/- A part of the proof of the statement in the last file of this claim: texts on the language of the program and on its functions. No condition. -/
import Derived.Test.YtdilaemengjipaaGreatDoorCJ4
import Derived.Test.YtdilaemengjipaaGreatDoorCJ1
set_option linter.unusedVariables false
set_option linter.unusedSimpArgs false
set_option linter.unusedSectionVars false
open Option renaming some->YW,none->YX
open Bool renaming true->YY,false->YZ
open Decidable renaming decide->Y0
open Go.Proofs.Tryz
set_option maxHeartbeats 40000000
namespace Go.Proofs.YtdilaemengjipaaGreatDoor
set_option maxRecDepth 10000
open Go.RowKit
variable {KR:PV->Prop}{n:Nat}
def dq(n:ah)(t:av):Option Int:=
 (aB n.aA t.bH).bind λy1=>
 YW (aM ((aM (t.day*1440))+y1.start))
instance (n:ah)(t:av):CT prog (dq n t):=⟨145,[.ag (bB n),.ag (aU t)],[],λr=>vi r,λr=>[],cw (dq.eq_1 ..) func145 ntmps145 results145⟩
def di(n:ah)(t:av):Option Int:=
 (dq n t).bind λy1=>
 (aB n.aA t.bH).bind λy2=>
 YW (aM (y1+y2.nd))
instance (n:ah)(t:av):CT prog (di n t):=⟨155,[.ag (bB n),.ag (aU t)],[],λr=>vi r,λr=>[],cw (di.eq_1 ..) func155 ntmps155 results155⟩
def oM(n:ah)(day:Int)(s0:Int):Option (Int⊕(Unit⊕Bool)):=
 cond (Y0 (s0<(n.off.length:Int)))
 ((aB n.off s0).bind λy3=>
 cond (Y0 (y3=day))
 (YW (.inr (.inr YZ)))
 (YW (.inl (aM (s0+1)))))
 (YW (.inr (.inl ())))
instance (n:ah)(day:Int):bp (oM n day):=⟨λs0=>(.un::.un::vi day::(U 34 (.sl (n.off.map aG)::vi (n.off.length:Int)::vi s0::(U 7 [])))),λs0=>[]⟩
def oL(n:ah)(bH:Int)(day:Int):Option Bool:=
 cond (Y0 (bH<0))
 (YW YZ)
 (cond (Y0 ((n.aA.length:Int)<=bH))
 (YW YZ)
 ((aX day 0 60).bind λy1=>
 cond (!y1)
 (YW YZ)
 ((aB n.aA bH).bind λy2=>
 (cr (Y0 (0<=(Int.tmod day 7)))).bind λ_=>
 cond (Y0 ((IntKind.i64.wrap (BitVec.ofInt IntKind.i64.bits (Int.fdiv y2.vt (2 ^ (min (Int.toNat (Int.tmod day 7)) IntKind.i64.bits))) &&& BitVec.ofInt IntKind.i64.bits 1).toNat)=0))
 (YW YZ)
 ((aE (oM n day) NN 0).bind (bh (λo0=>
 YW YY) (λr=>YW r))))))
instance (n:ah)(bH:Int)(day:Int):CT prog (oL n bH day):=⟨205,[.ag (bB n),vi bH,vi day],[],λr=>vb r,λr=>[],cw (oL.eq_1 ..) func205 ntmps205 results205⟩
def oq(l:List av)(t:av)(s0:Int):Option (Int⊕(Unit⊕Bool)):=
 cond (Y0 (s0<(l.length:Int)))
 ((aB l s0).bind λy1=>
 cond (Y0 (y1=t))
 (YW (.inr (.inr YY)))
 (YW (.inl (aM (s0+1)))))
 (YW (.inr (.inl ())))
instance (l:List av)(t:av):bp (oq l t):=⟨λs0=>(U 3 (.be 0 0 0::(U 3 (.sl (l.map aU)::vi (l.length:Int)::vi s0::(U 7 []))))),λs0=>[YW ⟨.of 46,2,[[vi t.bH,vi t.day]]⟩]⟩
def fb(l:List av)(t:av):Option Bool:=
 (aE (oq l t) NN 0).bind (bh (λo0=>
 YW YZ) (λr=>YW r))
instance (l:List av)(t:av):CT prog (fb l t):=⟨87,[.sl (l.map aU),.ag (aU t)],[],λr=>vb r,λr=>[],cw (fb.eq_1 ..) func87 ntmps87 results87⟩
def oK(w:ax)(o:az):Option Bool:=
 cond (Y0 (0<o.aO))
 ((aB o.aK (aM (o.aO-1))).bind λy1=>
 (di w.aa y1).bind λy2=>
 cond (Y0 (w.now<y2))
 (YW YZ)
 ((aB w.aa.aA y1.bH).bind λy3=>
 cond (Y0 (o.state=1))
 (cond (Y0 (o.place=y3.aY))
 (cond (!decide (y3.aY=o.aY))
 (cond (Y0 (o.bQ=0))
 (cond (Y0 (o.aO=(o.aK.length:Int)))
 (YW YY)
 ((aB o.aK o.aO).bind λy4=>
 (dq w.aa y4).bind λy5=>
 YW (Y0 (w.now<y5))))
 (YW YZ))
 (YW YZ))
 (YW YZ))
 (cond (Y0 (o.state=2))
 (cond (Y0 (o.place=⟨#[]⟩))
 (cond (Y0 (o.bQ=0))
 (cond (Y0 (o.aO<(o.aK.length:Int)))
 ((aB o.aK o.aO).bind λy6=>
 (dq w.aa y6).bind λy7=>
 cond (Y0 (y7<=w.now))
 ((aB o.aK o.aO).bind λy8=>
 (di w.aa y8).bind λy9=>
 YW (Y0 (w.now<y9)))
 (YW YZ))
 (YW YZ))
 (YW YZ))
 (YW YZ))
 (cond (Y0 (o.state=3))
 (cond (Y0 (o.aO=(o.aK.length:Int)))
 (cond (Y0 (0<o.aO))
 (cond (Y0 (o.place=o.aY))
 (cond (Y0 (y3.aY=o.aY))
 ((aB o.aK (aM (o.aO-1))).bind λeh=>
 (di w.aa eh).bind λlr=>
 YW (Y0 (o.bQ=lr)))
 (YW YZ))
 (YW YZ))
 (YW YZ))
 (YW YZ))
 (YW YZ)))))
 (cond (Y0 (o.state=1))
 (cond (Y0 (o.place=o.ar))
 (cond (!decide (o.ar=o.aY))
 (cond (Y0 (o.bQ=0))
 (cond (Y0 (o.aO=(o.aK.length:Int)))
 (YW YY)
 ((aB o.aK o.aO).bind λoV=>
 (dq w.aa oV).bind λoD=>
 YW (Y0 (w.now<oD))))
 (YW YZ))
 (YW YZ))
 (YW YZ))
 (cond (Y0 (o.state=2))
 (cond (Y0 (o.place=⟨#[]⟩))
 (cond (Y0 (o.bQ=0))
 (cond (Y0 (o.aO<(o.aK.length:Int)))
 ((aB o.aK o.aO).bind λnF=>
 (dq w.aa nF).bind λpZ=>
 cond (Y0 (pZ<=w.now))
 ((aB o.aK o.aO).bind λod=>
 (di w.aa od).bind λrP=>
 YW (Y0 (w.now<rP)))
 (YW YZ))
 (YW YZ))
 (YW YZ))
 (YW YZ))
 (cond (Y0 (o.state=3))
 (cond (Y0 (o.aO=(o.aK.length:Int)))
 (cond (Y0 (0<o.aO))
 (cond (Y0 (o.place=o.aY))
 (cond (Y0 (o.ar=o.aY))
 ((aB o.aK (aM (o.aO-1))).bind λva=>
 (di w.aa va).bind λwJ=>
 YW (Y0 (o.bQ=wJ)))
 (YW YZ))
 (YW YZ))
 (YW YZ))
 (YW YZ))
 (YW YZ))))
instance (w:ax)(o:az):CT prog (oK w o):=⟨159,[.ag (gK w),.ag (aZ o)],[],λr=>vb r,λr=>[],cw (oK.eq_1 ..) func159 ntmps159 results159⟩
def ic(o:az):Option Int:=
 cond (Y0 (o.state=2))
 (YW (if(o.aK.length:Int)<(aM (o.aO+1))then(o.aK.length:Int)else(aM (o.aO+1))))
 (YW o.aO)
instance (o:az):CT prog (ic o):=⟨146,[.ag (aZ o)],[],λr=>vi r,λr=>[],cw (ic.eq_1 ..) func146 ntmps146 results146⟩
def tj(places:List ByteArray)(s:ByteArray)(s0:Int):Option (Int⊕(Unit⊕Int)):=
 cond (Y0 (s0<(places.length:Int)))
 ((aB places s0).bind λy1=>
 cond (Y0 (y1=s))
 (YW (.inr (.inr s0)))
 (YW (.inl (aM (s0+1)))))
 (YW (.inr (.inl ())))
instance (places:List ByteArray)(s:ByteArray):bp (tj places s):=⟨λs0=>(.un::vs s::(U 5 (.sl (places.map iU)::vi (places.length:Int)::vi s0::(U 9 [])))),λs0=>[]⟩
def bU(places:List ByteArray)(s:ByteArray):Option Int:=
 (aE (tj places s) NN 0).bind (bh (λo0=>
 YW (-1)) (λr=>YW r))
instance (places:List ByteArray)(s:ByteArray):CT prog (bU places s):=⟨154,[.sl (places.map iU),vs s],[],λr=>vi r,λr=>[],cw (bU.eq_1 ..) func154 ntmps154 results154⟩
def fq(w:ax)(s0:Int×Int):Option ((Int×Int)⊕Int):=
 cond (Y0 (s0.2<(w.aj.length:Int)))
 ((aB w.aj s0.2).bind λy1=>
 cond (Y0 (y1.state=2))
 ((aB y1.aK y1.aO).bind λy2=>
 (di w.aa y2).bind λy3=>
 cond (Y0 (0<=y3))
 (cond (Y0 (s0.1<0))
 (YW (.inl (y3,(aM (s0.2+1)))))
 (cond (Y0 (y3<s0.1))
 (YW (.inl (y3,(aM (s0.2+1)))))
 (YW (.inl (s0.1,(aM (s0.2+1)))))))
 (YW (.inl (s0.1,(aM (s0.2+1))))))
 (cond (Y0 (y1.state=1))
 (cond (Y0 (y1.aO<(y1.aK.length:Int)))
 ((aB y1.aK y1.aO).bind λy4=>
 (dq w.aa y4).bind λy5=>
 cond (Y0 (0<=y5))
 (cond (Y0 (s0.1<0))
 (YW (.inl (y5,(aM (s0.2+1)))))
 (cond (Y0 (y5<s0.1))
 (YW (.inl (y5,(aM (s0.2+1)))))
 (YW (.inl (s0.1,(aM (s0.2+1)))))))
 (YW (.inl (s0.1,(aM (s0.2+1))))))
 (cond (Y0 (0<=(-1)))
 (cond (Y0 (s0.1<0))
 (YW (.inl ((-1),(aM (s0.2+1)))))
 (cond (Y0 ((-1)<s0.1))
 (YW (.inl ((-1),(aM (s0.2+1)))))
 (YW (.inl (s0.1,(aM (s0.2+1)))))))
 (YW (.inl (s0.1,(aM (s0.2+1)))))))
 (cond (Y0 (0<=(-1)))
 (cond (Y0 (s0.1<0))
 (YW (.inl ((-1),(aM (s0.2+1)))))
 (cond (Y0 ((-1)<s0.1))
 (YW (.inl ((-1),(aM (s0.2+1)))))
 (YW (.inl (s0.1,(aM (s0.2+1)))))))
 (YW (.inl (s0.1,(aM (s0.2+1))))))))
 (YW (.inr s0.1))
instance (w:ax):bp (fq w):=⟨λs0=>(.un::.be 0 0 0::.un::vi s0.1::(U 4 (.sl (w.aj.map aZ)::vi (w.aj.length:Int)::vi s0.2::(U 51 [])))),λs0=>[YW ⟨.of 33,10,[[.sl (w.aa.aA.map bo),.sl (w.aa.off.map aG),vi w.aa.change,.sl (w.aj.map aZ),.sl (w.au.map aC),.sl (w.ae.map aU),vi w.now,.sl (w.aN.map bw),.sl (w.skip.map aG),vi w.bg]]⟩]⟩
def gQ(w:ax):Option Int:=
 (aE (fq w) NN ((-1),0)).bind (λo0=>
 YW o0)
instance (w:ax):CT prog (gQ w):=⟨143,[.ag (gK w)],[],λr=>vi r,λr=>[],cw (gQ.eq_1 ..) func143 ntmps143 results143⟩
theorem IB{a a2 b b2:ByteArray}:Cy prog (n+3) 78 [vs a,vs b] [vs a2,vs b2]=YW (Y0 ((⟨a,b⟩:ct)=(⟨a2,b2⟩:ct))):=by
 simp only[Cy,Tryz.underlying78,ZbJ,Tryz.underlying9,Program.fieldsOf,go_sem];simp[ZbJ,tq9,baB]
 try rfl
@[go_sem] theorem ZeK{a a2 b b2:ByteArray}:u7 prog .eql 78 [vs a,vs b] [vs a2,vs b2] KR=KR (vb (Y0 ((⟨a,b⟩:ct)=(⟨a2,b2⟩:ct)))):=by unfold u7;rw[show(10000:Nat)=9997+3 from rfl,IB,Tryz.underlying78];simp only[ZbJ,true_and]
@[go_sem] theorem ZfH{a a2 b b2:ByteArray}:u7 prog .neq 78 [vs a,vs b] [vs a2,vs b2] KR=KR (vb (!decide ((⟨a,b⟩:ct)=(⟨a2,b2⟩:ct)))):=by unfold u7;rw[show(10000:Nat)=9997+3 from rfl,IB,Tryz.underlying78];simp only[ZbJ,true_and]
theorem Iy{a b c d a2 b2 c2 d2:Int}:Cy prog (n+3) 81 [vi a,vi b,vi c,vi d] [vi a2,vi b2,vi c2,vi d2]=YW (Y0 ((⟨a,b,c,d⟩:bF)=(⟨a2,b2,c2,d2⟩:bF))):=by
 simp only[Cy,Tryz.underlying3,Tryz.underlying81,ZbK,Program.fieldsOf,go_sem];simp[ZbK,tq3];rfl
@[go_sem] theorem ZeH{a b c d a2 b2 c2 d2:Int}:u7 prog .eql 81 [vi a,vi b,vi c,vi d] [vi a2,vi b2,vi c2,vi d2] KR=KR (vb (Y0 ((⟨a,b,c,d⟩:bF)=(⟨a2,b2,c2,d2⟩:bF)))):=by unfold u7;rw[show(10000:Nat)=9997+3 from rfl,Iy,Tryz.underlying81];simp only[ZbK,true_and]
@[go_sem] theorem ZfE{a b c d a2 b2 c2 d2:Int}:u7 prog .neq 81 [vi a,vi b,vi c,vi d] [vi a2,vi b2,vi c2,vi d2] KR=KR (vb (!decide ((⟨a,b,c,d⟩:bF)=(⟨a2,b2,c2,d2⟩:bF)))):=by unfold u7;rw[show(10000:Nat)=9997+3 from rfl,Iy,Tryz.underlying81];simp only[ZbK,true_and]
theorem Ix{a b c d a2 b2 c2 d2:Int}:Cy prog (n+3) 85 [vi a,vi b,vi c,vi d] [vi a2,vi b2,vi c2,vi d2]=YW (Y0 ((⟨a,b,c,d⟩:bc)=(⟨a2,b2,c2,d2⟩:bc))):=by
 simp only[Cy,Tryz.underlying3,Tryz.underlying85,ZbL,Program.fieldsOf,go_sem];simp[ZbL,tq3];rfl
@[go_sem] theorem ZeG{a b c d a2 b2 c2 d2:Int}:u7 prog .eql 85 [vi a,vi b,vi c,vi d] [vi a2,vi b2,vi c2,vi d2] KR=KR (vb (Y0 ((⟨a,b,c,d⟩:bc)=(⟨a2,b2,c2,d2⟩:bc)))):=by unfold u7;rw[show(10000:Nat)=9997+3 from rfl,Ix,Tryz.underlying85];simp only[ZbL,true_and]
@[go_sem] theorem ZfD{a b c d a2 b2 c2 d2:Int}:u7 prog .neq 85 [vi a,vi b,vi c,vi d] [vi a2,vi b2,vi c2,vi d2] KR=KR (vb (!decide ((⟨a,b,c,d⟩:bc)=(⟨a2,b2,c2,d2⟩:bc)))):=by unfold u7;rw[show(10000:Nat)=9997+3 from rfl,Ix,Tryz.underlying85];simp only[ZbL,true_and]
@[go_sem] theorem ZgY:sU prog 250:=⟨_,func250,rfl,by kernel_rfl⟩
@[go_sem] theorem ZgZ:sU prog 366:=⟨_,func366,rfl,by kernel_rfl⟩
def fU(l:List ba)(n:Int):Option (List ba):=
 cond (Y0 ((l.length:Int)<n))
 (YW l)
 ((cr (fJ 0 n l.length)).bind λ_=>
 YW (cM l 0 n))
instance (l:List ba)(n:Int):CT prog (fU l n):=⟨21,[.sl (l.map cX),vi n],[],λr=>.sl (r.map cX),λr=>[],cw (fU.eq_1 ..) func21 ntmps21 results21⟩
end Go.Proofs.YtdilaemengjipaaGreatDoor
