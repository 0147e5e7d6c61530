/- A part of the proof of the statement in the last file of this claim: texts on the language of the program and on its functions. No condition. -/
import Derived.Test.YtbalgkakkoocjaaGreatCFnTwice4
set_option linter.unusedVariables false
set_option linter.unusedSimpArgs false
set_option linter.unusedSectionVars false
namespace Go.Proofs.YtbalgkakkoocjaaGreat
set_option maxRecDepth 10000
open Go.RowKit
set_option maxHeartbeats 16000000
def dq(n:aj)(t:au):Option Int:=
 (aC n.ay t.bx).bind fun y1=>
 some (aL ((aL (t.day*1440))+y1.start))
instance (n:aj)(t:au):CT Tryz.prog (dq n t):=⟨210,[.ag (bA n),.ag (aS t)],[],fun r=>vi r,fun r=>[],fun H=>by replace H:=H0 H;unfold dq at H;exact aA Tryz.func210 rfl Tryz.ntmps210 Tryz.results210 fun Q hQ cR=>dU⟩
def dg(n:aj)(t:au):Option Int:=
 (dq n t).bind fun y1=>
 (aC n.ay t.bx).bind fun y2=>
 some (aL (y1+y2.lT))
instance (n:aj)(t:au):CT Tryz.prog (dg n t):=⟨266,[.ag (bA n),.ag (aS t)],[],fun r=>vi r,fun r=>[],fun H=>by replace H:=H0 H;unfold dg at H;exact aA Tryz.func266 rfl Tryz.ntmps266 Tryz.results266 fun Q hQ cR=>dU⟩
def bq(n:aj)(t:au):Option Int:=
 (aC n.ay t.bx).bind fun y1=>
 some (aL ((aL (t.day*1440))+y1.start))
instance (n:aj)(t:au):CT Tryz.prog (bq n t):=⟨240,[.ag (bA n),.ag (aS t)],[],fun r=>vi r,fun r=>[],fun H=>by replace H:=H0 H;unfold bq at H;exact aA Tryz.func240 rfl Tryz.ntmps240 Tryz.results240 fun Q hQ cR=>dU⟩
def bn(n:aj)(t:au):Option Int:=
 (bq n t).bind fun y1=>
 (aC n.ay t.bx).bind fun y2=>
 some (aL (y1+y2.lT))
instance (n:aj)(t:au):CT Tryz.prog (bn n t):=⟨286,[.ag (bA n),.ag (aS t)],[],fun r=>vi r,fun r=>[],fun H=>by replace H:=H0 H;unfold bn at H;exact aA Tryz.func286 rfl Tryz.ntmps286 Tryz.results286 fun Q hQ cR=>dU⟩
def og(w:av)(o:az):Option Bool:=
 cond (decide (0<o.aJ))
 ((aC o.aE (aL (o.aJ-1))).bind fun y1=>
 (dg w.aa y1).bind fun y2=>
 cond (decide (w.now<y2))
 (some false)
 ((aC w.aa.ay y1.bx).bind fun y3=>
 cond (decide (o.state=1))
 (cond (decide (o.place=y3.aV))
 (cond (!decide (y3.aV=o.aV))
 (cond (decide (o.bD=0))
 (cond (decide (o.aJ=(o.aE.length:Int)))
 (some true)
 ((aC o.aE o.aJ).bind fun y4=>
 (dq w.aa y4).bind fun y5=>
 some (decide (w.now<y5))))
 (some false))
 (some false))
 (some false))
 (cond (decide (o.state=2))
 (cond (decide (o.place=⟨#[]⟩))
 (cond (decide (o.bD=0))
 (cond (decide (o.aJ<(o.aE.length:Int)))
 ((aC o.aE o.aJ).bind fun y6=>
 (dq w.aa y6).bind fun y7=>
 cond (decide (y7≤w.now))
 ((aC o.aE o.aJ).bind fun y8=>
 (dg w.aa y8).bind fun y9=>
 some (decide (w.now<y9)))
 (some false))
 (some false))
 (some false))
 (some false))
 (cond (decide (o.state=3))
 (cond (decide (o.aJ=(o.aE.length:Int)))
 (cond (decide (0<o.aJ))
 (cond (decide (o.place=o.aV))
 (cond (decide (y3.aV=o.aV))
 ((aC o.aE (aL (o.aJ-1))).bind fun dM=>
 (dg w.aa dM).bind fun jx=>
 some (decide (o.bD=jx)))
 (some false))
 (some false))
 (some false))
 (some false))
 (some false)))))
 (cond (decide (o.state=1))
 (cond (decide (o.place=o.ar))
 (cond (!decide (o.ar=o.aV))
 (cond (decide (o.bD=0))
 (cond (decide (o.aJ=(o.aE.length:Int)))
 (some true)
 ((aC o.aE o.aJ).bind fun oV=>
 (dq w.aa oV).bind fun lZ=>
 some (decide (w.now<lZ))))
 (some false))
 (some false))
 (some false))
 (cond (decide (o.state=2))
 (cond (decide (o.place=⟨#[]⟩))
 (cond (decide (o.bD=0))
 (cond (decide (o.aJ<(o.aE.length:Int)))
 ((aC o.aE o.aJ).bind fun kS=>
 (dq w.aa kS).bind fun o9=>
 cond (decide (o9≤w.now))
 ((aC o.aE o.aJ).bind fun ma=>
 (dg w.aa ma).bind fun ri=>
 some (decide (w.now<ri)))
 (some false))
 (some false))
 (some false))
 (some false))
 (cond (decide (o.state=3))
 (cond (decide (o.aJ=(o.aE.length:Int)))
 (cond (decide (0<o.aJ))
 (cond (decide (o.place=o.aV))
 (cond (decide (o.ar=o.aV))
 ((aC o.aE (aL (o.aJ-1))).bind fun sw=>
 (dg w.aa sw).bind fun vW=>
 some (decide (o.bD=vW)))
 (some false))
 (some false))
 (some false))
 (some false))
 (some false))))
instance (w:av)(o:az):CT Tryz.prog (og w o):=⟨270,[.ag (fK w),.ag (bc o)],[],fun r=>vb r,fun r=>[],fun H=>by replace H:=H0 H;unfold og at H;exact aA Tryz.func270 rfl Tryz.ntmps270 Tryz.results270 fun Q hQ cR=>dU⟩
def bW(n:aj)(x:az)(now:Int):Option Bool:=
 cond (decide (0<x.aJ))
 ((aC x.aE (aL (x.aJ-1))).bind fun y1=>
 (aC n.ay y1.bx).bind fun y2=>
 (aC x.aE (aL (x.aJ-1))).bind fun y3=>
 (bn n y3).bind fun y4=>
 cond (decide (now<y4))
 (some false)
 (cond (decide (x.state=1))
 (cond (decide (x.place=y2.aV))
 (cond (!decide (y2.aV=x.aV))
 (cond (decide (x.bD=0))
 (cond (decide (x.aJ=(x.aE.length:Int)))
 (some true)
 ((aC x.aE x.aJ).bind fun y5=>
 (bq n y5).bind fun y6=>
 some (decide (now<y6))))
 (some false))
 (some false))
 (some false))
 (cond (decide (x.state=2))
 (cond (decide (x.place=⟨#[]⟩))
 (cond (decide (x.bD=0))
 (cond (decide (x.aJ<(x.aE.length:Int)))
 ((aC x.aE x.aJ).bind fun y7=>
 (bq n y7).bind fun y8=>
 cond (decide (y8≤now))
 ((aC x.aE x.aJ).bind fun y9=>
 (bn n y9).bind fun dM=>
 some (decide (now<dM)))
 (some false))
 (some false))
 (some false))
 (some false))
 (cond (decide (x.state=3))
 (cond (decide (x.place=x.aV))
 (cond (decide (y2.aV=x.aV))
 (cond (decide (x.aJ=(x.aE.length:Int)))
 (cond (decide (0<x.aJ))
 ((aC x.aE (aL (x.aJ-1))).bind fun jx=>
 (bn n jx).bind fun oV=>
 some (decide (x.bD=oV)))
 (some false))
 (some false))
 (some false))
 (some false))
 (some false)))))
 (cond (decide (x.state=1))
 (cond (decide (x.place=x.ar))
 (cond (!decide (x.ar=x.aV))
 (cond (decide (x.bD=0))
 (cond (decide (x.aJ=(x.aE.length:Int)))
 (some true)
 ((aC x.aE x.aJ).bind fun lZ=>
 (bq n lZ).bind fun kS=>
 some (decide (now<kS))))
 (some false))
 (some false))
 (some false))
 (cond (decide (x.state=2))
 (cond (decide (x.place=⟨#[]⟩))
 (cond (decide (x.bD=0))
 (cond (decide (x.aJ<(x.aE.length:Int)))
 ((aC x.aE x.aJ).bind fun o9=>
 (bq n o9).bind fun ma=>
 cond (decide (ma≤now))
 ((aC x.aE x.aJ).bind fun ri=>
 (bn n ri).bind fun sw=>
 some (decide (now<sw)))
 (some false))
 (some false))
 (some false))
 (some false))
 (cond (decide (x.state=3))
 (cond (decide (x.place=x.aV))
 (cond (decide (x.ar=x.aV))
 (cond (decide (x.aJ=(x.aE.length:Int)))
 (cond (decide (0<x.aJ))
 ((aC x.aE (aL (x.aJ-1))).bind fun vW=>
 (bn n vW).bind fun Bj=>
 some (decide (x.bD=Bj)))
 (some false))
 (some false))
 (some false))
 (some false))
 (some false))))
instance (n:aj)(x:az)(now:Int):CT Tryz.prog (bW n x now):=⟨289,[.ag (bA n),.ag (bc x),vi now],[],fun r=>vb r,fun r=>[],fun H=>by replace H:=H0 H;unfold bW at H;exact aA Tryz.func289 rfl Tryz.ntmps289 Tryz.results289 fun Q hQ cR=>dU⟩
def gD(o:az):Option Int:=
 cond (decide (o.state=2))
 (some (if(o.aE.length:Int)<(aL (o.aJ+1))then(o.aE.length:Int)else(aL (o.aJ+1))))
 (some o.aJ)
instance (o:az):CT Tryz.prog (gD o):=⟨211,[.ag (bc o)],[],fun r=>vi r,fun r=>[],fun H=>by replace H:=H0 H;unfold gD at H;exact aA Tryz.func211 rfl Tryz.ntmps211 Tryz.results211 fun Q hQ cR=>dU⟩
def eY(x:az):Option Int:=
 cond (decide (x.state=2))
 (some (aL (x.aJ+1)))
 (some x.aJ)
instance (x:az):CT Tryz.prog (eY x):=⟨241,[.ag (bc x)],[],fun r=>vi r,fun r=>[],fun H=>by replace H:=H0 H;unfold eY at H;exact aA Tryz.func241 rfl Tryz.ntmps241 Tryz.results241 fun Q hQ cR=>dU⟩
def tg(places:List ByteArray)(s:ByteArray)(s0:Int):Option (Int⊕(Unit⊕Int)):=
 cond (decide (s0<(places.length:Int)))
 ((aC places s0).bind fun y1=>
 cond (decide (y1=s))
 (some (.inr (.inr s0)))
 (some (.inl (aL (s0+1)))))
 (some (.inr (.inl ())))
instance (places:List ByteArray)(s:ByteArray):bm (tg places s):=⟨fun s0=>(.un::vs s::(U 5 (.sl (places.map jH)::vi (places.length:Int)::vi s0::(U 9 [])))),fun s0=>[]⟩
def bV(places:List ByteArray)(s:ByteArray):Option Int:=
 (aD (tg places s) NN 0).bind (bl (fun o0=>
 some (-1)) (fun r=>some r))
instance (places:List ByteArray)(s:ByteArray):CT Tryz.prog (bV places s):=⟨265,[.sl (places.map jH),vs s],[],fun r=>vi r,fun r=>[],fun H=>by replace H:=H0 H;unfold bV at H;exact aA Tryz.func265 rfl Tryz.ntmps265 Tryz.results265 fun Q hQ cR=>dU⟩
def l9(l:List ao)(bk:Int)(t:au)(ab:Int)(s0:Int):Option (Int⊕(Unit⊕Bool)):=
 cond (decide (s0<(l.length:Int)))
 ((aC l s0).bind fun y1=>
 cond (decide (y1=(⟨bk,t,ab⟩:ao)))
 (some (.inr (.inr true)))
 (some (.inl (aL (s0+1)))))
 (some (.inr (.inl ())))
instance (l:List ao)(bk:Int)(t:au)(ab:Int):bm (l9 l bk t ab):=⟨fun s0=>(.sl (l.map aB)::vi bk::.un::vi ab::.un::.un::.be 0 0 0::.un::.un::vi s0::(U 15 [])),fun s0=>[some ⟨.of 46,2,[[vi t.bx,vi t.day]]⟩]⟩
def mH(l:List ao)(bk:Int)(t:au)(ab:Int):Option Bool:=
 (aD (l9 l bk t ab) NN 0).bind (bl (fun o0=>
 some false) (fun r=>some r))
instance (l:List ao)(bk:Int)(t:au)(ab:Int):CT Tryz.prog (mH l bk t ab):=⟨287,[.sl (l.map aB),vi bk,.ag (aS t),vi ab],[],fun r=>vb r,fun r=>[],fun H=>by replace H:=H0 H;unfold mH at H;exact aA Tryz.func287 rfl Tryz.ntmps287 Tryz.results287 fun Q hQ cR=>dU⟩
def eZ(w:av)(s0:Int×Int):Option ((Int×Int)⊕Int):=
 cond (decide (s0.2<(w.ah.length:Int)))
 ((aC w.ah s0.2).bind fun y1=>
 cond (decide (y1.state=2))
 ((aC y1.aE y1.aJ).bind fun y2=>
 (dg w.aa y2).bind fun y3=>
 cond (decide (0≤y3))
 (cond (decide (s0.1<0))
 (some (.inl (y3,(aL (s0.2+1)))))
 (cond (decide (y3<s0.1))
 (some (.inl (y3,(aL (s0.2+1)))))
 (some (.inl (s0.1,(aL (s0.2+1)))))))
 (some (.inl (s0.1,(aL (s0.2+1))))))
 (cond (decide (y1.state=1))
 (cond (decide (y1.aJ<(y1.aE.length:Int)))
 ((aC y1.aE y1.aJ).bind fun y4=>
 (dq w.aa y4).bind fun y5=>
 cond (decide (0≤y5))
 (cond (decide (s0.1<0))
 (some (.inl (y5,(aL (s0.2+1)))))
 (cond (decide (y5<s0.1))
 (some (.inl (y5,(aL (s0.2+1)))))
 (some (.inl (s0.1,(aL (s0.2+1)))))))
 (some (.inl (s0.1,(aL (s0.2+1))))))
 (cond (decide (0≤(-1)))
 (cond (decide (s0.1<0))
 (some (.inl ((-1),(aL (s0.2+1)))))
 (cond (decide ((-1)<s0.1))
 (some (.inl ((-1),(aL (s0.2+1)))))
 (some (.inl (s0.1,(aL (s0.2+1)))))))
 (some (.inl (s0.1,(aL (s0.2+1)))))))
 (cond (decide (0≤(-1)))
 (cond (decide (s0.1<0))
 (some (.inl ((-1),(aL (s0.2+1)))))
 (cond (decide ((-1)<s0.1))
 (some (.inl ((-1),(aL (s0.2+1)))))
 (some (.inl (s0.1,(aL (s0.2+1)))))))
 (some (.inl (s0.1,(aL (s0.2+1))))))))
 (some (.inr s0.1))
instance (w:av):bm (eZ w):=⟨fun s0=>(.un::.be 0 0 0::.un::vi s0.1::(U 4 (.sl (w.ah.map bc)::vi (w.ah.length:Int)::vi s0.2::(U 51 [])))),fun s0=>[some ⟨.of 33,10,[[.sl (w.aa.ay.map bp),.sl (w.aa.off.map aG),vi w.aa.change,.sl (w.ah.map bc),.sl (w.aq.map aB),.sl (w.ae.map aS),vi w.now,.sl (w.aH.map bt),.sl (w.skip.map aG),vi w.bd]]⟩]⟩
def gr(w:av):Option Int:=
 (aD (eZ w) NN ((-1),0)).bind (fun o0=>
 some o0)
instance (w:av):CT Tryz.prog (gr w):=⟨208,[.ag (fK w)],[],fun r=>vi r,fun r=>[],fun H=>by replace H:=H0 H;unfold gr at H;exact aA Tryz.func208 rfl Tryz.ntmps208 Tryz.results208 fun Q hQ cR=>dU⟩
end Go.Proofs.YtbalgkakkoocjaaGreat
