/- A part of the proof of this claim's last theorem. No condition. -/
import Derived.Test.YtbjbellffaenaaaGreatDoorCT20
import Derived.Test.YtbjbellffaenaaaGreatDoorCT21
import Derived.Test.YtbjbellffaenaaaGreatDoorCT22
import Derived.Test.YtbjbellffaenaaaGreatDoorCT19
import Derived.Test.YtbjbellffaenaaaGreatDoorCT18
set_option linter.all false
set_option maxRecDepth 10000
open Option renaming some->F,none->Zd
open Bool renaming true->X,false->Zf
open Decidable renaming decide->R
open List renaming length->T
open Option renaming bind->K
open _root_ renaming ByteArray->D,Int->E,List->C,Option->W,UInt8->O,cond->M
open Go.Proofs.YtbjbellffaenaaaGreatDoor renaming YA->J,YJ->Z,au->S,de->G,vi->V,zP->Y
open Go.Proofs.Tryz
set_option maxHeartbeats 40000000
open _root_.Int renaming toNat->Wg,reduceEq->Wv
open UInt8 renaming ofNat->Xm
open Option renaming bind_some->N
open List renaming map_cons->WM,length_append->V5,length_cons->V0,length_nil->V2
open Bool renaming not_true->VX
namespace Go.Proofs.YtbjbellffaenaaaGreatDoor
open Go.RowKit
def mj(l:C bf)(order:E)(fc:E)(bK:E)(aU:C E)(rq:E):W ((C bf)×E):=
 K (fO l order 1) λy1=>
 K (fk l) λy2=>
 M (!y2)
 (K (cx l) λy3=>
 F (y3,1))
 (K (fH aU) λy4=>
 M (!y4)
 (K (cx l) λy5=>
 F (y5,1))
 (K (bh order 1 9999) λy6=>
 M (!y6)
 (K (cx l) λy7=>
 F (y7,1))
 (K (bh rq 0 100000) λy8=>
 M (!y8)
 (K (cx l) λy9=>
 F (y9,1))
 (M (R (y1=0))
 (K (cx l) λdO=>
 F (dO,3))
 (K (eW l order) λlJ=>
 M (R (0<lJ))
 (K (cx l) λlA=>
 F (lA,3))
 (K (mZ l order 3) λqi=>
 M (R (0<qi))
 (K (cx l) λoY=>
 F (oY,2))
 (K (lG y1 fc bK aU) λrT=>
 M (R (rT=0))
 (K (cx l) λpI=>
 F (pI,4))
 (K (lG y1 fc bK aU) λtE=>
 K (mo l (⟨order,3,tE,rq⟩:bf)) λxT=>
 F (xT.1,xT.2)))))))))
instance (l:C bf)(order:E)(fc:E)(bK:E)(aU:C E)(rq:E):CT prog (mj l order fc bK aU rq):=⟨211,[.sl (l.map bV),V order,V fc,V bK,.sl (aU.map aW),V rq],[],λr=>.tu [.ms 0,V r.2],λr=>[F ⟨.of 82,4,r.1.map bV⟩],cw (mj.eq_1 ..) func211 ntmps211 results211⟩
def ey(w:aw)(i:E):W aw:=
 K (az w.ae i) λy1=>
 K (ga y1) λy2=>
 M (R (0<y2))
 (K (az y1.aE (aJ (y2-1))) λy3=>
 K (bo w.aa y3) λy4=>
 K (gv (aJ (w.now+1)) (aJ (y4+w.aa.change))) λy5=>
 K (jL w.aa w.av (aJ (i+1)) (aJ (w.now+1))) λy6=>
 K (eA w.aa y1) λy7=>
 K (bI w.aa y6 w.ak y7 y1.aZ y5 y1.ah) λy8=>
 K (cG w.aa y6 (aJ (i+1)) y1.ah y8.1) λy9=>
 K (cf (iq 0 y2 (T y1.aE))) λ_=>
 K (cf (bn (T (([]:C S):C S)+T ((da y1.aE 0 y2):C S)) 16)) λ_=>
 K (az w.ae i) λdO=>
 M y9.2
 (K (az w.ae i) λlJ=>
 K (cf (bn (T (((([]:C S):C S)++(da y1.aE 0 y2)):C S)+T (y8.1:C S)) 16)) λ_=>
 K (az w.ae i) λlA=>
 F (⟨w.aa,(w.ae.set (Wg i) (⟨dO.ar,dO.aZ,dO.ax,dO.ah,dO.aQ,dO.fc,((((([]:C S):C S)++(da y1.aE 0 y2)):C S)++y8.1),dO.aH,dO.state,dO.place,dO.bK⟩:ay)),y9.1,w.ak,w.now,w.aL,w.skip,w.br⟩:aw))
 (F (⟨w.aa,(w.ae.set (Wg i) (⟨dO.ar,dO.aZ,dO.ax,dO.ah,dO.aQ,dO.fc,((([]:C S):C S)++(da y1.aE 0 y2)),dO.aH,dO.state,dO.place,dO.bK⟩:ay)),y6,w.ak,w.now,w.aL,w.skip,w.br⟩:aw)))
 (K (jL w.aa w.av (aJ (i+1)) (aJ (w.now+1))) λqi=>
 K (eA w.aa y1) λoY=>
 K (bI w.aa qi w.ak oY y1.aZ (aJ (w.now+1)) y1.ah) λrT=>
 K (cG w.aa qi (aJ (i+1)) y1.ah rT.1) λpI=>
 K (cf (iq 0 y2 (T y1.aE))) λ_=>
 K (cf (bn (T (([]:C S):C S)+T ((da y1.aE 0 y2):C S)) 16)) λ_=>
 K (az w.ae i) λtE=>
 M pI.2
 (K (az w.ae i) λxT=>
 K (cf (bn (T (((([]:C S):C S)++(da y1.aE 0 y2)):C S)+T (rT.1:C S)) 16)) λ_=>
 K (az w.ae i) λzf=>
 F (⟨w.aa,(w.ae.set (Wg i) (⟨tE.ar,tE.aZ,tE.ax,tE.ah,tE.aQ,tE.fc,((((([]:C S):C S)++(da y1.aE 0 y2)):C S)++rT.1),tE.aH,tE.state,tE.place,tE.bK⟩:ay)),pI.1,w.ak,w.now,w.aL,w.skip,w.br⟩:aw))
 (F (⟨w.aa,(w.ae.set (Wg i) (⟨tE.ar,tE.aZ,tE.ax,tE.ah,tE.aQ,tE.fc,((([]:C S):C S)++(da y1.aE 0 y2)),tE.aH,tE.state,tE.place,tE.bK⟩:ay)),qi,w.ak,w.now,w.aL,w.skip,w.br⟩:aw)))
instance (w:aw)(i:E):CT prog (ey w i):=⟨217,[.be 0 0 0,V i],[F ⟨.of 33,10,[[.ms 1,.ms 2,V w.aa.change,.ms 3,.ms 4,.ms 5,V w.now,.ms 6,.ms 7,V w.br]]⟩,F ⟨.of 101,6,w.aa.aC.map cY⟩,F ⟨.of 3,1,w.aa.off.map aW⟩,F ⟨.of 63,11,w.ae.map bx⟩,F ⟨.of 50,4,w.av.map aG⟩,F ⟨.of 48,2,w.ak.map bg⟩,F ⟨.of 89,6,w.aL.map bA⟩,F ⟨.of 3,1,w.skip.map aW⟩],λr=>.tu [],λr=>[F ⟨.of 33,10,[[.ms 1,.ms 2,V r.aa.change,.ms 3,.ms 8,.ms 5,V r.now,.ms 6,.ms 7,V r.br]]⟩,F ⟨.of 101,6,r.aa.aC.map cY⟩,F ⟨.of 3,1,r.aa.off.map aW⟩,F ⟨.of 63,11,r.ae.map bx⟩,Zd,F ⟨.of 48,2,r.ak.map bg⟩,F ⟨.of 89,6,r.aL.map bA⟩,F ⟨.of 3,1,r.skip.map aW⟩,F ⟨.of 50,4,r.av.map aG⟩],cw (ey.eq_1 ..) func217 ntmps217 results217⟩
def fD(t:S)(s0:E×E×E×E×(C bP)×(C E)×(C ay)×(C aq)×(C S)×(C aI)×(C E)):W ((E×E×E×E×(C bP)×(C E)×(C ay)×(C aq)×(C S)×(C aI)×(C E))⊕(E×E×E×(C bP)×(C E)×(C ay)×(C aq)×(C S)×(C aI)×(C E))):=
 M (R (s0.1<(T s0.2.2.2.2.2.2.1:E)))
 (K (az s0.2.2.2.2.2.2.1 s0.1) λy6=>
 K (ga y6) λy7=>
 K (cf (iq y7 (T y6.aE:E) (T y6.aE))) λ_=>
 K (dZ (da y6.aE y7 (T y6.aE:E)) t) λy8=>
 M y8
 (K (bw [2,3,4,5,6,7,8,9]) λ_=>
 K (ey (⟨(⟨s0.2.2.2.2.1,s0.2.2.2.2.2.1,s0.2.1⟩:ab),s0.2.2.2.2.2.2.1,s0.2.2.2.2.2.2.2.1,s0.2.2.2.2.2.2.2.2.1,s0.2.2.1,s0.2.2.2.2.2.2.2.2.2.1,s0.2.2.2.2.2.2.2.2.2.2,s0.2.2.2.1⟩:aw) s0.1) λy9=>
 F (.inl ((aJ (s0.1+1)),y9.aa.change,y9.now,y9.br,y9.aa.aC,y9.aa.off,y9.ae,y9.av,y9.ak,y9.aL,y9.skip)))
 (F (.inl ((aJ (s0.1+1)),s0.2.1,s0.2.2.1,s0.2.2.2.1,s0.2.2.2.2.1,s0.2.2.2.2.2.1,s0.2.2.2.2.2.2.1,s0.2.2.2.2.2.2.2.1,s0.2.2.2.2.2.2.2.2.1,s0.2.2.2.2.2.2.2.2.2.1,s0.2.2.2.2.2.2.2.2.2.2))))
 (F (.inr (s0.2.1,s0.2.2.1,s0.2.2.2.1,s0.2.2.2.2.1,s0.2.2.2.2.2.1,s0.2.2.2.2.2.2.1,s0.2.2.2.2.2.2.2.1,s0.2.2.2.2.2.2.2.2.1,s0.2.2.2.2.2.2.2.2.2.1,s0.2.2.2.2.2.2.2.2.2.2)))
instance (t:S):bm (fD t):=⟨λs0=>(U 3 (.be 0 0 0::.be 1 0 0::.un::.be 2 0 0::V s0.1::(U 63 []))),λs0=>[F ⟨.of 48,2,[[V t.bq,V t.day]]⟩,F ⟨.of 33,10,[zg]⟩,F ⟨.of 33,10,[[.ms 3,.ms 4,V s0.2.1,.ms 5,.ms 6,.ms 7,V s0.2.2.1,.ms 8,.ms 9,V s0.2.2.2.1]]⟩,F ⟨.of 101,6,s0.2.2.2.2.1.map cY⟩,F ⟨.of 3,1,s0.2.2.2.2.2.1.map aW⟩,F ⟨.of 63,11,s0.2.2.2.2.2.2.1.map bx⟩,F ⟨.of 50,4,s0.2.2.2.2.2.2.2.1.map aG⟩,F ⟨.of 48,2,s0.2.2.2.2.2.2.2.2.1.map bg⟩,F ⟨.of 89,6,s0.2.2.2.2.2.2.2.2.2.1.map bA⟩,F ⟨.of 3,1,s0.2.2.2.2.2.2.2.2.2.2.map aW⟩]⟩
def dB(w:aw)(t:S):W (aw×Bool):=
 K (fq w) λy1=>
 K (gH w) λy2=>
 M (!y2)
 (F (y1,Zf))
 (K (eI w.aa t) λy3=>
 M (!y3)
 (F (y1,Zf))
 (K (bp w.aa t) λy4=>
 M (R (y4<=w.now))
 (F (y1,Zf))
 (K (dZ w.ak t) λy5=>
 M y5
 (F (y1,Zf))
 (M (R (20<=(T w.ak:E)))
 (F (y1,Zf))
 (K (cf (bn (T (y1.ak:C S)+T ([t]:C S)) 16)) λ_=>
 (aB (fD t) NN (0,y1.aa.change,y1.now,y1.br,y1.aa.aC,y1.aa.off,y1.ae,y1.av,((y1.ak:C S)++[t]),y1.aL,y1.skip)).bind (λo0=>
 F ((⟨(⟨o0.2.2.2.1,o0.2.2.2.2.1,o0.1⟩:ab),o0.2.2.2.2.2.1,o0.2.2.2.2.2.2.1,o0.2.2.2.2.2.2.2.1,o0.2.1,o0.2.2.2.2.2.2.2.2.1,o0.2.2.2.2.2.2.2.2.2,o0.2.2.1⟩:aw),X)))))))
instance (w:aw)(t:S):CT prog (dB w t):=⟨148,[.ag (cL w),.ag (bg t)],[],λr=>.tu [.ag [.ms 0,.ms 1,V r.1.aa.change,.ms 2,.ms 3,.ms 4,V r.1.now,.ms 5,.ms 6,V r.1.br],vb r.2],λr=>[F ⟨.of 101,6,r.1.aa.aC.map cY⟩,F ⟨.of 3,1,r.1.aa.off.map aW⟩,F ⟨.of 63,11,r.1.ae.map bx⟩,F ⟨.of 50,4,r.1.av.map aG⟩,F ⟨.of 48,2,r.1.ak.map bg⟩,F ⟨.of 89,6,r.1.aL.map bA⟩,F ⟨.of 3,1,r.1.skip.map aW⟩],cw (dB.eq_1 ..) func148 ntmps148 results148⟩
def dA(y2:(C E))(s0:E×E×E×E×(C bP)×(C E)×(C ay)×(C aq)×(C S)×(C aI)×(C E)):W ((E×E×E×E×(C bP)×(C E)×(C ay)×(C aq)×(C S)×(C aI)×(C E))⊕(E×E×E×(C bP)×(C E)×(C ay)×(C aq)×(C S)×(C aI)×(C E))):=
 M (R (s0.1<(T y2:E)))
 (K (az y2 s0.1) λy3=>
 K (bw [1,2,3,4,5,6,7,8]) λ_=>
 K (ey (⟨(⟨s0.2.2.2.2.1,s0.2.2.2.2.2.1,s0.2.1⟩:ab),s0.2.2.2.2.2.2.1,s0.2.2.2.2.2.2.2.1,s0.2.2.2.2.2.2.2.2.1,s0.2.2.1,s0.2.2.2.2.2.2.2.2.2.1,s0.2.2.2.2.2.2.2.2.2.2,s0.2.2.2.1⟩:aw) (aJ (y3-1))) λy4=>
 F (.inl ((aJ (s0.1+1)),y4.aa.change,y4.now,y4.br,y4.aa.aC,y4.aa.off,y4.ae,y4.av,y4.ak,y4.aL,y4.skip)))
 (F (.inr (s0.2.1,s0.2.2.1,s0.2.2.2.1,s0.2.2.2.2.1,s0.2.2.2.2.2.1,s0.2.2.2.2.2.2.1,s0.2.2.2.2.2.2.2.1,s0.2.2.2.2.2.2.2.2.1,s0.2.2.2.2.2.2.2.2.2.1,s0.2.2.2.2.2.2.2.2.2.2)))
instance (y2:(C E)):bm (dA y2):=⟨λs0=>(.un::.un::.be 0 0 0::.un::.be 1 0 0::.ms 9::V s0.1::(U 23 [])),λs0=>[F ⟨.of 33,10,[zg]⟩,F ⟨.of 33,10,[[.ms 2,.ms 3,V s0.2.1,.ms 4,.ms 5,.ms 6,V s0.2.2.1,.ms 7,.ms 8,V s0.2.2.2.1]]⟩,F ⟨.of 101,6,s0.2.2.2.2.1.map cY⟩,F ⟨.of 3,1,s0.2.2.2.2.2.1.map aW⟩,F ⟨.of 63,11,s0.2.2.2.2.2.2.1.map bx⟩,F ⟨.of 50,4,s0.2.2.2.2.2.2.2.1.map aG⟩,F ⟨.of 48,2,s0.2.2.2.2.2.2.2.2.1.map bg⟩,F ⟨.of 89,6,s0.2.2.2.2.2.2.2.2.2.1.map bA⟩,F ⟨.of 3,1,s0.2.2.2.2.2.2.2.2.2.2.map aW⟩,F ⟨.of 3,1,y2.map aW⟩]⟩
def dv(w:aw):W (aw×E):=
 K (fq w) λy1=>
 K (gA w) λy2=>
 (aB (dA y2) NN (0,y1.aa.change,y1.now,y1.br,y1.aa.aC,y1.aa.off,y1.ae,y1.av,y1.ak,y1.aL,y1.skip)).bind (λo0=>
 K (gA (⟨(⟨o0.2.2.2.1,o0.2.2.2.2.1,o0.1⟩:ab),o0.2.2.2.2.2.1,o0.2.2.2.2.2.2.1,o0.2.2.2.2.2.2.2.1,o0.2.1,o0.2.2.2.2.2.2.2.2.1,o0.2.2.2.2.2.2.2.2.2,o0.2.2.1⟩:aw)) λy5=>
 F ((⟨(⟨o0.2.2.2.1,o0.2.2.2.2.1,o0.1⟩:ab),o0.2.2.2.2.2.1,o0.2.2.2.2.2.2.1,o0.2.2.2.2.2.2.2.1,o0.2.1,o0.2.2.2.2.2.2.2.2.1,o0.2.2.2.2.2.2.2.2.2,o0.2.2.1⟩:aw),(aJ ((T y2:E)-(T y5:E)))))
instance (w:aw):CT prog (dv w):=⟨149,[.ag (cL w)],[],λr=>.tu [.ag [.ms 0,.ms 1,V r.1.aa.change,.ms 2,.ms 3,.ms 4,V r.1.now,.ms 5,.ms 6,V r.1.br],V r.2],λr=>[F ⟨.of 101,6,r.1.aa.aC.map cY⟩,F ⟨.of 3,1,r.1.aa.off.map aW⟩,F ⟨.of 63,11,r.1.ae.map bx⟩,F ⟨.of 50,4,r.1.av.map aG⟩,F ⟨.of 48,2,r.1.ak.map bg⟩,F ⟨.of 89,6,r.1.aL.map bA⟩,F ⟨.of 3,1,r.1.skip.map aW⟩],cw (dv.eq_1 ..) func149 ntmps149 results149⟩
def j7(o:aD)(a:bk):W (E×aD):=
 K (bh a.order 1 (T o.aK:E)) λy1=>
 M (!y1)
 (F (4,o))
 (K (pX o.lines a.order a.bE o.world.now) λy2=>
 M (R (a.kind=6))
 (K (az o.world.ae (aJ (a.order-1))) λy3=>
 M (!decide (y3.state=3))
 (F (4,o))
 (K (mj o.lines a.order y3.fc y3.bK o.aU o.world.now) λy4=>
 M (!decide (y4.2=0))
 (F (4,o))
 (F (0,(⟨o.world,o.bb,o.bd,o.aU,o.aK,y4.1,o.aF⟩:aD)))))
 (M (!decide (y2.2=0))
 (F (4,o))
 (F (0,(⟨o.world,o.bb,o.bd,o.aU,o.aK,y2.1,o.aF⟩:aD)))))
instance (o:aD)(a:bk):CT prog (j7 o a):=⟨146,[.be 0 0 0,.ag (fQ a)],[F ⟨.of 40,16,[[.sl (o.world.aa.aC.map cY),.sl (o.world.aa.off.map aW),V o.world.aa.change,.sl (o.world.ae.map bx),.sl (o.world.av.map aG),.sl (o.world.ak.map bg),V o.world.now,.sl (o.world.aL.map bA),.sl (o.world.skip.map aW),V o.world.br,.ms 1,.ms 2,.ms 3,.ms 4,.ms 5,.ms 6]]⟩,F ⟨.of 124,2,o.bb.map dV⟩,F ⟨.of 127,4,o.bd.map dK⟩,F ⟨.of 3,1,o.aU.map aW⟩,F ⟨.of 58,7,o.aK.map cd⟩,F ⟨.of 82,4,o.lines.map bV⟩,F ⟨.of 60,13,o.aF.map fQ⟩],λr=>V r.1,λr=>[F ⟨.of 40,16,[[.sl (r.2.world.aa.aC.map cY),.sl (r.2.world.aa.off.map aW),V r.2.world.aa.change,.sl (r.2.world.ae.map bx),.sl (r.2.world.av.map aG),.sl (r.2.world.ak.map bg),V r.2.world.now,.sl (r.2.world.aL.map bA),.sl (r.2.world.skip.map aW),V r.2.world.br,.ms 1,.ms 2,.ms 3,.ms 4,.ms 7,.ms 6]]⟩,F ⟨.of 124,2,r.2.bb.map dV⟩,F ⟨.of 127,4,r.2.bd.map dK⟩,F ⟨.of 3,1,r.2.aU.map aW⟩,F ⟨.of 58,7,r.2.aK.map cd⟩,Zd,F ⟨.of 60,13,r.2.aF.map fQ⟩,F ⟨.of 82,4,r.2.lines.map bV⟩],cw (j7.eq_1 ..) func146 ntmps146 results146⟩
end Go.Proofs.YtbjbellffaenaaaGreatDoor
namespace Go.Proofs.YtbjbellffaenaaaGreatDoor
open Go.RowKit Go.Sort
variable {a:bk}{n:E}{p:aP}
theorem UA{l:bt}(h3:l.aZ.size<=uY)(h:cU l=F X)(n0:0<=n)(n1:n<=99)(f1:eu l=F (G (yF l n))):
 kB (G (yF l n))=F (l,X):=by
 obtain⟨r1,r2⟩:=De h;obtain⟨hs,_⟩:=tw h;have hl3:T l.aZ.data.toList=3:=by simp_all
 have e1:=Zkw (n:=l.ax) J J;have e9:T (sq l.bU 9)=9:=SH (n:=l.bU) (k:=8) J J;have e2:T (sq n 2)=2:=SH (n:=n) (k:=1) n0 J;have hT:yF l n=[Xm (48+l.ax.toNat)]++sq l.bU 9++l.aZ.data.toList++sq n 2:=by unfold yF vM;rw[e1]
 have xh:(G (yF l n)).size=15:=by rw[bM,hT];simp_all
 have x1:(G (yF l n)).extract 0 1=G [Xm (48+l.ax.toNat)]:=by
  rw[hT];have:=P7 (a:=[]) (b:=[Xm (48+l.ax.toNat)]) (c:=sq l.bU 9++l.aZ.data.toList++sq n 2) (i:=0) (j:=1) rfl rfl
  simp_all
 have x2:(G (yF l n)).extract 1 10=G (sq l.bU 9):=by
  rw[hT];have:=P7 (a:=[Xm (48+l.ax.toNat)]) (b:=sq l.bU 9) (c:=l.aZ.data.toList++sq n 2) (i:=1) (j:=10) rfl J
  simp_all
 have x3:(G (yF l n)).extract 10 13=l.aZ:=by
  rw[hT];have:=P7 (a:=[Xm (48+l.ax.toNat)]++sq l.bU 9) (b:=l.aZ.data.toList) (c:=sq n 2) (i:=10) (j:=13) YG J
  rwa[zb]at this
 have s1:((48+l.ax.toNat:Nat):E)=48+l.ax:=J;have u1:(Xm (48+l.ax.toNat)).toNat=48+l.ax.toNat:=by rw[UInt8.toNat_ofNat'];omega
 have a1:Lib.atoiAll (G [Xm (48+l.ax.toNat)]).data.toList=.ok l.ax:=by rw[zd,<-e1];exact Iw J J
 have a2:Lib.atoiAll (G (sq l.bU 9)).data.toList=.ok l.bU:=by
  rw[zd,Zd6 (u:=l.bU.toNat) (λe=>by simp_all) (Zfy J) (U3 J J) J]
  grind
 unfold kB
 simp_all
theorem QV(h:Fm p n):kp (G (rO p n))=F (p,X):=by
 obtain⟨x,y,z,hs,hx,hy,hz⟩:=h.sd;have hl:=Jc h;have r1:=UA (by have:=h.to3;unfold uY;omega) h.lab h.n0 h.n1 h.fli
 have hw:=h.w;have hv:=h.v;have Ax:T (sX p.bJ)<=1000:=by
  unfold rO at hl
  grind
 have sp:=QT h;have ss:ll 120 (sX p.bJ)=[Lib.itoa x,Lib.itoa y,Lib.itoa z]:=by rw[hs];exact OV J J J
 have hft:=zb p.ar;have e1:=Hl (c:=32) (L:=rO p n) J;have e2:=Hl (c:=120) (L:=sX p.bJ) J;rw[sp]at e1
 rw[ss]at e2
 have it:∀a b c d e,aB (kE a b c d e [G (Lib.itoa x),G (Lib.itoa y),G (Lib.itoa z)]) NN (0,[])=F [x,y,z]:=by
  intro a b c d e;refine BR (n:=4) ?_ YF;rw[Dd (s':=(1,[x])),Dd (s':=(2,[x,y])),Dd (s':=(3,[x,y,z])),Su (o:=[x,y,z])]
  all_goals unfold kE
  ·rfl
  ·simp only[show R ((2:E)<(T ([G (Lib.itoa x),G (Lib.itoa y),G (Lib.itoa z)]:C D):E))=X from rfl,Yw,show az [G (Lib.itoa x),G (Lib.itoa y),G (Lib.itoa z)] 2=F (G (Lib.itoa z))from rfl,N,sO (n:=z) ⟨J,J⟩,Zhk (a:=[x,y]) (b:=[z]) YE,w3'];rfl
  ·simp only[show R ((1:E)<(T ([G (Lib.itoa x),G (Lib.itoa y),G (Lib.itoa z)]:C D):E))=X from rfl,Yw,show az [G (Lib.itoa x),G (Lib.itoa y),G (Lib.itoa z)] 1=F (G (Lib.itoa y))from rfl,N,sO (n:=y) ⟨J,J⟩,Zhk (a:=[x]) (b:=[y]) YE,w2'];rfl
  ·simp only[show R ((0:E)<(T ([G (Lib.itoa x),G (Lib.itoa y),G (Lib.itoa z)]:C D):E))=X from rfl,Yw,show az [G (Lib.itoa x),G (Lib.itoa y),G (Lib.itoa z)] 0=F (G (Lib.itoa x))from rfl,N,sO (n:=x) ⟨J,J⟩,Zhk (a:=[]) (b:=[x]) YE,w1'];rfl
 have gL:R (G (rO p n)=⟨#[]⟩)=false:=Yt λe=>by
  have:=congrArg ByteArray.size e;rw[bM]at this
  have h2:T (rO p n)=0:=this;unfold rO at h2
  grind
 unfold kp;rw[show(⟨#[32]⟩:D)=G [32]from rfl,show(⟨#[120]⟩:D)=G [120]from rfl,e1];simp only[WM,List.map_nil,N];simp only[show ∀a b c d e:D,R ((T ([a,b,c,d,e]:C D):E)=5)=X from λ_ _ _ _ _=>rfl,show ∀a b c d e:D,az [a,b,c,d,e] 0=F a from λ_ _ _ _ _=>rfl,show ∀a b c d e:D,az [a,b,c,d,e] 1=F b from λ_ _ _ _ _=>rfl,show ∀a b c d e:D,az [a,b,c,d,e] 2=F c from λ_ _ _ _ _=>rfl,show ∀a b c d e:D,az [a,b,c,d,e] 3=F d from λ_ _ _ _ _=>rfl,show ∀a b c d e:D,az [a,b,c,d,e] 4=F e from λ_ _ _ _ _=>rfl,VX,Yx,N,r1,sO (n:=p.ah) ⟨J,J⟩,sO (n:=p.value) ⟨J,J⟩,e2,WM,List.map_nil,it,gL,hft]
 rw[<-hs];show(gY p).bind _=_;rw[h.fi];simp
inductive LZ:bk->Prop
 |take (p:aP) (n:E) (h:Fm p n):LZ ⟨1,p,0,0,0,⟨0,0⟩⟩
 |pay (o m:E) (h:1<=o/\o<=9999) (h2:1<=m/\m<=100000):LZ ⟨2,Y,o,m,0,⟨0,0⟩⟩
 |run (u:E) (h:0<=u/\u<=100000):LZ ⟨3,Y,0,0,u,⟨0,0⟩⟩
 |shut (l d:E) (h:0<=l/\l<=19) (h2:0<=d/\d<=60):LZ ⟨4,Y,0,0,0,⟨l,d⟩⟩
 |Zg4:LZ ⟨5,Y,0,0,0,⟨0,0⟩⟩
 |ZcW (o:E) (h:1<=o/\o<=9999):LZ ⟨6,Y,o,0,0,⟨0,0⟩⟩
theorem ZdR(h1:a.aM.label.aZ.size<=uY)(h2:a.aM.ar.size<=uY)(h3:T a.aM.bJ<NN)(h:bS a=F X):LZ a:=by
 obtain⟨e1,b1,qV⟩:=wX h1 h2 h3;obtain⟨k,p,o,m,u,t⟩:=a;obtain⟨lg,d⟩:=t;obtain⟨lb,fr,w,sd,v⟩:=p;simp only at h1 h2 h3 e1 qV
 have sv:=λb=>xH (a:=⟨k,⟨lb,fr,w,sd,v⟩,o,m,u,⟨lg,d⟩⟩) (b:=b) h3
 unfold bS at h
 simp only[nf,gV,e1,qV,cO,N]at h
 by_cases k1:k=1
 ·subst k1
  simp only[decide_true,Yw,N,bj,sv]at h
  cases b1 with
  |false=>cases h
  |true=>
   simp at h
   obtain⟨rfl,rfl,rfl,rfl,rfl⟩:=h;obtain⟨n,hn⟩:=QW h1 h2 h3 qV;exact .take _ n hn
 by_cases k2:k=2
 ·subst k2
  simp only[Wv,decide_true,decide_false,Yw,Yx,N,bj,sv,PT]at h
  cases ha:(R (1<=o)&&R (o<=9999))<;>rw[ha]at h
  ·cases h
  cases hb:(R (1<=m)&&R (m<=100000))<;>rw[hb]at h
  ·cases h
  simp at h ha hb
  obtain⟨⟨rfl,rfl,rfl,rfl,rfl⟩,rfl,rfl,rfl⟩:=h;exact .pay o m ha hb
 by_cases k3:k=3
 ·subst k3
  simp only[Wv,decide_true,decide_false,Yw,Yx,N,bj,sv,PT]at h
  cases ha:(R (0<=u)&&R (u<=100000))<;>rw[ha]at h
  ·cases h
  simp at h ha
  obtain⟨⟨rfl,rfl,rfl,rfl,rfl⟩,rfl,rfl,rfl,rfl⟩:=h;exact .run u ha
 by_cases k4:k=4
 ·subst k4
  simp only[Wv,decide_true,decide_false,Yw,Yx,N,bj,sv,PT]at h
  cases ha:(R (0<=lg)&&R (lg<=19))<;>rw[ha]at h
  ·cases h
  cases hb:(R (0<=d)&&R (d<=60))<;>rw[hb]at h
  ·cases h
  simp at h ha hb
  obtain⟨⟨rfl,rfl,rfl,rfl,rfl⟩,rfl,rfl,rfl⟩:=h;exact .shut lg d ha hb
 by_cases k5:k=5
 ·subst k5
  simp only[Wv,decide_true,decide_false,Yw,Yx,N,bj,sv,PT]at h
  simp at h
  obtain⟨⟨rfl,rfl,rfl,rfl,rfl⟩,rfl,rfl,rfl,rfl,rfl⟩:=h;exact .Zg4
 by_cases k6:k=6
 ·subst k6
  simp only[Wv,decide_true,decide_false,Yw,Yx,N,bj,sv,PT]at h
  cases ha:(R (1<=o)&&R (o<=9999))<;>rw[ha]at h
  ·cases h
  simp at h ha
  obtain⟨⟨rfl,rfl,rfl,rfl,rfl⟩,rfl,rfl,rfl,rfl⟩:=h;exact .ZcW o ha
 grind
theorem dtx(a b:C O):R (G a=(⟨b.toArray⟩:D))=R (a=b):=by
 rw[decide_eq_decide];exact⟨λh=>by have:=congrArg (λx:D=>x.data.toList) h;simpa[G]using this,λh=>by rw[h];rfl⟩
structure RTi(a:bk)(s:D):Prop where
 fi:bN a=F s
 fs:dC a=F s
 ne:R (s=⟨#[]⟩)=Zf
 nl:(10:O) ∉ s.data.toList
 len:s.size<=1100
 pi:eV s=F (a,X)
theorem nlT{l:C O}(h:(10:O) ∉ l):(10:O) ∉ (G l).data.toList:=by simpa[G]using h
theorem VA(hi:bS ⟨5,Y,0,0,0,⟨0,0⟩⟩=F X)(hs:fM ⟨5,Y,0,0,0,⟨0,0⟩⟩=F X):∃s,RTi ⟨5,Y,0,0,0,⟨0,0⟩⟩ s:=by
 have f1:bN ⟨5,Y,0,0,0,⟨0,0⟩⟩=F (G [114,101,116,114,121]):=by
  unfold bN;rw[hi];rfl
 have f2:dC ⟨5,Y,0,0,0,⟨0,0⟩⟩=F (G [114,101,116,114,121]):=by
  unfold dC;rw[hs];rfl
 have ne:R (G [114,101,116,114,121]=⟨#[]⟩)=false:=by rfl
 refine⟨G [114,101,116,114,121],f1,f2,ne,nlT Z,by rw[bM];decide,?_⟩
 ·have e1:=Zep (c:=32) (a:=[114,101,116,114,121]) Z Z
  unfold eV;rw[show(⟨#[32]⟩:D)=G [32]from rfl,e1];simp only[nf,N,dtx,bj,ne]
  grind
theorem Zf2{o m:E}(h:1<=o/\o<=9999)(h2:1<=m/\m<=100000)(hi:bS ⟨2,Y,o,m,0,⟨0,0⟩⟩=F X)(hs:fM ⟨2,Y,o,m,0,⟨0,0⟩⟩=F X):∃s,RTi ⟨2,Y,o,m,0,⟨0,0⟩⟩ s:=by
 have et:∀l:C O,(⟨l.toArray⟩:D)=G l:=λ_=>rfl
 have l0:=im (n:=o) (fz J);have l1:=im (n:=m) (fz J);have f1:bN ⟨2,Y,o,m,0,⟨0,0⟩⟩=F (G ([112,97,121]++32::(Lib.itoa o++32::Lib.itoa m))):=by
  unfold bN;simp only[hi,N,VX,Yx,Wv,decide_true,decide_false,Yw,et,jP,fI (n:=o) (fz J),fI (n:=m) (fz J)]
  repeat rw[TN YK,N]
  simp
 have f2:dC ⟨2,Y,o,m,0,⟨0,0⟩⟩=F (G ([112,97,121]++32::(Lib.itoa o++32::Lib.itoa m))):=by
  unfold dC;simp only[hs,N,VX,Yx,Wv,decide_true,decide_false,Yw,et,jP,fS (n:=o) (fz J),fS (n:=m) (fz J)]
  repeat rw[TN YK,N]
  simp
 have ne:R (G ([112,97,121]++32::(Lib.itoa o++32::Lib.itoa m))=⟨#[]⟩)=false:=by rfl
 refine⟨G ([112,97,121]++32::(Lib.itoa o++32::Lib.itoa m)),f1,f2,ne,nlT (by simp[iY (n:=o) J (c:=10) Z,iY (n:=m) J (c:=10) Z]),by rw[bM];grind,?_⟩
 ·have e1:=Ar (c:=32) (a:=[112,97,121]) (b:=(Lib.itoa o++32::Lib.itoa m)) Z YD
  unfold eV;rw[show(⟨#[32]⟩:D)=G [32]from rfl,e1];simp only[nf,N,dtx];rw[Ar (c:=32) (a:=Lib.itoa o) (b:=Lib.itoa m) (iY (n:=o) J (c:=32) Z) J];simp only[N,sO (n:=o) ⟨J,J⟩,sO (n:=m) ⟨J,J⟩,bj,ne]
  grind
theorem Zf3{u:E}(h:0<=u/\u<=100000)(hi:bS ⟨3,Y,0,0,u,⟨0,0⟩⟩=F X)(hs:fM ⟨3,Y,0,0,u,⟨0,0⟩⟩=F X):∃s,RTi ⟨3,Y,0,0,u,⟨0,0⟩⟩ s:=by
 have et:∀l:C O,(⟨l.toArray⟩:D)=G l:=λ_=>rfl
 have l0:=im (n:=u) (fz J);have f1:bN ⟨3,Y,0,0,u,⟨0,0⟩⟩=F (G ([114,117,110]++32::Lib.itoa u)):=by
  unfold bN;simp only[hi,N,VX,Yx,Wv,decide_true,decide_false,Yw,et,jP,fI (n:=u) (fz J)]
  repeat rw[TN YK,N]
  simp
 have f2:dC ⟨3,Y,0,0,u,⟨0,0⟩⟩=F (G ([114,117,110]++32::Lib.itoa u)):=by
  unfold dC;simp only[hs,N,VX,Yx,Wv,decide_true,decide_false,Yw,et,jP,fS (n:=u) (fz J)]
  repeat rw[TN YK,N]
  simp
 have ne:R (G ([114,117,110]++32::Lib.itoa u)=⟨#[]⟩)=false:=by rfl
 refine⟨G ([114,117,110]++32::Lib.itoa u),f1,f2,ne,nlT (by simp[iY (n:=u) J (c:=10) Z]),by rw[bM];grind,?_⟩
 ·have e1:=Ar (c:=32) (a:=[114,117,110]) (b:=Lib.itoa u) Z YD
  unfold eV;rw[show(⟨#[32]⟩:D)=G [32]from rfl,e1];simp only[nf,N,dtx];simp only[N,sO (n:=u) ⟨J,J⟩,bj,ne]
  grind
theorem Rq{o:E}(h:1<=o/\o<=9999)(hi:bS ⟨6,Y,o,0,0,⟨0,0⟩⟩=F X)(hs:fM ⟨6,Y,o,0,0,⟨0,0⟩⟩=F X):∃s,RTi ⟨6,Y,o,0,0,⟨0,0⟩⟩ s:=by
 have et:∀l:C O,(⟨l.toArray⟩:D)=G l:=λ_=>rfl
 have l0:=im (n:=o) (fz J);have f1:bN ⟨6,Y,o,0,0,⟨0,0⟩⟩=F (G ([114,101,102,117,110,100]++32::Lib.itoa o)):=by
  unfold bN;simp only[hi,N,VX,Yx,Wv,decide_true,decide_false,Yw,et,jP,fI (n:=o) (fz J)]
  repeat rw[TN YK,N]
  simp
 have f2:dC ⟨6,Y,o,0,0,⟨0,0⟩⟩=F (G ([114,101,102,117,110,100]++32::Lib.itoa o)):=by
  unfold dC;simp only[hs,N,VX,Yx,Wv,decide_true,decide_false,Yw,et,jP,fS (n:=o) (fz J)]
  repeat rw[TN YK,N]
  simp
 have ne:R (G ([114,101,102,117,110,100]++32::Lib.itoa o)=⟨#[]⟩)=false:=by rfl
 refine⟨G ([114,101,102,117,110,100]++32::Lib.itoa o),f1,f2,ne,nlT (by simp[iY (n:=o) J (c:=10) Z]),by rw[bM];simp only[V5,V0,V2];omega,?_⟩
 ·have e1:=Ar (c:=32) (a:=[114,101,102,117,110,100]) (b:=Lib.itoa o) Z YL
  unfold eV;rw[show(⟨#[32]⟩:D)=G [32]from rfl,e1];simp only[nf,N,dtx];simp only[N,sO (n:=o) ⟨J,J⟩,bj,ne]
  grind
theorem Zdb{l d:E}(h:0<=l/\l<=19)(h2:0<=d/\d<=60)(hi:bS ⟨4,Y,0,0,0,⟨l,d⟩⟩=F X)(hs:fM ⟨4,Y,0,0,0,⟨l,d⟩⟩=F X):∃s,RTi ⟨4,Y,0,0,0,⟨l,d⟩⟩ s:=by
 have et:∀l:C O,(⟨l.toArray⟩:D)=G l:=λ_=>rfl
 have l0:=im (n:=l) (fz J);have l1:=im (n:=d) (fz J);have tt:pT ⟨l,d⟩=F (G (Lib.itoa l++47::Lib.itoa d)):=by
  unfold pT;simp only[fI (n:=l) (fz J),fI (n:=d) (fz J),N,et,jP]
  repeat rw[TN YK,N]
  simp
 have hn:(32:O) ∉ Lib.itoa l++47::Lib.itoa d:=by
  have a:=iY (n:=l) J (c:=32) Z;have b:=iY (n:=d) J (c:=32) Z
  simp_all
 have hq:=iY (n:=l) J (c:=47) Z;have hq2:=iY (n:=d) J (c:=47) Z;have f1:bN ⟨4,Y,0,0,0,⟨l,d⟩⟩=F (G ([115,104,117,116]++32::(Lib.itoa l++47::Lib.itoa d))):=by
  unfold bN;simp only[hi,N,VX,Yx,Wv,decide_true,decide_false,Yw,et,jP,tt]
  repeat rw[TN YK,N]
  simp
 have f2:dC ⟨4,Y,0,0,0,⟨l,d⟩⟩=F (G ([115,104,117,116]++32::(Lib.itoa l++47::Lib.itoa d))):=by
  unfold dC;simp only[hs,N,VX,Yx,Wv,decide_true,decide_false,Yw,et,jP,fS (n:=l) (fz J),fS (n:=d) (fz J)]
  repeat rw[TN YK,N]
  simp
 have ne:R (G ([115,104,117,116]++32::(Lib.itoa l++47::Lib.itoa d))=⟨#[]⟩)=false:=by rfl
 refine⟨G ([115,104,117,116]++32::(Lib.itoa l++47::Lib.itoa d)),f1,f2,ne,nlT (by simp[iY (n:=l) J (c:=10) Z,iY (n:=d) J (c:=10) Z]),by rw[bM];grind,?_⟩
 ·have e1:=Ar (c:=32) (a:=[115,104,117,116]) (b:=(Lib.itoa l++47::Lib.itoa d)) Z YD
  unfold eV;rw[show(⟨#[32]⟩:D)=G [32]from rfl,e1];simp only[nf,N,dtx];have rt:pR (G (Lib.itoa l++47::Lib.itoa d))=F (⟨l,d⟩,X):=by
   unfold pR;rw[show(⟨#[47]⟩:D)=G [47]from rfl,Ar (c:=47) hq J];simp only[N,sO (n:=l) ⟨J,J⟩,sO (n:=d) ⟨J,J⟩,Yw]
  grind
theorem Zcz(g:Fm p n):(10:O) ∉ rO p n:=by
 obtain⟨x,y,z,hs,hx,hy,hz⟩:=g.sd;have a:=E4 (Sv g.lab g.n0) (c:=10) Z;have b:=E4 g.fr.2 (c:=10) Z;have c:=iY (n:=p.ah) (by have:=g.w;omega) (c:=10) Z
 have d:=iY (n:=p.value) (by have:=g.v;omega) (c:=10) Z
 have e:=iY (n:=x) J (c:=10) Z;have f:=iY (n:=y) J (c:=10) Z;have h:=iY (n:=z) J (c:=10) Z;have k:(10:O) ∉ sX p.bJ:=by rw[hs];unfold sX;simp_all
 unfold rO
 simp_all
theorem Zdc(g:Fm p n)(hi:bS ⟨1,p,0,0,0,⟨0,0⟩⟩=F X)(hs:fM ⟨1,p,0,0,0,⟨0,0⟩⟩=F X):∃s,RTi ⟨1,p,0,0,0,⟨0,0⟩⟩ s:=by
 have et:∀l:C O,(⟨l.toArray⟩:D)=G l:=λ_=>rfl
 have hl:=Jc g;have r1:=QV g;have f1:bN ⟨1,p,0,0,0,⟨0,0⟩⟩=F (G ([116,97,107,101]++32::rO p n)):=by
  unfold bN;simp only[hi,N,VX,Yx,Wv,decide_true,decide_false,Yw,et,jP,g.fi]
  repeat rw[TN YK,N]
  simp
 have f2:dC ⟨1,p,0,0,0,⟨0,0⟩⟩=F (G ([116,97,107,101]++32::rO p n)):=by
  unfold dC;simp only[hs,N,VX,Yx,Wv,decide_true,decide_false,Yw,et,jP,g.fs]
  repeat rw[TN YK,N]
  simp
 have ne:R (G ([116,97,107,101]++32::rO p n)=⟨#[]⟩)=false:=by rfl
 refine⟨G ([116,97,107,101]++32::rO p n),f1,f2,ne,nlT (by simp[Zcz g]),by rw[bM];grind,?_⟩
 ·have e1:=Ar (c:=32) (a:=[116,97,107,101]) (b:=rO p n) Z YD
  unfold eV;rw[show(⟨#[32]⟩:D)=G [32]from rfl,e1];simp only[nf,N,dtx];simp only[N,r1,bj,ne];simp[f1,bj]
theorem ZdS(hF:LZ a)(hi:bS a=F X)(hs:fM a=F X):∃s,RTi a s:=by
 cases hF with
 |take p n h=>exact Zdc h hi hs
 |pay o m h h2=>exact Zf2 h h2 hi hs
 |run u h=>exact Zf3 h hi hs
 |shut l d h h2=>exact Zdb h h2 hi hs
 |Zg4=>exact VA hi hs
 |ZcW o h=>exact Rq h hi hs
