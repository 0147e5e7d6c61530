/- A part of the proof of this claim's last theorem. No condition. -/
import Derived.Test.YtbjbellffaenaaaGreatDoorCT10
import Derived.Test.YtbjbellffaenaaaGreatDoorCT5
import Derived.Test.YtbjbellffaenaaaGreatDoorCT9
import Derived.Test.YtbjbellffaenaaaGreatDoorCT7
import Derived.Test.YtbjbellffaenaaaGreatDoorCT8
set_option linter.all false
set_option maxRecDepth 10000
open Option renaming some->o,none->Zd
open Bool renaming true->Ze,false->Zf
open Decidable renaming decide->F
open List renaming length->G
open Option renaming bind->C
open _root_ renaming ByteArray->g,List->d,Option->z,cond->u
open Go.Proofs.YtbjbellffaenaaaGreatDoor renaming aG->R,aI->W,aJ->D,aT->M,aW->K,ab->E,aq->L,az->J,bP->O,bg->N,bl->V,bw->X,cw->Z,vi->y,vs->Y
open Go.Proofs.Tryz
set_option maxHeartbeats 40000000
namespace Go.Proofs.YtbjbellffaenaaaGreatDoor
open _root_.Int renaming toNat->Wg,tmod->XH,tdiv->Xf
open BitVec renaming ofInt->Wf
open Go.RowKit
def gg(w:aw)(s:W):z aw:=
 C (rL w.skip (if 1000000000<(D (w.br+1))then 1000000000 else(D (w.br+1)))) λy1=>
 u (!y1)
 (u (F ((G w.aL:Int)<200))
 (C (cf (bn (G (w.aL:d W)+G ([s]:d W)) 56)) λ_=>
 o (⟨w.aa,w.ae,w.av,w.ak,w.now,((w.aL:d W)++[s]),w.skip,(if 1000000000<(D (w.br+1))then 1000000000 else(D (w.br+1)))⟩:aw))
 (o (⟨w.aa,w.ae,w.av,w.ak,w.now,w.aL,w.skip,(if 1000000000<(D (w.br+1))then 1000000000 else(D (w.br+1)))⟩:aw)))
 (o (⟨w.aa,w.ae,w.av,w.ak,w.now,w.aL,w.skip,(if 1000000000<(D (w.br+1))then 1000000000 else(D (w.br+1)))⟩:aw))
instance (w:aw)(s:W):CT prog (gg w s):=⟨178,[.be 0 0 0,.ag (bA s)],[o ⟨.of 33,10,[[.ms 1,.ms 2,y w.aa.change,.ms 3,.ms 4,.ms 5,y w.now,.ms 6,.ms 7,y w.br]]⟩,o ⟨.of 101,6,w.aa.aC.map cY⟩,o ⟨.of 3,1,w.aa.off.map K⟩,o ⟨⟨63,o 48⟩,11,w.ae.map bx⟩,o ⟨.of 50,4,w.av.map R⟩,o ⟨.of 48,2,w.ak.map N⟩,o ⟨.of 89,6,w.aL.map bA⟩,o ⟨.of 3,1,w.skip.map K⟩],λr=>.tu [],λr=>[o ⟨.of 33,10,[[.ms 1,.ms 2,y r.aa.change,.ms 3,.ms 4,.ms 5,y r.now,.ms 8,.ms 7,y r.br]]⟩,o ⟨.of 101,6,r.aa.aC.map cY⟩,o ⟨.of 3,1,r.aa.off.map K⟩,o ⟨⟨63,o 48⟩,11,r.ae.map bx⟩,o ⟨.of 50,4,r.av.map R⟩,o ⟨.of 48,2,r.ak.map N⟩,Zd,o ⟨.of 3,1,r.skip.map K⟩,o ⟨.of 89,6,r.aL.map bA⟩],ck (gg.eq_1 ..) func178 ntmps178 results178⟩
def iP(w:aw)(gB:Int)(s0:Int×Int×Int×Int×(d O)×(d Int)×(d ay)×(d L)×(d au)×(d Int)×(d W)):z ((Int×Int×Int×Int×(d O)×(d Int)×(d ay)×(d L)×(d au)×(d Int)×(d W))⊕(Int×Int×Int×(d O)×(d Int)×(d ay)×(d L)×(d au)×(d Int)×(d W))):=
 u (F (s0.1<(G w.ae:Int)))
 (C (J s0.2.2.2.2.2.2.1 s0.1) λy1=>
 u (!decide (y1.state=2))
 (o (.inl ((D (s0.1+1)),s0.2.1,s0.2.2.1,s0.2.2.2.1,s0.2.2.2.2.1,s0.2.2.2.2.2.1,s0.2.2.2.2.2.2.1,s0.2.2.2.2.2.2.2.1,s0.2.2.2.2.2.2.2.2.1,s0.2.2.2.2.2.2.2.2.2.1,s0.2.2.2.2.2.2.2.2.2.2)))
 (C (J y1.aE y1.aH) λy2=>
 C (cE (⟨s0.2.2.2.2.1,s0.2.2.2.2.2.1,w.aa.change⟩:E) y2) λy3=>
 u (!decide (y3=gB))
 (o (.inl ((D (s0.1+1)),s0.2.1,s0.2.2.1,s0.2.2.2.1,s0.2.2.2.2.1,s0.2.2.2.2.2.1,s0.2.2.2.2.2.2.1,s0.2.2.2.2.2.2.2.1,s0.2.2.2.2.2.2.2.2.1,s0.2.2.2.2.2.2.2.2.2.1,s0.2.2.2.2.2.2.2.2.2.2)))
 (C (zU s0.2.2.2.2.2.2.1 s0.1) λy4=>
 C (J y4.aE y4.aH) λy5=>
 C (zU s0.2.2.2.2.2.2.1 s0.1) λy6=>
 C (J s0.2.2.2.2.1 y5.bq) λy7=>
 C (zU s0.2.2.2.2.2.2.1 s0.1) λy8=>
 C (Ew (s0.2.2.2.2.2.2.1.set (Wg s0.1) (⟨y6.ar,y6.aZ,y6.ax,y6.ah,y6.aQ,y6.fc,y6.aE,(D (y6.aH+1)),1,y7.aZ,y6.bK⟩:ay)) (λy9=>(.be 0 0 0::y gB::.un::.un::.be 9 0 0::y s0.1::.be 3 (Wg s0.1) 0::.be 10 0 0::(U 10 (y (G w.ae:Int)::y s0.1::(U 167 []))))) (λy9=>[o ⟨.of 33,10,[[.ms 1,.ms 2,y s0.2.1,.ms 3,.ms 4,.ms 5,y s0.2.2.1,.ms 8,.ms 7,y s0.2.2.2.1]]⟩,o ⟨.of 101,6,s0.2.2.2.2.1.map cY⟩,o ⟨.of 3,1,s0.2.2.2.2.2.1.map K⟩,o ⟨⟨63,o 48⟩,11,y9.map bx⟩,o ⟨.of 50,4,s0.2.2.2.2.2.2.2.1.map R⟩,o ⟨.of 48,2,s0.2.2.2.2.2.2.2.2.1.map N⟩,Zd,o ⟨.of 3,1,s0.2.2.2.2.2.2.2.2.2.1.map K⟩,o ⟨.of 89,6,s0.2.2.2.2.2.2.2.2.2.2.map bA⟩,o ⟨.of 27,3,[[.ms 1,.ms 2,y w.aa.change]]⟩,o ⟨.of 48,2,[[y y5.bq,y y5.day]]⟩])) λy9=>
 C (X [0,1,2,3,4,5,8,7]) λ_=>
 C (gg (⟨(⟨s0.2.2.2.2.1,s0.2.2.2.2.2.1,s0.2.1⟩:E),y9,s0.2.2.2.2.2.2.2.1,s0.2.2.2.2.2.2.2.2.1,s0.2.2.1,s0.2.2.2.2.2.2.2.2.2.2,s0.2.2.2.2.2.2.2.2.2.1,s0.2.2.2.1⟩:aw) (⟨(D (s0.1+1)),gB,2,⟨#[]⟩,y5⟩:W)) λdO=>
 C (zU dO.ae s0.1) λlJ=>
 u (F (lJ.place=lJ.aZ))
 (C (Ew (dO.ae.set (Wg s0.1) (⟨lJ.ar,lJ.aZ,lJ.ax,lJ.ah,lJ.aQ,lJ.fc,lJ.aE,lJ.aH,3,lJ.place,gB⟩:ay)) (λlA=>(.be 0 0 0::y gB::.un::.un::.be 9 0 0::y s0.1::.be 3 (Wg s0.1) 0::(U 11 (y (G w.ae:Int)::y s0.1::(U 167 []))))) (λlA=>[o ⟨.of 33,10,[[.ms 1,.ms 2,y dO.aa.change,.ms 3,.ms 4,.ms 5,y dO.now,.ms 8,.ms 7,y dO.br]]⟩,o ⟨.of 101,6,dO.aa.aC.map cY⟩,o ⟨.of 3,1,dO.aa.off.map K⟩,o ⟨⟨63,o 48⟩,11,lA.map bx⟩,o ⟨.of 50,4,dO.av.map R⟩,o ⟨.of 48,2,dO.ak.map N⟩,Zd,o ⟨.of 3,1,dO.skip.map K⟩,o ⟨.of 89,6,dO.aL.map bA⟩,o ⟨.of 27,3,[[.ms 1,.ms 2,y w.aa.change]]⟩])) λlA=>
 C (zU lA s0.1) λqi=>
 C (X [0,1,2,3,4,5,8,7]) λ_=>
 C (gg (⟨dO.aa,lA,dO.av,dO.ak,dO.now,dO.aL,dO.skip,dO.br⟩:aw) (⟨(D (s0.1+1)),gB,4,qi.place,(⟨0,0⟩:au)⟩:W)) λoY=>
 o (.inl ((D (s0.1+1)),oY.aa.change,oY.now,oY.br,oY.aa.aC,oY.aa.off,oY.ae,oY.av,oY.ak,oY.skip,oY.aL)))
 (o (.inl ((D (s0.1+1)),dO.aa.change,dO.now,dO.br,dO.aa.aC,dO.aa.off,dO.ae,dO.av,dO.ak,dO.skip,dO.aL))))))
 (o (.inr (s0.2.1,s0.2.2.1,s0.2.2.2.1,s0.2.2.2.2.1,s0.2.2.2.2.2.1,s0.2.2.2.2.2.2.1,s0.2.2.2.2.2.2.2.1,s0.2.2.2.2.2.2.2.2.1,s0.2.2.2.2.2.2.2.2.2.1,s0.2.2.2.2.2.2.2.2.2.2)))
instance (w:aw)(gB:Int):bm (iP w gB):=⟨λs0=>(.be 0 0 0::y gB::.un::.un::.be 9 0 0::(U 13 (y (G w.ae:Int)::y s0.1::(U 167 [])))),λs0=>[o ⟨.of 33,10,[[.ms 1,.ms 2,y s0.2.1,.ms 3,.ms 4,.ms 5,y s0.2.2.1,.ms 8,.ms 7,y s0.2.2.2.1]]⟩,o ⟨.of 101,6,s0.2.2.2.2.1.map cY⟩,o ⟨.of 3,1,s0.2.2.2.2.2.1.map K⟩,o ⟨⟨63,o 48⟩,11,s0.2.2.2.2.2.2.1.map bx⟩,o ⟨.of 50,4,s0.2.2.2.2.2.2.2.1.map R⟩,o ⟨.of 48,2,s0.2.2.2.2.2.2.2.2.1.map N⟩,Zd,o ⟨.of 3,1,s0.2.2.2.2.2.2.2.2.2.1.map K⟩,o ⟨.of 89,6,s0.2.2.2.2.2.2.2.2.2.2.map bA⟩,o ⟨.of 27,3,[[.ms 1,.ms 2,y w.aa.change]]⟩]⟩
def iQ(w:aw)(gB:Int)(o0:Int×Int×Int×(d O)×(d Int)×(d ay)×(d L)×(d au)×(d Int)×(d W))(s1:Int×Int×Int×Int×(d O)×(d Int)×(d ay)×(d L)×(d au)×(d Int)×(d W)):z ((Int×Int×Int×Int×(d O)×(d Int)×(d ay)×(d L)×(d au)×(d Int)×(d W))⊕(Int×Int×Int×(d O)×(d Int)×(d ay)×(d L)×(d au)×(d Int)×(d W))):=
 u (F (s1.1<(G o0.2.2.2.2.2.1:Int)))
 (C (J s1.2.2.2.2.2.2.1 s1.1) λrT=>
 u (F (rT.state=1))
 (u (F (rT.aH<(G rT.aE:Int)))
 (C (J rT.aE rT.aH) λpI=>
 C (ca (⟨s1.2.2.2.2.1,s1.2.2.2.2.2.1,w.aa.change⟩:E) pI) λtE=>
 u (F (tE=gB))
 (C (zU s1.2.2.2.2.2.2.1 s1.1) λxT=>
 C (Ew (s1.2.2.2.2.2.2.1.set (Wg s1.1) (⟨xT.ar,xT.aZ,xT.ax,xT.ah,xT.aQ,xT.fc,xT.aE,xT.aH,2,⟨#[]⟩,xT.bK⟩:ay)) (λzf=>(.be 0 0 0::y gB::.un::.un::.be 9 0 0::(U 3 (y s1.1::.be 3 (Wg s1.1) 0::(U 107 (y (G o0.2.2.2.2.2.1:Int)::y s1.1::(U 68 []))))))) (λzf=>[o ⟨.of 33,10,[[.ms 1,.ms 2,y s1.2.1,.ms 3,.ms 4,.ms 5,y s1.2.2.1,.ms 8,.ms 7,y s1.2.2.2.1]]⟩,o ⟨.of 101,6,s1.2.2.2.2.1.map cY⟩,o ⟨.of 3,1,s1.2.2.2.2.2.1.map K⟩,o ⟨⟨63,o 48⟩,11,zf.map bx⟩,o ⟨.of 50,4,s1.2.2.2.2.2.2.2.1.map R⟩,o ⟨.of 48,2,s1.2.2.2.2.2.2.2.2.1.map N⟩,Zd,o ⟨.of 3,1,s1.2.2.2.2.2.2.2.2.2.1.map K⟩,o ⟨.of 89,6,s1.2.2.2.2.2.2.2.2.2.2.map bA⟩,o ⟨.of 27,3,[[.ms 1,.ms 2,y w.aa.change]]⟩])) λzf=>
 C (rF 8 [15]) λ_=>
 C (zU zf s1.1) λFh=>
 C (J Fh.aE Fh.aH) λIp=>
 C (X [0,1,2,3,4,5,8,7]) λ_=>
 C (gg (⟨(⟨s1.2.2.2.2.1,s1.2.2.2.2.2.1,s1.2.1⟩:E),zf,s1.2.2.2.2.2.2.2.1,s1.2.2.2.2.2.2.2.2.1,s1.2.2.1,s1.2.2.2.2.2.2.2.2.2.2,s1.2.2.2.2.2.2.2.2.2.1,s1.2.2.2.1⟩:aw) (⟨(D (s1.1+1)),gB,3,⟨#[]⟩,Ip⟩:W)) λCw=>
 o (.inl ((D (s1.1+1)),Cw.aa.change,Cw.now,Cw.br,Cw.aa.aC,Cw.aa.off,Cw.ae,Cw.av,Cw.ak,Cw.skip,Cw.aL)))
 (o (.inl ((D (s1.1+1)),s1.2.1,s1.2.2.1,s1.2.2.2.1,s1.2.2.2.2.1,s1.2.2.2.2.2.1,s1.2.2.2.2.2.2.1,s1.2.2.2.2.2.2.2.1,s1.2.2.2.2.2.2.2.2.1,s1.2.2.2.2.2.2.2.2.2.1,s1.2.2.2.2.2.2.2.2.2.2))))
 (o (.inl ((D (s1.1+1)),s1.2.1,s1.2.2.1,s1.2.2.2.1,s1.2.2.2.2.1,s1.2.2.2.2.2.1,s1.2.2.2.2.2.2.1,s1.2.2.2.2.2.2.2.1,s1.2.2.2.2.2.2.2.2.1,s1.2.2.2.2.2.2.2.2.2.1,s1.2.2.2.2.2.2.2.2.2.2))))
 (o (.inl ((D (s1.1+1)),s1.2.1,s1.2.2.1,s1.2.2.2.1,s1.2.2.2.2.1,s1.2.2.2.2.2.1,s1.2.2.2.2.2.2.1,s1.2.2.2.2.2.2.2.1,s1.2.2.2.2.2.2.2.2.1,s1.2.2.2.2.2.2.2.2.2.1,s1.2.2.2.2.2.2.2.2.2.2))))
 (o (.inr (s1.2.1,s1.2.2.1,s1.2.2.2.1,s1.2.2.2.2.1,s1.2.2.2.2.2.1,s1.2.2.2.2.2.2.1,s1.2.2.2.2.2.2.2.1,s1.2.2.2.2.2.2.2.2.1,s1.2.2.2.2.2.2.2.2.2.1,s1.2.2.2.2.2.2.2.2.2.2)))
instance (w:aw)(gB:Int)(o0:Int×Int×Int×(d O)×(d Int)×(d ay)×(d L)×(d au)×(d Int)×(d W)):bm (iQ w gB o0):=⟨λs1=>(.be 0 0 0::y gB::.un::.un::.be 9 0 0::(U 112 (y (G o0.2.2.2.2.2.1:Int)::y s1.1::(U 68 [])))),λs1=>[o ⟨.of 33,10,[[.ms 1,.ms 2,y s1.2.1,.ms 3,.ms 4,.ms 5,y s1.2.2.1,.ms 8,.ms 7,y s1.2.2.2.1]]⟩,o ⟨.of 101,6,s1.2.2.2.2.1.map cY⟩,o ⟨.of 3,1,s1.2.2.2.2.2.1.map K⟩,o ⟨⟨63,o 48⟩,11,s1.2.2.2.2.2.2.1.map bx⟩,o ⟨.of 50,4,s1.2.2.2.2.2.2.2.1.map R⟩,o ⟨.of 48,2,s1.2.2.2.2.2.2.2.2.1.map N⟩,Zd,o ⟨.of 3,1,s1.2.2.2.2.2.2.2.2.2.1.map K⟩,o ⟨.of 89,6,s1.2.2.2.2.2.2.2.2.2.2.map bA⟩,o ⟨.of 27,3,[[.ms 1,.ms 2,y w.aa.change]]⟩]⟩
def nD(w:aw)(gB:Int):z aw:=
 (aB (iP w gB) NN (0,w.aa.change,w.now,w.br,w.aa.aC,w.aa.off,w.ae,w.av,w.ak,w.skip,w.aL)).bind (λo0=>
 (aB (iQ w gB o0) NN (0,o0.1,o0.2.1,o0.2.2.1,o0.2.2.2.1,o0.2.2.2.2.1,o0.2.2.2.2.2.1,o0.2.2.2.2.2.2.1,o0.2.2.2.2.2.2.2.1,o0.2.2.2.2.2.2.2.2.1,o0.2.2.2.2.2.2.2.2.2)).bind (λo1=>
 o (⟨(⟨o1.2.2.2.1,o1.2.2.2.2.1,o1.1⟩:E),o1.2.2.2.2.2.1,o1.2.2.2.2.2.2.1,o1.2.2.2.2.2.2.2.1,gB,o1.2.2.2.2.2.2.2.2.2,o1.2.2.2.2.2.2.2.2.1,o1.2.2.1⟩:aw)))
instance (w:aw)(gB:Int):CT prog (nD w gB):=⟨182,[.be 0 0 0,y gB],[o ⟨.of 33,10,[[.ms 1,.ms 2,y w.aa.change,.ms 3,.ms 4,.ms 5,y w.now,.ms 6,.ms 7,y w.br]]⟩,o ⟨.of 101,6,w.aa.aC.map cY⟩,o ⟨.of 3,1,w.aa.off.map K⟩,o ⟨⟨63,o 48⟩,11,w.ae.map bx⟩,o ⟨.of 50,4,w.av.map R⟩,o ⟨.of 48,2,w.ak.map N⟩,o ⟨.of 89,6,w.aL.map bA⟩,o ⟨.of 3,1,w.skip.map K⟩],λr=>.tu [],λr=>[o ⟨.of 33,10,[[.ms 1,.ms 2,y r.aa.change,.ms 3,.ms 4,.ms 5,y r.now,.ms 8,.ms 7,y r.br]]⟩,o ⟨.of 101,6,r.aa.aC.map cY⟩,o ⟨.of 3,1,r.aa.off.map K⟩,o ⟨⟨63,o 48⟩,11,r.ae.map bx⟩,o ⟨.of 50,4,r.av.map R⟩,o ⟨.of 48,2,r.ak.map N⟩,Zd,o ⟨.of 3,1,r.skip.map K⟩,o ⟨.of 89,6,r.aL.map bA⟩],ck (nD.eq_1 ..) func182 ntmps182 results182⟩
def fy(w:aw)(s:W):z aw:=
 u (F (w.br<1000000000))
 (C (lk w.skip (D (w.br+1))) λy1=>
 u (!y1)
 (u (F ((G w.aL:Int)<200))
 (C (cf (bn (G (w.aL:d W)+G ([s]:d W)) 56)) λ_=>
 o (⟨w.aa,w.ae,w.av,w.ak,w.now,((w.aL:d W)++[s]),w.skip,(D (w.br+1))⟩:aw))
 (o (⟨w.aa,w.ae,w.av,w.ak,w.now,w.aL,w.skip,(D (w.br+1))⟩:aw)))
 (o (⟨w.aa,w.ae,w.av,w.ak,w.now,w.aL,w.skip,(D (w.br+1))⟩:aw)))
 (C (lk w.skip w.br) λy2=>
 u (!y2)
 (u (F ((G w.aL:Int)<200))
 (C (cf (bn (G (w.aL:d W)+G ([s]:d W)) 56)) λ_=>
 o (⟨w.aa,w.ae,w.av,w.ak,w.now,((w.aL:d W)++[s]),w.skip,w.br⟩:aw))
 (o w))
 (o w))
instance (w:aw)(s:W):CT prog (fy w s):=⟨258,[.be 0 0 0,.ag (bA s)],[o ⟨.of 33,10,[[.ms 1,.ms 2,y w.aa.change,.ms 3,.ms 4,.ms 5,y w.now,.ms 6,.ms 7,y w.br]]⟩,o ⟨.of 101,6,w.aa.aC.map cY⟩,o ⟨.of 3,1,w.aa.off.map K⟩,o ⟨.of 63,11,w.ae.map bx⟩,o ⟨.of 50,4,w.av.map R⟩,o ⟨.of 48,2,w.ak.map N⟩,o ⟨.of 89,6,w.aL.map bA⟩,o ⟨.of 3,1,w.skip.map K⟩],λr=>.tu [],λr=>[o ⟨.of 33,10,[[.ms 1,.ms 2,y r.aa.change,.ms 3,.ms 4,.ms 5,y r.now,.ms 8,.ms 7,y r.br]]⟩,o ⟨.of 101,6,r.aa.aC.map cY⟩,o ⟨.of 3,1,r.aa.off.map K⟩,o ⟨.of 63,11,r.ae.map bx⟩,o ⟨.of 50,4,r.av.map R⟩,o ⟨.of 48,2,r.ak.map N⟩,Zd,o ⟨.of 3,1,r.skip.map K⟩,o ⟨.of 89,6,r.aL.map bA⟩],Z (fy.eq_1 ..) func258 ntmps258 results258⟩
def j5(gB:Int)(s0:Int×Int×Int×Int×(d O)×(d Int)×(d ay)×(d L)×(d au)×(d Int)×(d W)):z ((Int×Int×Int×Int×(d O)×(d Int)×(d ay)×(d L)×(d au)×(d Int)×(d W))⊕(Int×Int×Int×(d O)×(d Int)×(d ay)×(d L)×(d au)×(d Int)×(d W))):=
 u (F (s0.1<(G s0.2.2.2.2.2.2.1:Int)))
 (C (J s0.2.2.2.2.2.2.1 s0.1) λy1=>
 u (!decide (y1.state=2))
 (o (.inl ((D (s0.1+1)),s0.2.1,s0.2.2.1,s0.2.2.2.1,s0.2.2.2.2.1,s0.2.2.2.2.2.1,s0.2.2.2.2.2.2.1,s0.2.2.2.2.2.2.2.1,s0.2.2.2.2.2.2.2.2.1,s0.2.2.2.2.2.2.2.2.2.1,s0.2.2.2.2.2.2.2.2.2.2)))
 (C (J y1.aE y1.aH) λy2=>
 C (bo (⟨s0.2.2.2.2.1,s0.2.2.2.2.2.1,s0.2.1⟩:E) y2) λy3=>
 u (!decide (y3=gB))
 (o (.inl ((D (s0.1+1)),s0.2.1,s0.2.2.1,s0.2.2.2.1,s0.2.2.2.2.1,s0.2.2.2.2.2.1,s0.2.2.2.2.2.2.1,s0.2.2.2.2.2.2.2.1,s0.2.2.2.2.2.2.2.2.1,s0.2.2.2.2.2.2.2.2.2.1,s0.2.2.2.2.2.2.2.2.2.2)))
 (C (J y1.aE y1.aH) λy4=>
 C (X [0,1,2,3,4,5,8,7]) λ_=>
 C (fy (⟨(⟨s0.2.2.2.2.1,s0.2.2.2.2.2.1,s0.2.1⟩:E),s0.2.2.2.2.2.2.1,s0.2.2.2.2.2.2.2.1,s0.2.2.2.2.2.2.2.2.1,s0.2.2.1,s0.2.2.2.2.2.2.2.2.2.2,s0.2.2.2.2.2.2.2.2.2.1,s0.2.2.2.1⟩:aw) (⟨(D (s0.1+1)),gB,2,⟨#[]⟩,y4⟩:W)) λy5=>
 C (J y1.aE y1.aH) λy6=>
 C (J y5.aa.aC y6.bq) λy7=>
 C (J y5.ae s0.1) λy8=>
 C (J y5.ae s0.1) λy9=>
 C (J y5.ae s0.1) λdO=>
 C (J y5.ae s0.1) λlJ=>
 u (F (y7.aZ=y1.aZ))
 (C (J y5.ae s0.1) λlA=>
 C (J y5.ae s0.1) λqi=>
 C (Ew (y5.ae.set (Wg s0.1) (⟨y8.ar,y8.aZ,y8.ax,y8.ah,y8.aQ,y8.fc,y8.aE,(D (y1.aH+1)),3,y7.aZ,gB⟩:ay)) (λoY=>(.be 0 0 0::y gB::.un::.un::y s0.1::.be 9 0 0::(U 193 []))) (λoY=>[o ⟨.of 33,10,[[.ms 1,.ms 2,y y5.aa.change,.ms 3,.ms 4,.ms 5,y y5.now,.ms 8,.ms 7,y y5.br]]⟩,o ⟨.of 101,6,y5.aa.aC.map cY⟩,o ⟨.of 3,1,y5.aa.off.map K⟩,o ⟨.of 63,11,oY.map bx⟩,o ⟨.of 50,4,y5.av.map R⟩,o ⟨.of 48,2,y5.ak.map N⟩,Zd,o ⟨.of 3,1,y5.skip.map K⟩,o ⟨.of 89,6,y5.aL.map bA⟩,o ⟨.of 63,11,[[Y y1.ar,Y y1.aZ,y y1.ax,y y1.ah,y y1.aQ,y y1.fc,.sl (y1.aE.map N),y y1.aH,y y1.state,Y y1.place,y y1.bK]]⟩])) λoY=>
 C (X [0,1,2,3,4,5,8,7]) λ_=>
 C (fy (⟨y5.aa,oY,y5.av,y5.ak,y5.now,y5.aL,y5.skip,y5.br⟩:aw) (⟨(D (s0.1+1)),gB,4,y1.aZ,(⟨0,0⟩:au)⟩:W)) λrT=>
 o (.inl ((D (s0.1+1)),rT.aa.change,rT.now,rT.br,rT.aa.aC,rT.aa.off,rT.ae,rT.av,rT.ak,rT.skip,rT.aL)))
 (o (.inl ((D (s0.1+1)),y5.aa.change,y5.now,y5.br,y5.aa.aC,y5.aa.off,(y5.ae.set (Wg s0.1) (⟨y8.ar,y8.aZ,y8.ax,y8.ah,y8.aQ,y8.fc,y8.aE,(D (y1.aH+1)),1,y7.aZ,y8.bK⟩:ay)),y5.av,y5.ak,y5.skip,y5.aL))))))
 (o (.inr (s0.2.1,s0.2.2.1,s0.2.2.2.1,s0.2.2.2.2.1,s0.2.2.2.2.2.1,s0.2.2.2.2.2.2.1,s0.2.2.2.2.2.2.2.1,s0.2.2.2.2.2.2.2.2.1,s0.2.2.2.2.2.2.2.2.2.1,s0.2.2.2.2.2.2.2.2.2.2)))
instance (gB:Int):bm (j5 gB):=⟨λs0=>(.be 0 0 0::y gB::.un::.un::y s0.1::(U 194 [])),λs0=>[o ⟨.of 33,10,[[.ms 1,.ms 2,y s0.2.1,.ms 3,.ms 4,.ms 5,y s0.2.2.1,.ms 8,.ms 7,y s0.2.2.2.1]]⟩,o ⟨.of 101,6,s0.2.2.2.2.1.map cY⟩,o ⟨.of 3,1,s0.2.2.2.2.2.1.map K⟩,o ⟨.of 63,11,s0.2.2.2.2.2.2.1.map bx⟩,o ⟨.of 50,4,s0.2.2.2.2.2.2.2.1.map R⟩,o ⟨.of 48,2,s0.2.2.2.2.2.2.2.2.1.map N⟩,Zd,o ⟨.of 3,1,s0.2.2.2.2.2.2.2.2.2.1.map K⟩,o ⟨.of 89,6,s0.2.2.2.2.2.2.2.2.2.2.map bA⟩]⟩
def j6(gB:Int)(s1:Int×Int×Int×Int×(d O)×(d Int)×(d ay)×(d L)×(d au)×(d Int)×(d W)):z ((Int×Int×Int×Int×(d O)×(d Int)×(d ay)×(d L)×(d au)×(d Int)×(d W))⊕(Int×Int×Int×(d O)×(d Int)×(d ay)×(d L)×(d au)×(d Int)×(d W))):=
 u (F (s1.1<(G s1.2.2.2.2.2.2.1:Int)))
 (C (J s1.2.2.2.2.2.2.1 s1.1) λpI=>
 u (F (pI.state=1))
 (u (F (pI.aH<(G pI.aE:Int)))
 (C (J pI.aE pI.aH) λtE=>
 C (bp (⟨s1.2.2.2.2.1,s1.2.2.2.2.2.1,s1.2.1⟩:E) tE) λxT=>
 u (F (xT=gB))
 (C (J s1.2.2.2.2.2.2.1 s1.1) λzf=>
 C (J s1.2.2.2.2.2.2.1 s1.1) λFh=>
 C (Ew (s1.2.2.2.2.2.2.1.set (Wg s1.1) (⟨zf.ar,zf.aZ,zf.ax,zf.ah,zf.aQ,zf.fc,zf.aE,zf.aH,2,⟨#[]⟩,zf.bK⟩:ay)) (λIp=>(.be 0 0 0::y gB::(U 4 (y s1.1::.be 9 0 0::(U 191 []))))) (λIp=>[o ⟨.of 33,10,[[.ms 1,.ms 2,y s1.2.1,.ms 3,.ms 4,.ms 5,y s1.2.2.1,.ms 8,.ms 7,y s1.2.2.2.1]]⟩,o ⟨.of 101,6,s1.2.2.2.2.1.map cY⟩,o ⟨.of 3,1,s1.2.2.2.2.2.1.map K⟩,o ⟨.of 63,11,Ip.map bx⟩,o ⟨.of 50,4,s1.2.2.2.2.2.2.2.1.map R⟩,o ⟨.of 48,2,s1.2.2.2.2.2.2.2.2.1.map N⟩,Zd,o ⟨.of 3,1,s1.2.2.2.2.2.2.2.2.2.1.map K⟩,o ⟨.of 89,6,s1.2.2.2.2.2.2.2.2.2.2.map bA⟩,o ⟨.of 63,11,[[Y pI.ar,Y pI.aZ,y pI.ax,y pI.ah,y pI.aQ,y pI.fc,.sl (pI.aE.map N),y pI.aH,y pI.state,Y pI.place,y pI.bK]]⟩])) λIp=>
 C (J pI.aE pI.aH) λCw=>
 C (X [0,1,2,3,4,5,8,7]) λ_=>
 C (fy (⟨(⟨s1.2.2.2.2.1,s1.2.2.2.2.2.1,s1.2.1⟩:E),Ip,s1.2.2.2.2.2.2.2.1,s1.2.2.2.2.2.2.2.2.1,s1.2.2.1,s1.2.2.2.2.2.2.2.2.2.2,s1.2.2.2.2.2.2.2.2.2.1,s1.2.2.2.1⟩:aw) (⟨(D (s1.1+1)),gB,3,⟨#[]⟩,Cw⟩:W)) λIq=>
 o (.inl ((D (s1.1+1)),Iq.aa.change,Iq.now,Iq.br,Iq.aa.aC,Iq.aa.off,Iq.ae,Iq.av,Iq.ak,Iq.skip,Iq.aL)))
 (o (.inl ((D (s1.1+1)),s1.2.1,s1.2.2.1,s1.2.2.2.1,s1.2.2.2.2.1,s1.2.2.2.2.2.1,s1.2.2.2.2.2.2.1,s1.2.2.2.2.2.2.2.1,s1.2.2.2.2.2.2.2.2.1,s1.2.2.2.2.2.2.2.2.2.1,s1.2.2.2.2.2.2.2.2.2.2))))
 (o (.inl ((D (s1.1+1)),s1.2.1,s1.2.2.1,s1.2.2.2.1,s1.2.2.2.2.1,s1.2.2.2.2.2.1,s1.2.2.2.2.2.2.1,s1.2.2.2.2.2.2.2.1,s1.2.2.2.2.2.2.2.2.1,s1.2.2.2.2.2.2.2.2.2.1,s1.2.2.2.2.2.2.2.2.2.2))))
 (o (.inl ((D (s1.1+1)),s1.2.1,s1.2.2.1,s1.2.2.2.1,s1.2.2.2.2.1,s1.2.2.2.2.2.1,s1.2.2.2.2.2.2.1,s1.2.2.2.2.2.2.2.1,s1.2.2.2.2.2.2.2.2.1,s1.2.2.2.2.2.2.2.2.2.1,s1.2.2.2.2.2.2.2.2.2.2))))
 (o (.inr (s1.2.1,s1.2.2.1,s1.2.2.2.1,s1.2.2.2.2.1,s1.2.2.2.2.2.1,s1.2.2.2.2.2.2.1,s1.2.2.2.2.2.2.2.1,s1.2.2.2.2.2.2.2.2.1,s1.2.2.2.2.2.2.2.2.2.1,s1.2.2.2.2.2.2.2.2.2.2)))
instance (gB:Int):bm (j6 gB):=⟨λs1=>(.be 0 0 0::y gB::(U 4 (y s1.1::(U 192 [])))),λs1=>[o ⟨.of 33,10,[[.ms 1,.ms 2,y s1.2.1,.ms 3,.ms 4,.ms 5,y s1.2.2.1,.ms 8,.ms 7,y s1.2.2.2.1]]⟩,o ⟨.of 101,6,s1.2.2.2.2.1.map cY⟩,o ⟨.of 3,1,s1.2.2.2.2.2.1.map K⟩,o ⟨.of 63,11,s1.2.2.2.2.2.2.1.map bx⟩,o ⟨.of 50,4,s1.2.2.2.2.2.2.2.1.map R⟩,o ⟨.of 48,2,s1.2.2.2.2.2.2.2.2.1.map N⟩,Zd,o ⟨.of 3,1,s1.2.2.2.2.2.2.2.2.2.1.map K⟩,o ⟨.of 89,6,s1.2.2.2.2.2.2.2.2.2.2.map bA⟩]⟩
def pV(w:aw)(gB:Int):z aw:=
 (aB (j5 gB) NN (0,w.aa.change,w.now,w.br,w.aa.aC,w.aa.off,w.ae,w.av,w.ak,w.skip,w.aL)).bind (λo0=>
 (aB (j6 gB) NN (0,o0.1,o0.2.1,o0.2.2.1,o0.2.2.2.1,o0.2.2.2.2.1,o0.2.2.2.2.2.1,o0.2.2.2.2.2.2.1,o0.2.2.2.2.2.2.2.1,o0.2.2.2.2.2.2.2.2.1,o0.2.2.2.2.2.2.2.2.2)).bind (λo1=>
 o (⟨(⟨o1.2.2.2.1,o1.2.2.2.2.1,o1.1⟩:E),o1.2.2.2.2.2.1,o1.2.2.2.2.2.2.1,o1.2.2.2.2.2.2.2.1,gB,o1.2.2.2.2.2.2.2.2.2,o1.2.2.2.2.2.2.2.2.1,o1.2.2.1⟩:aw)))
instance (w:aw)(gB:Int):CT prog (pV w gB):=⟨213,[.be 0 0 0,y gB],[o ⟨.of 33,10,[[.ms 1,.ms 2,y w.aa.change,.ms 3,.ms 4,.ms 5,y w.now,.ms 6,.ms 7,y w.br]]⟩,o ⟨.of 101,6,w.aa.aC.map cY⟩,o ⟨.of 3,1,w.aa.off.map K⟩,o ⟨.of 63,11,w.ae.map bx⟩,o ⟨.of 50,4,w.av.map R⟩,o ⟨.of 48,2,w.ak.map N⟩,o ⟨.of 89,6,w.aL.map bA⟩,o ⟨.of 3,1,w.skip.map K⟩],λr=>.tu [],λr=>[o ⟨.of 33,10,[[.ms 1,.ms 2,y r.aa.change,.ms 3,.ms 4,.ms 5,y r.now,.ms 8,.ms 7,y r.br]]⟩,o ⟨.of 101,6,r.aa.aC.map cY⟩,o ⟨.of 3,1,r.aa.off.map K⟩,o ⟨.of 63,11,r.ae.map bx⟩,o ⟨.of 50,4,r.av.map R⟩,o ⟨.of 48,2,r.ak.map N⟩,Zd,o ⟨.of 3,1,r.skip.map K⟩,o ⟨.of 89,6,r.aL.map bA⟩],Z (pV.eq_1 ..) func213 ntmps213 results213⟩
def jD(w:aw)(y1:(d Int))(s0:Int×(d ay)):z ((Int×(d ay))⊕(d ay)):=
 u (F (s0.1<(G w.ae:Int)))
 (C (J w.ae s0.1) λy2=>
 C (cf (bn (G (([]:d au):d au)+G (y2.aE:d au)) 16)) λ_=>
 C (Ev (.un::.be 0 0 0::.be 1 0 0::.be 2 0 0::y s0.1::.be 6 0 0::(U 59 [])) [o ⟨.of 33,10,[cL w]⟩,o ⟨.of 33,10,[zg]⟩,o ⟨.of 33,10,[[.ms 3,.ms 4,y w.aa.change,.ms 5,.sl (w.av.map R),.sl (w.ak.map N),y w.now,.sl (w.aL.map bA),.sl (w.skip.map K),y w.br]]⟩,o ⟨.of 101,6,((([]:d O):d O)++w.aa.aC).map cY⟩,o ⟨.of 3,1,y1.map K⟩,o ⟨.of 63,11,s0.2.map bx⟩,o ⟨.of 63,11,[[Y y2.ar,Y y2.aZ,y y2.ax,y y2.ah,y y2.aQ,y y2.fc,.sl (((([]:d au):d au)++y2.aE).map N),y y2.aH,y y2.state,Y y2.place,y y2.bK]]⟩]) λ_=>
 C (cf (bn (G (s0.2:d ay)+G ([(⟨y2.ar,y2.aZ,y2.ax,y2.ah,y2.aQ,y2.fc,((([]:d au):d au)++y2.aE),y2.aH,y2.state,y2.place,y2.bK⟩:ay)]:d ay)) 128)) λ_=>
 o (.inl ((D (s0.1+1)),((s0.2:d ay)++[(⟨y2.ar,y2.aZ,y2.ax,y2.ah,y2.aQ,y2.fc,((([]:d au):d au)++y2.aE),y2.aH,y2.state,y2.place,y2.bK⟩:ay)]))))
 (o (.inr s0.2))
instance (w:aw)(y1:(d Int)):bm (jD w y1):=⟨λs0=>(.un::.be 0 0 0::.be 1 0 0::.be 2 0 0::y s0.1::(U 60 [])),λs0=>[o ⟨.of 33,10,[cL w]⟩,o ⟨.of 33,10,[zg]⟩,o ⟨.of 33,10,[[.ms 3,.ms 4,y w.aa.change,.ms 5,.sl (w.av.map R),.sl (w.ak.map N),y w.now,.sl (w.aL.map bA),.sl (w.skip.map K),y w.br]]⟩,o ⟨.of 101,6,((([]:d O):d O)++w.aa.aC).map cY⟩,o ⟨.of 3,1,y1.map K⟩,o ⟨.of 63,11,s0.2.map bx⟩]⟩
def fq(w:aw):z aw:=
 C (cf (bn (G (([]:d O):d O)+G (w.aa.aC:d O)) 64)) λ_=>
 C (eK w.aa.off) λy1=>
 (aB (jD w y1) NN (0,([]:d ay))).bind (λo0=>
 C (lz w.av) λy3=>
 C (cf (bn (G (([]:d au):d au)+G (w.ak:d au)) 16)) λ_=>
 C (cf (bn (G (([]:d W):d W)+G (w.aL:d W)) 56)) λ_=>
 C (eK w.skip) λy4=>
 o (⟨(⟨((([]:d O):d O)++w.aa.aC),y1,w.aa.change⟩:E),o0,y3,((([]:d au):d au)++w.ak),w.now,((([]:d W):d W)++w.aL),y4,w.br⟩:aw))
instance (w:aw):CT prog (fq w):=⟨73,[.ag (cL w)],[],λr=>.ag [.ms 0,.ms 1,y r.aa.change,.ms 2,.ms 3,.ms 4,y r.now,.ms 5,.ms 6,y r.br],λr=>[o ⟨.of 101,6,r.aa.aC.map cY⟩,o ⟨.of 3,1,r.aa.off.map K⟩,o ⟨.of 63,11,r.ae.map bx⟩,o ⟨.of 50,4,r.av.map R⟩,o ⟨.of 48,2,r.ak.map N⟩,o ⟨.of 89,6,r.aL.map bA⟩,o ⟨.of 3,1,r.skip.map K⟩],Z (fq.eq_1 ..) func73 ntmps73 results73⟩
def iR(c:V):z (Int×V):=
 u (F (c.i<(G c.b:Int)))
 (C (J c.b c.i) λy1=>
 o ((IntKind.i64.wrap (Wf IntKind.i64.bits (D ((IntKind.i64.wrap (Wf IntKind.i64.bits (IntKind.i64.wrap (Wf IntKind.i64.bits (Int.fdiv (D ((D (c.h*6364136223846793005))+1442695040888963407)) (2 ^ (min (Wg 35) IntKind.i64.bits))) ^^^ Wf IntKind.i64.bits (Int.fdiv (D ((D (c.h*6364136223846793005))+1442695040888963407)) (2 ^ (min (Wg 45) IntKind.i64.bits)))).toNat) &&& Wf IntKind.i64.bits 255).toNat)+(IntKind.i64.wrap y1.v))) &&& Wf IntKind.i64.bits 255).toNat),(⟨c.b,(D (c.i+1)),(D ((D (c.h*6364136223846793005))+1442695040888963407))⟩:V)))
 (o ((IntKind.i64.wrap (Wf IntKind.i64.bits (IntKind.i64.wrap (Wf IntKind.i64.bits (Int.fdiv (D ((D (c.h*6364136223846793005))+1442695040888963407)) (2 ^ (min (Wg 35) IntKind.i64.bits))) ^^^ Wf IntKind.i64.bits (Int.fdiv (D ((D (c.h*6364136223846793005))+1442695040888963407)) (2 ^ (min (Wg 45) IntKind.i64.bits)))).toNat) &&& Wf IntKind.i64.bits 255).toNat),(⟨c.b,c.i,(D ((D (c.h*6364136223846793005))+1442695040888963407))⟩:V)))
instance (c:V):CT prog (iR c):=⟨77,[.be 0 0 0],[o ⟨.of 133,3,[[.sl (c.b.map Zl),y c.i,y c.h]]⟩],λr=>y r.1,λr=>[o ⟨.of 133,3,[[.sl (r.2.b.map Zl),y r.2.i,y r.2.h]]⟩],Z (iR.eq_1 ..) func77 ntmps77 results77⟩
def aA(c:V)(n:Int):z (Int×V):=
 u (F (n<=0))
 (o (0,c))
 (u (F (n<=256))
 (C (X [0]) λ_=>
 C (iR c) λy1=>
 C (cf (F (n≠0))) λ_=>
 o ((XH y1.1 n),y1.2))
 (C (X [0]) λ_=>
 C (iR c) λy2=>
 C (X [0]) λ_=>
 C (iR y2.2) λy3=>
 C (X [0]) λ_=>
 C (iR y3.2) λy4=>
 C (cf (F (n≠0))) λ_=>
 o ((XH (D ((D ((D (y2.1*65536))+(D (y3.1*256))))+y4.1)) n),y4.2)))
instance (c:V)(n:Int):CT prog (aA c n):=⟨22,[.be 0 0 0,y n],[o ⟨.of 133,3,[[.sl (c.b.map Zl),y c.i,y c.h]]⟩],λr=>y r.1,λr=>[o ⟨.of 133,3,[[.sl (r.2.b.map Zl),y r.2.i,y r.2.h]]⟩],Z (aA.eq_1 ..) func22 ntmps22 results22⟩
def cS(c:V)(n:Int):z (Bool×V):=
 C (X [0]) λ_=>
 C (aA c n) λy1=>
 o ((F (y1.1=0)),y1.2)
instance (c:V)(n:Int):CT prog (cS c n):=⟨25,[.be 0 0 0,y n],[o ⟨.of 133,3,[[.sl (c.b.map Zl),y c.i,y c.h]]⟩],λr=>vb r.1,λr=>[o ⟨.of 133,3,[[.sl (r.2.b.map Zl),y r.2.i,y r.2.h]]⟩],Z (cS.eq_1 ..) func25 ntmps25 results25⟩
def mV(c:V)(list:d g):z (g×V×(d g)):=
 C (X [0]) λ_=>
 C (aA c (G list:Int)) λy1=>
 C (J list y1.1) λy2=>
 o (y2,y1.2,list)
instance (c:V)(list:d g):CT prog (mV c list):=⟨194,[.be 0 0 0,.ms 1],[o ⟨.of 133,3,[[.sl (c.b.map Zl),y c.i,y c.h]]⟩,o ⟨.of 9,1,list.map jQ⟩],λr=>Y r.1,λr=>[o ⟨.of 133,3,[[.sl (r.2.1.b.map Zl),y r.2.1.i,y r.2.1.h]]⟩,o ⟨.of 9,1,r.2.2.map jQ⟩],Z (mV.eq_1 ..) func194 ntmps194 results194⟩
def gy(c:V):z (g×V):=
 C (X [0,1]) λ_=>
 C (mV c ([⟨#[65,77,83]⟩,⟨#[66,82,85]⟩,⟨#[67,68,71]⟩,⟨#[68,85,66]⟩,⟨#[69,68,73]⟩,⟨#[70,82,65]⟩,⟨#[71,79,84]⟩])) λy1=>
 o (y1.1,y1.2.1)
instance (c:V):CT prog (gy c):=⟨151,[.be 0 0 0],[o ⟨.of 133,3,[[.sl (c.b.map Zl),y c.i,y c.h]]⟩],λr=>Y r.1,λr=>[o ⟨.of 133,3,[[.sl (r.2.b.map Zl),y r.2.i,y r.2.h]]⟩],Z (gy.eq_1 ..) func151 ntmps151 results151⟩
def bZ(c:V)(list:d Int):z (Int×V×(d Int)):=
 C (X [0]) λ_=>
 C (aA c (G list:Int)) λy1=>
 C (J list y1.1) λy2=>
 o (y2,y1.2,list)
instance (c:V)(list:d Int):CT prog (bZ c list):=⟨85,[.be 0 0 0,.ms 1],[o ⟨.of 133,3,[[.sl (c.b.map Zl),y c.i,y c.h]]⟩,o ⟨.of 3,1,list.map K⟩],λr=>y r.1,λr=>[o ⟨.of 133,3,[[.sl (r.2.1.b.map Zl),y r.2.1.i,y r.2.1.h]]⟩,o ⟨.of 3,1,r.2.2.map K⟩],Z (bZ.eq_1 ..) func85 ntmps85 results85⟩
def px(y3:Int×V)(y4:Int×V)(y5:Int×V)(y6:Int×V)(s0:(d YB8)×Int×Int×g×g):z (((d YB8)×Int×Int×g×g)⊕((d YB8)×Int×Int×g×g)):=
 u (F (s0.2.2.2.1=s0.2.2.2.2))
 (C (X [0,3]) λ_=>
 C (mV (⟨s0.1,s0.2.1,s0.2.2.1⟩:V) ([⟨#[65,77,83]⟩,⟨#[66,82,85]⟩,⟨#[67,68,71]⟩])) λy7=>
 u (F (s0.2.2.2.1=y7.1))
 (o (.inl (y7.2.1.b,y7.2.1.i,y7.2.1.h,⟨#[68,85,66]⟩,y7.1)))
 (o (.inl (y7.2.1.b,y7.2.1.i,y7.2.1.h,s0.2.2.2.1,y7.1))))
 (o (.inr (s0.1,s0.2.1,s0.2.2.1,s0.2.2.2.1,s0.2.2.2.2)))
instance (y3:Int×V)(y4:Int×V)(y5:Int×V)(y6:Int×V):bm (px y3 y4 y5 y6):=⟨λs0=>(.be 0 0 0::.un::.be 1 0 0::.be 2 0 0::(U 43 [])),λs0=>[o ⟨.of 133,3,[[.sl (s0.1.map Zl),y s0.2.1,y s0.2.2.1]]⟩,o ⟨.of 101,6,[[Y (⟨#[]⟩),Y (⟨#[]⟩),y 0,y 0,y 0,y 0]]⟩,o ⟨.of 101,6,[[Y s0.2.2.2.1,Y s0.2.2.2.2,y (D (30*y3.1)),y (D (30*(D (1+y4.1)))),y (D (1+y5.1)),y (D (1000*y6.1))]]⟩]⟩
def pW(c:V):z (O×V):=
 C (X [0]) λ_=>
 C (gy c) λy1=>
 C (X [0]) λ_=>
 C (gy y1.2) λy2=>
 C (X [0]) λ_=>
 C (aA y2.2 48) λy3=>
 C (X [0]) λ_=>
 C (aA y3.2 40) λy4=>
 C (X [0]) λ_=>
 C (aA y4.2 127) λy5=>
 C (X [0]) λ_=>
 C (aA y5.2 60) λy6=>
 (aB (px y3 y4 y5 y6) NN (y6.2.b,y6.2.i,y6.2.h,y1.1,y2.1)).bind (λo0=>
 C (X [0]) λ_=>
 C (cS (⟨o0.1,o0.2.1,o0.2.2.1⟩:V) 2) λy8=>
 u y8.1
 (C (X [0]) λ_=>
 C (cS y8.2 9) λy9=>
 u y9.1
 (C (X [0,3]) λ_=>
 C (bZ y9.2 ([1,1440,4320])) λdO=>
 o ((⟨o0.2.2.2.1,o0.2.2.2.2,(D (30*y3.1)),dO.1,127,(D (1000*y6.1))⟩:O),dO.2.1))
 (o ((⟨o0.2.2.2.1,o0.2.2.2.2,(D (30*y3.1)),(D (30*(D (1+y4.1)))),127,(D (1000*y6.1))⟩:O),y9.2)))
 (C (X [0]) λ_=>
 C (cS y8.2 9) λlJ=>
 u lJ.1
 (C (X [0,3]) λ_=>
 C (bZ lJ.2 ([1,1440,4320])) λlA=>
 o ((⟨o0.2.2.2.1,o0.2.2.2.2,(D (30*y3.1)),lA.1,(D (1+y5.1)),(D (1000*y6.1))⟩:O),lA.2.1))
 (o ((⟨o0.2.2.2.1,o0.2.2.2.2,(D (30*y3.1)),(D (30*(D (1+y4.1)))),(D (1+y5.1)),(D (1000*y6.1))⟩:O),lJ.2))))
instance (c:V):CT prog (pW c):=⟨134,[.be 0 0 0],[o ⟨.of 133,3,[[.sl (c.b.map Zl),y c.i,y c.h]]⟩],λr=>.ag [Y r.1.ar,Y r.1.aZ,y r.1.start,y r.1.o8,y r.1.yr,y r.1.jb],λr=>[o ⟨.of 133,3,[[.sl (r.2.b.map Zl),y r.2.i,y r.2.h]]⟩],Z (pW.eq_1 ..) func134 ntmps134 results134⟩
def om(AE:Int)(y1:Int×V)(s0:Int×(d YB8)×Int×Int×(d O)):z ((Int×(d YB8)×Int×Int×(d O))⊕((d YB8)×Int×Int×(d O))):=
 u (F (0<s0.1))
 (C (X [0]) λ_=>
 C (pW (⟨s0.2.1,s0.2.2.1,s0.2.2.2.1⟩:V)) λy3=>
 C (cf (bn (G (s0.2.2.2.2:d O)+G ([y3.1]:d O)) 64)) λ_=>
 C (X [0]) λ_=>
 C (cS y3.2 3) λy4=>
 u y4.1
 (u (F ((G ((s0.2.2.2.2:d O)++[y3.1]):Int)<AE))
 (C (J ((s0.2.2.2.2:d O)++[y3.1]) (D ((G ((s0.2.2.2.2:d O)++[y3.1]):Int)-1))) λy5=>
 C (J ((s0.2.2.2.2:d O)++[y3.1]) (D ((G ((s0.2.2.2.2:d O)++[y3.1]):Int)-1))) λy6=>
 C (rF 8 [3]) λ_=>
 C (X [0]) λ_=>
 C (aA y4.2 20) λy7=>
 C (cf (bn (G (((s0.2.2.2.2:d O)++[y3.1]):d O)+G ([(⟨y5.aZ,y6.ar,(XH (D (y3.1.start+(D (60*y7.1)))) 1440),y3.1.o8,y3.1.yr,y3.1.jb⟩:O)]:d O)) 64)) λ_=>
 o (.inl ((D (s0.1-1)),y7.2.b,y7.2.i,y7.2.h,((((s0.2.2.2.2:d O)++[y3.1]):d O)++[(⟨y5.aZ,y6.ar,(XH (D (y3.1.start+(D (60*y7.1)))) 1440),y3.1.o8,y3.1.yr,y3.1.jb⟩:O)]))))
 (o (.inl ((D (s0.1-1)),y4.2.b,y4.2.i,y4.2.h,((s0.2.2.2.2:d O)++[y3.1])))))
 (o (.inl ((D (s0.1-1)),y4.2.b,y4.2.i,y4.2.h,((s0.2.2.2.2:d O)++[y3.1])))))
 (o (.inr (s0.2.1,s0.2.2.1,s0.2.2.2.1,s0.2.2.2.2)))
instance (AE:Int)(y1:Int×V):bm (om AE y1):=⟨λs0=>(.be 0 0 0::y AE::.un::.un::.be 1 0 0::.be 2 0 0::y s0.1::(U 74 [])),λs0=>[o ⟨.of 133,3,[[.sl (s0.2.1.map Zl),y s0.2.2.1,y s0.2.2.2.1]]⟩,o ⟨.of 27,3,[[.v (.slice Zd 0 0),.v (.slice Zd 0 0),y 0]]⟩,o ⟨.of 27,3,[[.ms 3,.v (.slice Zd 0 0),y (D (15*y1.1))]]⟩,o ⟨.of 101,6,s0.2.2.2.2.map cY⟩]⟩
def oN(c:V)(AE:Int):z (E×V):=
 C (X [0]) λ_=>
 C (aA c 9) λy1=>
 C (X [0]) λ_=>
 C (aA y1.2 AE) λy2=>
 (aB (om AE y1) NN ((D (1+y2.1)),y2.2.b,y2.2.i,y2.2.h,[])).bind (λo0=>
 C (X [0]) λ_=>
 C (cS (⟨o0.1,o0.2.1,o0.2.2.1⟩:V) 2) λy8=>
 u y8.1
 (C (X [0]) λ_=>
 C (aA y8.2 3) λy9=>
 C (X [0]) λ_=>
 C (aA y9.2 4) λdO=>
 o ((⟨o0.2.2.2,[y9.1,(D (3+dO.1))],(D (15*y1.1))⟩:E),dO.2))
 (o ((⟨o0.2.2.2,[],(D (15*y1.1))⟩:E),y8.2)))
instance (c:V)(AE:Int):CT prog (oN c AE):=⟨70,[.be 0 0 0,y AE],[o ⟨.of 133,3,[[.sl (c.b.map Zl),y c.i,y c.h]]⟩],λr=>.ag [.ms 1,.ms 2,y r.1.change],λr=>[o ⟨.of 133,3,[[.sl (r.2.b.map Zl),y r.2.i,y r.2.h]]⟩,o ⟨.of 101,6,r.1.aC.map cY⟩,o ⟨.of 3,1,r.1.off.map K⟩],Z (oN.eq_1 ..) func70 ntmps70 results70⟩
def gv(a:Int)(b:Int):z Int:=
 u (F (a<b))
 (o b)
 (o a)
instance (a:Int)(b:Int):CT prog (gv a b):=⟨83,[y a,y b],[],λr=>y r,λr=>[],Z (gv.eq_1 ..) func83 ntmps83 results83⟩
def jv(places:d g)(cM:Int)(mD:Int)(s0:Int×(d Int)):z ((Int×(d Int))⊕(d Int)):=
 u (F (s0.1<(G places:Int)))
 (u (F (s0.1=cM))
 (C (gv mD 0) λy1=>
 C (cf (bn (G (s0.2:d Int)+G ([y1]:d Int)) 8)) λ_=>
 o (.inl ((D (s0.1+1)),((s0.2:d Int)++[y1]))))
 (C (cf (bn (G (s0.2:d Int)+G ([(-1)]:d Int)) 8)) λ_=>
 o (.inl ((D (s0.1+1)),((s0.2:d Int)++[(-1)])))))
 (o (.inr s0.2))
instance (places:d g)(cM:Int)(mD:Int):bm (jv places cM mD):=⟨λs0=>(.sl (places.map jQ)::y cM::y mD::(U 4 (.ms 0::y s0.1::(U 19 [])))),λs0=>[o ⟨.of 3,1,s0.2.map K⟩]⟩
def ju(places:d g)(cM:Int)(mD:Int):z (d Int):=
 (aB (jv places cM mD) NN (0,([]:d Int))).bind (λo0=>
 o o0)
instance (places:d g)(cM:Int)(mD:Int):CT prog (ju places cM mD):=⟨353,[.sl (places.map jQ),y cM,y mD],[],λr=>.ms 0,λr=>[o ⟨.of 3,1,r.map K⟩],Z (ju.eq_1 ..) func353 ntmps353 results353⟩
def dI(n:E)(gB:Int)(first:Bool):z Int:=
 u first
 (o gB)
 (o (D (gB+n.change)))
instance (n:E)(gB:Int)(first:Bool):CT prog (dI n gB first):=⟨356,[.ag (M n),y gB,vb first],[],λr=>y r,λr=>[],Z (dI.eq_1 ..) func356 ntmps356 results356⟩
def df(n:E)(l:d L)(ak:d au)(bq:Int)(mE:Int)(ah:Int)(s0:Int):z (Int⊕(Unit⊕Int)):=
 u (F (s0<=60))
 (C (cN n bq s0) λy1=>
 u y1
 (C (bp n (⟨bq,s0⟩:au)) λy2=>
 u (F (mE<=y2))
 (C (dZ ak (⟨bq,s0⟩:au)) λy3=>
 u (!y3)
 (C (J n.aC bq) λy4=>
 C (eJ l (⟨bq,s0⟩:au)) λy5=>
 u (F (ah<=(D (y4.jb-y5))))
 (o (.inr (.inr s0)))
 (o (.inl (D (s0+1)))))
 (o (.inl (D (s0+1)))))
 (o (.inl (D (s0+1)))))
 (o (.inl (D (s0+1)))))
 (o (.inr (.inl ())))
instance (n:E)(l:d L)(ak:d au)(bq:Int)(mE:Int)(ah:Int):bm (df n l ak bq mE ah):=⟨λs0=>(.un::.sl (l.map R)::.sl (ak.map N)::y bq::y mE::y ah::.be 0 0 0::(U 6 (y s0::(U 40 [])))),λs0=>[o ⟨.of 27,3,[M n]⟩]⟩
def dc(n:E)(l:d L)(ak:d au)(bq:Int)(mE:Int)(ah:Int):z Int:=
 (aB (df n l ak bq mE ah) NN 0).bind (bj (λo0=>
 o (-1)) (λr=>o r))
instance (n:E)(l:d L)(ak:d au)(bq:Int)(mE:Int)(ah:Int):CT prog (dc n l ak bq mE ah):=⟨355,[.ag (M n),.sl (l.map R),.sl (ak.map N),y bq,y mE,y ah],[],λr=>y r,λr=>[],Z (dc.eq_1 ..) func355 ntmps355 results355⟩
def eX(n:E)(l:d L)(ak:d au)(ah:Int)(places:d g)(gK:d Int)(pg:Int)(s0:Int×(d Int)):z ((Int×(d Int))⊕(d Int)):=
 u (F (s0.1<(G n.aC:Int)))
 (C (J n.aC s0.1) λy2=>
 C (cy places y2.ar) λy3=>
 C (J n.aC s0.1) λy4=>
 C (cy places y4.aZ) λy5=>
 C (J gK y3) λy6=>
 u (F (y6<0))
 (o (.inl ((D (s0.1+1)),s0.2)))
 (C (J gK y3) λy7=>
 C (dI n y7 (F (y3=pg))) λy8=>
 C (dc n l ak s0.1 y8 ah) λy9=>
 u (F (y9<0))
 (o (.inl ((D (s0.1+1)),s0.2)))
 (C (bo n (⟨s0.1,y9⟩:au)) λdO=>
 C (J s0.2 y5) λlJ=>
 u (F (lJ<0))
 (C (J s0.2 y5) λlA=>
 o (.inl ((D (s0.1+1)),(s0.2.set (Wg y5) dO))))
 (C (J s0.2 y5) λqi=>
 u (F (dO<qi))
 (C (J s0.2 y5) λoY=>
 o (.inl ((D (s0.1+1)),(s0.2.set (Wg y5) dO))))
 (o (.inl ((D (s0.1+1)),s0.2)))))))
 (o (.inr s0.2))
instance (n:E)(l:d L)(ak:d au)(ah:Int)(places:d g)(gK:d Int)(pg:Int):bm (eX n l ak ah places gK pg):=⟨λs0=>(.un::.sl (l.map R)::.sl (ak.map N)::y ah::.sl (places.map jQ)::.sl (gK.map K)::y pg::.be 0 0 0::(U 7 (.ms 1::y s0.1::(U 74 [])))),λs0=>[o ⟨.of 27,3,[M n]⟩,o ⟨.of 3,1,s0.2.map K⟩]⟩
def eB(n:E)(l:d L)(ak:d au)(ah:Int)(places:d g)(gK:d Int)(pg:Int):z (d Int):=
 C (eK gK) λy1=>
 (aB (eX n l ak ah places gK pg) NN (0,y1)).bind (λo0=>
 o o0)
instance (n:E)(l:d L)(ak:d au)(ah:Int)(places:d g)(gK:d Int)(pg:Int):CT prog (eB n l ak ah places gK pg):=⟨354,[.ag (M n),.sl (l.map R),.sl (ak.map N),y ah,.sl (places.map jQ),.sl (gK.map K),y pg],[],λr=>.ms 0,λr=>[o ⟨.of 3,1,r.map K⟩],Z (eB.eq_1 ..) func354 ntmps354 results354⟩
def ft(n:E)(l:d L)(ak:d au)(ah:Int)(places:d g)(before:d Int)(pg:Int)(aZ:Int)(ends:Int)(s0:Int):z (Int⊕(Unit⊕au)):=
 u (F (s0<(G n.aC:Int)))
 (C (J n.aC s0) λy1=>
 C (cy places y1.ar) λy2=>
 C (J n.aC s0) λy3=>
 C (J places aZ) λy4=>
 u (!decide (y3.aZ=y4))
 (o (.inl (D (s0+1))))
 (C (J before y2) λy5=>
 u (F (y5<0))
 (o (.inl (D (s0+1))))
 (C (J before y2) λy6=>
 C (dI n y6 (F (y2=pg))) λy7=>
 C (dc n l ak s0 y7 ah) λy8=>
 u (F (0<=y8))
 (C (bo n (⟨s0,y8⟩:au)) λy9=>
 u (F (y9=ends))
 (o (.inr (.inr (⟨s0,y8⟩:au))))
 (o (.inl (D (s0+1)))))
 (o (.inl (D (s0+1)))))))
 (o (.inr (.inl ())))
instance (n:E)(l:d L)(ak:d au)(ah:Int)(places:d g)(before:d Int)(pg:Int)(aZ:Int)(ends:Int):bm (ft n l ak ah places before pg aZ ends):=⟨λs0=>(.un::.sl (l.map R)::.sl (ak.map N)::y ah::.sl (places.map jQ)::.sl (before.map K)::y pg::y aZ::y ends::.be 0 0 0::(U 8 (.be 1 0 0::y s0::(U 64 [])))),λs0=>[o ⟨.of 27,3,[M n]⟩,o ⟨.of 48,2,[[y 0,y 0]]⟩]⟩
def kh(n:E)(l:d L)(ak:d au)(ah:Int)(places:d g)(before:d Int)(pg:Int)(aZ:Int)(ends:Int):z au:=
 (aB (ft n l ak ah places before pg aZ ends) NN 0).bind (bj (λo0=>
 o (⟨0,0⟩:au)) (λr=>o r))
instance (n:E)(l:d L)(ak:d au)(ah:Int)(places:d g)(before:d Int)(pg:Int)(aZ:Int)(ends:Int):CT prog (kh n l ak ah places before pg aZ ends):=⟨306,[.ag (M n),.sl (l.map R),.sl (ak.map N),y ah,.sl (places.map jQ),.sl (before.map K),y pg,y aZ,y ends],[],λr=>.ag [y r.bq,y r.day],λr=>[],Z (kh.eq_1 ..) func306 ntmps306 results306⟩
def sh(l:d L)(b:L)(s0:Int):z (Int⊕Int):=
 u (F (s0<(G l:Int)))
 (C (J l s0) λy1=>
 C (na y1 b) λy2=>
 u y2
 (o (.inl (D (s0+1))))
 (o (.inr s0)))
 (o (.inr s0))
instance (l:d L)(b:L):bm (sh l b):=⟨λs0=>(.sl (l.map R)::.un::.un::.be 0 0 0::.un::y s0::(U 25 [])),λs0=>[o ⟨.of 50,4,[[y b.aR,y b.aN.bq,y b.aN.day,y b.ah]]⟩]⟩
def pE(l:d L)(b:L):z (d L):=
 (aB (sh l b) NN 0).bind (λo0=>
 C (cf (iq 0 o0 (G l))) λ_=>
 C (lz (da l 0 o0)) λy3=>
 C (cf (bn (G (y3:d L)+G ([b]:d L)) 32)) λ_=>
 C (cf (iq o0 (G l:Int) (G l))) λ_=>
 C (cf (bn (G (((y3:d L)++[b]):d L)+G ((da l o0 (G l:Int)):d L)) 32)) λ_=>
 o ((((y3:d L)++[b]):d L)++(da l o0 (G l:Int))))
instance (l:d L)(b:L):CT prog (pE l b):=⟨307,[.sl (l.map R),.ag (R b)],[],λr=>.ms 0,λr=>[o ⟨.of 50,4,r.map R⟩],Z (pE.eq_1 ..) func307 ntmps307 results307⟩
def lH(n:E)(bq:Int)(mD:Int)(s0:Int):z (Int⊕(Unit⊕Int)):=
 u (F (s0<=60))
 (C (cN n bq s0) λy1=>
 u y1
 (C (bp n (⟨bq,s0⟩:au)) λy2=>
 u (F (mD<=y2))
 (o (.inr (.inr s0)))
 (o (.inl (D (s0+1)))))
 (o (.inl (D (s0+1)))))
 (o (.inr (.inl ())))
instance (n:E)(bq:Int)(mD:Int):bm (lH n bq mD):=⟨λs0=>(.un::y bq::y mD::.be 0 0 0::(U 3 (y s0::(U 18 [])))),λs0=>[o ⟨.of 27,3,[M n]⟩]⟩
def ly(n:E)(bq:Int)(mD:Int):z Int:=
 (aB (lH n bq mD) NN 0).bind (bj (λo0=>
 o (-1)) (λr=>o r))
instance (n:E)(bq:Int)(mD:Int):CT prog (ly n bq mD):=⟨219,[.ag (M n),y bq,y mD],[],λr=>y r,λr=>[],Z (ly.eq_1 ..) func219 ntmps219 results219⟩
def nN(n:E)(places:d g)(gK:d Int)(gn:Int)(s0:Int×(d Int)):z ((Int×(d Int))⊕(d Int)):=
 u (F (s0.1<(G n.aC:Int)))
 (C (J n.aC s0.1) λy2=>
 C (cy places y2.ar) λy3=>
 C (J n.aC s0.1) λy4=>
 C (cy places y4.aZ) λy5=>
 C (J gK y3) λy6=>
 u (F (y6<0))
 (o (.inl ((D (s0.1+1)),s0.2)))
 (C (J gK y3) λy7=>
 C (dI n y7 (F (y3=gn))) λy8=>
 C (ly n s0.1 y8) λy9=>
 u (F (y9<0))
 (o (.inl ((D (s0.1+1)),s0.2)))
 (C (bo n (⟨s0.1,y9⟩:au)) λdO=>
 C (J s0.2 y5) λlJ=>
 u (F (lJ<0))
 (C (J s0.2 y5) λlA=>
 o (.inl ((D (s0.1+1)),(s0.2.set (Wg y5) dO))))
 (C (J s0.2 y5) λqi=>
 u (F (dO<qi))
 (C (J s0.2 y5) λoY=>
 o (.inl ((D (s0.1+1)),(s0.2.set (Wg y5) dO))))
 (o (.inl ((D (s0.1+1)),s0.2)))))))
 (o (.inr s0.2))
instance (n:E)(places:d g)(gK:d Int)(gn:Int):bm (nN n places gK gn):=⟨λs0=>(.un::.sl (places.map jQ)::.sl (gK.map K)::y gn::.be 0 0 0::(U 4 (.ms 1::y s0.1::(U 71 [])))),λs0=>[o ⟨.of 27,3,[M n]⟩,o ⟨.of 3,1,s0.2.map K⟩]⟩
def mr(n:E)(places:d g)(gK:d Int)(gn:Int):z (d Int):=
 C (eK gK) λy1=>
 (aB (nN n places gK gn) NN (0,y1)).bind (λo0=>
 o o0)
instance (n:E)(places:d g)(gK:d Int)(gn:Int):CT prog (mr n places gK gn):=⟨385,[.ag (M n),.sl (places.map jQ),.sl (gK.map K),y gn],[],λr=>.ms 0,λr=>[o ⟨.of 3,1,r.map K⟩],Z (mr.eq_1 ..) func385 ntmps385 results385⟩
def fJ(n:E)(aC:Int)(y1:(d g))(y2:Int)(s0:Int×(d Int)):z ((Int×(d Int))⊕(d Int)):=
 u (F (s0.1<aC))
 (u (F (s0.1<(G y1:Int)))
 (C (mr n y1 s0.2 y2) λy5=>
 o (.inl ((D (s0.1+1)),y5)))
 (o (.inr s0.2)))
 (o (.inr s0.2))
instance (n:E)(aC:Int)(y1:(d g))(y2:Int):bm (fJ n aC y1 y2):=⟨λs0=>(U 3 (y aC::.be 0 0 0::(U 4 (.ms 1::y y2::.ms 2::y s0.1::(U 42 []))))),λs0=>[o ⟨.of 27,3,[M n]⟩,o ⟨.of 9,1,y1.map jQ⟩,o ⟨.of 3,1,s0.2.map K⟩]⟩
def ia(n:E)(cM:g)(mD:Int)(aC:Int):z (d Int):=
 C (dm n) λy1=>
 C (cy y1 cM) λy2=>
 C (aX n) λy3=>
 u (!y3)
 (o ([]:d Int))
 (u (F (y2<0))
 (o ([]:d Int))
 (u (F (100000<mD))
 (o ([]:d Int))
 (u (F (aC<0))
 (o ([]:d Int))
 (C (ju y1 y2 mD) λy4=>
 (aB (fJ n aC y1 y2) NN (0,y4)).bind (λo0=>
 o o0)))))
instance (n:E)(cM:g)(mD:Int)(aC:Int):CT prog (ia n cM mD aC):=⟨357,[.ag (M n),Y cM,y mD,y aC],[],λr=>.ms 0,λr=>[o ⟨.of 3,1,r.map K⟩],Z (ia.eq_1 ..) func357 ntmps357 results357⟩
def jq(n:E)(cM:g)(aZ:g)(cQ:Int):z Int:=
 C (dm n) λy1=>
 C (cy y1 aZ) λy2=>
 C (ia n cM cQ (G y1:Int)) λy3=>
 u (F (y2<0))
 (o (-1))
 (u (F ((G y3:Int)=0))
 (o (-1))
 (C (J y3 y2) λy4=>
 o y4))
instance (n:E)(cM:g)(aZ:g)(cQ:Int):CT prog (jq n cM aZ cQ):=⟨308,[.ag (M n),Y cM,Y aZ,y cQ],[],λr=>y r,λr=>[],Z (jq.eq_1 ..) func308 ntmps308 results308⟩
def iS(n:E)(ax:Int)(dq:g)(aZ:g)(mE:Int):z Int:=
 C (jq n dq aZ mE) λy1=>
 u (F (y1<0))
 (o (-1))
 (C (bh ax 1 3) λy2=>
 u (!y2)
 (o (-1))
 (u (F (1080<(XH y1 1440)))
 (o (D ((D ((D ((D ((IntKind.i64.wrap (Xf y1 1440))+1))+(D ((D (ax-1))*(D (ax-1))))))*1440))+1080)))
 (o (D ((D ((D ((IntKind.i64.wrap (Xf y1 1440))+(D ((D (ax-1))*(D (ax-1))))))*1440))+1080)))))
instance (n:E)(ax:Int)(dq:g)(aZ:g)(mE:Int):CT prog (iS n ax dq aZ mE):=⟨257,[.ag (M n),y ax,Y dq,Y aZ,y mE],[],λr=>y r,λr=>[],Z (iS.eq_1 ..) func257 ntmps257 results257⟩
def iD(bq:Int)(gB:Int)(Cx:E)(c1_:d au)(c2_:d L)(c3_:Int)(s0:Int):z (Int⊕(Unit⊕(au×Bool))):=
 u (F (s0<=60))
 (C (nB Cx bq s0) λy1=>
 u y1
 (C (ca Cx (⟨bq,s0⟩:au)) λy2=>
 u (F (gB<=y2))
 (C (fT c1_ (⟨bq,s0⟩:au)) λy3=>
 u (!y3)
 (C (J Cx.aC bq) λy4=>
 C (kg c2_ (⟨bq,s0⟩:au)) λy5=>
 u (F (c3_<=(D (y4.jb-y5))))
 (o (.inr (.inr ((⟨bq,s0⟩:au),Ze))))
 (o (.inl (D (s0+1)))))
 (o (.inl (D (s0+1)))))
 (o (.inl (D (s0+1)))))
 (o (.inl (D (s0+1)))))
 (o (.inr (.inl ())))
instance (bq:Int)(gB:Int)(Cx:E)(c1_:d au)(c2_:d L)(c3_:Int):bm (iD bq gB Cx c1_ c2_ c3_):=⟨λs0=>(y bq::y gB::.rp (M Cx)::.rp [.sl (c1_.map N)]::.rp [.sl (c2_.map R)]::.rp [y c3_]::.un::.un::.be 0 0 0::.un::y s0::(U 41 [])),λs0=>[o ⟨.of 48,2,[[y 0,y 0]]⟩]⟩
def jJ(bq:Int)(gB:Int)(Cx:E)(c1_:d au)(c2_:d L)(c3_:Int):z (au×Bool):=
 (aB (iD bq gB Cx c1_ c2_ c3_) NN 0).bind (bj (λo0=>
 o ((⟨0,0⟩:au),Zf)) (λr=>o r))
instance (bq:Int)(gB:Int)(Cx:E)(c1_:d au)(c2_:d L)(c3_:Int):CT prog (jJ bq gB Cx c1_ c2_ c3_):=⟨284,[y bq,y gB,.rp (M Cx),.rp [.sl (c1_.map N)],.rp [.sl (c2_.map R)],.rp [y c3_]],[],λr=>.tu [.ag [y r.1.bq,y r.1.day],vb r.2],λr=>[],Z (jJ.eq_1 ..) func284 ntmps284 results284⟩
def lZ(n:E)(gB:Int)(start:Bool):z Int:=
 u start
 (o gB)
 (o (D (gB+n.change)))
instance (n:E)(gB:Int)(start:Bool):CT prog (lZ n gB start):=⟨327,[.ag (M n),y gB,vb start],[],λr=>y r,λr=>[],Z (lZ.eq_1 ..) func327 ntmps327 results327⟩
def fF(n:E)(ct:E)(dD:d au)(dE:d L)(dF:Int)(cQ:Int)(aC:Int)(y1:d g)(y2:Int)(s0:Int×(d Int)):z ((Int×(d Int))⊕(d Int)):=
 u (F (s0.1<(G y1:Int)))
 (C (cf (bn (G (s0.2:d Int)+G ([(-1)]:d Int)) 8)) λ_=>
 o (.inl ((D (s0.1+1)),((s0.2:d Int)++[(-1)]))))
 (o (.inr s0.2))
instance (n:E)(ct:E)(dD:d au)(dE:d L)(dF:Int)(cQ:Int)(aC:Int)(y1:d g)(y2:Int):bm (fF n ct dD dE dF cQ aC y1 y2):=⟨λs0=>(.un::.fn 284 [.rp (M ct),.rp [.sl (dD.map N)],.rp [.sl (dE.map R)],.rp [y dF]]::.un::y cQ::y aC::.be 0 0 0::(U 5 (.ms 1::y y2::.ms 2::(U 26 (y (G y1:Int)::y s0.1::(U 83 [])))))),λs0=>[o ⟨.of 27,3,[M n]⟩,o ⟨.of 9,1,y1.map jQ⟩,o ⟨.of 3,1,s0.2.map K⟩]⟩
def dN(n:E)(ct:E)(dD:d au)(dE:d L)(dF:Int)(aC:Int)(y1:d g)(y2:Int)(s1:Int×(d Int))(s2:Int×Bool×(d Int)):z ((Int×Bool×(d Int))⊕(Bool×(d Int))):=
 u (F (s2.1<(G n.aC:Int)))
 (C (J n.aC s2.1) λy4=>
 C (bQ y1 y4.ar) λy5=>
 C (bQ y1 y4.aZ) λy6=>
 C (J s1.2 y5) λy7=>
 u (F (y7<0))
 (o (.inl ((D (s2.1+1)),s2.2.1,s2.2.2)))
 (C (J s1.2 y5) λy8=>
 C (lZ n y8 (F (y5=y2))) λy9=>
 C (jJ s2.1 y9 ct dD dE dF) λdO=>
 u dO.2
 (C (J s2.2.2 y6) λlJ=>
 u (F (lJ<0))
 (C (cE n dO.1) λlA=>
 C (J s2.2.2 y6) λqi=>
 o (.inl ((D (s2.1+1)),Ze,(s2.2.2.set (Wg y6) lA))))
 (C (cE n dO.1) λoY=>
 C (J s2.2.2 y6) λrT=>
 u (F (oY<rT))
 (C (cE n dO.1) λpI=>
 C (J s2.2.2 y6) λtE=>
 o (.inl ((D (s2.1+1)),Ze,(s2.2.2.set (Wg y6) pI))))
 (o (.inl ((D (s2.1+1)),s2.2.1,s2.2.2)))))
 (o (.inl ((D (s2.1+1)),s2.2.1,s2.2.2)))))
 (o (.inr (s2.2.1,s2.2.2)))
instance (n:E)(ct:E)(dD:d au)(dE:d L)(dF:Int)(aC:Int)(y1:d g)(y2:Int)(s1:Int×(d Int)):bm (dN n ct dD dE dF aC y1 y2 s1):=⟨λs2=>(.un::.fn 284 [.rp (M ct),.rp [.sl (dD.map N)],.rp [.sl (dE.map R)],.rp [y dF]]::.un::.un::y aC::.be 0 0 0::(U 5 (.ms 1::y y2::.ms 2::y s1.1::.ms 3::vb s2.2.1::(U 44 (.sl (n.aC.map cY)::y (G n.aC:Int)::y s2.1::(U 61 [])))))),λs2=>[o ⟨.of 27,3,[M n]⟩,o ⟨.of 9,1,y1.map jQ⟩,o ⟨.of 3,1,s1.2.map K⟩,o ⟨.of 3,1,s2.2.2.map K⟩]⟩
def dM(n:E)(ct:E)(dD:d au)(dE:d L)(dF:Int)(aC:Int)(y1:d g)(y2:Int)(s1:Int×(d Int)):z ((Int×(d Int))⊕(d Int)):=
 u (F (s1.1<aC))
 (C (cf (bn (G (([]:d Int):d Int)+G (s1.2:d Int)) 8)) λ_=>
 (aB (dN n ct dD dE dF aC y1 y2 s1) NN (0,Zf,((([]:d Int):d Int)++s1.2))).bind (λo2=>
 u (!o2.1)
 (o (.inr o2.2))
 (o (.inl ((D (s1.1+1)),o2.2)))))
 (o (.inr s1.2))
instance (n:E)(ct:E)(dD:d au)(dE:d L)(dF:Int)(aC:Int)(y1:d g)(y2:Int):bm (dM n ct dD dE dF aC y1 y2):=⟨λs1=>(.un::.fn 284 [.rp (M ct),.rp [.sl (dD.map N)],.rp [.sl (dE.map R)],.rp [y dF]]::.un::.un::y aC::.be 0 0 0::(U 5 (.ms 1::y y2::.ms 2::y s1.1::(U 110 [])))),λs1=>[o ⟨.of 27,3,[M n]⟩,o ⟨.of 9,1,y1.map jQ⟩,o ⟨.of 3,1,s1.2.map K⟩]⟩
def ff(n:E)(ct:E)(dD:d au)(dE:d L)(dF:Int)(dq:g)(cQ:Int)(aC:Int):z (d Int):=
 C (di n) λy1=>
 C (bQ y1 dq) λy2=>
 u (F (y2<0))
 (o ([]))
 (u (F (100000<cQ))
 (o ([]))
 (u (F (aC<0))
 (o ([]))
 ((aB (fF n ct dD dE dF cQ aC y1 y2) NN (0,([]:d Int))).bind (λo0=>
 C (J o0 y2) λy3=>
 (aB (dM n ct dD dE dF aC y1 y2) NN (0,(o0.set (Wg y2) (if 0 > cQ then 0 else cQ)))).bind (λo1=>
 o o1)))))
instance (n:E)(ct:E)(dD:d au)(dE:d L)(dF:Int)(dq:g)(cQ:Int)(aC:Int):CT prog (ff n ct dD dE dF dq cQ aC):=⟨282,[.ag (M n),.fn 284 [.rp (M ct),.rp [.sl (dD.map N)],.rp [.sl (dE.map R)],.rp [y dF]],Y dq,y cQ,y aC],[],λr=>.ms 0,λr=>[o ⟨.of 3,1,r.map K⟩],Z (ff.eq_1 ..) func282 ntmps282 results282⟩
def gu(n:E)(ct:E)(dD:d au)(dE:d L)(dF:Int)(places:d g)(before:d Int)(xx:g)(k:Int)(fc:Int)(s0:Int):z (Int⊕(Unit⊕(au×Bool))):=
 u (F (s0<(G n.aC:Int)))
 (C (J n.aC s0) λy1=>
 C (bQ places y1.ar) λy2=>
 C (J places k) λy3=>
 u (!decide (y1.aZ=y3))
 (o (.inl (D (s0+1))))
 (C (J before y2) λy4=>
 u (F (y4<0))
 (o (.inl (D (s0+1))))
 (C (J before y2) λy5=>
 C (lZ n y5 (F (y1.ar=xx))) λy6=>
 C (jJ s0 y6 ct dD dE dF) λy7=>
 u y7.2
 (C (cE n y7.1) λy8=>
 u (F (y8=fc))
 (o (.inr (.inr (y7.1,Ze))))
 (o (.inl (D (s0+1)))))
 (o (.inl (D (s0+1)))))))
 (o (.inr (.inl ())))
instance (n:E)(ct:E)(dD:d au)(dE:d L)(dF:Int)(places:d g)(before:d Int)(xx:g)(k:Int)(fc:Int):bm (gu n ct dD dE dF places before xx k fc):=⟨λs0=>(.un::.fn 284 [.rp (M ct),.rp [.sl (dD.map N)],.rp [.sl (dE.map R)],.rp [y dF]]::.sl (places.map jQ)::.sl (before.map K)::Y xx::y k::y fc::.be 0 0 0::(U 6 (.be 1 0 0::(U 7 (.sl (n.aC.map cY)::y (G n.aC:Int)::y s0::(U 49 [])))))),λs0=>[o ⟨.of 27,3,[M n]⟩,o ⟨.of 48,2,[[y 0,y 0]]⟩]⟩
def l9(n:E)(ct:E)(dD:d au)(dE:d L)(dF:Int)(places:d g)(before:d Int)(xx:g)(k:Int)(fc:Int):z (au×Bool):=
 (aB (gu n ct dD dE dF places before xx k fc) NN 0).bind (bj (λo0=>
 o ((⟨0,0⟩:au),Zf)) (λr=>o r))
instance (n:E)(ct:E)(dD:d au)(dE:d L)(dF:Int)(places:d g)(before:d Int)(xx:g)(k:Int)(fc:Int):CT prog (l9 n ct dD dE dF places before xx k fc):=⟨283,[.ag (M n),.fn 284 [.rp (M ct),.rp [.sl (dD.map N)],.rp [.sl (dE.map R)],.rp [y dF]],.sl (places.map jQ),.sl (before.map K),Y xx,y k,y fc],[],λr=>.tu [.ag [y r.1.bq,y r.1.day],vb r.2],λr=>[],Z (l9.eq_1 ..) func283 ntmps283 results283⟩
def eH(n:E)(ct:E)(dD:d au)(dE:d L)(dF:Int)(dq:g)(mE:Int)(y1:d g)(y2:Int)(s0:Int×(d (d Int))):z ((Int×(d (d Int)))⊕((d (d Int))⊕((d au)×Bool))):=
 u (F (s0.1<=(G y1:Int)))
 (C (ff n ct dD dE dF dq mE s0.1) λy3=>
 u (F ((G y3:Int)=0))
 (o (.inr (.inr ([],Zf))))
 (u (F (y2<0))
 (o (.inr (.inr ([],Zf))))
 (C (Ev (.un::.fn 284 [.rp (M ct),.rp [.sl (dD.map N)],.rp [.sl (dE.map R)],.rp [y dF]]::Y dq::.un::y mE::.be 0 0 0::(U 6 (.ms 1::y y2::.ms 2::y s0.1::.sl (y3.map K)::(U 116 [])))) [o ⟨.of 27,3,[M n]⟩,o ⟨.of 9,1,y1.map jQ⟩,o ⟨.of 25,1,s0.2.map DS⟩]) λ_=>
 C (cf (bn (G (s0.2:d (d Int))+G ([y3]:d (d Int))) 24)) λ_=>
 o (.inl ((D (s0.1+1)),((s0.2:d (d Int))++[y3]))))))
 (o (.inr (.inl s0.2)))
instance (n:E)(ct:E)(dD:d au)(dE:d L)(dF:Int)(dq:g)(mE:Int)(y1:d g)(y2:Int):bm (eH n ct dD dE dF dq mE y1 y2):=⟨λs0=>(.un::.fn 284 [.rp (M ct),.rp [.sl (dD.map N)],.rp [.sl (dE.map R)],.rp [y dF]]::Y dq::.un::y mE::.be 0 0 0::(U 6 (.ms 1::y y2::.ms 2::y s0.1::(U 117 [])))),λs0=>[o ⟨.of 27,3,[M n]⟩,o ⟨.of 9,1,y1.map jQ⟩,o ⟨.of 25,1,s0.2.map DS⟩]⟩
def gh(n:E)(ct:E)(dD:d au)(dE:d L)(dF:Int)(dq:g)(y1:d g)(y2:Int)(o0:(d (d Int)))(y5:Int)(s1:Int):z (Int⊕Int):=
 C (J o0 s1) λy6=>
 C (J y6 y2) λy7=>
 u (!decide (y7=y5))
 (o (.inl (D (s1+1))))
 (o (.inr s1))
instance (n:E)(ct:E)(dD:d au)(dE:d L)(dF:Int)(dq:g)(y1:d g)(y2:Int)(o0:(d (d Int)))(y5:Int):bm (gh n ct dD dE dF dq y1 y2 o0 y5):=⟨λs1=>(.un::.fn 284 [.rp (M ct),.rp [.sl (dD.map N)],.rp [.sl (dE.map R)],.rp [y dF]]::Y dq::.un::.un::.be 0 0 0::(U 6 (.ms 1::y y2::.ms 2::.un::.un::y y5::y s1::(U 114 [])))),λs1=>[o ⟨.of 27,3,[M n]⟩,o ⟨.of 9,1,y1.map jQ⟩,o ⟨.of 25,1,o0.map DS⟩]⟩
def kU(n:E)(ct:E)(dD:d au)(dE:d L)(dF:Int)(dq:g)(y1:d g)(o0:(d (d Int)))(s2:Int×Int×Int×(d au)):z ((Int×Int×Int×(d au))⊕((d au)⊕((d au)×Bool))):=
 u (F (0<s2.2.2.1))
 (C (J o0 (D (s2.2.2.1-1))) λy8=>
 C (l9 n ct dD dE dF (y1:d g) y8 dq s2.1 s2.2.1) λy9=>
 u (!y9.2)
 (o (.inr (.inr ([],Zf))))
 (C (cf (bn (G (s2.2.2.2:d au)+G ([y9.1]:d au)) 16)) λ_=>
 C (J n.aC y9.1.bq) λdO=>
 C (bQ (y1:d g) dO.ar) λlJ=>
 C (J o0 (D (s2.2.2.1-1))) λlA=>
 C (J lA lJ) λqi=>
 o (.inl (lJ,qi,(D (s2.2.2.1-1)),((s2.2.2.2:d au)++[y9.1])))))
 (o (.inr (.inl s2.2.2.2)))
instance (n:E)(ct:E)(dD:d au)(dE:d L)(dF:Int)(dq:g)(y1:d g)(o0:(d (d Int))):bm (kU n ct dD dE dF dq y1 o0):=⟨λs2=>(.un::.fn 284 [.rp (M ct),.rp [.sl (dD.map N)],.rp [.sl (dE.map R)],.rp [y dF]]::Y dq::.un::.un::.be 0 0 0::(U 6 (.sl ((y1:d g).map jQ)::y s2.1::.ms 1::.un::.un::y s2.2.1::y s2.2.2.1::.ms 2::(U 113 [])))),λs2=>[o ⟨.of 27,3,[M n]⟩,o ⟨.of 25,1,o0.map DS⟩,o ⟨.of 48,2,s2.2.2.2.map N⟩]⟩
def kV(o2:(d au))(s3:Int×(d au)):z ((Int×(d au))⊕(d au)):=
 u (F (0<=s3.1))
 (C (J o2 s3.1) λoY=>
 C (cf (bn (G (s3.2:d au)+G ([oY]:d au)) 16)) λ_=>
 o (.inl ((D (s3.1-1)),((s3.2:d au)++[oY]))))
 (o (.inr s3.2))
instance (o2:(d au)):bm (kV o2):=⟨λs3=>(U 19 (.ms 0::.un::.un::.ms 1::y s3.1::(U 109 []))),λs3=>[o ⟨.of 48,2,o2.map N⟩,o ⟨.of 48,2,s3.2.map N⟩]⟩
def rf(n:E)(ct:E)(dD:d au)(dE:d L)(dF:Int)(dq:g)(aZ:g)(mE:Int):z ((d au)×Bool):=
 C (di n) λy1=>
 C (bQ y1 aZ) λy2=>
 (aB (eH n ct dD dE dF dq mE y1 y2) NN (0,([]:d (d Int)))).bind (bj (λo0=>
 C (J o0 (G y1:Int)) λy4=>
 C (J y4 y2) λy5=>
 u (F (y5<0))
 (o ([],Zf))
 ((aB (gh n ct dD dE dF dq y1 y2 o0 y5) NN 0).bind (λo1=>
 (aB (kU n ct dD dE dF dq y1 o0) NN (y2,y5,o1,([]:d au))).bind (bj (λo2=>
 (aB (kV o2) NN ((D ((G o2:Int)-1)),([]:d au))).bind (λo3=>
 o (o3,Ze))) (λr=>o r))))) (λr=>o r))
instance (n:E)(ct:E)(dD:d au)(dE:d L)(dF:Int)(dq:g)(aZ:g)(mE:Int):CT prog (rf n ct dD dE dF dq aZ mE):=⟨229,[.ag (M n),.fn 284 [.rp (M ct),.rp [.sl (dD.map N)],.rp [.sl (dE.map R)],.rp [y dF]],Y dq,Y aZ,y mE],[],λr=>.tu [.ms 0,vb r.2],λr=>[o ⟨.of 48,2,r.1.map N⟩],Z (rf.eq_1 ..) func229 ntmps229 results229⟩
def qX(i:Int)(j:Int)(Cx:d L):z Bool:=
 C (J Cx i) λy1=>
 C (J Cx j) λy2=>
 C (gO y1 y2) λy3=>
 o (F (y3<0))
instance (i:Int)(j:Int)(Cx:d L):CT prog (qX i j Cx):=⟨232,[y i,y j,.rp [.sl (Cx.map R)]],[],λr=>vb r,λr=>[],Z (qX.eq_1 ..) func232 ntmps232 results232⟩
def eh.Ev{P:Program}{f:FuncId}{args:d PV}{T:TypeId}{k:Nat}{es:d (d PV)}(h:eh P f args [] (.ms 0) [o ⟨T,k,es⟩])(zq:∀cs∈es,∀p∈cs,wP p=Ze):eh P f args [] (.sl es) []:=by
 intro S β w Y ω BG hl ha;refine(h S β w Y ω BG hl ha).mono ?_;rintro e w' ⟨v,E',rfl,hk,Sh,LJ,_,hr⟩;obtain⟨B,hB,hb,rfl⟩:=hr.vp hk (l:=0) rfl;have LQ:=hb.k;have hn:=hb.n;simp only at LQ hn
 have Az:∀l,β l=none:=λl=>by
  cases h:β l with
  |none=>rfl
  |some B0=>obtain⟨mb,hm⟩:=BG.dom l B0 h;grind
 let S':Nat->Prop:=λb=>E'.S b\/(B.z=Zf/\b=B.b)
 have hok:Ok w (oW β) (E1 S' (λ_=>Zd) 0) w' []:=
  ⟨hk.up,λb Ex=>by
   rcases Ex with h|⟨hz,rfl⟩
   ·exact hk.sz b h
   ·exact(hk.own 0 B hB hz).2.1,λl B h=>YM,λl l' B B' h=>YM,λl h=>absurd h (Nat.not_lt_zero l),λl B h=>YM,λl mb h=>YD,λl B h=>YM,hk.JC,λ_ _ h=>h.elim⟩
 have Ur:B.z=Zf->S B.b\/w.heap.size<=B.b\/oW β B.b:=λhz=>by
  rcases(hk.own 0 B hB hz).1 with h|h
  all_goals simp_all
 refine⟨B.sv,E1 S' (λ_=>Zd) 0,rfl,hok,λb Ex=>.inl (Sh b Ex),λb Ex=>?_,⟨λl B h=>absurd h (Nat.not_lt_zero l),λ_ _ h=>h.elim⟩,.c ?_⟩
 ·rcases Ex with h|⟨hz,rfl⟩
  all_goals simp_all
 ·cases hz:B.z with
  |true=>
   have h0:es=[]:=hb.nil hz;subst h0;have Nj:B.sv=.slice Zd 0 0:=by simp[sx.sv,hz]
   rw[Nj];exact .nil _ _
  |false=>
   have Nj:B.sv=.slice (o ⟨B.b,0,Zd⟩) (G es) B.c:=by simp[sx.sv,hz,hn]
   rw[Nj];obtain⟨cells,hc,tv,va⟩:=hb.mem hz;have uu:∀(i:Nat) (cs:d PV) (j:Nat) (p:PV),es[i]?=o cs->cs[j]?=o p->∃x,w'.cell? ⟨B.b,0+i*k+j,Zd⟩=o x/\x.oneCell'=Ze/\eO w' S' p x:=by
    intro i cs j p hi hj;obtain⟨x,x1,x2,x3⟩:=va i cs j p hi hj;rw[LQ]at x1
    refine⟨x,by rw[Nat.zero_add,cell_of_row w' B.b _ cells B.T (0,0) hc,x1],x2,?_⟩
    exact(x3.Zlb (zq cs (List.mem_of_getElem? hi) p (List.mem_of_getElem? hj))).ext (λb hb=>.inl hb) (λ_ _ _=>rfl)
   exact .sl es B.b 0 k B.c (λi j=>(w'.cell? ⟨B.b,0+i*k+j,Zd⟩).getD .nilIface) (.inr ⟨hz,rfl⟩) (by rw[<-LQ];exact hb.pos) (by rw[<-hn];exact hb.nc) hb.cm (λi cs hi=>by rw[<-LQ];exact hb.es i cs hi)
    (λi cs j p hi hj=>by grind)
    (λi cs j p hi hj=>by grind)
    (λi cs j p hi hj=>by obtain⟨x,x1,_,x3⟩:=uu i cs j p hi hj;rw[x1];exact x3)
def uv(l:d au):z (d au):=eQ l
def yL(l:d au){r:d au}(H:uv l=o r):eh prog 157 [.sl (l.map N)] [] (.sl (r.map N)) []:=
 (CT.ok (P:=prog) (x:=eQ l) H).Ev λcs tv p hp=>by
  obtain⟨x,_,rfl⟩:=List.mem_map.1 tv;simp only[N,List.mem_cons,List.not_mem_nil,or_false]at hp
  rcases hp with rfl|rfl<;>rfl
instance (l:d au):CT prog (uv l):=⟨157,[.sl (l.map N)],[],λr=>.sl (r.map N),λr=>[],yL l⟩
def sS(n:E)(bq:Int)(mD:Int)(s0:Int):z (Int⊕(Unit⊕(au×Bool))):=
 u (F (s0<=60))
 (C (nB n bq s0) λy1=>
 u y1
 (C (ca n (⟨bq,s0⟩:au)) λy2=>
 u (F (mD<=y2))
 (o (.inr (.inr ((⟨bq,s0⟩:au),Ze))))
 (o (.inl (D (s0+1)))))
 (o (.inl (D (s0+1)))))
 (o (.inr (.inl ())))
instance (n:E)(bq:Int)(mD:Int):bm (sS n bq mD):=⟨λs0=>(.un::y bq::y mD::.be 0 0 0::.un::.un::.be 1 0 0::.un::y s0::(U 21 [])),λs0=>[o ⟨.of 27,3,[M n]⟩,o ⟨.of 48,2,[[y 0,y 0]]⟩]⟩
def vX(n:E)(bq:Int)(mD:Int):z (au×Bool):=
 (aB (sS n bq mD) NN 0).bind (bj (λo0=>
 o ((⟨0,0⟩:au),Zf)) (λr=>o r))
instance (n:E)(bq:Int)(mD:Int):CT prog (vX n bq mD):=⟨372,[.ag (M n),y bq,y mD],[],λr=>.tu [.ag [y r.1.bq,y r.1.day],vb r.2],λr=>[],Z (vX.eq_1 ..) func372 ntmps372 results372⟩
def pQ(bq:Int)(gB:Int)(Cx:E):z (au×Bool):=
 C (vX Cx bq gB) λy1=>
 o (y1.1,y1.2)
instance (bq:Int)(gB:Int)(Cx:E):CT prog (pQ bq gB Cx):=⟨371,[y bq,y gB,.rp (M Cx)],[],λr=>.tu [.ag [y r.1.bq,y r.1.day],vb r.2],λr=>[],Z (pQ.eq_1 ..) func371 ntmps371 results371⟩
def py(n:E)(ct:E)(cQ:Int)(aC:Int)(y1:d g)(y2:Int)(s0:Int×(d Int)):z ((Int×(d Int))⊕(d Int)):=
 u (F (s0.1<(G y1:Int)))
 (C (cf (bn (G (s0.2:d Int)+G ([(-1)]:d Int)) 8)) λ_=>
 o (.inl ((D (s0.1+1)),((s0.2:d Int)++[(-1)]))))
 (o (.inr s0.2))
instance (n:E)(ct:E)(cQ:Int)(aC:Int)(y1:d g)(y2:Int):bm (py n ct cQ aC y1 y2):=⟨λs0=>(.un::.fn 371 [.rp (M ct)]::.un::y cQ::y aC::.be 0 0 0::(U 5 (.ms 1::y y2::.ms 2::(U 26 (y (G y1:Int)::y s0.1::(U 83 [])))))),λs0=>[o ⟨.of 27,3,[M n]⟩,o ⟨.of 9,1,y1.map jQ⟩,o ⟨.of 3,1,s0.2.map K⟩]⟩
def lj(n:E)(ct:E)(aC:Int)(y1:d g)(y2:Int)(s1:Int×(d Int))(s2:Int×Bool×(d Int)):z ((Int×Bool×(d Int))⊕(Bool×(d Int))):=
 u (F (s2.1<(G n.aC:Int)))
 (C (J n.aC s2.1) λy4=>
 C (bQ y1 y4.ar) λy5=>
 C (bQ y1 y4.aZ) λy6=>
 C (J s1.2 y5) λy7=>
 u (F (y7<0))
 (o (.inl ((D (s2.1+1)),s2.2.1,s2.2.2)))
 (C (J s1.2 y5) λy8=>
 C (lZ n y8 (F (y5=y2))) λy9=>
 C (pQ s2.1 y9 ct) λdO=>
 u dO.2
 (C (J s2.2.2 y6) λlJ=>
 u (F (lJ<0))
 (C (cE n dO.1) λlA=>
 C (J s2.2.2 y6) λqi=>
 o (.inl ((D (s2.1+1)),Ze,(s2.2.2.set (Wg y6) lA))))
 (C (cE n dO.1) λoY=>
 C (J s2.2.2 y6) λrT=>
 u (F (oY<rT))
 (C (cE n dO.1) λpI=>
 C (J s2.2.2 y6) λtE=>
 o (.inl ((D (s2.1+1)),Ze,(s2.2.2.set (Wg y6) pI))))
 (o (.inl ((D (s2.1+1)),s2.2.1,s2.2.2)))))
 (o (.inl ((D (s2.1+1)),s2.2.1,s2.2.2)))))
 (o (.inr (s2.2.1,s2.2.2)))
instance (n:E)(ct:E)(aC:Int)(y1:d g)(y2:Int)(s1:Int×(d Int)):bm (lj n ct aC y1 y2 s1):=⟨λs2=>(.un::.fn 371 [.rp (M ct)]::.un::.un::y aC::.be 0 0 0::(U 5 (.ms 1::y y2::.ms 2::y s1.1::.ms 3::vb s2.2.1::(U 44 (.sl (n.aC.map cY)::y (G n.aC:Int)::y s2.1::(U 61 [])))))),λs2=>[o ⟨.of 27,3,[M n]⟩,o ⟨.of 9,1,y1.map jQ⟩,o ⟨.of 3,1,s1.2.map K⟩,o ⟨.of 3,1,s2.2.2.map K⟩]⟩
def lh(n:E)(ct:E)(aC:Int)(y1:d g)(y2:Int)(s1:Int×(d Int)):z ((Int×(d Int))⊕(d Int)):=
 u (F (s1.1<aC))
 (C (cf (bn (G (([]:d Int):d Int)+G (s1.2:d Int)) 8)) λ_=>
 (aB (lj n ct aC y1 y2 s1) NN (0,Zf,((([]:d Int):d Int)++s1.2))).bind (λo2=>
 u (!o2.1)
 (o (.inr o2.2))
 (o (.inl ((D (s1.1+1)),o2.2)))))
 (o (.inr s1.2))
instance (n:E)(ct:E)(aC:Int)(y1:d g)(y2:Int):bm (lh n ct aC y1 y2):=⟨λs1=>(.un::.fn 371 [.rp (M ct)]::.un::.un::y aC::.be 0 0 0::(U 5 (.ms 1::y y2::.ms 2::y s1.1::(U 110 [])))),λs1=>[o ⟨.of 27,3,[M n]⟩,o ⟨.of 9,1,y1.map jQ⟩,o ⟨.of 3,1,s1.2.map K⟩]⟩
def kW(n:E)(ct:E)(dq:g)(cQ:Int)(aC:Int):z (d Int):=
 C (di n) λy1=>
 C (bQ y1 dq) λy2=>
 u (F (y2<0))
 (o ([]))
 (u (F (100000<cQ))
 (o ([]))
 (u (F (aC<0))
 (o ([]))
 ((aB (py n ct cQ aC y1 y2) NN (0,([]:d Int))).bind (λo0=>
 C (J o0 y2) λy3=>
 (aB (lh n ct aC y1 y2) NN (0,(o0.set (Wg y2) (if 0 > cQ then 0 else cQ)))).bind (λo1=>
 o o1)))))
instance (n:E)(ct:E)(dq:g)(cQ:Int)(aC:Int):CT prog (kW n ct dq cQ aC):=⟨282,[.ag (M n),.fn 371 [.rp (M ct)],Y dq,y cQ,y aC],[],λr=>.ms 0,λr=>[o ⟨.of 3,1,r.map K⟩],Z (kW.eq_1 ..) func282 ntmps282 results282⟩
