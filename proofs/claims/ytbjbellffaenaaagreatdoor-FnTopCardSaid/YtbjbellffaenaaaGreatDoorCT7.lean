/- A part of the proof of this claim's last theorem. No condition. -/
import Derived.Test.YtbjbellffaenaaaGreatDoorCT4
set_option linter.all false
set_option maxRecDepth 10000
open Option renaming some->s,none->Zd
open Bool renaming true->V,false->G
open Decidable renaming decide->D
open List renaming length->M
open Option renaming bind->K
open _root_ renaming ByteArray->F,List->C,Option->y,UInt8->T,Unit->Y,absurd->R,cond->d
open Go.Proofs.YtbjbellffaenaaaGreatDoor renaming CT->X,aJ->O,ab->W,au->L,az->N,bg->Z,vi->J
open Go.Proofs.Tryz
set_option maxHeartbeats 40000000
open _root_.Array renaming getElem?_eq_some_iff->V6
open UInt8 renaming not_lt->Xr,le_antisymm->XR
namespace Go.Proofs.YtbjbellffaenaaaGreatDoor
open Go.RowKit
def bp(n:W)(t:L):y Int:=
 K (N n.aC t.bq) λy1=>
 s (O ((O (t.day*1440))+y1.start))
instance (n:W)(t:L):X prog (bp n t):=⟨215,[.ag (aT n),.ag (Z t)],[],λr=>J r,λr=>[],cw (bp.eq_1 ..) func215 ntmps215 results215⟩
def bo(n:W)(t:L):y Int:=
 K (bp n t) λy1=>
 K (N n.aC t.bq) λy2=>
 s (O (y1+y2.o8))
instance (n:W)(t:L):X prog (bo n t):=⟨248,[.ag (aT n),.ag (Z t)],[],λr=>J r,λr=>[],cw (bo.eq_1 ..) func248 ntmps248 results248⟩
def qI(n:W)(day:Int)(s0:Int):y (Int⊕(Y⊕Bool)):=
 d (D (s0<(M n.off:Int)))
 (K (N n.off s0) λy3=>
 d (D (y3=day))
 (s (.inr (.inr G)))
 (s (.inl (O (s0+1)))))
 (s (.inr (.inl ())))
instance (n:W)(day:Int):bm (qI n day):=⟨λs0=>(.un::.un::J day::(U 34 (.sl (n.off.map aW)::J (M n.off:Int)::J s0::(U 7 [])))),λs0=>[]⟩
def nB(n:W)(bq:Int)(day:Int):y Bool:=
 d (D (bq<0))
 (s G)
 (d (D ((M n.aC:Int)<=bq))
 (s G)
 (K (ba day 0 60) λy1=>
 d (!y1)
 (s G)
 (K (N n.aC bq) λy2=>
 K (cf (D (0<=(Int.tmod day 7)))) λ_=>
 d (D ((IntKind.i64.wrap (BitVec.ofInt IntKind.i64.bits (Int.fdiv y2.yr (2 ^ (min (Int.toNat (Int.tmod day 7)) IntKind.i64.bits))) &&& BitVec.ofInt IntKind.i64.bits 1).toNat)=0))
 (s G)
 ((aB (qI n day) NN 0).bind (bj (λo0=>
 s V) (λr=>s r))))))
instance (n:W)(bq:Int)(day:Int):X prog (nB n bq day):=⟨174,[.ag (aT n),J bq,J day],[],λr=>vb r,λr=>[],cw (nB.eq_1 ..) func174 ntmps174 results174⟩
def qq(l:C L)(t:L)(s0:Int):y (Int⊕(Y⊕Bool)):=
 d (D (s0<(M l:Int)))
 (K (N l s0) λy1=>
 d (D (y1=t))
 (s (.inr (.inr V)))
 (s (.inl (O (s0+1)))))
 (s (.inr (.inl ())))
instance (l:C L)(t:L):bm (qq l t):=⟨λs0=>(U 3 (.be 0 0 0::(U 3 (.sl (l.map Z)::J (M l:Int)::J s0::(U 7 []))))),λs0=>[s ⟨.of 48,2,[[J t.bq,J t.day]]⟩]⟩
def fT(l:C L)(t:L):y Bool:=
 (aB (qq l t) NN 0).bind (bj (λo0=>
 s G) (λr=>s r))
instance (l:C L)(t:L):X prog (fT l t):=⟨90,[.sl (l.map Z),.ag (Z t)],[],λr=>vb r,λr=>[],cw (fT.eq_1 ..) func90 ntmps90 results90⟩
def vo(l:C L)(t:L)(s0:Int):y (Int⊕(Y⊕Bool)):=
 d (D (s0<(M l:Int)))
 (K (N l s0) λy1=>
 d (D (y1=t))
 (s (.inr (.inr V)))
 (s (.inl (O (s0+1)))))
 (s (.inr (.inl ())))
instance (l:C L)(t:L):bm (vo l t):=⟨λs0=>(.sl (l.map Z)::.un::.un::.be 0 0 0::.un::J s0::(U 12 [])),λs0=>[s ⟨.of 48,2,[[J t.bq,J t.day]]⟩]⟩
def dZ(l:C L)(t:L):y Bool:=
 (aB (vo l t) NN 0).bind (bj (λo0=>
 s G) (λr=>s r))
instance (l:C L)(t:L):X prog (dZ l t):=⟨197,[.sl (l.map Z),.ag (Z t)],[],λr=>vb r,λr=>[],cw (dZ.eq_1 ..) func197 ntmps197 results197⟩
def qZ(l:C aq)(t:L)(s0:Int×Int):y ((Int×Int)⊕Int):=
 d (D (s0.2<(M l:Int)))
 (K (N l s0.2) λy1=>
 d (D (y1.aN=t))
 (s (.inl ((O (s0.1+y1.ah)),(O (s0.2+1)))))
 (s (.inl (s0.1,(O (s0.2+1))))))
 (s (.inr s0.1))
instance (l:C aq)(t:L):bm (qZ l t):=⟨λs0=>(U 3 (.be 0 0 0::.un::J s0.1::.un::.un::.sl (l.map aG)::J (M l:Int)::J s0.2::(U 13 []))),λs0=>[s ⟨.of 48,2,[[J t.bq,J t.day]]⟩]⟩
def kg(l:C aq)(t:L):y Int:=
 (aB (qZ l t) NN (0,0)).bind (λo0=>
 s o0)
instance (l:C aq)(t:L):X prog (kg l t):=⟨49,[.sl (l.map aG),.ag (Z t)],[],λr=>J r,λr=>[],cw (kg.eq_1 ..) func49 ntmps49 results49⟩
def cA(n:W)(x:ay)(now:Int):y Bool:=
 d (D (0<x.aH))
 (K (N x.aE (O (x.aH-1))) λy1=>
 K (N n.aC y1.bq) λy2=>
 K (N x.aE (O (x.aH-1))) λy3=>
 K (bo n y3) λy4=>
 d (D (now<y4))
 (s G)
 (d (D (x.state=1))
 (d (D (x.place=y2.aZ))
 (d (!decide (y2.aZ=x.aZ))
 (d (D (x.bK=0))
 (d (D (x.aH=(M x.aE:Int)))
 (s V)
 (K (N x.aE x.aH) λy5=>
 K (bp n y5) λy6=>
 s (D (now<y6))))
 (s G))
 (s G))
 (s G))
 (d (D (x.state=2))
 (d (D (x.place=⟨#[]⟩))
 (d (D (x.bK=0))
 (d (D (x.aH<(M x.aE:Int)))
 (K (N x.aE x.aH) λy7=>
 K (bp n y7) λy8=>
 d (D (y8<=now))
 (K (N x.aE x.aH) λy9=>
 K (bo n y9) λdO=>
 s (D (now<dO)))
 (s G))
 (s G))
 (s G))
 (s G))
 (d (D (x.state=3))
 (d (D (x.place=x.aZ))
 (d (D (y2.aZ=x.aZ))
 (d (D (x.aH=(M x.aE:Int)))
 (d (D (0<x.aH))
 (K (N x.aE (O (x.aH-1))) λlJ=>
 K (bo n lJ) λlA=>
 s (D (x.bK=lA)))
 (s G))
 (s G))
 (s G))
 (s G))
 (s G)))))
 (d (D (x.state=1))
 (d (D (x.place=x.ar))
 (d (!decide (x.ar=x.aZ))
 (d (D (x.bK=0))
 (d (D (x.aH=(M x.aE:Int)))
 (s V)
 (K (N x.aE x.aH) λqi=>
 K (bp n qi) λoY=>
 s (D (now<oY))))
 (s G))
 (s G))
 (s G))
 (d (D (x.state=2))
 (d (D (x.place=⟨#[]⟩))
 (d (D (x.bK=0))
 (d (D (x.aH<(M x.aE:Int)))
 (K (N x.aE x.aH) λrT=>
 K (bp n rT) λpI=>
 d (D (pI<=now))
 (K (N x.aE x.aH) λtE=>
 K (bo n tE) λxT=>
 s (D (now<xT)))
 (s G))
 (s G))
 (s G))
 (s G))
 (d (D (x.state=3))
 (d (D (x.place=x.aZ))
 (d (D (x.ar=x.aZ))
 (d (D (x.aH=(M x.aE:Int)))
 (d (D (0<x.aH))
 (K (N x.aE (O (x.aH-1))) λzf=>
 K (bo n zf) λFh=>
 s (D (x.bK=Fh)))
 (s G))
 (s G))
 (s G))
 (s G))
 (s G))))
instance (n:W)(x:ay)(now:Int):X prog (cA n x now):=⟨251,[.ag (aT n),.ag (bx x),J now],[],λr=>vb r,λr=>[],cw (cA.eq_1 ..) func251 ntmps251 results251⟩
def jc(o:ay):y Int:=
 d (D (o.state=2))
 (s (if(M o.aE:Int)<(O (o.aH+1))then(M o.aE:Int)else(O (o.aH+1))))
 (s o.aH)
instance (o:ay):X prog (jc o):=⟨118,[.ag (bx o)],[],λr=>J r,λr=>[],cw (jc.eq_1 ..) func118 ntmps118 results118⟩
def ko(w:aw)(id:Int)(t:L)(s0:Int):y (Int⊕(Y⊕Bool)):=
 d (D (s0<(M w.av:Int)))
 (K (N w.av s0) λy1=>
 d (D (y1.aR=id))
 (d (D (y1.aN=t))
 (K (N w.ae (O (id-1))) λy2=>
 s (.inr (.inr (D (y1.ah=y2.ah)))))
 (s (.inl (O (s0+1)))))
 (s (.inl (O (s0+1)))))
 (s (.inr (.inl ())))
instance (w:aw)(id:Int)(t:L):bm (ko w id t):=⟨λs0=>(.un::J id::.un::.be 0 0 0::.un::.be 1 0 0::(U 4 (.sl (w.av.map aG)::J (M w.av:Int)::J s0::(U 24 [])))),λs0=>[s ⟨.of 33,10,[cL w]⟩,s ⟨.of 48,2,[[J t.bq,J t.day]]⟩]⟩
def nz(w:aw)(id:Int)(t:L):y Bool:=
 (aB (ko w id t) NN 0).bind (bj (λo0=>
 s G) (λr=>s r))
instance (w:aw)(id:Int)(t:L):X prog (nz w id t):=⟨159,[.ag (cL w),J id,.ag (Z t)],[],λr=>vb r,λr=>[],cw (nz.eq_1 ..) func159 ntmps159 results159⟩
class we{α β:Type}[eZ β](c:α->C PV)(g:α->β):Prop where
 len:∀x,(c x).length=eZ.k β
 aQ:∀x (j:Nat) (p:PV),(c x)[j]?=s p->∃u,(eZ.cells (g x))[j]?=s u/\p=.v u
def K9{α β:Type}[eZ β]{c:α->C PV}(g:α->β)[hf:we c g]{w:World}{S:Nat->Prop}{xs:C α}{x:Value}(xh:∀b,S b->b<w.heap.size)(h:eO w S (.sl (xs.map c)) x):
 ∃A n,x=.slice A (M xs) n/\(M xs)<=n/\(xs≠[]->n<=maxLen)/\Rd w w.heap.size A (xs.map g):=by
 generalize hq:PV.sl (xs.map c)=q at h
 cases h with
 |v x h=>cases hq
 |ud=>cases hq
 |un=>cases hq
 |rp=>cases hq
 |fn=>cases hq
 |nil A n=>
  have:xs=[]:=by simpa using hq
  exact⟨A,n,by rw[this];rfl,by rw[this];simp,λh=>R this h,by rw[this];exact Rd.Zfl⟩
 |sl es b off k n u hS hkp xW hm zq ta h1 hrr=>
  obtain rfl:xs.map c=es:=by simpa using hq
  refine⟨_,n,by simp,by simpa using xW,λ_=>hm,λgL=>⟨b,off,rfl,xh b hS,λt u' Nn=>?_⟩⟩
  have Zkj:xs≠[]:=λe=>gL (by rw[e];rfl)
  have iZ:0<M xs:=List.length_pos_iff.2 Zkj;have hk1:k=eZ.k β:=((zq 0 (c xs[0]) (by simp[iZ])).symm).trans (hf.len _)
  subst hk1;have Zkd:0<eZ.k β:=hkp;have ht:=(List.getElem?_eq_some_iff.1 Nn).1;rw[nd,List.length_map]at ht
  have hi:t / eZ.k β<M xs:=by rw[Nat.div_lt_iff_lt_mul Zkd];exact ht
  have hj:=Nat.mod_lt t Zkd;have e0:t / eZ.k β*eZ.k β+t % eZ.k β=t:=by rw[Nat.mul_comm];exact Nat.div_add_mod t _
  have e1:(xs.map c)[t / eZ.k β]?=s (c xs[t / eZ.k β]):=by simp[hi]
  have e2:(c xs[t / eZ.k β])[t % eZ.k β]?=s ((c xs[t / eZ.k β])[t % eZ.k β]'(by rw[hf.len];exact hj)):=List.getElem?_eq_getElem _
  obtain⟨v,hv,hp⟩:=hf.aQ _ _ _ e2;have LO:=xu (xs:=xs.map g) (i:=t / eZ.k β) (x:=g xs[t / eZ.k β]) (by simp[hi]) hv
  rw[e0,Nn]at LO
  obtain rfl:=Option.some.inj LO;have hc:=ta _ _ _ _ e1 e2;have hz:=hrr _ _ _ _ e1 e2;rw[hp]at hz
  have xB:u (t / eZ.k β) (t % eZ.k β)=u':=by
   generalize u (t / eZ.k β) (t % eZ.k β)=z at hz
   cases hz with
   |v _ _=>rfl
  rw[xB]at hc
  rw[<-e0,<-Nat.add_assoc];exact hc
def Zea{P:Program}{f:FuncId}{args:C PV}{val:Value}(h1:val.oneCell'=V)
 (h:∀(S:Nat->Prop) (β:Nat->y sx) (w:World) (vs:Array Value),(∀b,S b->b<w.heap.size)->vs.size=M args->(∀(i:Nat) (p:PV),args[i]?=s p->∃x,vs[i]?=s x/\eC w (E1 S β 0) p x)->
  Calls P f vs w λe w'=>e=.returned val/\Up w w'):eh P f args [] (.v val) []:=by
 intro S β w vs ω hk hl ha;refine(h S β w vs hk.sz hl λi p hp=>by obtain⟨x,h1,h2⟩:=ha i p hp;exact⟨x,h1,h2.Zlc⟩).mono ?_
 rintro e w' ⟨rfl,hu⟩;refine⟨val,E1 S β 0,rfl,⟨⟨hu.os,hu.tape,hu.output,hu.size,λb hb _=>hu.block b hb⟩,λb hb=>Nat.lt_of_lt_of_le (hk.sz b hb) hu.size,λl B hB hz=>?_,hk.inj,hk.used,hk.bu,λl mb hm=>(by simp at hm),hk.dom,hk.JC,λ_ _ h=>h.elim⟩,λb h=>h,λb h=>.inl h,⟨λl B _ h=>h,λ_ _ h=>h.elim⟩,.c (.v _ h1)⟩
 obtain⟨a,b,c⟩:=hk.own l B hB hz;exact⟨a,Nat.lt_of_lt_of_le b hu.size,c⟩
def ZgJ{vs:Array Value}{x0 x1 x2:Value}(h:vs.size=3)(h0:vs[0]?=s x0)(h1:vs[1]?=s x1)(h2:vs[2]?=s x2):vs=#[x0,x1,x2]:=by
 apply Array.ext (by simp[h])
 intro i hi h3;have a0:=(V6.1 h0).2;have a1:=(V6.1 h1).2;have a2:=(V6.1 h2).2
 match i,hi with
 |0,_=>simpa using a0
 |1,_=>simpa using a1
 |2,_=>simpa using a2
 |i+3,hi=>omega
def DB{w:World}{E:Env}{a x:Value}(h:eC w E (.v a) x):x=a:=h.jw.1
instance :we aW (id:Int->Int):=⟨λx=>rfl,λx j p h=>by
 cases j with
 |zero=>obtain rfl:J x=p:=by simpa using h
        exact⟨_,rfl,rfl⟩
 |succ j=>simp[aW]at h⟩
end Go.Proofs.YtbjbellffaenaaaGreatDoor
namespace Go.Proofs.YtbjbellffaenaaaGreatDoor
open Go.RowKit Go.Lib
@[go_sem] def ZnV:wk prog 269:=⟨_,func269,rfl,by kernel_rfl⟩
def nO(a b:F):y Int:=s (Lib.compareBytes a.data.toList b.data.toList)
def AJ(a b:F){r:Int}(H:nO a b=s r):eh prog 269 [vs a,vs b] [] (J r) []:=by
 unfold nO at H
 obtain rfl:=Option.some.inj H;refine Zea rfl λS β w args hS hl ha=>?_
 obtain⟨x0,q0,r0⟩:=ha 0 _ rfl;obtain⟨x1,q1,r1⟩:=ha 1 _ rfl;obtain rfl:=DB r0;obtain rfl:=DB r1;have Qd:args.size=2:=hl;have hargs:args=#[Value.string a,Value.string b]:=by
  apply Array.ext (by rw[Qd];rfl)
  intro i h2 h3;have a0:=(V6.1 q0).2;have a1:=(V6.1 q1).2
  match i,h2 with
  |0,_=>simpa using a0
  |1,_=>simpa using a1
  |i+2,h2=>omega
 rw[hargs];refine(Tryz.strings_Compare a b w).mono ?_;rintro e w' ⟨rfl,rfl⟩;exact⟨rfl,Up.rfl' _⟩
instance (a b:F):X prog (nO a b):=⟨269,[vs a,vs b],[],λr=>J r,λr=>[],AJ a b⟩
def lexB(a b:F):Bool:=D (Lib.compareBytes a.data.toList b.data.toList<0)
def R0:∀l:C T,Lib.compareBytes l l=0
 | []=>rfl
 |a::l=>by
  unfold Lib.compareBytes;rw[if_neg YE,if_neg YE];exact R0 l
def EP:∀{a b:C T},Lib.compareBytes a b=0->a=b
 | [],[],_=>rfl
 | [],_::_,h=>by simp[Lib.compareBytes]at h
 |_::_,[],h=>by simp[Lib.compareBytes]at h
 |a::as_,b::bs,h=>by
  unfold Lib.compareBytes at h
  split at h
  ·simp at h
  ·rename_i h1
   split at h
   ·simp at h
   ·rename_i h2
    have:a=b:=by
     have LH:=Xr.1 h1;have h2':=Xr.1 h2;exact XR h2' LH
    rw[this,EP h]
def Bo:∀a b:C T,Lib.compareBytes a b=- Lib.compareBytes b a
 | [],[]=>by simp[Lib.compareBytes]
 | [],_::_=>by simp[Lib.compareBytes]
 |_::_,[]=>by simp[Lib.compareBytes]
 |a::as_,b::bs=>by
  unfold Lib.compareBytes
  by_cases h1:a<b
  ·rw[if_pos h1,if_neg (λh=>by have:=UInt8.lt_asymm h1;exact this h),if_pos h1]
  ·rw[if_neg h1]
   by_cases h2:b<a
   ·rw[if_pos h2,if_pos h2];rfl
   ·rw[if_neg h2,if_neg h2,if_neg h1]
    exact Bo as_ bs
def FO:∀{a b c:C T},Lib.compareBytes a b<0->Lib.compareBytes b c<0->Lib.compareBytes a c<0
 | [],_,[],h1,h2=>by
  rename_i b
  cases b with
  |nil=>simp[Lib.compareBytes]at h1
  |cons x xs=>simp[Lib.compareBytes]at h2
 | [],_,_::_,_,_=>by simp[Lib.compareBytes]
 |_::_,[],_,h1,_=>by simp[Lib.compareBytes]at h1
 |_::_,_::_,[],_,h2=>by simp[Lib.compareBytes]at h2
 |a::as_,b::bs,c::cs,h1,h2=>by
  unfold Lib.compareBytes at h1 h2⊢
  by_cases a1:a<b
  ·by_cases b1:b<c
   ·rw[if_pos (UInt8.lt_trans a1 b1)];decide
   ·rw[if_neg b1]at h2
    by_cases b2:c<b
    ·rw[if_pos b2]at h2;exact R h2 YJ
    ·have:b=c:=XR (Xr.1 b2) (Xr.1 b1)
     rw[if_pos (this▸a1)];decide
  ·rw[if_neg a1]at h1
   by_cases a2:b<a
   ·rw[if_pos a2]at h1;exact R h1 YJ
   ·rw[if_neg a2]at h1
    have C2:a=b:=XR (Xr.1 a2) (Xr.1 a1);subst C2
    by_cases b1:a<c
    ·rw[if_pos b1];decide
    ·rw[if_neg b1]at h2⊢
     by_cases b2:c<a
     ·rw[if_pos b2]at h2;exact R h2 YJ
     ·rw[if_neg b2]at h2⊢
      exact FO h1 h2
end Go.Proofs.YtbjbellffaenaaaGreatDoor
namespace Go.Proofs.YtbjbellffaenaaaGreatDoor
open Go.RowKit
@[ext] structure lp where
 place:F
 aQ:Int
 deriving DecidableEq
abbrev ZgK(x:lp):C PV:=[vs x.place,J x.aQ]
@[ext] structure eM where
 n:W
 aQ:Int
 known:Bool
 place:F
 Vx:L
 Af:Bool
 free:Bool
 ar:lp
 aZ:lp
 more:Bool
abbrev FV(x:eM):C PV:=[.sl (x.n.aC.map cY),.sl (x.n.off.map aW),J x.n.change,J x.aQ,vb x.known,vs x.place,J x.Vx.bq,J x.Vx.day,vb x.Af,vb x.free,vs x.ar.place,J x.ar.aQ,vs x.aZ.place,J x.aZ.aQ,vb x.more]
