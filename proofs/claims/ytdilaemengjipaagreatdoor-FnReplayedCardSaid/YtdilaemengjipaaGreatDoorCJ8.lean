/- A part of the proof of the statement in the last file of this claim: texts on the language of the program and on its functions. No condition. -/
import Derived.Test.YtdilaemengjipaaGreatDoorCJ4
import Derived.Test.YtdilaemengjipaaGreatDoorCJ1
set_option linter.unusedVariables false
set_option linter.unusedSimpArgs false
set_option linter.unusedSectionVars false
open Option renaming some->YW,none->YX
open Bool renaming true->YY,false->YZ
open Decidable renaming decide->Y0
open Go.Proofs.Tryz
set_option maxHeartbeats 40000000
namespace Go.Proofs.YtdilaemengjipaaGreatDoor
open _root_.Array renaming getElem?_eq_some_iff->We
set_option maxRecDepth 10000
open Go.RowKit
def eF(l:List Int):Option (List Int):=
 (cr (bn ((([]:List Int):List Int).length+(l:List Int).length) 8)).bind λ_=>
 YW ((([]:List Int):List Int)++l)
instance (l:List Int):CT prog (eF l):=⟨105,[.sl (l.map aG)],[],λr=>.ms 0,λr=>[YW ⟨.of 3,1,r.map aG⟩],cw (eF.eq_1 ..) func105 ntmps105 results105⟩
def qF(l:bP):Option Bool:=
 (dT l.ar).bind λy1=>
 cond y1
 ((dT l.aY).bind λy2=>
 cond y2
 (cond (!decide (l.ar=l.aY))
 ((aX l.start 0 1439).bind λy3=>
 cond y3
 ((aX l.nd 1 4320).bind λy4=>
 cond y4
 ((aX l.vt 1 127).bind λy5=>
 cond y5
 ((aX l.jk 0 1000000).bind λy6=>
 YW y6)
 (YW YZ))
 (YW YZ))
 (YW YZ))
 (YW YZ))
 (YW YZ))
 (YW YZ)
instance (l:bP):CT prog (qF l):=⟨204,[.ag (bo l)],[],λr=>vb r,λr=>[],cw (qF.eq_1 ..) func204 ntmps204 results204⟩
def my(n:ah)(s0:Int):Option (Int⊕(Unit⊕Bool)):=
 cond (Y0 (s0<(n.aA.length:Int)))
 ((aB n.aA s0).bind λy1=>
 (qF y1).bind λy2=>
 cond (!y2)
 (YW (.inr (.inr YZ)))
 (YW (.inl (aM (s0+1)))))
 (YW (.inr (.inl ())))
instance (n:ah):bp (my n):=⟨λs0=>(.un::.be 0 0 0::(U 6 (.sl (n.aA.map bo)::vi (n.aA.length:Int)::vi s0::(U 48 [])))),λs0=>[YW ⟨.of 27,3,[[.sl (n.aA.map bo),.sl (n.off.map aG),vi n.change]]⟩]⟩
def mz(n:ah)(s1:Int):Option (Int⊕(Unit⊕Bool)):=
 cond (Y0 (s1<(n.off.length:Int)))
 ((aB n.off s1).bind λy3=>
 (aX y3 0 60).bind λy4=>
 cond (!y4)
 (YW (.inr (.inr YZ)))
 (cond (Y0 (0<s1))
 ((aB n.off (aM (s1-1))).bind λy5=>
 cond (Y0 (y3<=y5))
 (YW (.inr (.inr YZ)))
 (YW (.inl (aM (s1+1)))))
 (YW (.inl (aM (s1+1))))))
 (YW (.inr (.inl ())))
instance (n:ah):bp (mz n):=⟨λs1=>(.un::.be 0 0 0::(U 17 (.sl (n.off.map aG)::vi (n.off.length:Int)::vi s1::(U 37 [])))),λs1=>[YW ⟨.of 27,3,[[.sl (n.aA.map bo),.sl (n.off.map aG),vi n.change]]⟩]⟩
def fg(n:ah):Option Bool:=
 (aE (my n) NN 0).bind (bh (λo0=>
 (aE (mz n) NN 0).bind (bh (λo1=>
 cond (Y0 ((n.aA.length:Int)<=20))
 (cond (Y0 ((n.off.length:Int)<=10))
 ((aX n.change 0 240).bind λy6=>
 YW y6)
 (YW YZ))
 (YW YZ)) (λr=>YW r))) (λr=>YW r))
instance (n:ah):CT prog (fg n):=⟨150,[.ag (bB n)],[],λr=>vb r,λr=>[],cw (fg.eq_1 ..) func150 ntmps150 results150⟩
def o7(l:List aq)(t:av)(s0:Int×Int):Option ((Int×Int)⊕Int):=
 cond (Y0 (s0.2<(l.length:Int)))
 ((aB l s0.2).bind λy1=>
 cond (Y0 (y1.bk=t))
 (YW (.inl ((aM (s0.1+y1.ab)),(aM (s0.2+1)))))
 (YW (.inl (s0.1,(aM (s0.2+1))))))
 (YW (.inr s0.1))
instance (l:List aq)(t:av):bp (o7 l t):=⟨λs0=>(U 3 (.be 0 0 0::.un::vi s0.1::.un::.un::.sl (l.map aC)::vi (l.length:Int)::vi s0.2::(U 13 []))),λs0=>[YW ⟨.of 46,2,[[vi t.bH,vi t.day]]⟩]⟩
def kj(l:List aq)(t:av):Option Int:=
 (aE (o7 l t) NN (0,0)).bind (λo0=>
 YW o0)
instance (l:List aq)(t:av):CT prog (kj l t):=⟨152,[.sl (l.map aC),.ag (aU t)],[],λr=>vi r,λr=>[],cw (kj.eq_1 ..) func152 ntmps152 results152⟩
def fe(n:ah)(x:az):Option ByteArray:=
 cond (Y0 (x.state=2))
 ((aB x.aK x.aO).bind λy1=>
 (aB n.aA y1.bH).bind λy2=>
 YW y2.aY)
 (YW x.place)
instance (n:ah)(x:az):CT prog (fe n x):=⟨295,[.ag (bB n),.ag (aZ x)],[],λr=>vs r,λr=>[],cw (fe.eq_1 ..) func295 ntmps295 results295⟩
def kn(l:List aq):Option (List aq):=
 (cr (bn ((([]:List aq):List aq).length+(l:List aq).length) 32)).bind λ_=>
 YW ((([]:List aq):List aq)++l)
instance (l:List aq):CT prog (kn l):=⟨168,[.sl (l.map aC)],[],λr=>.ms 0,λr=>[YW ⟨.of 147,4,r.map aC⟩],cw (kn.eq_1 ..) func168 ntmps168 results168⟩
class zk{α β:Type}[eZ β](c:α->List PV)(g:α->β):Prop where
 len:∀x,(c x).length=eZ.k β
 aQ:∀x (j:Nat) (p:PV),(c x)[j]?=YW p->∃u,(eZ.cells (g x))[j]?=YW u/\p=.v u
theorem Zba{α β:Type}[eZ β]{c:α->List PV}(g:α->β)[hf:zk c g]{w:World}{S:Nat->Prop}{xs:List α}{x:Value}(uV:∀b,S b->b<w.heap.size)(h:eI w S (.sl (xs.map c)) x):
 ∃A n,x=.slice A xs.length n/\xs.length<=n/\(xs≠[]->n<=maxLen)/\Rd w w.heap.size A (xs.map g):=by
 generalize hq:PV.sl (xs.map c)=q at h
 cases h with
 |v x h=>cases hq
 |ud=>cases hq
 |un=>cases hq
 |rp=>cases hq
 |fn=>cases hq
 |nil A n=>
  have:xs=[]:=by simpa using hq
  exact⟨A,n,by rw[this];rfl,by rw[this];simp,λh=>absurd this h,by rw[this];exact Rd.ZaL⟩
 |sl es b off k n u hS hkp xi hm xh BA h1 hrr=>
  obtain rfl:xs.map c=es:=by simpa using hq
  refine⟨_,n,by simp,by simpa using xi,λ_=>hm,λgZ=>⟨b,off,rfl,uV b hS,λt u' I6=>?_⟩⟩
  have Zfk:xs≠[]:=λe=>gZ (by rw[e];rfl)
  have ib:0<xs.length:=List.length_pos_iff.2 Zfk;have hk1:k=eZ.k β:=((xh 0 (c xs[0]) (by simp[ib])).symm).trans (hf.len _)
  subst hk1;have Zfd:0<eZ.k β:=hkp;have ht:=(List.getElem?_eq_some_iff.1 I6).1;rw[qA,List.length_map]at ht
  have hi:t / eZ.k β<xs.length:=by rw[Nat.div_lt_iff_lt_mul Zfd];exact ht
  have hj:=Nat.mod_lt t Zfd;have e0:t / eZ.k β*eZ.k β+t % eZ.k β=t:=by rw[Nat.mul_comm];exact Nat.div_add_mod t _
  have e1:(xs.map c)[t / eZ.k β]?=YW (c xs[t / eZ.k β]):=by simp[hi]
  have e2:(c xs[t / eZ.k β])[t % eZ.k β]?=YW ((c xs[t / eZ.k β])[t % eZ.k β]'(by rw[hf.len];exact hj)):=List.getElem?_eq_getElem _
  obtain⟨v,hv,hp⟩:=hf.aQ _ _ _ e2;have Lx:=uz (xs:=xs.map g) (i:=t / eZ.k β) (x:=g xs[t / eZ.k β]) (by simp[hi]) hv
  rw[e0,I6]at Lx
  obtain rfl:=Option.some.inj Lx;have hc:=BA _ _ _ _ e1 e2;have hz:=hrr _ _ _ _ e1 e2;rw[hp]at hz
  have u4:u (t / eZ.k β) (t % eZ.k β)=u':=by
   generalize u (t / eZ.k β) (t % eZ.k β)=z at hz
   cases hz with
   |v _ _=>rfl
  rw[u4]at hc
  rw[<-e0,<-Nat.add_assoc];exact hc
theorem Zel{vs:Array Value}{x0 x1 x2:Value}(h:vs.size=3)(h0:vs[0]?=YW x0)(h1:vs[1]?=YW x1)(h2:vs[2]?=YW x2):vs=#[x0,x1,x2]:=by
 apply Array.ext (by simp[h])
 intro i hi h3;have a0:=(We.1 h0).2;have a1:=(We.1 h1).2;have a2:=(We.1 h2).2
 match i,hi with
 |0,_=>simpa using a0
 |1,_=>simpa using a1
 |2,_=>simpa using a2
 |i+3,hi=>omega
theorem Mx{w:World}{E:Env}{a x:Value}(h:dG w E (.v a) x):x=a:=h.iz.1
end Go.Proofs.YtdilaemengjipaaGreatDoor
