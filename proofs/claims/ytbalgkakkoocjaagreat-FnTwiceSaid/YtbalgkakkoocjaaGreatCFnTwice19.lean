/- A part of the proof of the statement in the last file of this claim: texts on the language of the program and on its functions. No condition. -/
import Derived.Test.YtbalgkakkoocjaaGreatCFnTwice17
import Derived.Test.YtbalgkakkoocjaaGreatCFnTwice13
import Derived.Test.YtbalgkakkoocjaaGreatCFnTwice15
import Derived.Test.YtbalgkakkoocjaaGreatCFnTwice14
import Derived.Test.YtbalgkakkoocjaaGreatCFnTwice10
import Derived.Test.YtbalgkakkoocjaaGreatCFnTwice16
import Derived.Test.YtbalgkakkoocjaaGreatCFnTwice6
import Derived.Test.YtbalgkakkoocjaaGreatCFnTwice5
set_option linter.unusedVariables false
set_option linter.unusedSimpArgs false
set_option linter.unusedSectionVars false
namespace Go.Proofs.YtbalgkakkoocjaaGreat
open List renaming mem_of_getElem?→VW,getElem?_eq_getElem→VT,getElem_mem→Wm,length_take→V8,length_append→V2,getElem?_append_left→Wd,getElem?_take_of_lt→WR
open Option renaming bind_some→VS,getD_some→Ws
set_option maxRecDepth 10000
open Go.RowKit
variable {c:aP}{l:bM}{o o':az}{r:List au}{w:av}
structure P9(n:aj)(o:az):Prop where
 aJ:0≤o.aJ∧o.aJ≤100001
 comes:aX o≤o.aE.length
 aE:o.aE.length≤110000
 bx:∀(k:Nat) t,(k:Int)<aX o→o.aE[k]?=some t→∃y,aC n.ay t.bx=some y
def Zee(n:aj)(o:az):Prop:=aX o=o.aE.length∨∀t,o.aE.getLast?=some t→bU n t=o.aV
structure NM(n:aj)(now:Int)(o:az):Prop where
 ends:Zee n o
 started:o.state=2→∃t,o.aE[o.aJ.toNat]?=some t∧cd n t≤now
 aJ:0≤o.aJ∧o.aJ≤100001
structure WD(n:aj)(w:av):Prop where
 fit:pY w
 ey:w.aa=n
 ae:w.ae.length≤1000
 fin:∀o∈w.ah,NM n w.now o
structure AgD(n:aj)(w:av):Prop where
 ey:w.aa=n
 ah:w.ah.length≤30
 aq:w.aq.length≤120
 ae:w.ae.length≤21
 aH:w.aH.length≤201
 skip:w.skip.length≤50
 ord:∀o∈w.ah,P9 n o
 fin:∀o∈w.ah,NM n w.now o
theorem FN{n:aj}(h:tC n o):o.aE.length≤100001:=by
 have key:∀(i:Nat) t,o.aE[i]?=some t→(i:Int)≤cd n t:=by
  intro i
  induction i with
  |zero=>intro t ht;exact(h.bf t (VW ht)).1
  |succ i ih=>
   intro t ht
   have bF:=(List.getElem?_eq_some_iff.1 ht).1
   have h1:o.aE[i]?=some o.aE[i]:=VT (by omega)
   have:=ih _ h1
   have:=h.bf _ (Wm (show i<o.aE.length by omega))
   have:=h.next i _ _ h1 ht
   omega
 rcases Nat.eq_zero_or_pos o.aE.length with h0|h0
 ·omega
 ·have bF:o.aE.length-1<o.aE.length:=by omega
  have h1:=key _ _ (VT bF)
  have h2:=h.bf _ (Wm bF)
  omega
theorem pL.ag(h:pL w)(sD:∀o∈w.ah,NM w.aa w.now o):AgD w.aa w:=by
 obtain⟨p1,p2,p3,p4,p5,p6,p7⟩:=h.parts
 refine⟨rfl,p2,p7,by omega,by omega,p5,fun o ho=>?_,sD⟩
 obtain⟨i,hi,rfl⟩:=List.getElem_of_mem ho
 have lV:=VT hi
 have hw:=h.aE lV
 have ik:=mM h.fit h.ok lV
 have hs:=FN hw
 have hg:=hw.aJ
 refine⟨⟨hg.1,by omega⟩,?_,by omega,fun k t _ ht=>?_⟩
 ·unfold aX
  split
  ·rename_i h2
   rcases ik.cases with⟨c,_⟩ |⟨_,c⟩ |⟨c,_⟩<;>omega
  ·exact hg.2
 ·obtain⟨y,hy,_⟩:=dG h.fit.ey (ik.bf t (VW ht))
  exact⟨y,hy⟩
theorem AgD.fit{n:aj}(hf:cI n)(h:AgD n w):pY w:=by
 have h1:=h.ah
 have h2:=h.aq
 have h3:=h.ae
 have h4:=h.aH
 have h5:=h.skip
 exact⟨by rw[h.ey];exact hf,by omega,by omega,by omega,by omega,by omega,fun o ho=>by have:=(h.ord o ho).aE;omega⟩
theorem P9.on{n:aj}(h:P9 n o)(hg:o'.aJ=o.aJ)(hs:o'.state=o.state)(hw:o'.aE=cD o.aE 0 (aX o)++r)(hr:r.length≤2000):P9 n o':=by
 have qD:=h.comes
 have g:=h.aJ
 have hc:aX o'=aX o:=by unfold aX;rw[hg,hs]
 have c0:0≤aX o∧aX o≤100002:=by unfold aX;split<;>omega
 have tS:cD o.aE 0 (aX o)=o.aE.take (aX o).toNat:=by unfold cD;simp
 have hlen:(cD o.aE 0 (aX o)).length=(aX o).toNat:=by rw[tS,V8];omega
 refine⟨by rw[hg];exact g,?_,?_,fun k t hk ht=>?_⟩
 ·rw[hc,hw,V2,hlen];omega
 ·rw[hw,V2,hlen];omega
 ·rw[hc]at hk
  rw[hw,Wd (by rw[hlen];omega),tS,WR (by omega)]at ht
  exact h.bx k t hk ht
theorem NM.on{n:aj}{now:Int}(h:P9 n o)(hF:NM n now o)(hg:o'.aJ=o.aJ)(hs:o'.state=o.state)(ht:o'.aV=o.aV)(hw:o'.aE=cD o.aE 0 (aX o)++r)(hr:∀t,r.getLast?=some t→bU n t=o.aV):NM n now o':=by
 have qD:=h.comes
 have g:=h.aJ
 have hc:aX o'=aX o:=by unfold aX;rw[hg,hs]
 have c0:0≤aX o∧aX o≤100002:=by unfold aX;split<;>omega
 have tS:cD o.aE 0 (aX o)=o.aE.take (aX o).toNat:=by unfold cD;simp
 have hlen:(cD o.aE 0 (aX o)).length=(aX o).toNat:=by rw[tS,V8];omega
 refine⟨?_,fun h2=>?_,by rw[hg];exact g⟩
 ·cases r with
  |nil=>exact .inl (by rw[hc,hw,List.append_nil,hlen];omega)
  |cons a as'=>
   refine .inr fun t hl=>?_
   rw[hw,List.getLast?_append,ht]at *
   refine hr t ?_
   cases hx:(a::as').getLast? with
   |none=>simp at hx
   |some z=>rw[hx]at hl;exact hl
 ·rw[hs]at h2
  obtain⟨t,k1,k2⟩:=hF.started h2
  refine⟨t,?_,k2⟩
  have yy:aX o=o.aJ+1:=by unfold aX;rw[if_pos h2]
  rw[hg,hw,Wd (by rw[hlen];omega),tS,WR (by omega)]
  exact k1
section
variable {n:aj} (hf:cI n) (hn:n.ay.length≤20)
include hf hn
end
theorem BH.fit(h:BH l):CP l:=⟨by rw[(qi _ h.ar).2];decide,by rw[(qi _ h.aV).2];decide⟩
theorem BH.ok(h:BH l):fe l=some true:=by
 have h1:=h.start
 have h2:=h.lT
 have h3:=h.tI
 have h4:=h.fy
 unfold fe
 rw[(qi _ h.ar).1,(qi _ h.aV).1]
 simp only[VS,cond_true,decide_eq_false h.ne,Bool.not_false,dt,decide_eq_true h1.1,decide_eq_true h1.2,decide_eq_true h2.1,decide_eq_true h2.2,decide_eq_true h3.1,decide_eq_true h3.2,decide_eq_true h4.1,decide_eq_true h4.2,Bool.and_self]
theorem qI.fit{n:aj}(h:qI n):cI n:=⟨by have:=h.len;omega,by rcases h.off with e|⟨a,b,e,_⟩<;>rw[e]<;>simp,fun l hl=>(h.bx l hl).fit⟩
theorem qI.ok{n:aj}(h:qI n):aU n=some true:=by
 have hlen:=h.len
 have zl:=h.change
 have e0:aI (aD (bY n) NN 0) fun r=>r=.inl ():=by
  refine aI.loop (fun(k:Nat) (s:Int)=>∃i:Nat,s=(i:Int)∧i+k=n.ay.length) (fun k s hs=>?_) NN n.ay.length _ ⟨0,rfl,by omega⟩ (by unfold NN;omega)
  obtain⟨i,rfl,hk⟩:=hs
  unfold bY
  refine aI.cond (fun hd=>?_) fun hd=>aI.ret rfl
  have bF:=of_decide_eq_true hd
  have wB:aL ((i:Int)+1)=((i+1:Nat):Int):=by rw[aQ (by omega)];omega
  obtain⟨x,hx,hm⟩:=kc (xs:=n.ay) (i:=(i:Int)) ⟨by omega,bF⟩
  rw[hx,VS,(h.bx x hm).ok,VS,wB]
  exact aI.cond (fun e=>by cases e) fun _=>aI.ret ⟨k-1,by omega,i+1,rfl,by omega⟩
 have e1:aI (aD (bZ n) NN 0) fun r=>r=.inl ():=by
  rcases h.off with e|⟨a,b,e,g1,g2,g3⟩
  ·refine aI.loop (fun(k:Nat) (s:Int)=>s=0) (fun k s hs=>?_) NN 0 _ rfl (by unfold NN;omega)
   subst hs
   unfold bZ
   rw[e]
   exact aI.cond (fun hd=>by simp at hd) fun hd=>aI.ret rfl
  ·refine aI.loop (fun(k:Nat) (s:Int)=>(s=0∧k=2)∨(s=1∧k=1)∨(s=2∧k=0)) (fun k s hs=>?_) NN 2 _ (.inl ⟨rfl,rfl⟩) (by unfold NN;omega)
   unfold bZ
   rw[e]
   have x0:aC [a,b] 0=some a:=rfl
   have x1:aC [a,b] 1=some b:=rfl
   have w1:aL (0+1)=1:=by decide
   have w2:aL (1+1)=2:=by decide
   have w0:aL (1-1)=0:=by decide
   rcases hs with⟨rfl,rfl⟩ |⟨rfl,rfl⟩ |⟨rfl,rfl⟩
   ·refine aI.cond (fun _=>?_) fun hd=>by simp at hd
    rw[x0,VS,dt,VS,decide_eq_true g1,decide_eq_true (show a≤60 by omega),w1]
    exact aI.cond (fun e=>by cases e) fun _=>aI.cond (fun e=>by simp at e) fun _=>aI.ret ⟨1,by omega,.inr (.inl ⟨rfl,rfl⟩)⟩
   ·refine aI.cond (fun _=>?_) fun hd=>by simp at hd
    rw[x1,VS,dt,VS,decide_eq_true (show 0≤b by omega),decide_eq_true g3,w2,w0,x0,VS,VS]
    exact aI.cond (fun e=>by cases e) fun _=>aI.cond (fun _=>aI.cond (fun e=>by have:=of_decide_eq_true e;omega) fun _=>aI.ret ⟨0,by omega,.inr (.inr ⟨rfl,rfl⟩)⟩) fun e=>by simp at e
   ·exact aI.cond (fun hd=>by simp at hd) fun hd=>aI.ret rfl
 obtain⟨_,r0,rfl⟩:=e0
 obtain⟨_,r1,rfl⟩:=e1
 unfold aU
 rw[r0,VS]
 simp only[bl]
 rw[r1,VS]
 simp only[bl]
 have ho:(n.off.length:Int)≤10:=by rcases h.off with e|⟨a,b,e,_⟩<;>rw[e]<;>simp
 rw[decide_eq_true (show(n.ay.length:Int)≤20 by omega),decide_eq_true ho,dt,decide_eq_true zl.1,decide_eq_true zl.2]
 rfl
theorem Fg{n:aj}(h:qI n){skip:List Int}(hs:skip.length≤50):gR n skip=some ((⟨n,[],[],[],0,[],skip,0⟩:av),true):=by
 have hf:pY (⟨n,[],[],[],0,[],skip,0⟩:av):=⟨h.fit,by simp,by simp,by simp,by simp,by simp only;omega,fun o ho=>by cases ho⟩
 have hv:eu (⟨n,[],[],[],0,[],skip,0⟩:av)=true:=by
  unfold eu bJ uM
  simp only[h.ok,Ws]
  simp[allI]
  omega
 unfold gR
 rw[wm hf,VS,pQ hf,hv]
 rfl
section
variable {n:aj} (hn:qI n)
include hn
theorem Kg(h:bX c):aI (j5 c n) fun r=>bX r.2:=by
 have hl:=hn.len
 unfold j5
 refine aI.cT (aI.bind (bj h _) fun y1 h1=>aI.cT (aI.bind (bj h1.2 10) fun y2 h2=>?_))
 obtain⟨y,hy,_⟩:=kc (xs:=n.ay) (i:=y1.1) ⟨h1.1.1,h1.1.2.1 (by omega)⟩
 refine aI.bind (CN hn.fit hy _) fun y3 _=>aI.cond (fun _=>aI.cT (aI.bind (iF h2.2 4) fun y4 h4=>aI.cond (fun _=>aI.ret h4) fun _=>aI.ret h4)) fun _=>aI.ret h2.2
theorem FK(h:bX c):aI (j7 c n) fun r=>bX r.2.1∧r.2.2=n:=by
 have hl:=hn.len
 unfold j7
 refine aI.cT (aI.bind (bj h _) fun y1 h1=>aI.cT (aI.bind (bj h1.2 10) fun y2 h2=>?_))
 obtain⟨y,hy,_⟩:=kc (xs:=n.ay) (i:=y1.1) ⟨h1.1.1,h1.1.2.1 (by omega)⟩
 refine aI.bind (CN hn.fit hy _) fun y3 _=>aI.cond (fun _=>aI.cT (aI.bind (iF h2.2 4) fun y4 h4=>aI.cond (fun _=>aI.ret ⟨h4,rfl⟩) fun _=>aI.ret ⟨h4,rfl⟩)) fun _=>aI.ret ⟨h2.2,rfl⟩
theorem FQ(h:bX c)(hw:w.aa=n):aI (dJ c w) fun r=>bX r.2:=by
 unfold dJ
 rw[hw]
 refine aI.cond (fun hd=>aI.cT (aI.bind (iF h 4) fun y1 h1=>aI.cond (fun _=>aI.EL (aI.cT (aI.bind (bj h1 _) fun y2 h2=>aI.get h2.1.1 (h2.1.2.1 (of_decide_eq_true hd)) fun x _ _=>aI.ret h2.2))) fun _=>aI.cT (aI.bind (Kg hn h1) fun y4 h4=>aI.ret h4))) fun _=>aI.cT (aI.bind (Kg hn h) fun y4 h4=>aI.ret h4)
theorem Mc(h:bX c)(hw:w.aa=n):aI (lL c w) fun r=>bX r.2.1∧r.2.2=w:=by
 subst hw
 unfold lL
 refine aI.cond (fun hd=>aI.cT (aI.bind (iF h 4) fun y1 h1=>aI.cond (fun _=>aI.EL (aI.cT (aI.bind (bj h1 _) fun y2 h2=>aI.get h2.1.1 (h2.1.2.1 (of_decide_eq_true hd)) fun x _ _=>aI.ret ⟨h2.2,rfl⟩))) fun _=>aI.cT (aI.bind (FK hn h1) fun y4 h4=>aI.ret ⟨h4.1,?_⟩))) fun _=>aI.cT (aI.bind (FK hn h) fun y4 h4=>aI.ret ⟨h4.1,?_⟩)
 ·simp only[h4.2]
 ·simp only[h4.2]
theorem R8(h:bX c):aI (cA c n) fun r=>bX r.2:=by
 have hl:=hn.len
 have hp:0<(ak n).length:=by
  have:=(pD (n:=n) (Wm (show 0<n.ay.length by omega))).1
  exact List.length_pos_of_mem this
 unfold cA
 rw[(di hn.fit).2,VS]
 refine aI.cT (aI.bind (iF h 9) fun y2 h2=>aI.cond (fun _=>aI.cT (aI.bind (sr h2) fun y3 h3=>aI.ret h3.2)) fun _=>aI.cT (aI.bind (bj h2 _) fun y4 h4=>aI.get h4.1.1 (h4.1.2.1 (by omega)) fun x _ _=>aI.ret h4.2))
end
theorem pY.set{w:av}(h:pY w){i:Nat}{x:az}{o:az}(ho:o∈w.ah)(hx:x.aE=o.aE):∀y∈w.ah.set i x,y.aE.length≤1048576:=fun y hy=>by
 rcases List.mem_or_eq_of_mem_set hy with hy|rfl
 ·exact h.aE y hy
 ·rw[hx];exact h.aE o ho
set_option maxHeartbeats 16000000
def kR(a:List bL)(b:List bL)(s0:Int):Option (Int⊕(Unit⊕Bool)):=
 cond (decide (s0<(a.length:Int)))
 ((aC a s0).bind fun y1=>
 (aC b s0).bind fun y2=>
 cond (!decide (y1=y2))
 (some (.inr (.inr false)))
 (some (.inl (aL (s0+1)))))
 (some (.inr (.inl ())))
instance (a:List bL)(b:List bL):bm (kR a b):=⟨fun s0=>(.sl (a.map cK)::.sl (b.map cK)::(U 10 (vi (a.length:Int)::vi s0::(U 12 [])))),fun s0=>[]⟩
def gN(a:List bL)(b:List bL):Option Bool:=
 cond (!decide ((a.length:Int)=(b.length:Int)))
 (some false)
 ((aD (kR a b) NN 0).bind (bl (fun o0=>
 some true) (fun r=>some r)))
instance (a:List bL)(b:List bL):CT Tryz.prog (gN a b):=⟨37,[.sl (a.map cK),.sl (b.map cK)],[],fun r=>vb r,fun r=>[],fun H=>by replace H:=H0 H;unfold gN at H;exact aA Tryz.func37 rfl Tryz.ntmps37 Tryz.results37 fun Q hQ cR=>Mb⟩
def kO(a:List bN)(b:List bN)(s0:Int):Option (Int⊕(Unit⊕Bool)):=
 cond (decide (s0<(a.length:Int)))
 ((aC a s0).bind fun y1=>
 (aC b s0).bind fun y2=>
 cond (!decide (y1=y2))
 (some (.inr (.inr false)))
 (some (.inl (aL (s0+1)))))
 (some (.inr (.inl ())))
instance (a:List bN)(b:List bN):bm (kO a b):=⟨fun s0=>(.sl (a.map cO)::.sl (b.map cO)::(U 10 (vi (a.length:Int)::vi s0::(U 12 [])))),fun s0=>[]⟩
def gL(a:List bN)(b:List bN):Option Bool:=
 cond (!decide ((a.length:Int)=(b.length:Int)))
 (some false)
 ((aD (kO a b) NN 0).bind (bl (fun o0=>
 some true) (fun r=>some r)))
instance (a:List bN)(b:List bN):CT Tryz.prog (gL a b):=⟨38,[.sl (a.map cO),.sl (b.map cO)],[],fun r=>vb r,fun r=>[],fun H=>by replace H:=H0 H;unfold gL at H;exact aA Tryz.func38 rfl Tryz.ntmps38 Tryz.results38 fun Q hQ cR=>Mb⟩
def kN(a:List aW)(b:List aW)(s0:Int):Option (Int⊕(Unit⊕Bool)):=
 cond (decide (s0<(a.length:Int)))
 ((aC a s0).bind fun y1=>
 (aC b s0).bind fun y2=>
 cond (!decide (y1=y2))
 (some (.inr (.inr false)))
 (some (.inl (aL (s0+1)))))
 (some (.inr (.inl ())))
instance (a:List aW)(b:List aW):bm (kN a b):=⟨fun s0=>(.sl (a.map bO)::.sl (b.map bO)::(U 10 (vi (a.length:Int)::vi s0::(U 12 [])))),fun s0=>[]⟩
def gK(a:List aW)(b:List aW):Option Bool:=
 cond (!decide ((a.length:Int)=(b.length:Int)))
 (some false)
 ((aD (kN a b) NN 0).bind (bl (fun o0=>
 some true) (fun r=>some r)))
instance (a:List aW)(b:List aW):CT Tryz.prog (gK a b):=⟨40,[.sl (a.map bO),.sl (b.map bO)],[],fun r=>vb r,fun r=>[],fun H=>by replace H:=H0 H;unfold gK at H;exact aA Tryz.func40 rfl Tryz.ntmps40 Tryz.results40 fun Q hQ cR=>Mb⟩
def iz(a:aM)(b:aM)(s0:Int):Option (Int⊕(Unit⊕Bool)):=
 cond (decide (s0<(a.aK.length:Int)))
 ((aC a.aK s0).bind fun y6=>
 (aC b.aK s0).bind fun y7=>
 (iJ y6 y7).bind fun y8=>
 cond (!y8)
 (some (.inr (.inr false)))
 (some (.inl (aL (s0+1)))))
 (some (.inr (.inl ())))
instance (a:aM)(b:aM):bm (iz a b):=⟨fun s0=>(.un::.un::.be 0 0 0::.be 1 0 0::(U 61 (vi (a.aK.length:Int)::vi s0::(U 34 [])))),fun s0=>[some ⟨.of 40,16,[[.sl (a.world.aa.ay.map bp),.sl (a.world.aa.off.map aG),vi a.world.aa.change,.sl (a.world.ah.map bc),.sl (a.world.aq.map aB),.sl (a.world.ae.map aS),vi a.world.now,.sl (a.world.aH.map bt),.sl (a.world.skip.map aG),vi a.world.bd,.sl (a.aY.map cK),.sl (a.ba.map cO),.sl (a.aN.map aG),.sl (a.aK.map bS),.sl (a.lines.map bO),.sl (a.aF.map ig)]]⟩,some ⟨.of 40,16,[[.sl (b.world.aa.ay.map bp),.sl (b.world.aa.off.map aG),vi b.world.aa.change,.sl (b.world.ah.map bc),.sl (b.world.aq.map aB),.sl (b.world.ae.map aS),vi b.world.now,.sl (b.world.aH.map bt),.sl (b.world.skip.map aG),vi b.world.bd,.sl (b.aY.map cK),.sl (b.ba.map cO),.sl (b.aN.map aG),.sl (b.aK.map bS),.sl (b.lines.map bO),.sl (b.aF.map ig)]]⟩]⟩
def iA(a:aM)(b:aM)(s1:Int):Option (Int⊕(Unit⊕Bool)):=
 cond (decide (s1<(a.aF.length:Int)))
 ((aC a.aF s1).bind fun y9=>
 (aC b.aF s1).bind fun dM=>
 (kW y9 dM).bind fun jx=>
 cond (!jx)
 (some (.inr (.inr false)))
 (some (.inl (aL (s1+1)))))
 (some (.inr (.inl ())))
instance (a:aM)(b:aM):bm (iA a b):=⟨fun s1=>(.un::.un::.be 0 0 0::.be 1 0 0::(U 80 (vi (a.aF.length:Int)::vi s1::(U 15 [])))),fun s1=>[some ⟨.of 40,16,[[.sl (a.world.aa.ay.map bp),.sl (a.world.aa.off.map aG),vi a.world.aa.change,.sl (a.world.ah.map bc),.sl (a.world.aq.map aB),.sl (a.world.ae.map aS),vi a.world.now,.sl (a.world.aH.map bt),.sl (a.world.skip.map aG),vi a.world.bd,.sl (a.aY.map cK),.sl (a.ba.map cO),.sl (a.aN.map aG),.sl (a.aK.map bS),.sl (a.lines.map bO),.sl (a.aF.map ig)]]⟩,some ⟨.of 40,16,[[.sl (b.world.aa.ay.map bp),.sl (b.world.aa.off.map aG),vi b.world.aa.change,.sl (b.world.ah.map bc),.sl (b.world.aq.map aB),.sl (b.world.ae.map aS),vi b.world.now,.sl (b.world.aH.map bt),.sl (b.world.skip.map aG),vi b.world.bd,.sl (b.aY.map cK),.sl (b.ba.map cO),.sl (b.aN.map aG),.sl (b.aK.map bS),.sl (b.lines.map bO),.sl (b.aF.map ig)]]⟩]⟩
def eD(a:aM)(b:aM):Option Bool:=
 (lx a.world b.world).bind fun y1=>
 cond (!y1)
 (some false)
 ((gN a.aY b.aY).bind fun y2=>
 cond (!y2)
 (some false)
 ((gL a.ba b.ba).bind fun y3=>
 cond (!y3)
 (some false)
 ((eX a.aN b.aN).bind fun y4=>
 cond (!y4)
 (some false)
 ((gK a.lines b.lines).bind fun y5=>
 cond (!y5)
 (some false)
 (cond (!decide ((a.aK.length:Int)=(b.aK.length:Int)))
 (some false)
 (cond (!decide ((a.aF.length:Int)=(b.aF.length:Int)))
 (some false)
 ((aD (iz a b) NN 0).bind (bl (fun o0=>
 (aD (iA a b) NN 0).bind (bl (fun o1=>
 some true) (fun r=>some r))) (fun r=>some r)))))))))
instance (a:aM)(b:aM):CT Tryz.prog (eD a b):=⟨9,[.ag (lk a),.ag (lk b)],[],fun r=>vb r,fun r=>[],fun H=>by replace H:=H0 H;unfold eD at H;exact aA Tryz.func9 rfl Tryz.ntmps9 Tryz.results9 fun Q hQ cR=>Mb⟩
end Go.Proofs.YtbalgkakkoocjaaGreat
