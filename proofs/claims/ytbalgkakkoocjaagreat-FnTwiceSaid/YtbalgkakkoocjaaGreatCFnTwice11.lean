/- A part of the proof of the statement in the last file of this claim: texts on the language of the program and on its functions. No condition. -/
import Derived.Test.YtbalgkakkoocjaaGreatCFnTwice4
import Derived.Test.YtbalgkakkoocjaaGreatCFnTwice5
import Derived.Test.YtbalgkakkoocjaaGreatCFnTwice8
import Derived.Test.YtbalgkakkoocjaaGreatCFnTwice7
import Derived.Sort.Walk0
import Derived.Test.YtbalgkakkoocjaaGreatCFnTwice6
set_option linter.unusedVariables false
set_option linter.unusedSimpArgs false
set_option linter.unusedSectionVars false
namespace Go.Proofs.YtbalgkakkoocjaaGreat
open Option renaming bind_some→VS,getD_some→Ws
open List renaming getElem?_eq_getElem→VT,range→WO,all_eq_true→V5,mem_cons_self→Wp,pairwise_cons→Xh,mem_cons→V4,mem_cons_of_mem→Wi,le_iff_lt_or_eq→XY,foldl_cons→WI,length_cons→VX,mem_map→WS,pairwise_map→Xf,length→Yq,getElem?_eq_some_iff→VU,drop_drop→XI,takeWhile_cons_of_pos→Yw,takeWhile_cons_of_neg→Yx,length_nil→VY,flatMap_cons→XL
open Bool renaming not_true→V0,not_false→Wz,decide_and→XX,true_and→WH,and_eq_true→VZ,false_eq_true→WU
open BitVec renaming ofInt→Wn
open _root_.Int renaming tmod→XG,lt_trichotomy→Yi,toNat_natCast→WY,tdiv→Xk,toNat→Wo
set_option maxRecDepth 10000
open Go.RowKit
variable {a b p:ByteArray}{body:Int→Option (Int⊕Int)}{i:Nat}{l:List ao}{n:aj}{out:List ByteArray}{α:Type}
theorem pU:@dq=@bq:=rfl
theorem rY:@dg=@bn:=rfl
def CP(l:bM):Prop:=l.ar.size≤xl∧l.aV.size≤xl
theorem yG{l:bM}(h:CP l):qp l=fe l∧∃b,fe l=some b:=by
 obtain⟨e1,b1,s1⟩:=n9 (s:=l.ar) h.1
 obtain⟨e2,b2,s2⟩:=n9 (s:=l.aV) h.2
 constructor
 ·unfold qp fe;rw[e1,e2,fV]
 ·unfold fe
  rw[s1,s2]
  simp only[VS,dt]
  cases b1<;>cases b2<;>cases(decide (l.ar=l.aV))<;>cases(decide (0≤l.start)&&decide (l.start≤1439))<;>cases(decide (1≤l.lT)&&decide (l.lT≤4320))<;>cases(decide (1≤l.tI)&&decide (l.tI≤127))<;>exact⟨_,rfl⟩
structure cI(n:aj):Prop where
 ay:n.ay.length≤1048576
 off:n.off.length≤1048576
 bx:∀l∈n.ay,CP l
theorem rn{xs:List α}{i:Int}{x:α}(h:aC xs i=some x):x∈xs:=List.mem_of_getElem? (iH h).2
theorem R2(h:cI n):l6 n=bY n:=by
 funext i
 unfold l6 bY
 cases hg:aC n.ay i with
 |none=>rfl
 |some y=>simp only[VS,(yG (h.bx y (rn hg))).1]
theorem R3:l7 n=bZ n:=by
 funext i
 unfold l7 bZ
 rw[fV]
 cases hg:aC n.off i with
 |none=>rfl
 |some y=>simp only[VS]
theorem Zdy(h:cI n):∃o,aD (bY n) NN 0=some o:=by
 refine yM (n:=n.ay.length) (by have:=h.ay;unfold NN;omega) (fun i hi=>?_) ⟨_,by simp[bY];rfl⟩
 have hw:=bI hi (by have:=h.ay;omega)
 have hg:aC n.ay (i:Int)=some n.ay[i]:=by rw[aR];exact VT hi
 obtain⟨b,hb⟩:=(yG (h.bx _ (List.getElem_mem hi))).2
 cases b with
 |true=>exact DI (by simp only[bY,decide_eq_true (show(i:Int)<n.ay.length by omega),cond_true,hg,VS,hb,hw,V0,cond_false])
 |false=>exact DJ (by simp only[bY,decide_eq_true (show(i:Int)<n.ay.length by omega),cond_true,hg,VS,hb,Wz,cond_true];rfl)
theorem Zdz(h:cI n):∃o,aD (bZ n) NN 0=some o:=by
 refine yM (n:=n.off.length) (by have:=h.off;unfold NN;omega) (fun i hi=>?_) ⟨_,by simp[bZ];rfl⟩
 have hw:=bI hi (by have:=h.off;omega)
 have hg:aC n.off (i:Int)=some n.off[i]:=by rw[aR];exact VT hi
 have hd:=decide_eq_true (show(i:Int)<n.off.length by omega)
 cases hb:decide (0≤n.off[i])&&decide (n.off[i]≤60)with
 |false=>exact DJ (by simp only[bZ,hd,cond_true,hg,VS,dt,hb,Wz];rfl)
 |true=>
  by_cases h0:0<(i:Int)
  ·have zK:aL ((i:Int)-1)=((i-1:Nat):Int):=by rw[aQ (by have:=h.off;omega)];omega
   have PQ:aC n.off ((i-1:Nat):Int)=some n.off[i-1]:=by rw[aR];exact VT (by omega)
   cases hc:decide (n.off[i]≤n.off[i-1])with
   |true=>exact DJ (by simp only[bZ,hd,cond_true,hg,VS,dt,hb,V0,cond_false,decide_eq_true h0,zK,PQ,hc];rfl)
   |false=>exact DI (by simp only[bZ,hd,cond_true,hg,VS,dt,hb,V0,cond_false,decide_eq_true h0,zK,PQ,hc,hw])
  ·exact DI (by simp only[bZ,hd,cond_true,hg,VS,dt,hb,V0,cond_false,decide_eq_false h0,hw])
theorem jP(h:cI n):eU n=aU n∧∃b,aU n=some b:=by
 constructor
 ·unfold eU aU;rw[R2 h,R3,fV]
 ·obtain⟨o0,h0⟩:=Zdy h
  obtain⟨o1,h1⟩:=Zdz h
  unfold aU
  rw[h0,h1]
  simp only[VS,dt]
  rcases o0 with o0|o0
  ·rcases o1 with o1|o1
   ·simp only[bl]
    cases decide ((n.ay.length:Int)≤20)<;>cases decide ((n.off.length:Int)≤10)<;>exact⟨_,rfl⟩
   ·exact⟨_,rfl⟩
  ·exact⟨_,rfl⟩
theorem Gz{l:List Int}(h:l.length≤1048576)(x:Int):lR l x=some (l.any fun y=>decide (y=x)):=by
 unfold lR
 rw[tV (xs:=l) (p:=fun y=>decide (y=x)) (r:=.inr true) (e:=.inl ()) (fun i hi=>?_) (by simp[pH]) (by unfold NN;omega)]
 ·cases l.any fun y=>decide (y=x)<;>rfl
 ·have hw:=bI hi (by omega)
  have hg:aC l (i:Int)=some l[i]:=by rw[aR];exact VT hi
  simp only[pH,decide_eq_true (show(i:Int)<l.length by omega),cond_true,hg,VS,hw]
  cases decide (l[i]=x)<;>rfl
theorem fC{l:List au}(h:l.length≤1048576)(x:au):eM l x=some (l.any fun y=>decide (y=x)):=by
 unfold eM
 rw[tV (xs:=l) (p:=fun y=>decide (y=x)) (r:=.inr true) (e:=.inl ()) (fun i hi=>?_) (by simp[nP]) (by unfold NN;omega)]
 ·cases l.any fun y=>decide (y=x)<;>rfl
 ·have hw:=bI hi (by omega)
  have hg:aC l (i:Int)=some l[i]:=by rw[aR];exact VT hi
  simp only[nP,decide_eq_true (show(i:Int)<l.length by omega),cond_true,hg,VS,hw]
  cases decide (l[i]=x)<;>rfl
theorem fP:@df=@eM:=rfl
theorem K9(h:n.off.length≤1048576)(x:Int):(aD (oi n x) NN 0).bind (bl (fun _=>some true) (fun r=>some r))=some (!(n.off.any fun y=>decide (y=x))):=by
 rw[tV (xs:=n.off) (p:=fun y=>decide (y=x)) (r:=.inr false) (e:=.inl ()) (fun i hi=>?_) (by simp[oi]) (by unfold NN;omega)]
 ·cases n.off.any fun y=>decide (y=x)<;>rfl
 ·have hw:=bI hi (by omega)
  have hg:aC n.off (i:Int)=some n.off[i]:=by rw[aR];exact VT hi
  simp only[oi,decide_eq_true (show(i:Int)<n.off.length by omega),cond_true,hg,VS,hw]
  cases decide (n.off[i]=x)<;>rfl
def GB(x:Int):Int:=IntKind.i64.wrap (Wn IntKind.i64.bits x &&& Wn IntKind.i64.bits 1).toNat
theorem OM(x:Int):GB x=0∨GB x=1:=by
 unfold GB
 have h:(Wn IntKind.i64.bits x &&& Wn IntKind.i64.bits 1).toNat≤1:=by
  rw[BitVec.toNat_and]
  refine Nat.le_trans Nat.and_le_right ?_
  decide
 rw[show IntKind.i64.wrap ((Wn IntKind.i64.bits x &&& Wn IntKind.i64.bits 1).toNat:Int)=((Wn IntKind.i64.bits x &&& Wn IntKind.i64.bits 1).toNat:Int)from aQ (by omega)]
 omega
theorem qA(h:cI n)(bx day:Int):oh n bx day=cx n bx day∧∃b,cx n bx day=some b:=by
 have hl:=h.ay
 have hw:aL ((n.ay.length:Int)-1)=n.ay.length-1:=aQ (by omega)
 unfold oh cx
 rw[fV,hw,dt,dt]
 simp only[VS]
 by_cases h1:bx<0
 ·simp only[decide_eq_true h1,decide_eq_false (show ¬0≤bx by omega),cond_true,Bool.false_and,cond_false]
  exact⟨trivial,_,rfl⟩
 by_cases h2:(n.ay.length:Int)≤bx
 ·simp only[decide_eq_false h1,decide_eq_true h2,decide_eq_false (show ¬bx≤(n.ay.length:Int)-1 by omega),cond_true,Bool.and_false,cond_false]
  exact⟨trivial,_,rfl⟩
 simp only[decide_eq_false h1,decide_eq_false h2,decide_eq_true (show 0≤bx by omega),decide_eq_true (show bx≤(n.ay.length:Int)-1 by omega),cond_true,Bool.and_true,cond_false]
 by_cases h3:0≤day∧day≤60
 ·simp only[decide_eq_true h3.1,decide_eq_true h3.2,Bool.and_true,V0,cond_false,cond_true]
  have hg:aC n.ay bx=some (n.ay[bx.toNat]'(by omega)):=by
   unfold aC;rw[if_pos (by omega)];exact VT _
  rw[hg]
  simp only[VS]
  have hm:0≤XG day 7:=Int.tmod_nonneg 7 h3.1
  rw[pR (decide_eq_true hm)]
  simp only[VS]
  rw[K9 h.off,Gz h.off]
  generalize Int.fdiv _ _=q
  have hb:=OM q
  unfold GB at hb
  rcases hb with hb|hb
  ·rw[hb];exact⟨rfl,_,rfl⟩
  ·rw[hb];exact⟨rfl,_,rfl⟩
 ·have:(decide (0≤day)&&decide (day≤60))=false:=by rw[←XX];exact decide_eq_false h3
  rw[this]
  exact⟨rfl,_,rfl⟩
theorem Pr(h:cI n)(bx day:Int):pj n bx day=jY n bx day∧∃b,jY n bx day=some b:=by
 obtain⟨e,b,s⟩:=jP h
 obtain⟨e2,b2,s2⟩:=qA h bx day
 unfold pj jY
 rw[e,e2,s,s2]
 refine⟨rfl,?_⟩
 cases b<;>exact⟨_,rfl⟩
theorem qR(h:cI n)(t:au):dN n t=dF n t∧∃b,dF n t=some b:=by
 obtain⟨e,b,s⟩:=Pr h t.bx t.day
 unfold dN dF
 rw[e,s]
 exact⟨rfl,_,rfl⟩
theorem wH:@jX=@cY:=by
 funext l t
 unfold jX cY
 have:oO l t=dv l t:=by
  funext s
  unfold oO dv
  cases hg:aC l s.2 with
  |none=>rfl
  |some y=>simp only[VS]
 rw[this]
set_option maxHeartbeats 16000000
def fE(a:ao)(b:ao):Option Int:=
 (dO a.bf.day b.bf.day).bind fun y1=>
 (dO a.bf.bx b.bf.bx).bind fun y2=>
 (dO a.bk b.bk).bind fun y3=>
 (oQ ([y1,y2,y3])).bind fun y4=>
 some y4
instance (a:ao)(b:ao):CT Tryz.prog (fE a b):=⟨262,[.ag (aB a),.ag (aB b)],[],fun r=>vi r,fun r=>[],fun H=>by replace H:=H0 H;unfold fE at H;exact aA Tryz.func262 rfl Tryz.ntmps262 Tryz.results262 fun Q hQ cR=>dU⟩
def fT(n:aj)(l:List ao)(s0:Int):Option (Int⊕(Unit⊕Bool)):=
 cond (decide (s0<(l.length:Int)))
 ((aC l s0).bind fun y2=>
 cond (decide (0<s0))
 ((aC l (aL (s0-1))).bind fun y3=>
 (fE y3 y2).bind fun y4=>
 cond (decide (0≤y4))
 (some (.inr (.inr false)))
 ((dN n y2.bf).bind fun y5=>
 cond (!y5)
 (some (.inr (.inr false)))
 ((aZ y2.bk 1 9999).bind fun y6=>
 cond (!y6)
 (some (.inr (.inr false)))
 ((aZ y2.ab 1 1000000).bind fun y7=>
 cond (!y7)
 (some (.inr (.inr false)))
 ((jX l y2.bf).bind fun y8=>
 (aC n.ay y2.bf.bx).bind fun y9=>
 cond (decide (y9.fy<y8))
 (some (.inr (.inr false)))
 (some (.inl (aL (s0+1)))))))))
 ((dN n y2.bf).bind fun dM=>
 cond (!dM)
 (some (.inr (.inr false)))
 ((aZ y2.bk 1 9999).bind fun jx=>
 cond (!jx)
 (some (.inr (.inr false)))
 ((aZ y2.ab 1 1000000).bind fun oV=>
 cond (!oV)
 (some (.inr (.inr false)))
 ((jX l y2.bf).bind fun lZ=>
 (aC n.ay y2.bf.bx).bind fun kS=>
 cond (decide (kS.fy<lZ))
 (some (.inr (.inr false)))
 (some (.inl (aL (s0+1)))))))))
 (some (.inr (.inl ())))
instance (n:aj)(l:List ao):bm (fT n l):=⟨fun s0=>(.un::.sl (l.map aB)::.be 0 0 0::(U 12 (.sl (l.map aB)::vi (l.length:Int)::vi s0::(U 51 [])))),fun s0=>[some ⟨.of 27,3,[[.sl (n.ay.map bp),.sl (n.off.map aG),vi n.change]]⟩]⟩
def iI(n:aj)(l:List ao):Option Bool:=
 (eU n).bind fun y1=>
 cond (!y1)
 (some false)
 (cond (decide (120<(l.length:Int)))
 (some false)
 ((aD (fT n l) NN 0).bind (bl (fun o0=>
 some true) (fun r=>some r))))
instance (n:aj)(l:List ao):CT Tryz.prog (iI n l):=⟨186,[.ag (bA n),.sl (l.map aB)],[],fun r=>vb r,fun r=>[],fun H=>by replace H:=H0 H;unfold iI at H;exact aA Tryz.func186 rfl Tryz.ntmps186 Tryz.results186 fun Q hQ cR=>dU⟩
def tF(a b:Int):Int:=if a<b then -1 else if b<a then 1 else 0
theorem Qy(a b:Int):dO a b=some (tF a b):=by
 unfold dO tF
 by_cases h:a<b
 ·simp[h]
 ·by_cases h2:b<a<;>simp[h,h2]
theorem Q0(x y z:Int):oQ [x,y,z]=some (if x≠0 then x else if y≠0 then y else z):=by
 obtain⟨k,hk⟩:∃k,NN=k+1+1+1+1:=⟨1152921504606846972,by unfold NN;omega⟩
 unfold oQ
 rw[hk]
 have w0:aL 1=1:=aQ (by omega)
 have w1:aL 2=2:=aQ (by omega)
 have w2:aL 3=3:=aQ (by omega)
 by_cases hx:x=0
 ·by_cases hy:y=0
  ·by_cases hz:z=0
   ·simp[aD,bl,kV,aC,hx,hy,hz,w0,w1,w2]
   ·simp[aD,bl,kV,aC,hx,hy,hz,w0,w1,w2]
  ·simp[aD,bl,kV,aC,hx,hy,w0]
 ·simp[aD,bl,kV,aC,hx]
def nj(a b:ao):Bool:=if a.bf.day≠b.bf.day then decide (a.bf.day<b.bf.day)else if a.bf.bx≠b.bf.bx then decide (a.bf.bx<b.bf.bx)else decide (a.bk<b.bk)
theorem BZ(a b:ao):lj a b=some (nj a b):=by
 unfold lj nj
 by_cases h1:a.bf.day=b.bf.day
 ·by_cases h2:a.bf.bx=b.bf.bx<;>simp[h1,h2]
 ·simp[h1]
theorem EC(a b:ao):∃v,fE a b=some v∧decide (0≤v)=!nj a b:=by
 unfold fE
 simp only[Qy,VS,Q0]
 refine⟨_,rfl,?_⟩
 unfold nj tF
 rcases Yi a.bf.day b.bf.day with h1|h1|h1
 ·simp[h1,show a.bf.day≠b.bf.day by omega]
 ·rcases Yi a.bf.bx b.bf.bx with h2|h2|h2
  ·simp[h1,h2,show a.bf.bx≠b.bf.bx by omega]
  ·rcases Yi a.bk b.bk with h3|h3|h3
   ·simp[h1,h2,h3]
   ·simp[h1,h2,h3]
   ·simp[h1,h2,h3,show ¬a.bk<b.bk by omega]
  ·simp[h1,h2,show a.bf.bx≠b.bf.bx by omega,show ¬a.bf.bx<b.bf.bx by omega]
 ·simp[h1,show a.bf.day≠b.bf.day by omega,show ¬a.bf.day<b.bf.day by omega]
theorem td(h:l.length≤1048576)(t:au):∃v,cY l t=some v:=by
 have hh:∃o,aD (dv l t) NN (0,0)=some o:=by
  refine yN (fun k s=>∃i:Nat,i+k=l.length∧s.2=(i:Int)) ?_ NN l.length (0,0) ⟨0,by omega,rfl⟩ (by unfold NN;omega)
  rintro k ⟨a,s⟩ ⟨i,hi,hs⟩
  simp only at hs
  subst hs
  rcases Nat.lt_or_ge i l.length with bF|yz
  ·have hw:=bI bF (by omega)
   have hg:aC l (i:Int)=some l[i]:=by rw[aR];exact VT bF
   cases hc:decide (l[i].bf=t)with
   |true=>
    refine⟨_,by simp only[dv,decide_eq_true (show(i:Int)<l.length by omega),cond_true,hg,VS,hc,hw];rfl,?_⟩
    rintro s' e;cases e;exact⟨k-1,by omega,i+1,by omega,rfl⟩
   |false=>
    refine⟨_,by simp only[dv,decide_eq_true (show(i:Int)<l.length by omega),cond_true,cond_false,hg,VS,hc,hw];rfl,?_⟩
    rintro s' e;cases e;exact⟨k-1,by omega,i+1,by omega,rfl⟩
  ·have:i=l.length:=by omega
   subst this
   refine⟨_,by simp only[dv,decide_eq_false (show ¬((l.length:Int)<l.length)by omega),cond_false];rfl,?_⟩
   rintro s' e;cases e
 obtain⟨o,ho⟩:=hh
 exact⟨o,by unfold cY;rw[ho];rfl⟩
theorem vN(h:cI n){bx day:Int}(hr:cx n bx day=some true):∃y,aC n.ay bx=some y:=by
 have hl:=h.ay
 have hw:aL ((n.ay.length:Int)-1)=n.ay.length-1:=aQ (by omega)
 unfold cx at hr
 rw[hw,dt]at hr
 simp only[VS]at hr
 by_cases h1:0≤bx∧bx≤(n.ay.length:Int)-1
 ·exact⟨n.ay[bx.toNat]'(by omega),by unfold aC;rw[if_pos h1.1];exact VT _⟩
 ·rw[←XX,decide_eq_false h1]at hr
  cases hr
def F7(n:aj)(l:List ao)(i:Nat):Bool:=match l[i]? with
 |none=>true
 |some y=>(cx n y.bf.bx y.bf.day).getD false&&(decide (1≤y.bk)&&decide (y.bk≤9999))&&(decide (1≤y.ab)&&decide (y.ab≤1000000))&&(decide (i=0) ||match l[i-1]? with
  |none=>true
  |some x=>nj x y)
def Km(n:aj)(l:List ao)(i:Nat):Bool:=match l[i]? with
 |none=>true
 |some y=>match aC n.ay y.bf.bx,cY l y.bf with
  |some g,some v=>!decide (g.fy<v)
  |_,_=>false
def bJ(n:aj)(l:List ao):Bool:=(aU n).getD false&&decide ((l.length:Int)≤120)&&(WO l.length).all fun i=>F7 n l i&&Km n l i
theorem iv(h:cI n)(hl:l.length≤1048576):eH n l=some (bJ n l):=by
 obtain⟨_,b,hb⟩:=jP h
 unfold eH bJ
 rw[hb]
 simp only[VS,Ws]
 cases b with
 |false=>rfl
 |true=>
  by_cases Q9:120<(l.length:Int)
  ·simp[Q9,show ¬((l.length:Int)≤120)by omega]
  simp only[V0,cond_false,decide_eq_false Q9,decide_eq_true (show(l.length:Int)≤120 by omega),WH]
  have e0:aD (iC n l) NN 0=some (if(WO l.length).all (F7 n l)=true then .inl ()else .inr false):=by
   refine oa (fun i hi _=>?_) (fun _=>by simp[iC]) (by unfold NN;omega)
   have hw:=bI hi (by omega)
   have hg:aC l (i:Int)=some l[i]:=by rw[aR];exact VT hi
   obtain⟨_,rb,hrb⟩:=qA h l[i].bf.bx l[i].bf.day
   simp only[iC,decide_eq_true (show(i:Int)<l.length by omega),cond_true,hg,VS,hrb,dt,F7,VT hi,Ws]
   cases rb with
   |false=>simp
   |true=>
    cases decide (1≤l[i].bk)&&decide (l[i].bk≤9999)with
    |false=>simp
    |true=>
     cases decide (1≤l[i].ab)&&decide (l[i].ab≤1000000)with
     |false=>simp
     |true=>
      by_cases Ur:i=0
      ·subst Ur
       have Uz:aL 1=1:=aQ (by omega)
       simp[Uz]
      ·have zK:aL ((i:Int)-1)=((i-1:Nat):Int):=by rw[aQ (by omega)];omega
       have PQ:aC l ((i-1:Nat):Int)=some l[i-1]:=by rw[aR];exact VT (by omega)
       simp only[decide_eq_true (show 0<(i:Int)by omega),zK,PQ,VS,BZ,hw,VT (show i-1<l.length by omega),decide_eq_false Ur,V0,cond_false,cond_true,WH,Bool.false_or]
       cases nj l[i-1] l[i]<;>rfl
  rw[e0]
  by_cases tt:(WO l.length).all (F7 n l)=true
  ·rw[if_pos tt]
   have e1:aD (iD n l) NN 0=some (if(WO l.length).all (Km n l)=true then .inl ()else .inr false):=by
    refine oa (fun i hi _=>?_) (fun _=>by simp[iD]) (by unfold NN;omega)
    have hw:=bI hi (by omega)
    have hg:aC l (i:Int)=some l[i]:=by rw[aR];exact VT hi
    obtain⟨v,hv⟩:=td hl l[i].bf
    have uY:=V5.1 tt i (List.mem_range.2 hi)
    obtain⟨_,rb,hrb⟩:=qA h l[i].bf.bx l[i].bf.day
    have hrt:rb=true:=by
     simp only[F7,VT hi,hrb,Ws,VZ]at uY
     exact uY.1.1.1
    subst hrt
    obtain⟨g,sE⟩:=vN h hrb
    simp only[iD,decide_eq_true (show(i:Int)<l.length by omega),cond_true,hg,VS,hv,sE,Km,VT hi,hw]
    cases decide (g.fy<v)<;>rfl
   simp only[VS]
   rw[e1]
   have:(WO l.length).all (fun i=>F7 n l i&&Km n l i)=(WO l.length).all (Km n l):=by
    rw[Bool.eq_iff_iff,V5,V5]
    exact⟨fun H i hi=>by have:=H i hi;simp only[VZ]at this;exact this.2,fun H i hi=>by rw[V5.1 tt i hi,H i hi];rfl⟩
   rw[this]
   cases(WO l.length).all (Km n l)<;>rfl
  ·rw[if_neg tt]
   have:(WO l.length).all (fun i=>F7 n l i&&Km n l i)=false:=by
    rw[Bool.eq_false_iff]
    intro H
    exact tt (V5.2 fun i hi=>by have:=V5.1 H i hi;simp only[VZ]at this;exact this.1)
   rw[this];rfl
theorem yJ(h:cI n)(hn:aU n=some true)(t:au):dN n t=cx n t.bx t.day:=by
 rw[(qR h t).1]
 unfold dF jY
 rw[hn]
 obtain⟨_,b,hb⟩:=qA h t.bx t.day
 simp only[VS,cond_true,hb]
theorem vA(h:cI n)(hl:l.length≤1048576):iI n l=some (bJ n l):=by
 obtain⟨en,b,hb⟩:=jP h
 unfold iI bJ
 rw[en,hb]
 simp only[VS,Ws]
 cases b with
 |false=>rfl
 |true=>
  by_cases Q9:120<(l.length:Int)
  ·simp[Q9,show ¬((l.length:Int)≤120)by omega]
  simp only[V0,cond_false,decide_eq_false Q9,decide_eq_true (show(l.length:Int)≤120 by omega),WH]
  have e0:aD (fT n l) NN 0=some (if(WO l.length).all (fun i=>F7 n l i&&Km n l i)=true then .inl ()else .inr false):=by
   refine oa (fun i hi _=>?_) (fun _=>by simp[fT]) (by unfold NN;omega)
   have hw:=bI hi (by omega)
   have hg:aC l (i:Int)=some l[i]:=by rw[aR];exact VT hi
   obtain⟨_,rb,hrb⟩:=qA h l[i].bf.bx l[i].bf.day
   have ht:=yJ h hb l[i].bf
   rw[hrb]at ht
   obtain⟨v,hv⟩:=td hl l[i].bf
   have uR:∀{X:Option (Int⊕(Unit⊕Bool))} {pre:Bool},pre=(decide (i=0) ||match l[i-1]? with
    |none=>true
    |some x=>nj x l[i])→
    X=(cond (!pre) (some (.inr (.inr false))) ((some rb).bind fun dM=>cond (!dM) (some (.inr (.inr false))) ((bg l[i].bk 1 9999).bind fun jx=>cond (!jx) (some (.inr (.inr false))) ((bg l[i].ab 1 1000000).bind fun oV=>cond (!oV) (some (.inr (.inr false))) ((some v).bind fun lZ=>(aC n.ay l[i].bf.bx).bind fun kS=>cond (decide (kS.fy<lZ)) (some (.inr (.inr false))) (some (.inl ((i+1:Nat):Int))))))))→
    X=some (if(F7 n l i&&Km n l i)=true then .inl ((i+1:Nat):Int)else .inr (.inr false)):=by
    rintro X pre Ze9 rfl
    simp only[F7,Km,VT hi,hrb,hv,Ws,dt,VS,←Ze9]
    cases pre with
    |false=>simp
    |true=>
     cases rb with
     |false=>simp
     |true=>
      obtain⟨g,sE⟩:=vN h hrb
      simp only[sE,VS]
      cases decide (1≤l[i].bk)&&decide (l[i].bk≤9999)with
      |false=>simp
      |true=>
       cases decide (1≤l[i].ab)&&decide (l[i].ab≤1000000)with
       |false=>simp
       |true=>cases decide (g.fy<v)<;>simp
   by_cases Ur:i=0
   ·refine uR (pre:=true) (by simp[Ur]) ?_
    simp only[fT,decide_eq_true (show(i:Int)<l.length by omega),decide_eq_false (show ¬0<(i:Int)by omega),cond_true,cond_false,hg,VS,ht,fV,wH,hv,hw,V0]
   ·have zK:aL ((i:Int)-1)=((i-1:Nat):Int):=by rw[aQ (by omega)];omega
    have PQ:aC l ((i-1:Nat):Int)=some l[i-1]:=by rw[aR];exact VT (by omega)
    obtain⟨cv,yy,wS⟩:=EC l[i-1] l[i]
    refine uR (pre:=nj l[i-1] l[i]) (by simp[Ur,VT (show i-1<l.length by omega)]) ?_
    simp only[fT,decide_eq_true (show(i:Int)<l.length by omega),decide_eq_true (show 0<(i:Int)by omega),cond_true,cond_false,hg,zK,PQ,yy,wS,VS,ht,fV,wH,hv,hw]
  rw[e0]
  cases(WO l.length).all (fun i=>F7 n l i&&Km n l i)<;>rfl
theorem FA{α:Type}{r:α→α→Prop}(irr:∀a,¬r a a)(asy:∀a b,r a b→¬r b a):∀{l1 l2:List α},l1.Pairwise r→l2.Pairwise r→(∀x,x∈l1↔x∈l2)→l1=l2
 | [],[],_,_,_=>rfl
 | [],b::l2,_,_,h=>absurd ((h b).2 (Wp ..)) (by simp)
 |a::l1,[],_,_,h=>absurd ((h a).1 (Wp ..)) (by simp)
 |a::l1,b::l2,h1,h2,h=>by
  rw[Xh]at h1 h2
  have Ba:a=b:=by
   rcases V4.1 ((h a).1 (Wp ..))with e|e
   ·exact e
   ·rcases V4.1 ((h b).2 (Wp ..))with e'|e'
    ·exact e'.symm
    ·exact absurd (h1.1 b e') (asy _ _ (h2.1 a e))
  subst Ba
  congr 1
  refine FA irr asy h1.2 h2.2 fun x=>⟨fun hx=>?_,fun hx=>?_⟩
  ·rcases V4.1 ((h x).1 (Wi _ hx))with e|e
   ·subst e;exact absurd (h1.1 x hx) (irr x)
   ·exact e
  ·rcases V4.1 ((h x).2 (Wi _ hx))with e|e
   ·subst e;exact absurd (h2.1 x hx) (irr x)
   ·exact e
theorem za(a b:ByteArray):qB a b=true↔a.data.toList<b.data.toList:=by
 unfold qB;rw[Go.Proofs.bytesLess_eq,ByteArray.toList_eq,ByteArray.toList_eq,decide_eq_true_iff]
theorem BX(h:a.data.toList=b.data.toList):a=b:=by
 obtain⟨⟨x⟩⟩:=a;obtain⟨⟨y⟩⟩:=b;simpa using h
theorem Hh(a:ByteArray):¬qB a a=true:=by rw[za];exact List.lt_irrefl _
theorem SG(a b:ByteArray)(h:qB a b=true):¬qB b a=true:=by rw[za]at *;exact List.lt_asymm h
theorem ZbN{a b c:ByteArray}(h:qB a b=true)(h':qB b c=true):qB a c=true:=by rw[za]at *;exact List.lt_trans h h'
theorem Nn(h:¬qB a b=true)(hn:a≠b):qB b a=true:=by
 rw[za]at *
 rcases List.le_total a.data.toList b.data.toList with e|e
 ·rcases(XY.1 e)with e'|e'
  ·exact absurd e' h
  ·exact absurd (BX e') hn
 ·rcases(XY.1 e)with e'|e'
  ·exact e'
  ·exact absurd (BX e'.symm) hn
def rZ:List ByteArray→ByteArray→List ByteArray
 | [],p=>[p]
 |x::xs,p=>if qB x p=true then x::rZ xs p else if x=p then x::xs else p::x::xs
theorem CK{p y:ByteArray}:∀{xs:List ByteArray},y∈rZ xs p↔y=p∨y∈xs
 | []=>by simp[rZ]
 |x::xs=>by
  unfold rZ
  split
  ·rw[V4,CK,V4];grind
  ·split
   ·rename_i h;subst h;simp
   ·simp
theorem AG{p:ByteArray}:∀{xs:List ByteArray},xs.Pairwise (fun a b=>qB a b=true)→(rZ xs p).Pairwise (fun a b=>qB a b=true)
 | [],_=>by simp[rZ]
 |x::xs,h=>by
  rw[Xh]at h
  unfold rZ
  split
  ·rename_i h1
   rw[Xh]
   refine⟨fun y hy=>?_,AG h.2⟩
   rcases CK.1 hy with e|e
   ·rw[e];exact h1
   ·exact h.1 y e
  ·rename_i h1
   split
   ·rw[Xh];exact h
   ·rename_i h2
    have h3:=Nn h1 h2
    rw[Xh,Xh]
    refine⟨fun y hy=>?_,h⟩
    rcases V4.1 hy with e|e
    ·rw[e];exact h3
    ·exact ZbN h3 (h.1 y e)
theorem CJ{p:ByteArray}:∀{xs:List ByteArray},(rZ xs p).length≤xs.length+1
 | []=>by simp[rZ]
 |x::xs=>by
  unfold rZ
  split
  ·have:=CJ (p:=p) (xs:=xs);simp;omega
  ·split<;>simp
theorem sm{y:ByteArray}:∀{l acc:List ByteArray},y∈l.foldl rZ acc↔y∈l∨y∈acc
 | [],acc=>by simp
 |p::l,acc=>by rw[WI,sm,CK,V4];grind
theorem uz:∀{l acc:List ByteArray},acc.Pairwise (fun a b=>qB a b=true)→(l.foldl rZ acc).Pairwise (fun a b=>qB a b=true)
 | [],acc,h=>h
 |p::l,acc,h=>uz (l:=l) (AG h)
theorem EP:∀{l acc:List ByteArray},(l.foldl rZ acc).length≤l.length+acc.length
 | [],acc=>by simp
 |p::l,acc=>by
  have h1:=EP (l:=l) (acc:=rZ acc p)
  have h2:=CJ (p:=p) (xs:=acc)
  simp only[WI,VX];omega
/-! The Zcb: a list Zec Zeb,sorted. -/
theorem QT{y:ByteArray}:∀{l acc:List ByteArray},y∈l.foldl dd acc↔y∈l∨y∈acc
 | [],acc=>by simp
 |p::l,acc=>by
  rw[WI,QT,V4]
  unfold dd
  split
  ·rename_i h
   have h:=MU.1 h
   constructor
   ·grind
   ·rintro((rfl|h') |h')<;>grind
  ·simp;grind
theorem IE:∀{l acc:List ByteArray},acc.Nodup→(l.foldl dd acc).Nodup
 | [],acc,h=>h
 |p::l,acc,h=>by
  rw[WI]
  refine IE ?_
  unfold dd
  split
  ·exact h
  ·rename_i h1
   rw[List.nodup_append]
   refine⟨h,by simp,?_⟩
   intro a ha b hb
   simp at hb
   rintro rfl
   subst hb
   exact h1 (MU.2 ha)
theorem SP{y:ByteArray}{xs:List ByteArray}:y∈DB xs↔y∈xs:=by
 unfold DB
 rw[WS]
 constructor
 ·rintro⟨l,hl,rfl⟩
  rw[List.mem_mergeSort,WS]at hl
  obtain⟨b,hb,rfl⟩:=hl
  have:(⟨b.data.toList.toArray⟩:ByteArray)=b:=BX (by simp)
  rw[this];exact hb
 ·intro h
  exact⟨y.data.toList,by rw[List.mem_mergeSort,WS];exact⟨y,h,rfl⟩,BX (by simp)⟩
theorem J7{xs:List ByteArray}(h:xs.Nodup):(DB xs).Pairwise (fun a b=>qB a b=true):=by
 unfold DB
 rw[Xf]
 have h1:((xs.map fun b:ByteArray=>b.data.toList).mergeSort fun x y=>decide (x≤y)).Pairwise (fun a b=>decide (a≤b)=true):=
  List.pairwise_mergeSort (fun a b c=>by simp only[decide_eq_true_iff];exact List.le_trans) (fun a b=>by simp only[Bool.or_eq_true,decide_eq_true_iff];exact List.le_total a b) _
 have h2:((xs.map fun b:ByteArray=>b.data.toList).mergeSort fun x y=>decide (x≤y)).Nodup:=by
  rw[(List.mergeSort_perm _ _).nodup_iff]
  unfold List.Nodup
  rw[Xf]
  exact h.imp fun iw e=>iw (BX e)
 refine(h1.and h2).imp ?_
 rintro a b ⟨h3,h4⟩
 rw[za]
 rcases(XY.1 (of_decide_eq_true h3))with e|e
 ·simpa using e
 ·exact absurd e h4
def ak(n:aj):List ByteArray:=(ix n).foldl rZ []
theorem AF(h:cI n):dx n=some (ak n):=by
 unfold dx
 rw[if_pos ⟨h.ay,V5.2 fun l hl=>decide_eq_true (by have:=h.bx l hl;unfold CP xl at this;unfold maxLen;omega)⟩]
 congr 1
 exact FA (r:=fun a b=>qB a b=true) Hh SG (J7 (IE List.nodup_nil)) (uz List.Pairwise.nil) fun x=>by
  rw[SP,QT];unfold ak;rw[sm]
theorem UK{xs:List α}{p:α→Bool}(h1:∀i (hi:i<xs.length),body (i:Int)=some (if p xs[i]=true then .inl ((i+1:Nat):Int)else .inr (i:Int)))(h2:body (xs.length:Int)=some (.inr (xs.length:Int)))(hN:xs.length<NN):
 aD body NN 0=some ((xs.takeWhile p).length:Int):=by
 have key:∀(ys:List α) (i N:Nat),xs.drop i=ys→i≤xs.length→ys.length<N→aD body N (i:Int)=some ((i+(ys.takeWhile p).length:Nat):Int):=by
  intro ys
  induction ys with
  |nil=>
   intro i N hd hi hN
   cases N with
   |zero=>omega
   |succ N=>
    have:i=xs.length:=by have:=congrArg Yq hd;simp at this;omega
    subst this
    simp only[aD,h2]
    rfl
  |cons y ys ih=>
   intro i N hd hi hN
   cases N with
   |zero=>simp at hN
   |succ N=>
    have hy:xs[i]?=some y:=by
     have:=congrArg (fun l=>l[0]?) hd
     simpa using this
    have bF:i<xs.length:=(VU.1 hy).1
    have hyv:xs[i]=y:=(VU.1 hy).2
    have vt:xs.drop (i+1)=ys:=by
     have:=congrArg (List.drop 1) hd
     simpa[XI]using this
    simp only[aD,h1 i bF,hyv]
    cases hp:p y with
    |true=>
     simp only[if_true]
     have:=ih (i+1) N vt bF (by simp at hN;omega)
     refine this.trans ?_
     rw[Yw hp]
     congr 2
     simp;omega
    |false=>
     simp only[WU,if_false]
     rw[Yx (by simp[hp])]
     rfl
 simpa using key xs 0 NN rfl (Nat.zero_le _) hN
theorem MV(p:ByteArray):∀(xs:List ByteArray),rZ xs p=
 if xs[(xs.takeWhile fun x=>qB x p).length]?=some p then xs else xs.take (xs.takeWhile fun x=>qB x p).length++[p]++xs.drop (xs.takeWhile fun x=>qB x p).length
 | []=>by simp[rZ]
 |x::xs=>by
  unfold rZ
  cases h:qB x p with
  |true=>
   simp only[if_true]
   rw[Yw (by exact h),MV p xs]
   simp only[VX,List.getElem?_cons_succ,List.take_succ_cons,List.drop_succ_cons]
   split<;>simp
  |false=>
   rw[Yx (by simp[h])]
   simp only[VY,List.getElem?_cons_zero,List.take_zero,List.drop_zero,Option.some.injEq,WU,if_false]
   split<;>simp
theorem J3{i':Int}(hl:out.length≤4194304):
 (cond (decide (((out.takeWhile fun x=>qB x p).length:Int)=(out.length:Int)))
  ((cL (gA 0 ((out.takeWhile fun x=>qB x p).length:Int) out.length)).bind fun _=>
  (cL (bo ((([]:List ByteArray):List ByteArray).length+((cD out 0 ((out.takeWhile fun x=>qB x p).length:Int)):List ByteArray).length) 16)).bind fun _=>
  (cL (bo ((((([]:List ByteArray):List ByteArray)++(cD out 0 ((out.takeWhile fun x=>qB x p).length:Int))):List ByteArray).length+([p]:List ByteArray).length) 16)).bind fun _=>
  (cL (gA ((out.takeWhile fun x=>qB x p).length:Int) (out.length:Int) out.length)).bind fun _=>
  (cL (bo ((((((([]:List ByteArray):List ByteArray)++(cD out 0 ((out.takeWhile fun x=>qB x p).length:Int))):List ByteArray)++[p]):List ByteArray).length+((cD out ((out.takeWhile fun x=>qB x p).length:Int) (out.length:Int)):List ByteArray).length) 16)).bind fun _=>
  (some (.inl (i',((((((([]:List ByteArray):List ByteArray)++(cD out 0 ((out.takeWhile fun x=>qB x p).length:Int))):List ByteArray)++[p]):List ByteArray)++(cD out ((out.takeWhile fun x=>qB x p).length:Int) (out.length:Int))))):Option ((Int×List ByteArray)⊕List ByteArray)))
  ((aC out ((out.takeWhile fun x=>qB x p).length:Int)).bind fun y4=>
  cond (!decide (y4=p))
  ((cL (gA 0 ((out.takeWhile fun x=>qB x p).length:Int) out.length)).bind fun _=>
  (cL (bo ((([]:List ByteArray):List ByteArray).length+((cD out 0 ((out.takeWhile fun x=>qB x p).length:Int)):List ByteArray).length) 16)).bind fun _=>
  (cL (bo ((((([]:List ByteArray):List ByteArray)++(cD out 0 ((out.takeWhile fun x=>qB x p).length:Int))):List ByteArray).length+([p]:List ByteArray).length) 16)).bind fun _=>
  (cL (gA ((out.takeWhile fun x=>qB x p).length:Int) (out.length:Int) out.length)).bind fun _=>
  (cL (bo ((((((([]:List ByteArray):List ByteArray)++(cD out 0 ((out.takeWhile fun x=>qB x p).length:Int))):List ByteArray)++[p]):List ByteArray).length+((cD out ((out.takeWhile fun x=>qB x p).length:Int) (out.length:Int)):List ByteArray).length) 16)).bind fun _=>
  some (.inl (i',((((((([]:List ByteArray):List ByteArray)++(cD out 0 ((out.takeWhile fun x=>qB x p).length:Int))):List ByteArray)++[p]):List ByteArray)++(cD out ((out.takeWhile fun x=>qB x p).length:Int) (out.length:Int))))))
  (some (.inl (i',out)))))=some (.inl (i',rZ out p)):=by
 have hk:(out.takeWhile fun x=>qB x p).length≤out.length:=(List.takeWhile_sublist _).length_le
 rw[MV]
 generalize D8:(out.takeWhile fun x=>qB x p).length=k at *
 have e1:cD out 0 (k:Int)=out.take k:=by simp[cD]
 have e2:cD out (k:Int) (out.length:Int)=out.drop k:=by
  unfold cD
  rw[WY,WY,List.take_of_length_le (by simp)]
 have c1:cL (gA 0 (k:Int) out.length)=some ():=pR (by unfold gA;rw[decide_eq_true_iff];omega)
 have c2:cL (gA (k:Int) (out.length:Int) out.length)=some ():=pR (by unfold gA;rw[decide_eq_true_iff];omega)
 have ap:∀n:Nat,n≤8388608→cL (bo n 16)=some ():=fun n hn=>pR (by unfold bo;rw[decide_eq_true_iff];omega)
 simp only[e1,e2,c1,c2,VS,List.nil_append]
 rw[ap _ (by simp;omega),ap _ (by simp;omega),ap _ (by simp;omega)]
 simp only[VS]
 by_cases hke:(k:Int)=out.length
 ·have Ze1:k=out.length:=by omega
  rw[decide_eq_true hke,cond_true,if_neg (by rw[Ze1];simp)]
 ·rw[decide_eq_false hke,cond_false,aR]
  have bF:k<out.length:=by omega
  rw[VT bF]
  simp only[VS]
  by_cases he:out[k]=p
  ·rw[decide_eq_true he,if_pos (by rw[he])];rfl
  ·rw[decide_eq_false he,if_neg (by simpa using he)];rfl
theorem Fe(h:i<n.ay.length):(ix n)[2*i]?=some n.ay[i].ar∧(ix n)[2*i+1]?=some n.ay[i].aV:=by
 unfold ix
 have key:∀(l:List bM) (i:Nat) (h:i<l.length),(l.flatMap fun x=>[x.ar,x.aV])[2*i]?=some l[i].ar∧(l.flatMap fun x=>[x.ar,x.aV])[2*i+1]?=some l[i].aV:=by
  intro l
  induction l with
  |nil=>intro i h;simp at h
  |cons a l ih=>
   intro i h
   cases i with
   |zero=>simp[XL]
   |succ i=>
    have:=ih i (by simpa using h)
    simp only[XL,List.getElem_cons_succ]
    rw[show 2*(i+1)=2*i+2 by omega,show 2*i+2+1=2*i+1+2 by omega]
    simpa using this
 exact key n.ay i h
theorem wI(n:aj):(ix n).length=2*n.ay.length:=by
 unfold ix
 induction n.ay with
 |nil=>rfl
 |cons a l ih=>simp only[XL,List.length_append,ih,VX,VY];omega
theorem twL(hl:out.length≤4194304)(hb:∀i:Int,body i=cond (decide (i<(out.length:Int))) ((aC out i).bind fun y=>cond (qB y p) (some (.inl (aL (i+1)))) (some (.inr i))) (some (.inr i))):
 aD body NN 0=some ((out.takeWhile fun x=>qB x p).length:Int):=by
 refine UK (fun i hi=>?_) ?_ (by unfold NN;omega)
 ·have hw:=bI hi (by omega)
  have hg:aC out (i:Int)=some out[i]:=by rw[aR];exact VT hi
  rw[hb,decide_eq_true (show(i:Int)<out.length by omega),cond_true,hg]
  simp only[VS,hw]
  cases qB out[i] p<;>rfl
 ·rw[hb,decide_eq_false (by omega)];rfl
theorem L6(h:n.ay.length≤1048576)(hp:(ix n)[i]?=some p)(ho:out.length≤4194304):
 iQ n ((i:Int),out)=some (.inl (((i+1:Nat):Int),rZ out p)):=by
 have hi:i<2*n.ay.length:=by rw[←wI];exact(VU.1 hp).1
 have zK:aL (2*(n.ay.length:Int))=2*n.ay.length:=aQ (by omega)
 have hdiv:IntKind.i64.wrap (Xk (i:Int) 2)=((i / 2:Nat):Int):=by
  rw[show Xk (i:Int) 2=((i / 2:Nat):Int)from rfl]
  exact aQ (by omega)
 have Zbf:XG (i:Int) 2=((i % 2:Nat):Int):=rfl
 have hw:aL ((i:Int)+1)=((i+1:Nat):Int):=bI hi (by omega)
 have bF:i / 2<n.ay.length:=by omega
 have hg:aC n.ay ((i / 2:Nat):Int)=some n.ay[i / 2]:=by rw[aR];exact VT bF
 obtain⟨n1,n2⟩:=Fe bF
 unfold iQ
 simp only[zK,hdiv,Zbf,hw,hg,VS]
 rw[decide_eq_true (show(i:Int)<2*(n.ay.length:Int)by omega),cond_true]
 rcases Nat.mod_two_eq_zero_or_one i with hm|hm
 ·rw[hm,decide_eq_false (show ¬((0:Nat):Int)=1 by omega),cond_false]
  have Rv:p=n.ay[i / 2].ar:=by
   rw[show i=2*(i / 2)by omega,n1]at hp
   exact(Option.some.inj hp).symm
  rw[←Rv]
  rw[twL ho (body:=pN n ((i:Int),out) n.ay[i / 2]) (p:=p) (fun j=>by rw[Rv];rfl)]
  exact J3 ho
 ·rw[hm,decide_eq_true (show((1:Nat):Int)=1 by omega),cond_true]
  have Rv:p=n.ay[i / 2].aV:=by
   rw[show i=2*(i / 2)+1 by omega]at hp
   rw[n2]at hp
   exact(Option.some.inj hp).symm
  rw[←Rv]
  rw[twL ho (body:=pM n ((i:Int),out) n.ay[i / 2]) (p:=p) (fun j=>by rw[Rv];rfl)]
  exact J3 ho
theorem AV(h:n.ay.length≤1048576):de n=some (ak n):=by
 have key:∀(ps:List ByteArray) (i N:Nat) (out:List ByteArray),(ix n).drop i=ps→i≤(ix n).length→ps.length<N→out.length≤i→aD (iQ n) N ((i:Int),out)=some (ps.foldl rZ out):=by
  have xb:=wI n
  intro ps
  induction ps with
  |nil=>
   intro i N out hd hi hN ho
   cases N with
   |zero=>omega
   |succ N=>
    have:i=(ix n).length:=by have:=congrArg Yq hd;simp at this;omega
    subst this
    have zK:aL (2*(n.ay.length:Int))=2*n.ay.length:=aQ (by omega)
    simp only[aD,iQ,zK]
    rw[decide_eq_false (by rw[xb];omega)]
    rfl
  |cons p ps ih=>
   intro i N out hd hi hN ho
   cases N with
   |zero=>simp at hN
   |succ N=>
    have hp:(ix n)[i]?=some p:=by
     have:=congrArg (fun l=>l[0]?) hd
     simpa using this
    have bF:=(VU.1 hp).1
    have vt:(ix n).drop (i+1)=ps:=by
     have:=congrArg (List.drop 1) hd
     simpa[XI]using this
    simp only[aD,L6 h hp (show out.length≤4194304 by omega)]
    exact ih (i+1) N (rZ out p) vt bF (by simp at hN;omega) (by have:=CJ (p:=p) (xs:=out);omega)
 have xb:=wI n
 unfold de
 rw[show((0:Int))=((0:Nat):Int)from rfl,key (ix n) 0 NN [] rfl (Nat.zero_le _) (by unfold NN;omega) (by simp)]
 rfl
theorem di(h:cI n):dx n=de n∧de n=some (ak n):=⟨(AF h).trans (AV h.ay).symm,AV h.ay⟩
theorem eA(n:aj):(ak n).length≤2*n.ay.length:=by
 have:=EP (l:=ix n) (acc:=[])
 rw[wI]at this
 simpa[ak]using this
def fR(w:av)(o:az):Option Bool:=
 cond (!decide (o.state=3))
 ((gD o).bind fun y1=>
 cond (decide (y1=(o.aE.length:Int)))
 ((mQ w o).bind fun y2=>
 some (!decide (y2=o.aV)))
 (some false))
 (some false)
instance (w:av)(o:az):CT Tryz.prog (fR w o):=⟨214,[.ag (fK w),.ag (bc o)],[],fun r=>vb r,fun r=>[],fun H=>by replace H:=H0 H;unfold fR at H;exact aA Tryz.func214 rfl Tryz.ntmps214 Tryz.results214 fun Q hQ cR=>dU⟩
def ph(n:aj)(s:br):Option Bool:=
 (eU n).bind fun y1=>
 cond (!y1)
 (some false)
 ((aZ s.bk 1 9999).bind fun y2=>
 cond (!y2)
 (some false)
 ((aZ s.aO 0 100000).bind fun y3=>
 cond (!y3)
 (some false)
 (cond (decide (s.kind=1))
 (cond (decide (s.kind=1))
 ((dx n).bind fun y4=>
 (bV y4 s.place).bind fun y5=>
 cond (decide (0≤y5))
 (some (decide (s.bf=(⟨0,0⟩:au))))
 (some false))
 (cond (decide (s.kind=3))
 (cond (decide (s.place=⟨#[]⟩))
 ((dN n s.bf).bind fun y6=>
 cond y6
 ((dq n s.bf).bind fun y7=>
 some (decide (s.aO≤y7)))
 (some false))
 (some false))
 (cond (decide (s.kind=2))
 (cond (decide (s.place=⟨#[]⟩))
 ((dN n s.bf).bind fun y8=>
 cond y8
 ((dg n s.bf).bind fun y9=>
 some (decide (y9≤s.aO)))
 (some false))
 (some false))
 (some false))))
 (cond (decide (s.kind=4))
 ((dx n).bind fun dM=>
 (bV dM s.place).bind fun jx=>
 cond (decide (0≤jx))
 (some (decide (s.bf=(⟨0,0⟩:au))))
 (some false))
 (cond (decide (s.kind=3))
 (cond (decide (s.place=⟨#[]⟩))
 ((dN n s.bf).bind fun oV=>
 cond oV
 ((dq n s.bf).bind fun lZ=>
 some (decide (s.aO≤lZ)))
 (some false))
 (some false))
 (cond (decide (s.kind=2))
 (cond (decide (s.place=⟨#[]⟩))
 ((dN n s.bf).bind fun kS=>
 cond kS
 ((dg n s.bf).bind fun o9=>
 some (decide (o9≤s.aO)))
 (some false))
 (some false))
 (some false)))))))
instance (n:aj)(s:br):CT Tryz.prog (ph n s):=⟨189,[.ag (bA n),.ag (bt s)],[],fun r=>vb r,fun r=>[],fun H=>by replace H:=H0 H;unfold ph at H;exact aA Tryz.func189 rfl Tryz.ntmps189 Tryz.results189 fun Q hQ cR=>dU⟩
def kf(l:List bN)(aY:Int)(s0:Int):Option (Int⊕(Unit⊕Bool)):=
 cond (decide (s0<(l.length:Int)))
 ((jn 3 12 (
 (aC l s0).bind fun y1=>
 cond (decide (y1.iY<0))
 (some (.inr false))
 (cond (decide (aY≤y1.iY))
 (some (.inr false))
 ((aZ y1.ax 1 3).bind fun y2=>
 cond (!y2)
 (some (.inr false))
 ((aZ y1.kI 1 1000000000).bind fun y3=>
 cond (!y3)
 (some (.inr false))
 ((aZ y1.kJ 0 100000).bind fun y4=>
 cond (!y4)
 (some (.inr false))
 (cond (decide (s0=0))
 (some (.inl ()))
 ((aC l (aL (s0-1))).bind fun y5=>
 (dO y5.iY y1.iY).bind fun y6=>
 (dO y5.ax y1.ax).bind fun y7=>
 (dO y5.kI y1.kI).bind fun y8=>
 (oQ ([y6,y7,y8])).bind fun y9=>
 cond (decide (0≤y9))
 (some (.inr false))
 (cond (decide (y5.iY=y1.iY))
 (cond (decide (y5.ax=y1.ax))
 (cond (decide (y1.kJ<y5.kJ))
 (some (.inr false))
 (some (.inl ())))
 (some (.inl ())))
 (some (.inl ()))))))))):Option (Unit⊕Bool)) (fun z10=>(.sl (l.map cO)::vi aY::(U 6 (.sl (l.map cO)::vi (l.length:Int)::vi s0::(U 79 []))))) (fun z10=>[])).bind (bl (fun z10=>
 some (.inl (aL (s0+1)))) (fun r=>some (.inr (.inr r)))))
 (some (.inr (.inl ())))
instance (l:List bN)(aY:Int):bm (kf l aY):=⟨fun s0=>(.sl (l.map cO)::vi aY::(U 6 (.sl (l.map cO)::vi (l.length:Int)::vi s0::(U 79 [])))),fun s0=>[]⟩
def kT(l:List bN)(aY:Int):Option Bool:=
 (aD (kf l aY) NN 0).bind (bl (fun o0=>
 some (decide ((l.length:Int)≤24))) (fun r=>some r))
instance (l:List bN)(aY:Int):CT Tryz.prog (kT l aY):=⟨99,[.sl (l.map cO),vi aY],[],fun r=>vb r,fun r=>[],fun H=>by replace H:=H0 H;unfold kT at H;exact aA Tryz.func99 rfl Tryz.ntmps99 Tryz.results99 fun Q hQ cR=>dU⟩
def nO(ba:List bN)(p:a8)(y4:Int)(s0:Int):Option (Int⊕(Unit⊕(Int×Bool))):=
 cond (decide (s0<(ba.length:Int)))
 ((jn 6 9 (
 (aC ba s0).bind fun y5=>
 cond (decide (y5.iY=y4))
 (cond (decide (y5.ax=p.label.ax))
 ((gZ p).bind fun y6=>
 cond (decide (y6≤y5.kI))
 (some (.inr (y5.kJ,true)))
 (some (.inl ())))
 (some (.inl ())))
 (some (.inl ())):Option (Unit⊕(Int×Bool))) (fun z7=>(U 5 (.be 0 0 0::.un::.un::vi y4::(U 22 (.sl (ba.map cO)::vi (ba.length:Int)::vi s0::(U 25 [])))))) (fun z7=>[some ⟨.of 44,7,[[vi p.label.ax,vi p.label.fz,vs p.label.aV,vs p.ar,vi p.ab,.sl (p.cq.map aG),vi p.value]]⟩])).bind (bl (fun z7=>
 some (.inl (aL (s0+1)))) (fun r=>some (.inr (.inr r)))))
 (some (.inr (.inl ())))
instance (ba:List bN)(p:a8)(y4:Int):bm (nO ba p y4):=⟨fun s0=>(U 5 (.be 0 0 0::.un::.un::vi y4::(U 22 (.sl (ba.map cO)::vi (ba.length:Int)::vi s0::(U 25 []))))),fun s0=>[some ⟨.of 44,7,[[vi p.label.ax,vi p.label.fz,vs p.label.aV,vs p.ar,vi p.ab,.sl (p.cq.map aG),vi p.value]]⟩]⟩
def mn(aY:List bL)(ba:List bN)(p:a8):Option (Int×Bool):=
 (jB aY).bind fun y1=>
 cond (!y1)
 (some (0,false))
 ((kT ba (aY.length:Int)).bind fun y2=>
 cond (!y2)
 (some (0,false))
 ((jC p).bind fun y3=>
 cond (!y3)
 (some (0,false))
 ((pk aY p.label.aV).bind fun y4=>
 (aD (nO ba p y4) NN 0).bind (bl (fun o0=>
 some (0,false)) (fun r=>some r)))))
instance (aY:List bL)(ba:List bN)(p:a8):CT Tryz.prog (mn aY ba p):=⟨102,[.sl (aY.map cK),.sl (ba.map cO),.ag (bS p)],[],fun r=>.tu [vi r.1,vb r.2],fun r=>[],fun H=>by replace H:=H0 H;unfold mn at H;exact aA Tryz.func102 rfl Tryz.ntmps102 Tryz.results102 fun Q hQ cR=>dU⟩
def gh(bx:Int)(fg:Int)(zj:aj)(TF:List au)(TG:List ao)(TH:Int)(s0:Int):Option (Int⊕(Unit⊕(au×Bool))):=
 cond (decide (s0≤60))
 ((oh zj bx s0).bind fun y1=>
 cond y1
 ((dq zj (⟨bx,s0⟩:au)).bind fun y2=>
 cond (decide (fg≤y2))
 ((eM TF (⟨bx,s0⟩:au)).bind fun y3=>
 cond (!y3)
 ((aC zj.ay bx).bind fun y4=>
 (jX TG (⟨bx,s0⟩:au)).bind fun y5=>
 cond (decide (TH≤(aL (y4.fy-y5))))
 (some (.inr (.inr ((⟨bx,s0⟩:au),true))))
 (some (.inl (aL (s0+1)))))
 (some (.inl (aL (s0+1)))))
 (some (.inl (aL (s0+1)))))
 (some (.inl (aL (s0+1)))))
 (some (.inr (.inl ())))
instance (bx:Int)(fg:Int)(zj:aj)(TF:List au)(TG:List ao)(TH:Int):bm (gh bx fg zj TF TG TH):=⟨fun s0=>(vi bx::vi fg::.rp [.sl (zj.ay.map bp),.sl (zj.off.map aG),vi zj.change]::.rp [.sl (TF.map aS)]::.rp [.sl (TG.map aB)]::.rp [vi TH]::.un::.un::.be 0 0 0::.un::vi s0::(U 41 [])),fun s0=>[some ⟨.of 46,2,[[vi 0,vi 0]]⟩]⟩
def im(bx:Int)(fg:Int)(zj:aj)(TF:List au)(TG:List ao)(TH:Int):Option (au×Bool):=
 (aD (gh bx fg zj TF TG TH) NN 0).bind (bl (fun o0=>
 some ((⟨0,0⟩:au),false)) (fun r=>some r))
instance (bx:Int)(fg:Int)(zj:aj)(TF:List au)(TG:List ao)(TH:Int):CT Tryz.prog (im bx fg zj TF TG TH):=⟨314,[vi bx,vi fg,.rp [.sl (zj.ay.map bp),.sl (zj.off.map aG),vi zj.change],.rp [.sl (TF.map aS)],.rp [.sl (TG.map aB)],.rp [vi TH]],[],fun r=>.tu [.ag [vi r.1.bx,vi r.1.day],vb r.2],fun r=>[],fun H=>by replace H:=H0 H;unfold im at H;exact aA Tryz.func314 rfl Tryz.ntmps314 Tryz.results314 fun Q hQ cR=>dU⟩
def eG(n:aj)(bw:aj)(cZ:List au)(c9:List ao)(da:Int)(fJ:Int)(ay:Int)(y1:List ByteArray)(y2:Int)(s0:Int×(List Int)):Option ((Int×(List Int))⊕(List Int)):=
 cond (decide (s0.1<(y1.length:Int)))
 ((cL (bo ((s0.2:List Int).length+([(-1)]:List Int).length) 8)).bind fun _=>
 some (.inl ((aL (s0.1+1)),((s0.2:List Int)++[(-1)]))))
 (some (.inr s0.2))
instance (n:aj)(bw:aj)(cZ:List au)(c9:List ao)(da:Int)(fJ:Int)(ay:Int)(y1:List ByteArray)(y2:Int):bm (eG n bw cZ c9 da fJ ay y1 y2):=⟨fun s0=>(.un::.fn 314 [.rp [.sl (bw.ay.map bp),.sl (bw.off.map aG),vi bw.change],.rp [.sl (cZ.map aS)],.rp [.sl (c9.map aB)],.rp [vi da]]::.un::vi fJ::vi ay::.be 0 0 0::(U 5 (.ms 1::vi y2::.ms 2::(U 26 (vi (y1.length:Int)::vi s0.1::(U 83 [])))))),fun s0=>[some ⟨.of 27,3,[[.sl (n.ay.map bp),.sl (n.off.map aG),vi n.change]]⟩,some ⟨.of 9,1,y1.map jH⟩,some ⟨.of 3,1,s0.2.map aG⟩]⟩
def dn(n:aj)(bw:aj)(cZ:List au)(c9:List ao)(da:Int)(ay:Int)(y1:List ByteArray)(y2:Int)(s1:Int×(List Int))(s2:Int×Bool×(List Int)):Option ((Int×Bool×(List Int))⊕(Bool×(List Int))):=
 cond (decide (s2.1<(n.ay.length:Int)))
 ((aC n.ay s2.1).bind fun y4=>
 (bV y1 y4.ar).bind fun y5=>
 (bV y1 y4.aV).bind fun y6=>
 (aC s1.2 y5).bind fun y7=>
 cond (decide (y7<0))
 (some (.inl ((aL (s2.1+1)),s2.2.1,s2.2.2)))
 ((aC s1.2 y5).bind fun y8=>
 (ko n y8 (decide (y5=y2))).bind fun y9=>
 (im s2.1 y9 bw cZ c9 da).bind fun dM=>
 cond dM.2
 ((aC s2.2.2 y6).bind fun jx=>
 cond (decide (jx<0))
 ((dg n dM.1).bind fun oV=>
 (aC s2.2.2 y6).bind fun lZ=>
 some (.inl ((aL (s2.1+1)),true,(s2.2.2.set (Wo y6) oV))))
 ((dg n dM.1).bind fun kS=>
 (aC s2.2.2 y6).bind fun o9=>
 cond (decide (kS<o9))
 ((dg n dM.1).bind fun ma=>
 (aC s2.2.2 y6).bind fun ri=>
 some (.inl ((aL (s2.1+1)),true,(s2.2.2.set (Wo y6) ma))))
 (some (.inl ((aL (s2.1+1)),s2.2.1,s2.2.2)))))
 (some (.inl ((aL (s2.1+1)),s2.2.1,s2.2.2)))))
 (some (.inr (s2.2.1,s2.2.2)))
instance (n:aj)(bw:aj)(cZ:List au)(c9:List ao)(da:Int)(ay:Int)(y1:List ByteArray)(y2:Int)(s1:Int×(List Int)):bm (dn n bw cZ c9 da ay y1 y2 s1):=⟨fun s2=>(.un::.fn 314 [.rp [.sl (bw.ay.map bp),.sl (bw.off.map aG),vi bw.change],.rp [.sl (cZ.map aS)],.rp [.sl (c9.map aB)],.rp [vi da]]::.un::.un::vi ay::.be 0 0 0::(U 5 (.ms 1::vi y2::.ms 2::vi s1.1::.ms 3::vb s2.2.1::(U 44 (.sl (n.ay.map bp)::vi (n.ay.length:Int)::vi s2.1::(U 61 [])))))),fun s2=>[some ⟨.of 27,3,[[.sl (n.ay.map bp),.sl (n.off.map aG),vi n.change]]⟩,some ⟨.of 9,1,y1.map jH⟩,some ⟨.of 3,1,s1.2.map aG⟩,some ⟨.of 3,1,s2.2.2.map aG⟩]⟩
def dm(n:aj)(bw:aj)(cZ:List au)(c9:List ao)(da:Int)(ay:Int)(y1:List ByteArray)(y2:Int)(s1:Int×(List Int)):Option ((Int×(List Int))⊕(List Int)):=
 cond (decide (s1.1<ay))
 ((cL (bo ((([]:List Int):List Int).length+(s1.2:List Int).length) 8)).bind fun _=>
 (aD (dn n bw cZ c9 da ay y1 y2 s1) NN (0,false,((([]:List Int):List Int)++s1.2))).bind (fun o2=>
 cond (!o2.1)
 (some (.inr o2.2))
 (some (.inl ((aL (s1.1+1)),o2.2)))))
 (some (.inr s1.2))
instance (n:aj)(bw:aj)(cZ:List au)(c9:List ao)(da:Int)(ay:Int)(y1:List ByteArray)(y2:Int):bm (dm n bw cZ c9 da ay y1 y2):=⟨fun s1=>(.un::.fn 314 [.rp [.sl (bw.ay.map bp),.sl (bw.off.map aG),vi bw.change],.rp [.sl (cZ.map aS)],.rp [.sl (c9.map aB)],.rp [vi da]]::.un::.un::vi ay::.be 0 0 0::(U 5 (.ms 1::vi y2::.ms 2::vi s1.1::(U 110 [])))),fun s1=>[some ⟨.of 27,3,[[.sl (n.ay.map bp),.sl (n.off.map aG),vi n.change]]⟩,some ⟨.of 9,1,y1.map jH⟩,some ⟨.of 3,1,s1.2.map aG⟩]⟩
def dZ(n:aj)(bw:aj)(cZ:List au)(c9:List ao)(da:Int)(cU:ByteArray)(fJ:Int)(ay:Int):Option (List Int):=
 (dx n).bind fun y1=>
 (bV y1 cU).bind fun y2=>
 cond (decide (y2<0))
 (some ([]))
 (cond (decide (100000<fJ))
 (some ([]))
 (cond (decide (ay<0))
 (some ([]))
 ((aD (eG n bw cZ c9 da fJ ay y1 y2) NN (0,([]:List Int))).bind (fun o0=>
 (aC o0 y2).bind fun y3=>
 (aD (dm n bw cZ c9 da ay y1 y2) NN (0,(o0.set (Wo y2) (if 0 > fJ then 0 else fJ)))).bind (fun o1=>
 some o1)))))
instance (n:aj)(bw:aj)(cZ:List au)(c9:List ao)(da:Int)(cU:ByteArray)(fJ:Int)(ay:Int):CT Tryz.prog (dZ n bw cZ c9 da cU fJ ay):=⟨312,[.ag (bA n),.fn 314 [.rp [.sl (bw.ay.map bp),.sl (bw.off.map aG),vi bw.change],.rp [.sl (cZ.map aS)],.rp [.sl (c9.map aB)],.rp [vi da]],vs cU,vi fJ,vi ay],[],fun r=>.ms 0,fun r=>[some ⟨.of 3,1,r.map aG⟩],fun H=>by replace H:=H0 H;unfold dZ at H;exact aA Tryz.func312 rfl Tryz.ntmps312 Tryz.results312 fun Q hQ cR=>dU⟩
def fb(n:aj)(bw:aj)(cZ:List au)(c9:List ao)(da:Int)(places:List ByteArray)(before:List Int)(uA:ByteArray)(k:Int)(dX:Int)(s0:Int):Option (Int⊕(Unit⊕(au×Bool))):=
 cond (decide (s0<(n.ay.length:Int)))
 ((aC n.ay s0).bind fun y1=>
 (bV places y1.ar).bind fun y2=>
 (aC places k).bind fun y3=>
 cond (!decide (y1.aV=y3))
 (some (.inl (aL (s0+1))))
 ((aC before y2).bind fun y4=>
 cond (decide (y4<0))
 (some (.inl (aL (s0+1))))
 ((aC before y2).bind fun y5=>
 (ko n y5 (decide (y1.ar=uA))).bind fun y6=>
 (im s0 y6 bw cZ c9 da).bind fun y7=>
 cond y7.2
 ((dg n y7.1).bind fun y8=>
 cond (decide (y8=dX))
 (some (.inr (.inr (y7.1,true))))
 (some (.inl (aL (s0+1)))))
 (some (.inl (aL (s0+1)))))))
 (some (.inr (.inl ())))
instance (n:aj)(bw:aj)(cZ:List au)(c9:List ao)(da:Int)(places:List ByteArray)(before:List Int)(uA:ByteArray)(k:Int)(dX:Int):bm (fb n bw cZ c9 da places before uA k dX):=⟨fun s0=>(.un::.fn 314 [.rp [.sl (bw.ay.map bp),.sl (bw.off.map aG),vi bw.change],.rp [.sl (cZ.map aS)],.rp [.sl (c9.map aB)],.rp [vi da]]::.sl (places.map jH)::.sl (before.map aG)::vs uA::vi k::vi dX::.be 0 0 0::(U 6 (.be 1 0 0::(U 7 (.sl (n.ay.map bp)::vi (n.ay.length:Int)::vi s0::(U 49 [])))))),fun s0=>[some ⟨.of 27,3,[[.sl (n.ay.map bp),.sl (n.off.map aG),vi n.change]]⟩,some ⟨.of 46,2,[[vi 0,vi 0]]⟩]⟩
def kq(n:aj)(bw:aj)(cZ:List au)(c9:List ao)(da:Int)(places:List ByteArray)(before:List Int)(uA:ByteArray)(k:Int)(dX:Int):Option (au×Bool):=
 (aD (fb n bw cZ c9 da places before uA k dX) NN 0).bind (bl (fun o0=>
 some ((⟨0,0⟩:au),false)) (fun r=>some r))
instance (n:aj)(bw:aj)(cZ:List au)(c9:List ao)(da:Int)(places:List ByteArray)(before:List Int)(uA:ByteArray)(k:Int)(dX:Int):CT Tryz.prog (kq n bw cZ c9 da places before uA k dX):=⟨313,[.ag (bA n),.fn 314 [.rp [.sl (bw.ay.map bp),.sl (bw.off.map aG),vi bw.change],.rp [.sl (cZ.map aS)],.rp [.sl (c9.map aB)],.rp [vi da]],.sl (places.map jH),.sl (before.map aG),vs uA,vi k,vi dX],[],fun r=>.tu [.ag [vi r.1.bx,vi r.1.day],vb r.2],fun r=>[],fun H=>by replace H:=H0 H;unfold kq at H;exact aA Tryz.func313 rfl Tryz.ntmps313 Tryz.results313 fun Q hQ cR=>dU⟩
def dE(n:aj)(bw:aj)(cZ:List au)(c9:List ao)(da:Int)(cU:ByteArray)(kG:Int)(y1:List ByteArray)(y2:Int)(s0:Int×(List (List Int))):Option ((Int×(List (List Int)))⊕((List (List Int))⊕((List au)×Bool))):=
 cond (decide (s0.1≤(y1.length:Int)))
 ((dZ n bw cZ c9 da cU kG s0.1).bind fun y3=>
 cond (decide ((y3.length:Int)=0))
 (some (.inr (.inr ([],false))))
 (cond (decide (y2<0))
 (some (.inr (.inr ([],false))))
 ((A8 (.un::.fn 314 [.rp [.sl (bw.ay.map bp),.sl (bw.off.map aG),vi bw.change],.rp [.sl (cZ.map aS)],.rp [.sl (c9.map aB)],.rp [vi da]]::vs cU::.un::vi kG::.be 0 0 0::(U 6 (.ms 1::vi y2::.ms 2::vi s0.1::.sl (y3.map aG)::(U 116 [])))) [some ⟨.of 27,3,[[.sl (n.ay.map bp),.sl (n.off.map aG),vi n.change]]⟩,some ⟨.of 9,1,y1.map jH⟩,some ⟨.of 25,1,s0.2.map Aq⟩]).bind fun _=>
 (cL (bo ((s0.2:List (List Int)).length+([y3]:List (List Int)).length) 24)).bind fun _=>
 some (.inl ((aL (s0.1+1)),((s0.2:List (List Int))++[y3]))))))
 (some (.inr (.inl s0.2)))
instance (n:aj)(bw:aj)(cZ:List au)(c9:List ao)(da:Int)(cU:ByteArray)(kG:Int)(y1:List ByteArray)(y2:Int):bm (dE n bw cZ c9 da cU kG y1 y2):=⟨fun s0=>(.un::.fn 314 [.rp [.sl (bw.ay.map bp),.sl (bw.off.map aG),vi bw.change],.rp [.sl (cZ.map aS)],.rp [.sl (c9.map aB)],.rp [vi da]]::vs cU::.un::vi kG::.be 0 0 0::(U 6 (.ms 1::vi y2::.ms 2::vi s0.1::(U 117 [])))),fun s0=>[some ⟨.of 27,3,[[.sl (n.ay.map bp),.sl (n.off.map aG),vi n.change]]⟩,some ⟨.of 9,1,y1.map jH⟩,some ⟨.of 25,1,s0.2.map Aq⟩]⟩
def e9(n:aj)(bw:aj)(cZ:List au)(c9:List ao)(da:Int)(cU:ByteArray)(y1:List ByteArray)(y2:Int)(o0:(List (List Int)))(y5:Int)(s1:Int):Option (Int⊕Int):=
 (aC o0 s1).bind fun y6=>
 (aC y6 y2).bind fun y7=>
 cond (!decide (y7=y5))
 (some (.inl (aL (s1+1))))
 (some (.inr s1))
instance (n:aj)(bw:aj)(cZ:List au)(c9:List ao)(da:Int)(cU:ByteArray)(y1:List ByteArray)(y2:Int)(o0:(List (List Int)))(y5:Int):bm (e9 n bw cZ c9 da cU y1 y2 o0 y5):=⟨fun s1=>(.un::.fn 314 [.rp [.sl (bw.ay.map bp),.sl (bw.off.map aG),vi bw.change],.rp [.sl (cZ.map aS)],.rp [.sl (c9.map aB)],.rp [vi da]]::vs cU::.un::.un::.be 0 0 0::(U 6 (.ms 1::vi y2::.ms 2::.un::.un::vi y5::vi s1::(U 114 [])))),fun s1=>[some ⟨.of 27,3,[[.sl (n.ay.map bp),.sl (n.off.map aG),vi n.change]]⟩,some ⟨.of 9,1,y1.map jH⟩,some ⟨.of 25,1,o0.map Aq⟩]⟩
def ib(n:aj)(bw:aj)(cZ:List au)(c9:List ao)(da:Int)(cU:ByteArray)(y1:List ByteArray)(o0:(List (List Int)))(s2:Int×Int×Int×(List au)):Option ((Int×Int×Int×(List au))⊕((List au)⊕((List au)×Bool))):=
 cond (decide (0<s2.2.2.1))
 ((aC o0 (aL (s2.2.2.1-1))).bind fun y8=>
 (kq n bw cZ c9 da (y1:List ByteArray) y8 cU s2.1 s2.2.1).bind fun y9=>
 cond (!y9.2)
 (some (.inr (.inr ([],false))))
 ((cL (bo ((s2.2.2.2:List au).length+([y9.1]:List au).length) 16)).bind fun _=>
 (aC n.ay y9.1.bx).bind fun dM=>
 (bV (y1:List ByteArray) dM.ar).bind fun jx=>
 (aC o0 (aL (s2.2.2.1-1))).bind fun oV=>
 (aC oV jx).bind fun lZ=>
 some (.inl (jx,lZ,(aL (s2.2.2.1-1)),((s2.2.2.2:List au)++[y9.1])))))
 (some (.inr (.inl s2.2.2.2)))
instance (n:aj)(bw:aj)(cZ:List au)(c9:List ao)(da:Int)(cU:ByteArray)(y1:List ByteArray)(o0:(List (List Int))):bm (ib n bw cZ c9 da cU y1 o0):=⟨fun s2=>(.un::.fn 314 [.rp [.sl (bw.ay.map bp),.sl (bw.off.map aG),vi bw.change],.rp [.sl (cZ.map aS)],.rp [.sl (c9.map aB)],.rp [vi da]]::vs cU::.un::.un::.be 0 0 0::(U 6 (.sl ((y1:List ByteArray).map jH)::vi s2.1::.ms 1::.un::.un::vi s2.2.1::vi s2.2.2.1::.ms 2::(U 113 [])))),fun s2=>[some ⟨.of 27,3,[[.sl (n.ay.map bp),.sl (n.off.map aG),vi n.change]]⟩,some ⟨.of 25,1,o0.map Aq⟩,some ⟨.of 46,2,s2.2.2.2.map aS⟩]⟩
def ic(o2:(List au))(s3:Int×(List au)):Option ((Int×(List au))⊕(List au)):=
 cond (decide (0≤s3.1))
 ((aC o2 s3.1).bind fun kS=>
 (cL (bo ((s3.2:List au).length+([kS]:List au).length) 16)).bind fun _=>
 some (.inl ((aL (s3.1-1)),((s3.2:List au)++[kS]))))
 (some (.inr s3.2))
instance (o2:(List au)):bm (ic o2):=⟨fun s3=>(U 19 (.ms 0::.un::.un::.ms 1::vi s3.1::(U 109 []))),fun s3=>[some ⟨.of 46,2,o2.map aS⟩,some ⟨.of 46,2,s3.2.map aS⟩]⟩
def oR(n:aj)(bw:aj)(cZ:List au)(c9:List ao)(da:Int)(cU:ByteArray)(aV:ByteArray)(kG:Int):Option ((List au)×Bool):=
 (dx n).bind fun y1=>
 (bV y1 aV).bind fun y2=>
 (aD (dE n bw cZ c9 da cU kG y1 y2) NN (0,([]:List (List Int)))).bind (bl (fun o0=>
 (aC o0 (y1.length:Int)).bind fun y4=>
 (aC y4 y2).bind fun y5=>
 cond (decide (y5<0))
 (some ([],false))
 ((aD (e9 n bw cZ c9 da cU y1 y2 o0 y5) NN 0).bind (fun o1=>
 (aD (ib n bw cZ c9 da cU y1 o0) NN (y2,y5,o1,([]:List au))).bind (bl (fun o2=>
 (aD (ic o2) NN ((aL ((o2.length:Int)-1)),([]:List au))).bind (fun o3=>
 some (o3,true))) (fun r=>some r))))) (fun r=>some r))
instance (n:aj)(bw:aj)(cZ:List au)(c9:List ao)(da:Int)(cU:ByteArray)(aV:ByteArray)(kG:Int):CT Tryz.prog (oR n bw cZ c9 da cU aV kG):=⟨273,[.ag (bA n),.fn 314 [.rp [.sl (bw.ay.map bp),.sl (bw.off.map aG),vi bw.change],.rp [.sl (cZ.map aS)],.rp [.sl (c9.map aB)],.rp [vi da]],vs cU,vs aV,vi kG],[],fun r=>.tu [.ms 0,vb r.2],fun r=>[some ⟨.of 46,2,r.1.map aS⟩],fun H=>by replace H:=H0 H;unfold oR at H;exact aA Tryz.func273 rfl Tryz.ntmps273 Tryz.results273 fun Q hQ cR=>dU⟩
def il(n:aj)(l:List ao)(ae:List au)(fa:ByteArray)(aV:ByteArray)(oY:Int)(ab:Int):Option ((List au)×Bool):=
 (iI n l).bind fun y1=>
 cond (!y1)
 (some ([],false))
 (cond (decide (ab<1))
 (some ([],false))
 ((qZ n l ae ab).bind fun y2=>
 (oR n y2.1 y2.2.1 y2.2.2.1 y2.2.2.2 fa aV oY).bind fun y3=>
 some (y3.1,y3.2)))
instance (n:aj)(l:List ao)(ae:List au)(fa:ByteArray)(aV:ByteArray)(oY:Int)(ab:Int):CT Tryz.prog (il n l ae fa aV oY ab):=⟨201,[.ag (bA n),.sl (l.map aB),.sl (ae.map aS),vs fa,vs aV,vi oY,vi ab],[],fun r=>.tu [.ms 0,vb r.2],fun r=>[some ⟨.of 46,2,r.1.map aS⟩],fun H=>by replace H:=H0 H;unfold il at H;exact aA Tryz.func201 rfl Tryz.ntmps201 Tryz.results201 fun Q hQ cR=>dU⟩
def oN(i:Int)(j:Int)(zj:List ao):Option Bool:=
 (aC zj i).bind fun y1=>
 (aC zj j).bind fun y2=>
 (fE y1 y2).bind fun y3=>
 some (decide (y3<0))
instance (i:Int)(j:Int)(zj:List ao):CT Tryz.prog (oN i j zj):=⟨276,[vi i,vi j,.rp [.sl (zj.map aB)]],[],fun r=>vb r,fun r=>[],fun H=>by replace H:=H0 H;unfold oN at H;exact aA Tryz.func276 rfl Tryz.ntmps276 Tryz.results276 fun Q hQ cR=>dU⟩
def fW(a:cg):Option cg:=
 (gJ a.aT).bind fun y1=>
 some (⟨a.kind,y1,a.order,a.bz,a.bH,a.bf⟩:cg)
instance (a:cg):CT Tryz.prog (fW a):=⟨35,[.ag (ig a)],[],fun r=>.ag [vi r.kind,vi r.aT.label.ax,vi r.aT.label.fz,vs r.aT.label.aV,vs r.aT.ar,vi r.aT.ab,.sl (r.aT.cq.map aG),vi r.aT.value,vi r.order,vi r.bz,vi r.bH,vi r.bf.bx,vi r.bf.day],fun r=>[],fun H=>by replace H:=H0 H;unfold fW at H;exact aA Tryz.func35 rfl Tryz.ntmps35 Tryz.results35 fun Q hQ cR=>dU⟩
def uE(code:List YB8):Option Bool:=
 some (decide (4096<(code.length:Int)))
instance (code:List YB8):CT Tryz.prog (uE code):=⟨6,[.sl (code.map cB8)],[],fun r=>vb r,fun r=>[],fun H=>by replace H:=H0 H;unfold uE at H;exact aA Tryz.func6 rfl Tryz.ntmps6 Tryz.results6 fun Q hQ cR=>dU⟩
end Go.Proofs.YtbalgkakkoocjaaGreat
