/- A part of the proof of the statement in the last file of this claim: texts on the language of the program and on its functions. No condition. -/
import Derived.Test.YtdilaemengjipaaGreatDoorCJ32
import Derived.Test.YtdilaemengjipaaGreatDoorCJ24
import Derived.Test.YtdilaemengjipaaGreatDoorCJ26
import Derived.Test.YtdilaemengjipaaGreatDoorCJ28
import Derived.Test.YtdilaemengjipaaGreatDoorCJ16
import Derived.Test.YtdilaemengjipaaGreatDoorCJ4
import Derived.Test.YtdilaemengjipaaGreatDoorCJ7
import Derived.Test.YtdilaemengjipaaGreatDoorCJ20
import Derived.Test.YtdilaemengjipaaGreatDoorCJ25
import Derived.Test.YtdilaemengjipaaGreatDoorCJ1
set_option linter.unusedVariables false
set_option linter.unusedSimpArgs false
set_option linter.unusedSectionVars false
open Option renaming some->YW,none->YX
open Bool renaming true->YY,false->YZ
open Decidable renaming decide->Y0
namespace Go.Proofs.YtdilaemengjipaaGreatDoor
open List renaming mem_of_getElem?->VW,mem_append->Wi,getElem?_eq_getElem->VV,getElem_mem->Wp,length_take->Wg,length_append->VZ,getElem?_append_left->Wu,getElem?_take_of_lt->Xq
open Option renaming bind_some->VT,getD_some->Xj
set_option maxRecDepth 10000
open Go.RowKit
variable {o o':az}{r:List av}{w:ax}
inductive BU(n:ah)(l:List aq)(ae:List av)(ab:Int)(ar:ByteArray)(aQ:Int):Nat->ByteArray->Int->List av->Prop
 |nil {q:ByteArray} {e:Int} (h0:0<=bf (ak n) q) (hg:aB (cf n l ae ab (bf (ak n) ar) aQ 0) (bf (ak n) q)=YW e) (he:0<=e):BU n l ae ab ar aQ 0 q e []
 |snoc {k:Nat} {y:bP} {u z d e:Int} {i:Nat} {aK:List av} (hp:BU n l ae ab ar aQ k y.ar u aK) (c1:n.aA[i]?=YW y)
  (hg:aB (cf n l ae ab (bf (ak n) ar) aQ (k+1)) (bf (ak n) y.aY)=YW e)
  (c5:dm n u (Y0 (bf (ak n) y.ar=bf (ak n) ar))=YW z) (c6:cO n l ae (i:Int) z ab=YW d) (c7:¬d<0) (c8:bm n ⟨(i:Int),d⟩=YW e):BU n l ae ab ar aQ (k+1) y.aY e (aK++[⟨(i:Int),d⟩])
section
variable {n:ah} (hf:cU n)
include hf
theorem ZaZ(hn:aW n=YW YY){l:List aq}(hl:l.length<=1048576){ae:List av}(hc:ae.length<=1048576)(ab:Int){ar:ByteArray}(aQ:Int)
 (hC:cu n l=YY/\0<=bf (ak n) ar/\aQ<=100000/\1<=ab):
 ∀(k:Nat) (q0:ByteArray) (e:Int) (tail:List av),0<=bf (ak n) q0->aB (cf n l ae ab (bf (ak n) ar) aQ k) (bf (ak n) q0)=YW e->0<=e->(k=0\/¬aB (cf n l ae ab (bf (ak n) ar) aQ (k-1)) (bf (ak n) q0)=YW e)->tail.length+k<=(ak n).length->∀N,k<N->
  ∃aK,aE (fR n l ae ar aQ ab (ak n) (bf (ak n) ar)) N (bf (ak n) q0,e,(k:Int),tail)=YW (aK++tail)/\BU n l ae ab ar aQ k q0 e aK:=by
 have hlg:=rM hn;have hp:(ak n).length<=40:=by have:=fv n;omega
 intro k
 induction k with
 |zero=>
  intro q0 e tail hx hg he SB hlen N hN;obtain⟨N,rfl⟩:∃M,N=M+1:=⟨N-1,Yn⟩;exact⟨[],by rfl,.nil hx hg he⟩
 |succ k ih=>
  intro q0 e tail hx hg he SB hlen N hN;obtain⟨N,rfl⟩:∃M,N=M+1:=⟨N-1,Yn⟩;have zI:=nI hf hl hc ab (bf (ak n) ar) aQ;have hnx:¬aB (cf n l ae ab (bf (ak n) ar) aQ k) (bf (ak n) q0)=YW e:=by
   grind
  have Pf:wK n l ae ab (bf (ak n) ar) (cf n l ae ab (bf (ak n) ar) aQ k) (bf (ak n) q0) e:=by
   rcases(sj hf hl hc ab (bf (ak n) ar) aQ k).2 _ e hg with h|h
   all_goals grind
  have hxl:=(nk (ak n) q0).2;obtain⟨t,hs,hi,i,y,d,u,z,rfl,c1,c2,c3,c4,c5,c6,c7,c8⟩:=EW hf hl hc ab (zI k) (q0:=q0) rfl ⟨hx,hxl⟩ e Pf;have hfb:=qh hf hl hc ab aQ hC (k:=k) Yn;have hw:aM (((k+1:Nat):Int)-1)=(k:Int):=by rw[aR Yn];omega
  have hy:aB n.aA (i:Int)=YW y:=by rw[aP];omega
  have ha1:cr (bn (([⟨(i:Int),d⟩]:List av).length+tail.length) 16)=YW ():=ff Yr Yn;obtain⟨m1,m2⟩:=qD (VW c1);have a0:=nn m1;obtain⟨aK,q1,q2⟩:=ih y.ar u ([⟨(i:Int),d⟩]++tail) a0 c3 Yn (by
   by_cases BB:k=0
   ·omega
   ·refine .inr λhu=>hnx ?_
    obtain⟨k',rfl⟩:∃k',k=k'+1:=⟨k-1,Yn⟩;have qZ:=(we hf hn hl hc ab (bf (ak n) ar) aQ k').2 _ e ⟨i,y,d,u,z,c1,c2,hu,c4,c5,c6,c7,c8⟩;obtain⟨w,w1,w2,w3⟩:=qZ;obtain⟨w',v1,v2,v3⟩:=(we hf hn hl hc ab (bf (ak n) ar) aQ (k'+1)).1 _ w w1 w2
    grind) Yr N Yn
  have hq:y.aY=q0:=by
   have g1:=pP (nn m2);have g2:=pP hx
   grind
  refine⟨aK++[⟨(i:Int),d⟩],?_,?_⟩
  ·have hb:fR n l ae ar aQ ab (ak n) (bf (ak n) ar) (bf (ak n) q0,e,((k+1:Nat):Int),tail)=YW (.inl (bf (ak n) y.ar,u,(k:Int),[⟨(i:Int),d⟩]++tail)):=by
    unfold fR;simp only[Ya (show(0:Int)<((k+1:Nat):Int)by omega),Yj,hw,hfb,VT,hs,ha1,hy,ph hf,c3]
   unfold aE
   grind
  ·subst hq
   exact .snoc q2 c1 hg c5 c6 c7 c8
omit hf in
theorem Cp{t:av}(ht:gy n t=YY):∀(aK:List av) (p:ByteArray) (a:Int),iV n p a aK->(aK=[]->mv n t=p/\a<=cS n t)->(∀t',aK.getLast?=YW t'->mv n t=cq n t'/\dP n t'+n.change<=cS n t)->iV n p a (aK++[t])
 | [],p,a,_,h1,_=>⟨ht,(h1 rfl).1,(h1 rfl).2,trivial⟩
 |x::aK,p,a,hc,h1,h2=>by
  obtain⟨c1,c2,c3,c4⟩:=hc;refine⟨c1,c2,c3,Cp ht aK _ _ c4 (λhw=>?_) λt' h=>?_⟩
  all_goals grind
omit hf in
theorem zU:∀(m:Nat) (l:List Nat),l.Nodup->(∀x∈l,x<m)->l.length<=m
 |0,l,_,h=>by
  cases l with
  |nil=>simp
  |cons x xs=>have:=h x Yq;omega
 |m+1,l,hn,h=>by
  have h1:=zU m (l.erase m) (hn.erase m) λx hx=>by
   grind
  grind
section
variable (hn:aW n=YW YY) {l:List aq} (hl:l.length<=1048576) {ae:List av} (hc:ae.length<=1048576) (ab:Int) {ar:ByteArray} (aQ:Int) (Ly:0<=bf (ak n) ar) (zd:aQ<=100000)
include hn hl hc Ly zd
omit Ly zd in
theorem wg(f:Int){x u:Int}{j:Nat}(hg:aB (cf n l ae ab f aQ j) x=YW u)(h0:0<=u):∀d,sA (cf n l ae ab f aQ (j+d)) x u
 |0=>⟨u,hg,h0,Int.le_refl _⟩
 |d+1=>by
  obtain⟨w,w1,w2,w3⟩:=wg f hg h0 d;obtain⟨w',v1,v2,v3⟩:=(we hf hn hl hc ab f aQ (j+d)).1 x w w1 w2;exact⟨w',v1,v2,Yn⟩
structure Zcr(n:ah)(l:List aq)(ae:List av)(ab:Int)(ar:ByteArray)(aQ:Int)(k:Nat)(q:ByteArray)(e:Int)(aK:List av):Prop where
 time:0<=e/\e<=100000
 seen:∀p∈ar::aK.map (cq n),∃(j:Nat) (u:Int),j<=k/\aB (cf n l ae ab (bf (ak n) ar) aQ j) (bf (ak n) p)=YW u/\0<=u/\u<=e
 nodup:(ar::aK.map (cq n)).Nodup
 last:(ar::aK.map (cq n)).getLast?=YW q
 chain:iV n ar (if 0 > aQ then 0 else aQ) aK
 ends:aK=[]/\e=(if 0 > aQ then 0 else aQ)\/∃t,aK.getLast?=YW t/\dP n t=e
 found:∀t∈aK,dB ae t=YW YZ/\∃y q,aB n.aA t.bH=YW y/\dO l t=YW q/\ab<=aM (y.jk-q)
 idx:0<=bf (ak n) q
theorem Za0{k:Nat}{q:ByteArray}{e:Int}{aK:List av}(h:BU n l ae ab ar aQ k q e aK):Zcr n l ae ab ar aQ k q e aK:=by
 have hlg:=rM hn;have hp:(ak n).length<=40:=by have:=fv n;omega
 have bX:=(nk (ak n) ar).2
 induction h with
 |nil h0 hg he=>
  rename_i q e;have hb:cf n l ae ab (bf (ak n) ar) aQ 0=(List.replicate (ak n).length (-1:Int)).set (bf (ak n) ar).toNat (if 0 > aQ then 0 else aQ):=by
   unfold cf;rw[F4 hf Yn _ ⟨Ly,bX⟩];rfl
  rw[hb]at hg
  have hq:bf (ak n) q=bf (ak n) ar/\e=(if 0 > aQ then 0 else aQ):=by
   rcases II Ly hg with⟨a,b⟩ |h
   ·omega
   ·obtain⟨_,h2⟩:=nY h
    grind
  have hqf:ar=q:=by
   have g1:=pP h0;have g2:=pP Ly
   grind
  subst hqf;have he2:=hq.2;refine⟨⟨he,Yn⟩,λp hp=>?_,by simp,rfl,trivial,.inl ⟨rfl,he2⟩,λt ht=>by grind,Ly⟩
  grind
 |snoc hpt c1 hg c5 c6 c7 c8 ih=>
  rename_i k y u z d e i aK;have ZiM:aB n.aA (i:Int)=YW y:=by rw[aP];omega
  have hfo:Found n l ae z ab ⟨(i:Int),d⟩:=by
   rcases Jx hf c6 with h|h
   all_goals omega
  obtain⟨_,t2,t3,t4,t5⟩:=cY hf hn hfo.bk;have hee:dP n ⟨(i:Int),d⟩=e:=by grind
  have KQ:cq n ⟨(i:Int),d⟩=y.aY:=by unfold cq;grind
  have Zic:mv n ⟨(i:Int),d⟩=y.ar:=by unfold mv;grind
  obtain⟨n0,n1⟩:=kW hn;have hz:z=if bf (ak n) y.ar=bf (ak n) ar then u else u+n.change:=by
   unfold dm at c5
   by_cases h:bf (ak n) y.ar=bf (ak n) ar
   ·grind
   ·rw[Yg h,aR (by have:=ih.time;omega)]at c5;grind
  have u0:=hfo.start;obtain⟨m1,m2⟩:=qD (VW c1);have Zdc:∀p∈ar::aK.map (cq n),p≠y.aY:=λp hp heq=>by
   obtain⟨j,u',hj,hg',h0,hu⟩:=ih.seen p hp;rw[heq]at hg'
   obtain⟨w,w1,w2,w3⟩:=wg hf hn hl hc ab aQ _ hg' h0 (k+1-j)
   grind
  have Pc:ar::(aK++[(⟨(i:Int),d⟩:av)]).map (cq n)=(ar::aK.map (cq n))++[y.aY]:=by
   grind
  refine⟨⟨Yn,Yn⟩,λp hp=>?_,?_,?_,?_,.inr ⟨_,List.getLast?_concat,hee⟩,λt ht=>?_,nn m2⟩
  ·rw[Pc]at hp
   rcases Wi.1 hp with hp|hp
   ·obtain⟨j,u',hj,hg',h0,hu⟩:=ih.seen p hp
    grind
   grind
  ·rw[Pc,List.nodup_append]
   exact⟨ih.nodup,by simp,λa ha b hb=>by grind⟩
  ·grind
  ·refine Cp hfo.bk aK _ _ ih.chain (λhw=>?_) λt' Hq=>?_
   ·subst hw
    have hq:ar=y.ar:=by have:=ih.last;grind
    rcases ih.ends with⟨_,he⟩ |⟨t,ht,_⟩
    all_goals grind
   ·have Ge:t'∈aK:=List.mem_of_getLast? Hq
    have wT:cq n t'=y.ar:=by
     have h1:=ih.last
     grind
    have gZ:¬bf (ak n) y.ar=bf (ak n) ar:=λhe=>by
     have g1:=pP (nn m1);have g2:=pP Ly;rw[he,g2]at g1
     have hff:ar=y.ar:=Option.some.inj g1;have hnd:=ih.nodup
     grind
    rw[if_neg gZ]at hz
    rcases ih.ends with⟨hw,_⟩ |⟨t'',ZiV,ZiI⟩
    all_goals grind
  ·rcases Wi.1 ht with ht|ht
   ·exact ih.found t ht
   ·obtain rfl:=List.mem_singleton.1 ht
    exact⟨hfo.open_,hfo.jk⟩
end
end
theorem Ju(t:av):dO [] t=YW 0:=by
 rfl
section
variable {n:ah} (hf:cU n) (hn:aW n=YW YY) (hr:∀l∈n.aA,1<=l.jk)
include hf hn hr
end
structure Ra(n:ah)(o:az):Prop where
 aO:0<=o.aO/\o.aO<=100001
 comes:bd o<=o.aK.length
 aK:o.aK.length<=110000
 bH:∀(k:Nat) t,(k:Int)<bd o->o.aK[k]?=YW t->∃y,aB n.aA t.bH=YW y
def Zgt(n:ah)(o:az):Prop:=bd o=o.aK.length\/∀t,o.aK.getLast?=YW t->cq n t=o.aY
structure Q4(n:ah)(now:Int)(o:az):Prop where
 ends:Zgt n o
 started:o.state=2->∃t,o.aK[o.aO.toNat]?=YW t/\cS n t<=now
 aO:0<=o.aO/\o.aO<=100001
structure AgD(n:ah)(w:ax):Prop where
 fC:w.aa=n
 aj:w.aj.length<=30
 au:w.au.length<=120
 ae:w.ae.length<=21
 aN:w.aN.length<=201
 skip:w.skip.length<=50
 ord:∀o∈w.aj,Ra n o
 fin:∀o∈w.aj,Q4 n w.now o
theorem QL{n:ah}(h:vg n o):o.aK.length<=100001:=by
 have key:∀(i:Nat) t,o.aK[i]?=YW t->(i:Int)<=cS n t:=by
  intro i
  induction i with
  |zero=>intro t ht;exact(h.bk t (VW ht)).1
  |succ i ih=>
   intro t ht;have bX:=(List.getElem?_eq_some_iff.1 ht).1;have h1:o.aK[i]?=YW o.aK[i]:=VV Yn;have:=ih _ h1;have:=h.bk _ (Wp (show i<o.aK.length by omega))
   have:=h.next i _ _ h1 ht;omega
 rcases Nat.eq_zero_or_pos o.aK.length with h0|h0
 ·omega
 ·have bX:o.aK.length-1<o.aK.length:=Yn
  have h1:=key _ _ (VV bX);have h2:=h.bk _ (Wp bX);omega
theorem qw.ag(h:qw w)(r9:∀o∈w.aj,Q4 w.aa w.now o):AgD w.aa w:=by
 obtain⟨p1,p2,p3,p4,p5,p6,p7⟩:=h.parts;refine⟨rfl,p2,p7,Yn,Yn,p5,λo ho=>?_,r9⟩
 obtain⟨i,hi,rfl⟩:=List.getElem_of_mem ho;have nj:=VV hi;have hw:=h.aK nj;have hok:=mX h.fit h.ok nj;have hs:=QL hw;have hg:=hw.aO;refine⟨⟨hg.1,Yn⟩,?_,Yn,λk t _ ht=>?_⟩
 ·unfold bd
  split
  ·rename_i h2
   rcases hok.cases with⟨c,_⟩ |⟨_,c⟩ |⟨c,_⟩<;>omega
  ·exact hg.2
 ·obtain⟨y,hy,_⟩:=fp h.fit.fC (hok.bk t (VW ht))
  exact⟨y,hy⟩
theorem AgD.fit{n:ah}(hf:cU n)(h:AgD n w):rF w:=by
 have h1:=h.aj;have h2:=h.au;have h3:=h.ae;have h4:=h.aN;have h5:=h.skip;exact⟨by rw[h.fC];exact hf,Yn,Yn,Yn,Yn,Yn,λo ho=>by have:=(h.ord o ho).aK;omega⟩
theorem Ra.on{n:ah}(h:Ra n o)(hg:o'.aO=o.aO)(hs:o'.state=o.state)(hw:o'.aK=cM o.aK 0 (bd o)++r)(hr:r.length<=2000):Ra n o':=by
 have uo:=h.comes;have g:=h.aO;have hc:bd o'=bd o:=by unfold bd;rw[hg,hs]
 have c0:0<=bd o/\bd o<=100002:=by unfold bd;split<;>omega
 have sT:cM o.aK 0 (bd o)=o.aK.take (bd o).toNat:=by unfold cM;simp
 have hlen:(cM o.aK 0 (bd o)).length=(bd o).toNat:=by rw[sT,Wg];omega
 refine⟨by rw[hg];exact g,?_,?_,λk t hk ht=>?_⟩
 ·rw[hc,hw,VZ,hlen];omega
 ·rw[hw,VZ,hlen];omega
 ·rw[hc]at hk
  rw[hw,Wu (by rw[hlen];omega),sT,Xq Yn]at ht
  exact h.bH k t hk ht
theorem Q4.on{n:ah}{now:Int}(h:Ra n o)(hF:Q4 n now o)(hg:o'.aO=o.aO)(hs:o'.state=o.state)(ht:o'.aY=o.aY)(hw:o'.aK=cM o.aK 0 (bd o)++r)(hr:∀t,r.getLast?=YW t->cq n t=o.aY):Q4 n now o':=by
 have uo:=h.comes;have g:=h.aO;have hc:bd o'=bd o:=by unfold bd;rw[hg,hs]
 have c0:0<=bd o/\bd o<=100002:=by unfold bd;split<;>omega
 have sT:cM o.aK 0 (bd o)=o.aK.take (bd o).toNat:=by unfold cM;simp
 have hlen:(cM o.aK 0 (bd o)).length=(bd o).toNat:=by rw[sT,Wg];omega
 refine⟨?_,λh2=>?_,by rw[hg];exact g⟩
 ·cases r with
  |nil=>exact .inl (by rw[hc,hw,List.append_nil,hlen];omega)
  |cons a as'=>
   refine .inr λt hl=>?_
   rw[hw,List.getLast?_append,ht]at *
   refine hr t ?_
   cases hx:(a::as').getLast? with
   |none=>simp at hx
   |some z=>rw[hx]at hl;exact hl
 ·rw[hs]at h2
  obtain⟨t,k1,k2⟩:=hF.started h2;refine⟨t,?_,k2⟩;have zJ:bd o=o.aO+1:=by unfold bd;rw[if_pos h2]
  rw[hg,hw,Wu (by rw[hlen];omega),sT,Xq Yn]
  exact k1
section
variable {n:ah} (hf:cU n) (hn:n.aA.length<=20)
include hf hn
end
theorem BQ.fit{l:bP}(h:BQ l):C5 l:=⟨by rw[(qz _ h.ar).2];decide,by rw[(qz _ h.aY).2];decide⟩
theorem BQ.ok{l:bP}(h:BQ l):fE l=YW true:=by
 have h1:=h.start;have h2:=h.nd;have h3:=h.vt;have h4:=h.jk;unfold fE;rw[(qz _ h.ar).1,(qz _ h.aY).1];simp only[VT,Yj,Yg h.ne,Bool.not_false,cN,Ya h1.1,Ya h1.2,Ya h2.1,Ya h2.2,Ya h3.1,Ya h3.2,Ya h4.1,Ya h4.2,Bool.and_self]
theorem tD.fit{n:ah}(h:tD n):cU n:=⟨by have:=h.len;omega,by rcases h.off with e|⟨a,b,e,_⟩<;>rw[e]<;>simp,λl hl=>(h.bH l hl).fit⟩
theorem tD.ok{n:ah}(h:tD n):aW n=YW true:=by
 have hlen:=h.len;have Ea:=h.change;have e0:aV (aE (bY n) NN 0) λr=>r=.inl ():=by
  refine aV.loop (fun(k:Nat) (s:Int)=>∃i:Nat,s=(i:Int)/\i+k=n.aA.length) (λk s hs=>?_) NN n.aA.length _ ⟨0,rfl,Yn⟩ Ys
  obtain⟨i,rfl,hk⟩:=hs;unfold bY;refine aV.cond (λhd=>?_) λhd=>aV.ret rfl
  have bX:=Yh hd;have BE:aM ((i:Int)+1)=((i+1:Nat):Int):=by rw[aR Yn];omega
  obtain⟨x,hx,hm⟩:=mj (xs:=n.aA) (i:=(i:Int)) ⟨Yn,bX⟩;rw[hx,VT,(h.bH x hm).ok,VT,BE];exact aV.cond (λe=>by cases e) λ_=>aV.ret ⟨k-1,Yn,i+1,rfl,Yn⟩
 have e1:aV (aE (bZ n) NN 0) λr=>r=.inl ():=by
  rcases h.off with e|⟨a,b,e,g1,g2,g3⟩
  ·refine aV.loop (fun(k:Nat) (s:Int)=>s=0) (λk s hs=>?_) NN 0 _ rfl Ys
   subst hs;unfold bZ;rw[e];exact aV.cond (λhd=>by simp at hd) λhd=>aV.ret rfl
  ·refine aV.loop (fun(k:Nat) (s:Int)=>(s=0/\k=2)\/(s=1/\k=1)\/(s=2/\k=0)) (λk s hs=>?_) NN 2 _ (.inl ⟨rfl,rfl⟩) Ys
   unfold bZ;rw[e];have x0:aB [a,b] 0=YW a:=rfl;have x1:aB [a,b] 1=YW b:=rfl;have w1:aM (0+1)=1:=by decide
   have w2:aM (1+1)=2:=by decide
   have w0:aM (1-1)=0:=by decide
   rcases hs with⟨rfl,rfl⟩ |⟨rfl,rfl⟩ |⟨rfl,rfl⟩
   ·refine aV.cond (λ_=>?_) λhd=>by simp at hd
    rw[x0,VT,cN,VT,Ya g1,Ya (show a<=60 by omega),w1]
    exact aV.cond (λe=>by cases e) λ_=>aV.cond (λe=>by simp at e) λ_=>aV.ret ⟨1,Yn,.inr (.inl ⟨rfl,rfl⟩)⟩
   ·refine aV.cond (λ_=>?_) λhd=>by simp at hd
    rw[x1,VT,cN,VT,Ya (show 0<=b by omega),Ya g3,w2,w0,x0,VT,VT]
    exact aV.cond (λe=>by cases e) λ_=>aV.cond (λ_=>aV.cond (λe=>by have:=Yh e;omega) λ_=>aV.ret ⟨0,Yn,.inr (.inr ⟨rfl,rfl⟩)⟩) λe=>by simp at e
   ·exact aV.cond (λhd=>by simp at hd) λhd=>aV.ret rfl
 obtain⟨_,r0,rfl⟩:=e0;obtain⟨_,r1,rfl⟩:=e1;unfold aW;rw[r0,VT];simp only[bh];rw[r1,VT];simp only[bh];have ho:(n.off.length:Int)<=10:=by rcases h.off with e|⟨a,b,e,_⟩<;>rw[e]<;>simp
 rw[Ya (show(n.aA.length:Int)<=20 by omega),Ya ho,cN,Ya Ea.1,Ya Ea.2]
 rfl
theorem PO{n:ah}(h:tD n){skip:List Int}(hs:skip.length<=50):jJ n skip=YW ((⟨n,[],[],[],0,[],skip,0⟩:ax),YY):=by
 have hf:rF (⟨n,[],[],[],0,[],skip,0⟩:ax):=⟨h.fit,by simp,by simp,by simp,by simp,by simp only;omega,λo ho=>by cases ho⟩
 have hv:fB (⟨n,[],[],[],0,[],skip,0⟩:ax)=true:=by
  unfold fB cu uP;simp only[h.ok,Xj];simp[allI];omega
 unfold jJ;rw[wk hf,VT,qg hf,hv];rfl
section
variable {n:ah} (hn:tD n)
include hn
theorem KG{c:bj}(h:dv c):aV (kp c n) λr=>dv r.2:=by
 have hl:=hn.len;unfold kp;refine aV.fV (aV.bind (bJ h _) λy1 h1=>aV.fV (aV.bind (bJ h1.2 10) λy2 h2=>?_))
 obtain⟨y,hy,_⟩:=mj (xs:=n.aA) (i:=y1.1) ⟨h1.1.1,h1.1.2.1 Yn⟩;refine aV.bind (LP hn.fit hy _) λy3 _=>aV.cond (λ_=>aV.fV (aV.bind (mW h2.2 4) λy4 h4=>aV.cond (λ_=>aV.ret h4) λ_=>aV.ret h4)) λ_=>aV.ret h2.2
theorem FJ{c:bj}(h:dv c)(hw:w.aa=n):aV (dy c w) λr=>dv r.2:=by
 unfold dy;rw[hw];refine aV.cond (λhd=>aV.fV (aV.bind (mW h 4) λy1 h1=>aV.cond (λ_=>aV.drw (aV.fV (aV.bind (bJ h1 _) λy2 h2=>aV.get h2.1.1 (h2.1.2.1 (Yh hd)) λx _ _=>aV.ret h2.2))) λ_=>aV.fV (aV.bind (KG hn h1) λy4 h4=>aV.ret h4))) λ_=>aV.fV (aV.bind (KG hn h) λy4 h4=>aV.ret h4)
end
theorem rF.set{w:ax}(h:rF w){i:Nat}{x:az}{o:az}(ho:o∈w.aj)(hx:x.aK=o.aK):∀y∈w.aj.set i x,y.aK.length<=1048576:=λy hy=>by
 rcases List.mem_or_eq_of_mem_set hy with hy|rfl
 ·exact h.aK y hy
 ·rw[hx];exact h.aK o ho
end Go.Proofs.YtdilaemengjipaaGreatDoor
