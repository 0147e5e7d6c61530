/- A part of the proof of the statement in the last file of this claim: texts on the language of the program and on its functions. No condition. -/
import Derived.Test.YtbalgkakkoocjaaGreatCFnTwice15
import Derived.Test.YtbalgkakkoocjaaGreatCFnTwice13
import Derived.Test.YtbalgkakkoocjaaGreatCFnTwice6
import Derived.Test.YtbalgkakkoocjaaGreatCFnTwice5
import Derived.Test.YtbalgkakkoocjaaGreatCFnTwice4
import Derived.Test.YtbalgkakkoocjaaGreatCFnTwice9
import Derived.Test.YtbalgkakkoocjaaGreatCFnTwice10
import Derived.Test.YtbalgkakkoocjaaGreatCFnTwice12
import Derived.Test.YtbalgkakkoocjaaGreatCFnTwice11
set_option linter.unusedVariables false
set_option linter.unusedSimpArgs false
set_option linter.unusedSectionVars false
open Option renaming bind_some→VS,getD_some→Ws,map_some→Wr
open List renaming foldl_cons→WI,getElem?_eq_some_iff→VU,getElem?_eq_none→Wy,length_nil→VY,nil_append→WM,getElem?_eq_getElem→VT,length_take→V8,getElem_mem→Wm,length_cons→VX,getElem_of_mem→Wf,mem_cons_of_mem→Wi,mem_cons_self→Wp,map_cons→Wx,sum_cons→WT,length_map→Wg,range→WO,mem_of_getElem?→VW,findIdx?_eq_some_iff_getElem→Yb,length_append→V2,getElem?_set_ne→Wt,length_set→WL,replicate→WA,getElem?_set_self→Wl,length_replicate→Xz,length_drop→WK,drop_eq_getElem_cons→YB,getElem?_map→Wj,map_append→Xq,append_assoc→Xb,getLast?_cons_cons→W5,mem_append→WC,mem_singleton→Wc,nodup_cons→Xr,mem_map_of_mem→X8,pairwise_iff_getElem→WG,mem_cons→V4,take_length→Xo,take_succ_eq_append_getElem→Xe,Nodup→XE,pairwise_map→Xf,mem_map→WS,append_nil→Xc,any_eq_true→W3,map_id→X2
open Bool renaming not_true→V0,and_self→W8,and_eq_true→VZ,true_and→WH,false_or→X9,false_eq_true→WU,not_false→Wz,not_eq_true'→Wa,decide_and→XX
open Nat renaming zero_add→Wb,add_sub_cancel→Xl,le_refl→V3,lt_of_lt_of_le→Xa,lt_or_ge→WB
open _root_.Int renaming tdiv_eq_ediv_of_nonneg→YA,toNat→Wo,le_refl→Wv
open Sum renaming inl→XT
open Option.some renaming inj→VV,injEq→V1
open _root_.Array renaming getElem?_eq_some_iff→V6,getElem?_eq_getElem→V9
namespace Go.Proofs.YtbalgkakkoocjaaGreat
set_option maxRecDepth 10000
open Go.RowKit
variable {before gB:List Int}{du e en th u:Int}{k:Nat}{p q q0:ByteArray}{t:au}{y:bM}{α:Type}{v:α}
theorem lp{σ ο:Type}{body:σ→Option (σ⊕ο)}(S:Nat→σ){n:Nat}{o:ο}(h1:∀i,i<n→body (S i)=some (.inl (S (i+1))))(h2:body (S n)=some (.inr o)):∀N,n<N→aD body N (S 0)=some o:=by
 have key:∀d j,j+d=n→∀N,d<N→aD body N (S j)=some o:=by
  intro d
  induction d with
  |zero=>
   intro j hj N hN
   obtain⟨N,rfl⟩:∃M,N=M+1:=⟨N-1,by omega⟩
   have:j=n:=by omega
   subst this
   unfold aD;rw[h2];rfl
  |succ d ih=>
   intro j hj N hN
   obtain⟨N,rfl⟩:∃M,N=M+1:=⟨N-1,by omega⟩
   unfold aD
   rw[h1 j (by omega)]
   exact ih (j+1) (by omega) N (by omega)
 intro N hN
 exact key n 0 (by omega) N hN
theorem Af{A α:Type}(f:A→α→A):∀(xs:List α) (i:Nat) (a:A),tx (fun _ a x=>some (.inl (f a x):A⊕A)) some i xs a=some (xs.foldl f a)
 | [],i,a=>rfl
 |x::xs,i,a=>by
  simp only[tx,VS,bl,WI]
  exact Af f xs (i+1) (f a x)
theorem GD{w:av}(h:pL w):gr w=some (fI w):=by
 have nU:=h.ey
 have Ti:=h.fit.ah
 have e1:aD (eZ w) NN ((-1),0)=some (fI w):=by
  rw[qS (xs:=w.ah) (A:=Int) (fun a i=>(a,i)) (fun _ a o=>some (.inl (qG a (ek w.aa o)))) some (fun a i o ho=>?_) (fun a=>?_) (by unfold NN;omega) (-1)]
  ·exact Af (fun a o=>qG a (ek w.aa o)) w.ah 0 (-1)
  ·have bF:=(VU.1 ho).1
   have hg:aC w.ah (i:Int)=some o:=by rw[aR];exact ho
   have hi:aL ((i:Int)+1)=((i+1:Nat):Int):=bI bF (by omega)
   have ik:=mM h.fit h.ok ho
   unfold eZ
   simp only[decide_eq_true (show(i:Int)<w.ah.length by omega),cond_true,hg,VS,hi,pU,rY]
   by_cases sE:o.aJ<o.aE.length
   ·obtain⟨t,PU,yC⟩:=DN h.fit h.ok ho ik.aJ.1 sE
    obtain⟨t1,t2,t3,t4,t5⟩:=cH h.fit.ey nU yC
    have ht:o.aE[o.aJ.toNat]?=some t:=by unfold aC at PU;rwa[if_pos ik.aJ.1]at PU
    have ev:ek w.aa o=some (if o.state=2 then cS w.aa t else cd w.aa t):=by unfold ek;rw[ht];rfl
    rw[ev]
    simp only[PU,VS,t1,t2,decide_eq_true sE,qG]
    rcases ik.cases with⟨c1,_⟩ |⟨c1,_⟩ |⟨c1,c2,_⟩
    ·rw[c1]
     simp only[show decide ((1:Int)=2)=false from rfl,show decide ((1:Int)=1)=true from rfl,cond_true,cond_false,decide_eq_true t3,show ¬((1:Int)=2)by omega,if_false,bl]
     by_cases ha:a<0
     ·simp[ha]
     ·by_cases hb:cd w.aa t<a<;>simp[ha,hb]
    ·rw[c1]
     simp only[show decide ((2:Int)=2)=true from rfl,cond_true,decide_eq_true (show 0≤cS w.aa t by omega),if_true,bl]
     by_cases ha:a<0
     ·simp[ha]
     ·by_cases hb:cS w.aa t<a<;>simp[ha,hb]
    ·omega
   ·have yz:=ik.aJ.2
    have ev:ek w.aa o=none:=by unfold ek;rw[Wy (by omega)];rfl
    rw[ev,decide_eq_false sE]
    rcases ik.cases with⟨c1,_⟩ |⟨c1,_⟩ |⟨c1,c2,_⟩
    ·rw[c1];rfl
    ·omega
    ·rw[c1];rfl
  ·unfold eZ
   simp
 unfold gr
 rw[e1];rfl
theorem U1{w:av}(h:pL w):mF w=some (fI w):=by
 have h1:=UZ h.fit h.ok
 rw[GD h]at h1
 unfold mF
 rw[pQ h.fit,h.ok]
 simp only[VS,V0,cond_false]
 exact h1.symm
theorem yl{n c:Nat}(h:n≤1048576)(hc:c≤1024):cL (bo (0+n) c)=some ():=eR (by omega) hc
theorem ZeA{n c:Nat}(h:n≤1048576)(hc:c≤1024):cL (bo n c)=some ():=by have:=yl h hc;rwa[Wb]at this
theorem N4{n:aj}(h:cI n):jm n=some n:=by
 unfold jm
 simp only[VY,yl h.ay (show 64≤1024 by omega),yl h.off (show 8≤1024 by omega),VS,WM]
theorem s8{l:List au}(h:l.length≤1048576):eW l=some l:=by
 unfold eW
 simp only[VY,yl h (show 16≤1024 by omega),VS,WM]
theorem KP{l:List ao}(h:l.length≤1048576):fL l=some l:=by
 unfold fL
 simp only[VY,yl h (show 32≤1024 by omega),VS,WM]
theorem uK{xs:List α}{i:Nat}{x:α}(h:xs[i]?=some x):xs.take i++[x]=xs.take (i+1):=by
 rw[List.take_add_one,h];rfl
theorem wk{w:av}(h:pY w):dP w=some w:=by
 have Ti:=h.ah
 unfold dP
 rw[N4 h.ey,VS,KP h.aq,VS,s8 h.ae,VS]
 have e:aD (fU w w.aa w.aq w.ae) NN (0,[])=some w.ah:=by
  have:=lp (body:=fU w w.aa w.aq w.ae) (fun i:Nat=>((i:Int),w.ah.take i)) (n:=w.ah.length) (o:=w.ah) (fun i hi=>?_) ?_ NN (by unfold NN;omega)
  ·simpa using this
  ·have ho:w.ah[i]?=some w.ah[i]:=VT hi
   have hg:aC w.ah (i:Int)=some w.ah[i]:=by rw[aR];exact ho
   have hw:aL ((i:Int)+1)=((i+1:Nat):Int):=bI hi (by omega)
   have hl:(w.ah.take i).length+1≤1048576:=by rw[V8];omega
   unfold fU
   simp only[decide_eq_true (show(i:Int)<w.ah.length by omega),cond_true,hg,VS,s8 (h.aE _ (Wm hi)),A8,VX,VY,Wb,eR hl (show 128≤1024 by omega),hw]
   rw[←uK ho]
  ·unfold fU
   simp
 simp only[VY,yl h.aH (show 56≤1024 by omega),yl h.skip (show 8≤1024 by omega),VS,e,WM]
theorem xG{l:List Int}(h:l.length≤1048576):dR l=some l:=by
 unfold dR
 simp only[VY,yl h (show 8≤1024 by omega),VS,WM]
theorem qM{l:List ao}(h:l.length≤1048576):jZ l=some l:=by
 unfold jZ
 simp only[VY,yl h (show 32≤1024 by omega),VS,WM]
theorem wm{w:av}(h:pY w):ep w=some w:=by
 have Ti:=h.ah
 unfold ep
 have e:aD (hY w w.aa.off) NN (0,([]:List az))=some w.ah:=by
  have:=lp (body:=hY w w.aa.off) (fun i:Nat=>((i:Int),w.ah.take i)) (n:=w.ah.length) (o:=w.ah) (fun i hi=>?_) ?_ NN (by unfold NN;omega)
  ·simpa using this
  ·have ho:w.ah[i]?=some w.ah[i]:=VT hi
   have hg:aC w.ah (i:Int)=some w.ah[i]:=by rw[aR];exact ho
   have hw:aL ((i:Int)+1)=((i+1:Nat):Int):=bI hi (by omega)
   have hl:(w.ah.take i).length+1≤1048576:=by rw[V8];omega
   unfold hY
   simp only[decide_eq_true (show(i:Int)<w.ah.length by omega),cond_true,hg,VS,ZeA (h.aE _ (Wm hi)) (show 16≤1024 by omega),A8,VX,VY,Wb,eR hl (show 128≤1024 by omega),hw,WM]
   rw[←uK ho]
  ·unfold hY
   simp
 simp only[VY,yl h.ey.ay (show 64≤1024 by omega),xG h.ey.off,xG h.skip,yl h.ae (show 16≤1024 by omega),yl h.aH (show 56≤1024 by omega),VS,e,qM h.aq,WM]
abbrev OwA:=Int×Int×Int×(List bM)×(List Int)×(List az)×(List ao)×(List au)×(List br)×(List Int)
def owA(w:av):OwA:=(w.aa.change,w.now,w.bd,w.aa.ay,w.aa.off,w.ah,w.aq,w.ae,w.aH,w.skip)
theorem pL.pass{w:av}(h:pL w):Ev w:=by
 have hp:=h.parts
 refine⟨h.fit.ey,h.ey,⟨rfl,⟨h.fit.skip,hp.2.2.2.1,by omega⟩,h.fit.ah⟩,fun o ho=>?_⟩
 obtain⟨i,hi,rfl⟩:=Wf ho
 have ik:=mM h.fit h.ok (VT hi)
 refine⟨ik.aJ,h.fit.aE _ ho,ik.bf,fun hs=>?_⟩
 rcases ik.cases with⟨c,_⟩ |⟨_,c⟩ |⟨c,_⟩
 ·omega
 ·exact c
 ·omega
theorem y0{w:av}(h:fI w<0∨u<fI w):sW k w u=w:=by
 cases k with
 |zero=>rfl
 |succ k=>unfold sW;rw[if_pos h]
theorem SE{w:av}(h:pL w)(hk:oF w≤k)(hu:u≤100000)(hc:¬(fI w<0∨u<fI w)):sW k w u=sW (k-1) (fO w (fI w)) u:=by
 have:=rq h (by omega)
 cases k with
 |zero=>omega
 |succ k=>
  rw[Xl]
  conv=>lhs;unfold sW;rw[if_neg hc]
theorem BQ{u:Int}(hu:u≤100000):∀(N k:Nat) (w:av),pL w→oF w≤k→k<N→aD (l4 u) N (fI w,owA w)=some (owA (sW k w u))
 |0,k,w,_,_,hN=>by omega
 |N+1,k,w,h,hk,hN=>by
  simp only[aD]
  unfold l4
  simp only[owA]
  by_cases h0:0≤fI w
  ·by_cases h1:fI w≤u
   ·obtain⟨a,b,c⟩:=s9 h h0
    have ht:=rq h h0
    have hb:=(Ay h.pass (fI w)).1
    have hw:(⟨⟨w.aa.ay,w.aa.off,w.aa.change⟩,w.ah,w.aq,w.ae,w.now,w.aH,w.skip,w.bd⟩:av)=w:=rfl
    rw[SE h hk hu (by omega)]
    simp only[decide_eq_true h0,decide_eq_true h1,cond_true,bh,VS,hw,hb,GD a]
    exact BQ hu N (k-1) _ a (by omega) (by omega)
   ·rw[y0 (.inr (by omega))]
    simp only[decide_eq_true h0,decide_eq_false h1,cond_true,cond_false]
    rfl
  ·rw[y0 (.inl (by omega))]
   simp only[decide_eq_false h0,cond_false]
   rfl
theorem NT{w:av}(hf:pY w)(u:Int):mj w u=some (if eu w=true∧w.now≤u∧u≤100000 then D0 w u else w):=by
 unfold mj
 rw[wk hf,VS,sF hf,VS,fV,dt,VS]
 cases hv:eu w with
 |false=>simp
 |true=>
  have h:pL w:=⟨hf,hv⟩
  by_cases h1:w.now≤u
  ·by_cases h2:u≤100000
   ·have e:(fI w,w.aa.change,w.now,w.bd,w.aa.ay,w.aa.off,w.ah,w.aq,w.ae,w.aH,w.skip)=(fI w,owA w):=rfl
    have hp:=h.parts
    have hN:oF w<NN:=by
     have:∀l:List az,(∀o∈l,o.aE.length≤1048576)→(l.map jb).sum≤2097152*l.length:=by
      intro l
      induction l with
      |nil=>intro _;simp
      |cons o l ih=>
       intro hl
       have:=ih fun x hx=>hl x (Wi _ hx)
       have h2:=hl o Wp
       have h3:jb o≤2*o.aE.length:=by unfold jb;omega
       simp only[Wx,WT,VX]
       omega
     have:=this w.ah hf.aE
     have h3:=hp.2.1
     unfold oF NN
     omega
    simp only[V0,cond_false,decide_eq_true h1,decide_eq_true h2,W8,GD h,VS,h1,h2,and_self,if_true,e,BQ h2 NN (oF w) w h (V3 _) hN]
    rfl
   ·simp[h1,h2]
  ·simp[h1]
theorem Nz{w:av}(h:pL w):oF w≤240:=by
 have hp:=h.parts
 have hv:=h.ok
 unfold eu at hv
 simp only[VZ,decide_eq_true_iff]at hv
 have ht:=hv.2
 have key:∀(l:List az) (a:Int),(∀o∈l,o.aE.length≤1048576)→l.length≤30→0≤a→a≤1048576*(30-l.length:Nat)→l.foldl (fun a o=>aL (a+(o.aE.length:Int))) a=a+((l.map fun o=>o.aE.length).sum:Nat):=by
  intro l
  induction l with
  |nil=>intro a _ _ _ _;simp
  |cons o l ih=>
   intro a hl hn h0 h1
   have h2:=hl o Wp
   simp only[VX]at hn h1
   have hw:aL (a+(o.aE.length:Int))=a+(o.aE.length:Int):=aQ (by omega)
   simp only[WI,hw]
   rw[ih _ (fun x hx=>hl x (Wi _ hx)) (by omega) (by omega) (by omega)]
   simp only[Wx,WT]
   omega
 have hs:=key w.ah 0 h.fit.aE hp.2.1 (by omega) (by omega)
 unfold uM at ht
 rw[hs]at ht
 have h2:oF w≤2*((w.ah.map fun o=>o.aE.length).sum):=by
  unfold oF
  have:∀l:List az,(l.map jb).sum≤2*(l.map fun o=>o.aE.length).sum:=by
   intro l
   induction l with
   |nil=>simp
   |cons o l ih=>
    have:jb o≤2*o.aE.length:=by unfold jb;omega
    simp only[Wx,WT]
    omega
  exact this _
 omega
theorem BR{u:Int}(hu:u≤100000):∀(N k j:Nat) (w:av),pL w→oF w≤k→j+k=240→k<N→aD (kE u) N ((j:Int),owA w)=some (owA (sW k w u))
 |0,k,j,w,_,_,_,hN=>by omega
 |N+1,k,j,w,h,hk,hj,hN=>by
  simp only[aD]
  unfold kE
  simp only[owA]
  have hw:(⟨⟨w.aa.ay,w.aa.off,w.aa.change⟩,w.ah,w.aq,w.ae,w.now,w.aH,w.skip,w.bd⟩:av)=w:=rfl
  by_cases hj2:j<240
  ·simp only[decide_eq_true (show(j:Int)<240 by omega),cond_true,hw,U1 h,VS]
   by_cases h0:fI w<0
   ·rw[y0 (.inl h0)]
    simp only[decide_eq_true h0,cond_true]
    rfl
   ·by_cases h1:u<fI w
    ·rw[y0 (.inr h1)]
     simp only[decide_eq_false h0,decide_eq_true h1,cond_true,cond_false]
     rfl
    ·obtain⟨a,b,c⟩:=s9 h (by omega)
     have ht:=rq h (by omega)
     have hb:=(Ay h.pass (fI w)).2
     have wA:aL ((j:Int)+1)=((j+1:Nat):Int):=by rw[aQ (by omega)];omega
     rw[SE h hk hu (by omega)]
     simp only[decide_eq_false h0,decide_eq_false h1,cond_false,bh,VS,hb,wA]
     exact BR hu N (k-1) (j+1) _ a (by omega) (by omega) (by omega)
  ·have xz:k=0:=by omega
   subst xz
   simp only[decide_eq_false (show ¬(j:Int)<240 by omega),cond_false]
   rfl
theorem zp{w:av}(hf:pY w)(u:Int):db w u=some (if eu w=true∧w.now≤u∧u≤100000 then D0 w u else w):=by
 unfold db
 rw[wm hf,VS,pQ hf,VS,dt,VS]
 cases hv:eu w with
 |false=>simp
 |true=>
  have h:pL w:=⟨hf,hv⟩
  by_cases h1:w.now≤u
  ·by_cases h2:u≤100000
   ·have e:((0:Int),w.aa.change,w.now,w.bd,w.aa.ay,w.aa.off,w.ah,w.aq,w.ae,w.aH,w.skip)=(((0:Nat):Int),owA w):=rfl
    simp only[V0,cond_false,decide_eq_true h1,decide_eq_true h2,W8,h1,h2,and_self,if_true,e,BR h2 NN 240 0 w h (Nz h) rfl (by unfold NN;omega),VS]
    rw[Vv h (Nz h) (V3 _) h2]
    rfl
   ·simp[h1,h2]
  ·simp[h1]
def bK(x:aW):Ln:=⟨x.order,x.kind,x.bz,x.aO⟩
theorem oG(n:Int):aL n=wrap64 n:=IntWalk.i64_left n
theorem M9(c x:Int):IntKind.i64.wrap ((aL (c*x)).tdiv 100)=Se c x:=by unfold Se;rw[←oG,←oG]
theorem vB(x:aW):jW x=some (np x.order x.kind x.bz x.aO):=by
 unfold jW np tU
 simp only[sS,VS]
 cases decide (1≤x.order)<;>cases decide (x.order≤9999)<;>cases decide (1≤x.kind)<;>cases decide (x.kind≤3)<;>cases decide (1≤x.bz)<;>cases decide (x.bz≤100000)<;>rfl
theorem yH(x:aW):lX x=some (np x.order x.kind x.bz x.aO):=by
 rw[←vB];unfold jW lX;rw[fV]
theorem Q2(f:Int→Ln→Int)(l:List aW)(a:Int):l.foldl (fun a x=>f a (bK x)) a=(l.map bK).foldl f a:=by rw[List.foldl_map]
theorem CM{l:List aW}{body:Int×Int→Option ((Int×Int)⊕Int)}(f:Int→Ln→Int)(hl:l.length≤1048576)
 (h1:∀a (i:Nat) x,l[i]?=some x→body (a,(i:Int))=some (.inl (f a (bK x),aL ((i:Int)+1)))) (h2:∀a,body (a,(l.length:Int))=some (.inr a)):aD body NN (0,0)=some ((l.map bK).foldl f 0):=by
 refine(qS (fun(a:Int) (i:Int)=>(a,i)) (fun _ a x=>some (.inl (f a (bK x)))) some (fun a i x hx=>?_) (fun a=>by rw[h2];rfl) (by unfold NN;omega) 0).trans ?_
 ·rw[h1 a i x hx,bI (VU.1 hx).1 (by omega)];rfl
 ·rw[Af,Q2]
section
variable {l:List aW} (hl:l.length≤1048576)
include hl
theorem FE(o k:Int):dY l o k=some (cn (l.map bK) o k):=by
 unfold dY cn
 rw[CM (pK o k) hl (fun a i x hx=>?_) fun a=>by unfold pF;simp]
 ·rfl
 ·have hg:aC l (i:Int)=some x:=by rw[aR];exact hx
  unfold pF
  have bF:=(VU.1 hx).1
  simp only[decide_eq_true (show(i:Int)<l.length by omega),cond_true,mP,hg,VS,pK,bK,oG]
  by_cases h1:x.order=o<;>by_cases h2:x.kind=k<;>simp[h1,h2,bl]
theorem FH(o k:Int):eK l o k=some (cn (l.map bK) o k):=by
 unfold eK cn
 rw[CM (pK o k) hl (fun a i x hx=>?_) fun a=>by unfold pG;simp]
 ·rfl
 ·have hg:aC l (i:Int)=some x:=by rw[aR];exact hx
  unfold pG
  have bF:=(VU.1 hx).1
  simp only[decide_eq_true (show(i:Int)<l.length by omega),cond_true,mP,hg,VS,pK,bK,oG]
  by_cases h1:x.order=o<;>by_cases h2:x.kind=k<;>simp[h1,h2,bl]
theorem Mr(o k:Int):lh l o k=some (ym (l.map bK) o k):=by
 unfold lh ym
 rw[CM (rW o k) hl (fun a i x hx=>?_) fun a=>by unfold nf;simp]
 ·rfl
 ·have hg:aC l (i:Int)=some x:=by rw[aR];exact hx
  unfold nf
  have bF:=(VU.1 hx).1
  simp only[decide_eq_true (show(i:Int)<l.length by omega),cond_true,mP,hg,VS,rW,bK,oG]
  by_cases h1:x.order=o<;>by_cases h2:x.kind=k<;>simp[h1,h2,bl]
theorem yO:bG l=some l:=by unfold bG;rw[eR (by simpa using hl) (by omega)];rfl
theorem yP:ca l=some l:=by unfold ca;rw[eR (by simpa using hl) (by omega)];rfl
end
theorem RR{l:List aW}{i:Nat}{x:aW}(hx:l[i]?=some x):(l.map bK).getD i default=bK x:=by simp[List.getD,hx]
theorem MX(l:List aW)(i:Nat):(l.take i).map bK=(l.map bK).take i:=List.map_take
theorem OH{l:List aW}{i:Nat}{x:aW}(hx:l[i]?=some x):rH (l.map bK) i=(!yh (l.map bK) i (bK x)&&tM ((l.map bK).take i) (bK x)):=by
 unfold rH;rw[RR hx]
theorem KJ{l:List aW}{i:Nat}{x:aW}:yh (l.map bK) i (bK x)=(!np x.order x.kind x.bz x.aO ||decide (0<i)&&decide (x.aO<((l.map bK).getD (i-1) default).t)):=rfl
theorem Zau{x:aW}(h:np x.order x.kind x.bz x.aO=true):x.kind=1∨x.kind=2∨x.kind=3:=UM (x:=bK x) h
theorem BD{l:List aW}{i:Nat}(hi:i<l.length)(hl:l.length≤200)(t:Int):(cond (decide (0<(i:Int))) ((aC l (aL ((i:Int)-1))).bind fun y=>cond (decide (t<y.aO)) (some (.inr false)) (some (.inl ()))) (some (.inl ())):Option (Unit⊕Bool))=
 some (if(decide (0<i)&&decide (t<((l.map bK).getD (i-1) default).t))=true then .inr false else .inl ()):=by
 cases i with
 |zero=>rfl
 |succ m=>
  have hm:l[m]?=some l[m]:=VT (by omega)
  have hw:aL (((m+1:Nat):Int)-1)=(m:Int):=by rw[aQ (by omega)];omega
  rw[decide_eq_true (show(0:Int)<((m+1:Nat):Int)by omega),cond_true,hw,aR,hm,VS,decide_eq_true (show 0<m+1 by omega),Xl,RR hm,WH]
  show cond (decide (t<l[m].aO)) _ _=some (if decide (t<l[m].aO)=true then _ else _)
  cases decide (t<l[m].aO)<;>rfl
theorem CQ{l:List aW}{body:Int→Option (Int⊕(Unit⊕Bool))}(hl:l.length≤200)
 (h1:∀(i:Nat) x,l[i]?=some x→(∀j,j<i→rH (l.map bK) j=true)→np x.order x.kind x.bz x.aO=true→(decide (0<i)&&decide (x.aO<((l.map bK).getD (i-1) default).t))=false→body (i:Int)=some (if tM ((l.map bK).take i) (bK x)=true then .inl ((i+1:Nat):Int)else .inr (.inr false)))
 (h0:∀(i:Nat) x,l[i]?=some x→yh (l.map bK) i (bK x)=true→body (i:Int)=some (.inr (.inr false)))
 (h2:body (l.length:Int)=some (.inr (.inl ()))):(aD body NN 0).bind (bl (fun _=>some true) (fun r=>some r))=some (dC (l.map bK)):=by
 unfold dC
 rw[Wg,decide_eq_true hl,WH,oa (c:=rH (l.map bK)) (n:=l.length) (r:=.inr false) (e:=.inl ()) (fun i hi hj=>?_) (fun _=>h2) (by unfold NN;omega)]
 ·unfold yd
  cases(WO l.length).all (rH (l.map bK))<;>rfl
 ·obtain⟨x,hx⟩:∃x,l[i]?=some x:=⟨_,VT hi⟩
  rw[OH hx]
  cases hb:yh (l.map bK) i (bK x)with
  |true=>exact h0 i x hx hb
  |false=>
   have uX:=hb
   rw[KJ,Bool.or_eq_false_iff,Bool.not_eq_false']at uX
   rw[h1 i x hx hj uX.1 uX.2];rfl
section
variable {l:List aW} (h:l.length≤200) {i:Nat} {x:aW} (hx:l[i]?=some x)
include h hx
theorem yQ:i<l.length∧aC l (i:Int)=some x∧cL (gA 0 (i:Int) l.length)=some ()∧(l.take i).length≤1048576∧decide ((i:Int)<l.length)=true∧aL ((i:Int)+1)=((i+1:Nat):Int):=by
 have hi:=(VU.1 hx).1
 exact⟨hi,by rw[aR];exact hx,pR (decide_eq_true ⟨by omega,by omega,by omega⟩),by rw[V8];omega,decide_eq_true (by omega),bI hi (by omega)⟩
theorem Zcp(hb:yh (l.map bK) i (bK x)=true):gf l (i:Int)=some (.inr (.inr false)):=by
 obtain⟨hi,hg,hs,bF,hd,hw⟩:=yQ h hx
 rw[KJ]at hb
 unfold gf
 simp only[hd,cond_true,mP,hg,VS,vB,BD hi h]
 cases hl:np x.order x.kind x.bz x.aO with
 |false=>rfl
 |true=>rw[hl,V0,X9]at hb;simp only[hb,V0,cond_false,if_true];rfl
theorem Zcq(hb:yh (l.map bK) i (bK x)=true):gl l (i:Int)=some (.inr (.inr false)):=by
 obtain⟨hi,hg,hs,bF,hd,hw⟩:=yQ h hx
 rw[KJ]at hb
 unfold gl
 simp only[hd,cond_true,mP,hg,VS,yH,BD hi h]
 cases hl:np x.order x.kind x.bz x.aO with
 |false=>rfl
 |true=>rw[hl,V0,X9]at hb;simp only[hb,V0,cond_false,if_true];rfl
theorem Za0(hl:np x.order x.kind x.bz x.aO=true)(hb:(decide (0<i)&&decide (x.aO<((l.map bK).getD (i-1) default).t))=false):
 gf l (i:Int)=some (if tM ((l.map bK).take i) (bK x)=true then .inl ((i+1:Nat):Int)else .inr (.inr false)):=by
 obtain⟨hi,hg,hs,bF,hd,hw⟩:=yQ h hx
 unfold gf
 simp only[hd,cond_true,mP,hg,VS,vB,hl,V0,cond_false,BD hi h,hb,hs,wO,FE bF,MX,hw,bl,WU,if_false]
 rcases Zau hl with hk|hk|hk
 ·rw[ZcN (x:=bK x) hk]
  simp only[hk,bK]
  cases decide (0<cn ((l.map bK).take i) x.order 1)<;>rfl
 ·rw[ZcO (x:=bK x) hk]
  simp only[hk,bK,oG]
  cases decide (cn ((l.map bK).take i) x.order 1<wrap64 (cn ((l.map bK).take i) x.order 2+x.bz))<;>rfl
 ·rw[ZaU (x:=bK x) hk]
  simp only[hk,bK,beq_iff_eq]
  cases decide (0<cn ((l.map bK).take i) x.order 3)
  ·by_cases h2:cn ((l.map bK).take i) x.order 2=cn ((l.map bK).take i) x.order 1
   ·simp only[h2,decide_true,beq_self_eq_true]
    cases decide (cn ((l.map bK).take i) x.order 1<x.bz)<;>rfl
   ·simp only[decide_eq_false h2,beq_eq_false_iff_ne.2 h2];rfl
  ·rfl
theorem Za1(hj:∀j,j<i→rH (l.map bK) j=true)(hl:np x.order x.kind x.bz x.aO=true)(hb:(decide (0<i)&&decide (x.aO<((l.map bK).getD (i-1) default).t))=false):
 gl l (i:Int)=some (if tM ((l.map bK).take i) (bK x)=true then .inl ((i+1:Nat):Int)else .inr (.inr false)):=by
 obtain⟨hi,hg,hs,bF,hd,hw⟩:=yQ h hx
 have hc:=Ml (xs:=l.map bK) (i:=i) x.order 3 (tD.2 hj) (by omega)
 unfold gl
 simp only[hd,cond_true,mP,hg,VS,yH,hl,V0,cond_false,BD hi h,hb,hs,wO,FH bF,Mr bF,MX,hw,bl,WU,if_false,hc]
 rcases Zau hl with hk|hk|hk
 ·rw[ZcN (x:=bK x) hk]
  simp only[hk,bK]
  cases decide (0<cn ((l.map bK).take i) x.order 1)<;>rfl
 ·rw[ZcO (x:=bK x) hk]
  simp only[hk,bK,oG]
  cases decide (cn ((l.map bK).take i) x.order 1<wrap64 (cn ((l.map bK).take i) x.order 2+x.bz))<;>rfl
 ·rw[ZaU (x:=bK x) hk]
  simp only[hk,bK,beq_iff_eq]
  cases decide (0<cn ((l.map bK).take i) x.order 3)
  ·by_cases h2:cn ((l.map bK).take i) x.order 2=cn ((l.map bK).take i) x.order 1
   ·simp only[h2,decide_true,beq_self_eq_true]
    cases decide (cn ((l.map bK).take i) x.order 1<x.bz)<;>rfl
   ·simp only[decide_eq_false h2,beq_eq_false_iff_ne.2 h2]
    cases decide (cn ((l.map bK).take i) x.order 1<x.bz)<;>rfl
  ·rfl
end
theorem wF(l:List aW):ee l=some (dC (l.map bK)):=by
 unfold ee
 by_cases h:l.length≤200
 ·rw[decide_eq_false (show ¬(200:Int)<l.length by omega),cond_false]
  exact CQ h (fun i x hx _ hl hb=>Za0 h hx hl hb) (fun i x hx hb=>Zcp h hx hb) (by unfold gf;simp)
 ·rw[decide_eq_true (show(200:Int)<l.length by omega),cond_true,AK (by simpa using h)]
theorem wG(l:List aW):eh l=some (dC (l.map bK)):=by
 unfold eh
 by_cases h:l.length≤200
 ·rw[decide_eq_false (show ¬(200:Int)<l.length by omega),cond_false]
  exact CQ h (fun i x hx hj hl hb=>Za1 h hx hj hl hb) (fun i x hx hb=>Zcq h hx hb) (by unfold gl;simp)
 ·rw[decide_eq_true (show(200:Int)<l.length by omega),cond_true,AK (by simpa using h)]
/-! Zci. -/
theorem Fk{l:List Int}(hl:l.length≤1048576){i:Nat}{x:Int}(hx:l[i]?=some x):(cond (!(decide (0≤x)&&decide (x≤100))) (some (.inr false)) (cond (decide (0<(i:Int))) ((aC l (aL ((i:Int)-1))).bind fun y=>cond (decide (x<y)) (some (.inr false)) (some (.inl ()))) (some (.inl ()))):Option (Unit⊕Bool))=
 some (if ry l i=true then .inl ()else .inr false):=by
 have uC:(decide (0≤x)&&decide (x≤100))=tU x 0 100:=rfl
 rw[uC]
 cases h:tU x 0 100 with
 |false=>rw[O2 hx h];rfl
 |true=>
  cases i with
  |zero=>rw[LA (V3 0) hx h];rfl
  |succ m=>
   have bF:=(VU.1 hx).1
   have hm:l[m]?=some l[m]:=VT (by omega)
   have hw:aL (((m+1:Nat):Int)-1)=(m:Int):=by rw[aQ (by omega)];omega
   rw[decide_eq_true (show(0:Int)<((m+1:Nat):Int)by omega),hw,aR,hm]
   by_cases hy:x<l[m]
   ·rw[Lz hm hx hy];simp[hy]
   ·rw[Sd hm hx h hy];simp[hy]
theorem LB{l:List Int}(hl:l.length≤1048576):eB l=some (mT l):=by
 unfold eB mT
 rw[oa (c:=ry l) (n:=l.length) (r:=.inr false) (e:=.inl ()) (fun i hi _=>?_) (fun _=>by unfold kD;simp) (by unfold NN;omega)]
 ·unfold yd
  cases(WO l.length).all (ry l)
  ·rfl
  ·show(aZ _ _ _).bind _=_
   rw[sS];rfl
 ·have hx:l[i]?=some l[i]:=VT hi
  unfold kD
  simp only[decide_eq_true (show(i:Int)<l.length by omega),cond_true,mP,aR,hx,VS,sS,Fk hl hx,bI hi (by omega)]
  cases ry l i<;>rfl
theorem LC{l:List Int}(hl:l.length≤1048576):eI l=some (mT l):=by
 unfold eI mT
 rw[oa (c:=ry l) (n:=l.length) (r:=.inr false) (e:=.inl ()) (fun i hi _=>?_) (fun _=>by unfold kF;simp) (by unfold NN;omega)]
 ·unfold yd
  cases(WO l.length).all (ry l)
  ·rfl
  ·show(bg _ _ _).bind _=_
   rw[dt];rfl
 ·have hx:l[i]?=some l[i]:=VT hi
  unfold kF
  simp only[decide_eq_true (show(i:Int)<l.length by omega),cond_true,mP,aR,hx,VS,dt,Fk hl hx,bI hi (by omega)]
  cases ry l i<;>rfl
/-! Zgl,Zfy,Zd7,Zfu,given back. -/
def tk(l:List aW)(x:aW):List aW×Int:=if 200≤l.length then(l,5)else if dC ((l++[x]).map bK)=true then(l++[x],0)else(l,1)
def qh(l:List aW)(o a t:Int):List aW×Int:=
 if dC (l.map bK)=false then(l,1)else if np o 1 a t=false then(l,1)else if decide (0<cn (l.map bK) o 1)=true then(l,2)else tk l ⟨o,1,a,t⟩
def Em(l:List aW)(o a t:Int):List aW×Int:=
 if dC (l.map bK)=false then(l,1)else if np o 2 a t=false then(l,1)else if decide (cn (l.map bK) o 1=0)=true then(l,3)else if decide (uc (l.map bK) o<a)=true then(l,4)else tk l ⟨o,2,a,t⟩
def oS(l:List aW)(o du en:Int)(ps:List Int)(t:Int):List aW×Int:=
 if dC (l.map bK)=false then(l,1)else if mT ps=false then(l,1)else if tU o 1 9999=false then(l,1)else if tU t 0 100000=false then(l,1)
 else if decide (cn (l.map bK) o 1=0)=true then(l,3)else if decide (0<uc (l.map bK) o)=true then(l,3)else if decide (0<cn (l.map bK) o 3)=true then(l,2)
 else if decide (jS (cn (l.map bK) o 1) du en ps=0)=true then(l,4)else tk l ⟨o,3,jS (cn (l.map bK) o 1) du en ps,t⟩
theorem TN(b:Bool)(x y:α):cond b x y=if b=true then x else y:=by cases b<;>rfl
section
variable {l:List aW} (hl:l.length≤1048576)
include hl
theorem Sa(o:Int):ml l o=some (uc (l.map bK) o):=by
 unfold ml uc
 simp only[wF,FE hl,VS,oG]
 cases dC (l.map bK)<;>rfl
theorem GI(o:Int):er l o=some (uc (l.map bK) o):=by
 unfold er uc
 simp only[wG,FH hl,VS,oG]
 cases dC (l.map bK)<;>rfl
theorem LQ(x:aW):kn l x=some (tk l x):=by
 unfold kn tk
 rw[yO hl]
 simp only[VS]
 by_cases h:200≤l.length
 ·rw[decide_eq_true (show(200:Int)≤l.length by omega),if_pos h];rfl
 ·rw[decide_eq_false (show ¬(200:Int)≤l.length by omega),if_neg h,eR (by simp only[VX,VY];omega) (by omega)]
  simp only[wF,VS,cond_false]
  cases dC ((l++[x]).map bK)<;>rfl
theorem LR(x:aW):ky l x=some (tk l x):=by
 unfold ky tk
 rw[yP hl]
 simp only[VS]
 rw[pR (b:=bo (l.length+([x]:List aW).length) 32) (by unfold bo;rw[decide_eq_true_iff];simp only[VX,VY];omega),VS]
 by_cases h:200≤l.length
 ·rw[decide_eq_true (show(200:Int)≤l.length by omega),if_pos h];rfl
 ·rw[decide_eq_false (show ¬(200:Int)≤l.length by omega),if_neg h]
  simp only[wG,VS,cond_false]
  cases dC ((l++[x]).map bK)<;>rfl
theorem Qx(o a t:Int):kh l o a t=some (qh l o a t):=by
 unfold kh qh
 simp only[wF,vB,yO hl,FE hl,LQ hl,VS]
 cases dC (l.map bK)<;>cases np o 1 a t<;>cases decide (0<cn (l.map bK) o 1)<;>rfl
theorem Ij(o a t:Int):fr l o a t=some (qh l o a t):=by
 unfold fr qh
 simp only[wG,yH,yP hl,FH hl,LR hl,VS]
 cases dC (l.map bK)<;>cases np o 1 a t<;>cases decide (0<cn (l.map bK) o 1)<;>rfl
theorem Zax(o a t:Int):nt l o a t=some (Em l o a t):=by
 unfold nt Em
 simp only[wF,vB,yO hl,FE hl,Sa hl,LQ hl,VS]
 cases dC (l.map bK)<;>cases np o 2 a t<;>cases decide (cn (l.map bK) o 1=0)<;>cases decide (uc (l.map bK) o<a)<;>rfl
theorem Sc(o a t:Int):eP l o a t=some (Em l o a t):=by
 unfold eP Em
 simp only[wG,yH,yP hl,FH hl,GI hl,LR hl,VS]
 cases dC (l.map bK)<;>cases np o 2 a t<;>cases decide (cn (l.map bK) o 1=0)<;>cases decide (uc (l.map bK) o<a)<;>rfl
end
theorem Kc(h:0≤du∧du≤200000)(k:0≤en∧en≤200000)(he:¬en≤du):IntKind.i64.wrap (Int.tdiv (aL ((aL (en-du))-1)) 1440)=(en-du-1) / 1440:=by
 rw[show aL (aL (en-du)-1)=en-du-1 by rw[aQ (n:=en-du) (by omega),aQ (by omega)],YA (by omega)]
 exact aQ (by omega)
theorem Na{ps:List Int}(hp:mT ps=true)(he:¬en≤du):aC ps ((qy du en ps:Nat):Int)=some (ps.getD (qy du en ps) 0):=by
 have:=JM hp he
 rw[aR,List.getD_eq_getElem?_getD,VT this];rfl
theorem JN{ps:List Int}(hp:ps.length≤1048576)(c du en:Int):mo c du en ps=some (jS c du en ps):=by
 unfold mo jS Dj
 simp only[LB hp,sS,VS]
 cases h1:mT ps
 ·rfl
 cases h2:tU c 0 100000
 ·simp only[tU]at h2;simp[h2]
 cases h3:tU du 0 200000
 ·simp only[tU]at h2 h3;simp[h2,h3]
 cases h4:tU en 0 200000
 ·simp only[tU]at h2 h3 h4;simp[h2,h3,h4]
 by_cases h5:en≤du
 ·simp only[tU]at h2 h3 h4;simp[h2,h3,h4,h5]
 ·have hl:=C2 h1
  have e:=Kc (ru h3) (ru h4) h5
  have hi:(if(aL ((ps.length:Int)-1))<(en-du-1) / 1440 then(aL ((ps.length:Int)-1))else(en-du-1) / 1440)=((qy du en ps:Nat):Int):=by
   rw[aQ (by omega)]
   unfold qy
   split<;>split<;>omega
  simp only[tU]at h2 h3 h4
  simp only[h2,h3,h4,e,hi,Na h1 h5,decide_eq_false h5,VS,V0,Wz,W8,Bool.and_true,cond_false,if_true,tU,M9]
theorem JO{ps:List Int}(hp:ps.length≤1048576)(c du en:Int):j9 c du en ps=some (jS c du en ps):=by
 unfold j9 jS Dj
 simp only[LC hp,dt,VS,mP]
 cases h1:mT ps
 ·rfl
 cases h2:tU c 0 100000
 ·simp only[tU]at h2;simp[h2]
 cases h3:tU du 0 200000
 ·simp only[tU]at h2 h3;simp[h2,h3]
 cases h4:tU en 0 200000
 ·simp only[tU]at h2 h3 h4;simp[h2,h3,h4]
 by_cases h5:en≤du
 ·simp only[tU]at h2 h3 h4;simp[h2,h3,h4,h5]
 ·have hl:=C2 h1
  have e:=Kc (ru h3) (ru h4) h5
  have hi:(cond (decide ((ps.length:Int)≤(en-du-1) / 1440)) (some (.inl (aL ((ps.length:Int)-1)))) (some (.inl ((en-du-1) / 1440))):Option (Int⊕Empty))=some (.inl ((qy du en ps:Nat):Int)):=by
   rw[aQ (by omega),TN]
   unfold qy
   by_cases hc:(ps.length:Int)≤(en-du-1) / 1440
   ·rw[if_pos (decide_eq_true hc),if_neg (by omega)];congr 2;omega
   ·rw[if_neg (by simpa using hc),if_pos (by omega)];congr 2;omega
  simp only[tU]at h2 h3 h4
  simp only[h2,h3,h4,e,hi,Na h1 h5,decide_eq_false h5,VS,V0,Wz,W8,Bool.and_true,cond_false,if_true,tU,bl,M9]
section
variable {l:List aW} (hl:l.length≤1048576) {ps:List Int} (hp:ps.length≤1048576)
include hl hp
theorem JP(o du en t:Int):km l o du en ps t=some (oS l o du en ps t):=by
 unfold km oS tU
 simp only[wF,LB hp,sS,yO hl,FE hl,Sa hl,JN hp,LQ hl,VS]
 cases dC (l.map bK)<;>cases mT ps<;>cases(decide (1≤o)&&decide (o≤9999))<;>cases(decide (0≤t)&&decide (t≤100000))<;>cases decide (cn (l.map bK) o 1=0)<;>cases decide (0<uc (l.map bK) o)<;>cases decide (0<cn (l.map bK) o 3)<;>cases decide (jS (cn (l.map bK) o 1) du en ps=0)<;>rfl
theorem JQ(o du en t:Int):fw l o du en ps t=some (oS l o du en ps t):=by
 unfold fw oS tU
 simp only[wG,LC hp,dt,yP hl,FH hl,Mr hl,GI hl,JO hp,LR hl,VS]
 cases hb:dC (l.map bK)
 ·rfl
 ·rw[Qz o 3 hb]
  cases mT ps<;>cases(decide (1≤o)&&decide (o≤9999))<;>cases(decide (0≤t)&&decide (t≤100000))<;>cases decide (cn (l.map bK) o 1=0)<;>cases decide (0<uc (l.map bK) o)<;>cases decide (0<cn (l.map bK) o 3)<;>cases decide (jS (cn (l.map bK) o 1) du en ps=0)<;>rfl
end
set_option maxHeartbeats 1000000
structure Zch(o:aM):Prop where
 world:pY o.world
 aY:rC o.aY
 ba:o.ba.length≤1048576
 sL:o.aN.length≤1048576
 lines:o.lines.length≤1048576
 aK:o.aK.length≤1048576
 aF:o.aF.length≤1048576
 ZdI:∀p∈o.aK,p.label.aV.size≤xl∧p.ar.size≤xl∧p.cq.length<NN
 Zcn:∀a∈o.aF,a.aT.label.aV.size≤xl∧a.aT.ar.size≤xl∧a.aT.cq.length<NN
def Cg(o:aM)(i:Nat)(p:a8)(v:Int×Bool)(x:Option az):Bool:=match x with
 |some x=>v.2&&(decide (x.ar=p.ar)&&(decide (x.aV=p.label.aV)&&(decide (x.ax=p.label.ax)&&(decide (x.ab=p.ab)&&decide (cn (o.lines.map bK) (((i+1:Nat):Int)) 1=v.1)))))
 |none=>false
theorem uu(o:aM)(i:Nat)(p:a8)(v:Int×Bool)(x:az):Cg o i p v (some x)=(v.2&&(decide (x.ar=p.ar)&&(decide (x.aV=p.label.aV)&&(decide (x.ax=p.label.ax)&&(decide (x.ab=p.ab)&&decide (cn (o.lines.map bK) (((i+1:Nat):Int)) 1=v.1)))))):=rfl
def mf(o:aM)(i:Nat)(p:a8):Bool:=Cg o i p ((gS o.aY o.ba p).getD (0,false)) o.world.ah[i]?
def tb(o:aM)(_:Nat)(x:aW):Bool:=!decide ((o.aK.length:Int)<x.order)&&!decide (o.world.now<x.aO)
def BO(_:Nat)(a:cg):Bool:=(nd a).getD false
def jw(o:aM):Bool:=
 eu o.world&&(rM o.aY&&(rL o.ba (o.aY.length:Int)&&(mT o.aN&&(dC (o.lines.map bK)&&(decide ((o.aK.length:Int)=(o.world.ah.length:Int))&&(!decide (150<(o.aF.length:Int))&&(allI (mf o) 0 o.aK&&(allI (tb o) 0 o.lines&&allI BO 0 o.aF))))))))
section
variable {o:aM} (hf:Zch o)
include hf
theorem Jl(hl:o.aK.length=o.world.ah.length):aD (kt o) NN 0=some (if allI (mf o) 0 o.aK=true then .inl ()else .inr false):=by
 refine fD (A:=Unit) (fun _ i=>i) _ (fun a _=>a) (fun _=>()) (fun a i p hp=>?_) (fun a=>?_) (by have:=hf.aK;unfold NN;omega) ()
 ·have bF:=(VU.1 hp).1
  have xC:=hf.aK
  have hg:aC o.aK (i:Int)=some p:=by rw[aR];exact hp
  obtain⟨x,hx⟩:∃x,o.world.ah[i]?=some x:=⟨_,VT (by omega)⟩
  have hgx:aC o.world.ah (i:Int)=some x:=by rw[aR];exact hx
  have hi:aL ((i:Int)+1)=((i+1:Nat):Int):=bI bF (by omega)
  obtain⟨p1,p2,p3⟩:=hf.ZdI p (VW hp)
  obtain⟨_,v,hv⟩:=C9 hf.aY hf.ba p1 p2 p3
  have Zbi:eK o.lines ((i+1:Nat):Int) 1=some (cn (o.lines.map bK) (((i+1:Nat):Int)) 1):=FH hf.lines _ _
  unfold kt nR mf
  simp only[mP,decide_eq_true (show(i:Int)<o.aK.length by omega),cond_true,hg,hgx,hx,VS,hi,hv,Zbi,Ws,uu]
  cases v.2<;>cases decide (x.ar=p.ar)<;>cases decide (x.aV=p.label.aV)<;>cases decide (x.ax=p.label.ax)<;>cases decide (x.ab=p.ab)<;>cases decide (cn (o.lines.map bK) (((i+1:Nat):Int)) 1=v.1)<;>rfl
 ·unfold kt
  simp
theorem Jk(hl:o.aK.length=o.world.ah.length):aD (ki o) NN 0=some (if allI (mf o) 0 o.aK=true then .inl ()else .inr false):=by
 refine fD (A:=Unit) (fun _ i=>i) _ (fun a _=>a) (fun _=>()) (fun a i p hp=>?_) (fun a=>?_) (by have:=hf.aK;unfold NN;omega) ()
 ·have bF:=(VU.1 hp).1
  have xC:=hf.aK
  have hg:aC o.aK (i:Int)=some p:=by rw[aR];exact hp
  obtain⟨x,hx⟩:∃x,o.world.ah[i]?=some x:=⟨_,VT (by omega)⟩
  have hgx:aC o.world.ah (i:Int)=some x:=by rw[aR];exact hx
  have hi:aL ((i:Int)+1)=((i+1:Nat):Int):=bI bF (by omega)
  obtain⟨p1,p2,p3⟩:=hf.ZdI p (VW hp)
  obtain⟨e,v,hv⟩:=C9 hf.aY hf.ba p1 p2 p3
  have Zbi:dY o.lines ((i+1:Nat):Int) 1=some (cn (o.lines.map bK) (((i+1:Nat):Int)) 1):=FE hf.lines _ _
  unfold ki mf
  simp only[mP,decide_eq_true (show(i:Int)<o.aK.length by omega),cond_true,hg,hgx,hx,VS,hi,e,hv,Zbi,Ws,uu]
  cases v.2<;>cases decide (x.ar=p.ar)<;>cases decide (x.aV=p.label.aV)<;>cases decide (x.ax=p.label.ax)<;>cases decide (x.ab=p.ab)<;>cases decide (cn (o.lines.map bK) (((i+1:Nat):Int)) 1=v.1)<;>rfl
 ·unfold ki
  simp
theorem Jn:aD (ku o) NN 0=some (if allI (tb o) 0 o.lines=true then .inl ()else .inr false):=by
 refine fD (A:=Unit) (fun _ i=>i) _ (fun a _=>a) (fun _=>()) (fun a i p hp=>?_) (fun a=>?_) (by have:=hf.lines;unfold NN;omega) ()
 ·have bF:=(VU.1 hp).1
  have xC:=hf.lines
  have hg:aC o.lines (i:Int)=some p:=by rw[aR];exact hp
  have hi:aL ((i:Int)+1)=((i+1:Nat):Int):=bI bF (by omega)
  unfold ku tb
  simp only[mP,decide_eq_true (show(i:Int)<o.lines.length by omega),cond_true,hg,VS,hi]
  cases decide ((o.aK.length:Int)<p.order)<;>cases decide (o.world.now<p.aO)<;>rfl
 ·unfold ku
  simp
theorem Jm(hl:o.aK.length=o.world.ah.length):aD (kj o) NN 0=some (if allI (tb o) 0 o.lines=true then .inl ()else .inr false):=by
 refine fD (A:=Unit) (fun _ i=>i) _ (fun a _=>a) (fun _=>()) (fun a i p hp=>?_) (fun a=>?_) (by have:=hf.lines;unfold NN;omega) ()
 ·have bF:=(VU.1 hp).1
  have xC:=hf.lines
  have hg:aC o.lines (i:Int)=some p:=by rw[aR];exact hp
  have hi:aL ((i:Int)+1)=((i+1:Nat):Int):=bI bF (by omega)
  unfold kj tb
  rw[hl]
  simp only[mP,decide_eq_true (show(i:Int)<o.lines.length by omega),cond_true,hg,VS,hi]
  cases decide ((o.world.ah.length:Int)<p.order)<;>cases decide (o.world.now<p.aO)<;>rfl
 ·unfold kj
  simp
theorem Jp:aD (kv o) NN 0=some (if allI BO 0 o.aF=true then .inl ()else .inr false):=by
 refine fD (A:=Unit) (fun _ i=>i) _ (fun a _=>a) (fun _=>()) (fun a i p hp=>?_) (fun a=>?_) (by have:=hf.aF;unfold NN;omega) ()
 ·have bF:=(VU.1 hp).1
  have xC:=hf.aF
  have hg:aC o.aF (i:Int)=some p:=by rw[aR];exact hp
  have hi:aL ((i:Int)+1)=((i+1:Nat):Int):=bI bF (by omega)
  obtain⟨p1,p2,p3⟩:=hf.Zcn p (VW hp)
  obtain⟨b,_,hb⟩:=FY p1 p2 p3
  unfold kv BO
  simp only[mP,decide_eq_true (show(i:Int)<o.aF.length by omega),cond_true,hg,VS,hi,hb,Ws]
  cases b<;>rfl
 ·unfold kv
  simp
theorem Jo:aD (kl o) NN 0=some (if allI BO 0 o.aF=true then .inl ()else .inr false):=by
 refine fD (A:=Unit) (fun _ i=>i) _ (fun a _=>a) (fun _=>()) (fun a i p hp=>?_) (fun a=>?_) (by have:=hf.aF;unfold NN;omega) ()
 ·have bF:=(VU.1 hp).1
  have xC:=hf.aF
  have hg:aC o.aF (i:Int)=some p:=by rw[aR];exact hp
  have hi:aL ((i:Int)+1)=((i+1:Nat):Int):=bI bF (by omega)
  obtain⟨p1,p2,p3⟩:=hf.Zcn p (VW hp)
  obtain⟨b,uY,hb⟩:=FY p1 p2 p3
  unfold kl BO
  simp only[mP,decide_eq_true (show(i:Int)<o.aF.length by omega),cond_true,hg,VS,hi,uY,hb,Ws]
  cases b<;>rfl
 ·unfold kl
  simp
theorem AU:ld o=some (jw o):=by
 have hp:eI o.aN=some (mT o.aN):=LC hf.sL
 have hl:eh o.lines=some (dC (o.lines.map bK)):=wG _
 unfold ld jw
 simp only[pQ hf.world,Hu hf.aY,Ng hf.ba,hp,hl,VS]
 cases eu o.world
 ·rfl
 cases rM o.aY
 ·rfl
 cases rL o.ba (o.aY.length:Int)
 ·rfl
 cases mT o.aN
 ·rfl
 cases dC (o.lines.map bK)
 ·rfl
 by_cases he:(o.aK.length:Int)=(o.world.ah.length:Int)
 ·rw[decide_eq_true he]
  cases decide (150<(o.aF.length:Int))
  ·simp only[Jl hf (by omega),Jn hf,Jp hf,V0,Wz,cond_false,WH]
   cases allI (mf o) 0 o.aK<;>cases allI (tb o) 0 o.lines<;>cases allI BO 0 o.aF<;>rfl
  ·rfl
 ·rw[decide_eq_false he];rfl
theorem AE:nr o=some (jw o):=by
 have hp:eB o.aN=some (mT o.aN):=LB hf.sL
 have hl:ee o.lines=some (dC (o.lines.map bK)):=wF _
 unfold nr jw
 simp only[sF hf.world,Ht hf.aY,Nf hf.ba,hp,hl,VS]
 cases eu o.world
 ·rfl
 cases rM o.aY
 ·rfl
 cases rL o.ba (o.aY.length:Int)
 ·rfl
 cases mT o.aN
 ·rfl
 cases dC (o.lines.map bK)
 ·rfl
 by_cases he:(o.aK.length:Int)=(o.world.ah.length:Int)
 ·rw[decide_eq_true he]
  cases decide (150<(o.aF.length:Int))
  ·simp only[Jk hf (by omega),Jm hf (by omega),Jo hf,V0,Wz,cond_false,WH]
   cases allI (mf o) 0 o.aK<;>cases allI (tb o) 0 o.lines<;>cases allI BO 0 o.aF<;>rfl
  ·rfl
 ·rw[decide_eq_false he];rfl
end
theorem kM(l:List ByteArray)(p:ByteArray):-1≤bb l p∧bb l p<l.length:=by
 unfold bb
 cases h:l.findIdx? fun y=>decide (y=p)with
 |none=>simp;omega
 |some k=>
  have:=(Yb.1 h).1
  simp only[Option.elim];omega
theorem mZ{l:List ByteArray}(h:p∈l):0≤bb l p:=by
 unfold bb
 cases h':l.findIdx? fun y=>decide (y=p)with
 |none=>
  have:=List.findIdx?_eq_none_iff.1 h' p h
  simp at this
 |some k=>simp only[Option.elim];omega
theorem pD{n:aj}{l:bM}(h:l∈n.ay):l.ar∈ak n∧l.aV∈ak n:=by
 obtain⟨i,hi,rfl⟩:=Wf h
 obtain⟨a,b⟩:=Fe hi
 unfold ak
 exact⟨sm.2 (.inl (VW a)),sm.2 (.inl (VW b))⟩
theorem kc{xs:List α}{i:Int}(h:0≤i∧i<xs.length):∃x,aC xs i=some x∧x∈xs:=by
 have bF:i.toNat<xs.length:=by omega
 exact⟨xs[i.toNat],by unfold aC;rw[if_pos h.1];exact VT bF,Wm bF⟩
section
variable {n:aj} (hf:cI n)
include hf
theorem JF:(ak n).length≤2097152:=by have:=eA n;have:=hf.ay;omega
theorem n7(p:ByteArray):cb (ak n) p=some (bb (ak n) p):=oM (by have:=JF hf;omega) p
theorem L2(bx day:Int):∃b,cx n bx day=some b:=(qA hf bx day).2
theorem CO{l:List ao}(hl:l.length≤1048576){ae:List au}(hc:ae.length≤1048576){bx:Int}(hy:aC n.ay bx=some y)(aO ab:Int):aI (cz n l ae bx aO ab) fun r=>True:=by
 unfold cz
 have D9:aI (aD (cf n l ae bx aO ab) NN 0) fun r=>True:=by
  refine aI.loop (fun k s=>∃i:Nat,s=(i:Int)∧i+k=61) (fun k s hs=>?_) NN 61 0 ⟨0,rfl,rfl⟩ (by unfold NN;omega)
  obtain⟨i,rfl,hk⟩:=hs
  unfold cf
  refine aI.cond (fun hd=>?_) fun hd=>aI.ret trivial
  have hi:=of_decide_eq_true hd
  have hw:aL ((i:Int)+1)=((i+1:Nat):Int):=by rw[aQ (by omega)];omega
  have go:∀{σ:Type},rO (fun k (s:Int)=>∃i:Nat,s=(i:Int)∧i+k=61) (fun r:Unit⊕Int=>True) k (XT (aL ((i:Int)+1))):=⟨k-1,by omega,i+1,hw,by omega⟩
  obtain⟨b,hb⟩:=L2 hf bx (i:Int)
  obtain⟨v,hv⟩:=pV (n:=n) (t:=⟨bx,(i:Int)⟩) hy
  obtain⟨q,hq⟩:=td hl (⟨bx,(i:Int)⟩:au)
  rw[hb,VS]
  refine aI.cond (fun _=>?_) fun _=>aI.ret (go (σ:=Unit))
  rw[hv,VS]
  refine aI.cond (fun _=>?_) fun _=>aI.ret (go (σ:=Unit))
  rw[fP,fC hc,VS]
  refine aI.cond (fun _=>?_) fun _=>aI.ret (go (σ:=Unit))
  rw[hy,VS,hq,VS]
  exact aI.cond (fun _=>aI.ret trivial) fun _=>aI.ret (go (σ:=Unit))
 refine aI.bind D9 fun r _=>?_
 cases r with
 |inl u=>exact aI.ret trivial
 |inr v=>exact aI.ret trivial
theorem CN{bx:Int}(hy:aC n.ay bx=some y)(aO:Int):aI (jd n bx aO) fun r=>True:=by
 unfold jd
 have D9:aI (aD (ka n bx aO) NN 0) fun r=>True:=by
  refine aI.loop (fun k s=>∃i:Nat,s=(i:Int)∧i+k=61) (fun k s hs=>?_) NN 61 0 ⟨0,rfl,rfl⟩ (by unfold NN;omega)
  obtain⟨i,rfl,hk⟩:=hs
  unfold ka
  refine aI.cond (fun hd=>?_) fun hd=>aI.ret trivial
  have hi:=of_decide_eq_true hd
  have hw:aL ((i:Int)+1)=((i+1:Nat):Int):=by rw[aQ (by omega)];omega
  have go:∀{σ:Type},rO (fun k (s:Int)=>∃i:Nat,s=(i:Int)∧i+k=61) (fun r:Unit⊕Int=>True) k (XT (aL ((i:Int)+1))):=⟨k-1,by omega,i+1,hw,by omega⟩
  obtain⟨b,hb⟩:=L2 hf bx (i:Int)
  obtain⟨v,hv⟩:=pV (n:=n) (t:=⟨bx,(i:Int)⟩) hy
  rw[hb,VS]
  refine aI.cond (fun _=>?_) fun _=>aI.ret (go (σ:=Unit))
  rw[hv,VS]
  exact aI.cond (fun _=>aI.ret trivial) fun _=>aI.ret (go (σ:=Unit))
 refine aI.bind D9 fun r _=>?_
 cases r with
 |inl u=>exact aI.ret trivial
 |inr v=>exact aI.ret trivial
omit hf in
theorem wM(a:Int)(b:Bool):aI (cN n a b) fun r=>True:=by
 unfold cN
 exact aI.cond (fun _=>aI.ret trivial) fun _=>aI.ret trivial
omit hf in
theorem GC(a b:Int):aI (fv a b) fun r=>True:=by
 unfold fv
 exact aI.cond (fun _=>aI.ret trivial) fun _=>aI.ret trivial
theorem zA(f aO:Int):aI (gX (ak n) f aO) fun r=>r.length=(ak n).length:=by
 have hp:=JF hf
 unfold gX
 refine aI.bind (P:=fun o=>o.length=(ak n).length) ?_ fun o ho=>aI.ret ho
 refine aI.loop (fun k s=>∃i:Nat,s.1=(i:Int)∧i+k=(ak n).length∧s.2.length=i) (fun k s hs=>?_) NN (ak n).length _ ⟨0,rfl,by omega,rfl⟩ (by unfold NN;omega)
 obtain⟨i,hi,hk,hlen⟩:=hs
 unfold gY
 rw[hi]
 refine aI.cond (fun hd=>?_) fun hd=>aI.ret (by have:=of_decide_eq_false hd;simp only[rO];omega)
 have bF:=of_decide_eq_true hd
 have hw:aL ((i:Int)+1)=((i+1:Nat):Int):=by rw[aQ (by omega)];omega
 rw[hw]
 have go:∀(x:Int),rO (fun k (s:Int×List Int)=>∃i:Nat,s.1=(i:Int)∧i+k=(ak n).length∧s.2.length=i) (fun o:List Int=>o.length=(ak n).length) k (XT (((i+1:Nat):Int),s.2++[x])):=fun x=>⟨k-1,by omega,i+1,rfl,by omega,by simp[hlen]⟩
 refine aI.cond (fun _=>aI.bind (GC _ _) fun y _=>aI.cL (jt (by simp only[VX,VY];omega) (by omega)) (aI.ret (go y))) fun _=>aI.cL (jt (by simp only[VX,VY];omega) (by omega)) (aI.ret (go _))
theorem KL{l:List ao}(hb:bJ n l=true){b:ao}(h:b∈l):et n b.bf=true:=by
 obtain⟨i,hi,rfl⟩:=Wf h
 have:=(tE hb hi).1
 unfold F7 at this
 rw[VT hi]at this
 simp only[VZ]at this
 exact this.1.1.1
omit hf in
theorem Tq{l:List ao}(hl:l.length≤1048575)(b:ao):aI (nh l b) fun r=>r.length=l.length+1:=by
 unfold nh
 refine aI.bind (P:=fun o:Int=>0≤o∧o≤l.length) ?_ fun o ho=>?_
 ·refine aI.loop (fun k s=>∃i:Nat,s=(i:Int)∧i+k=l.length) (fun k s hs=>?_) NN l.length 0 ⟨0,rfl,by omega⟩ (by unfold NN;omega)
  obtain⟨i,rfl,hk⟩:=hs
  unfold pI
  refine aI.cond (fun hd=>?_) fun hd=>aI.ret (by simp only[rO];omega)
  have bF:=of_decide_eq_true hd
  have hw:aL ((i:Int)+1)=((i+1:Nat):Int):=by rw[aQ (by omega)];omega
  obtain⟨y,hy,hm⟩:=kc (xs:=l) (i:=(i:Int)) ⟨by omega,bF⟩
  rw[hy,VS,BZ,VS]
  exact aI.cond (fun _=>aI.ret ⟨k-1,by omega,i+1,hw,by omega⟩) fun _=>aI.ret (by simp only[rO];omega)
 ·have l1:(cD l 0 o).length=o.toNat:=by unfold cD;simp;omega
  have l2:(cD l o (l.length:Int)).length=l.length-o.toNat:=by unfold cD;simp
  refine aI.cL (by unfold gA;exact decide_eq_true (by omega)) ?_
  rw[qM (by omega),VS]
  refine aI.cL (jt (by simp only[VX,VY];omega) (by omega)) (aI.cL (by unfold gA;exact decide_eq_true (by omega)) (aI.cL (jt (by simp only[V2,VX,VY];omega) (by omega)) (aI.ret ?_)))
  simp only[V2,VX,VY]
  omega
theorem Qq{l:List ao}(hl:l.length≤1048000)(bk ab:Int)(aE:List au):aI (ck n l bk ab aE) fun r=>r.1.length≤l.length+20∧(r.2=true→r.1.length≤120):=by
 unfold ck
 rw[qM (by omega),VS,iv hf (by omega),VS]
 refine aI.cond (fun _=>aI.ret ⟨by simp only;omega,fun h=>by cases h⟩) fun _=>aI.cond (fun _=>aI.ret ⟨by simp only;omega,fun h=>by cases h⟩) fun hd=>?_
 have hle:=of_decide_eq_false hd
 refine aI.bind (P:=fun o:List ao=>o.length≤l.length+20) ?_ fun o ho=>?_
 ·refine aI.loop (fun k s=>∃i:Nat,s.1=(i:Int)∧i+k=aE.length∧s.2.length=l.length+i) (fun k s hs=>?_) NN aE.length _ ⟨0,rfl,by omega,rfl⟩ (by unfold NN;omega)
  obtain⟨i,hi,hk,hlen⟩:=hs
  unfold lM
  rw[hi]
  refine aI.cond (fun hd=>?_) fun hd=>aI.ret (by simp only[rO];omega)
  have bF:=of_decide_eq_true hd
  have hw:aL ((i:Int)+1)=((i+1:Nat):Int):=by rw[aQ (by omega)];omega
  obtain⟨y,hy,hm⟩:=kc (xs:=aE) (i:=(i:Int)) ⟨by omega,bF⟩
  rw[hy,VS,hw]
  exact aI.bind (Tq (by omega) _) fun r hr=>aI.ret ⟨k-1,by omega,i+1,rfl,by omega,by simp only;omega⟩
 ·rw[iv hf (by omega),VS]
  refine aI.cond (fun _=>aI.ret ⟨by simp only;omega,fun h=>by cases h⟩) fun hb=>aI.ret ⟨ho,fun _=>(cW (n:=n) (l:=o) (by simpa using hb)).2⟩
end
theorem pC{l:List ByteArray}(h:0≤bb l p):aC l (bb l p)=some p:=by
 unfold bb at h⊢
 cases h':l.findIdx? fun y=>decide (y=p)with
 |none=>rw[h']at h;simp at h
 |some k=>
  obtain⟨h1,h2,_⟩:=Yb.1 h'
  have h2:=of_decide_eq_true h2
  simp only[Option.elim]
  rw[aR,VT h1,h2]
theorem IP{xs:List α}{i j:Int}{v x:α}(hi:0≤i)(h:aC (xs.set (Wo i) v) j=some x):(j=i∧x=v)∨aC xs j=some x:=by
 obtain⟨h0,h1⟩:=iH h
 by_cases he:j=i
 ·subst he
  rw[List.getElem?_set_self']at h1
  cases hx:xs[j.toNat]? with
  |none=>rw[hx]at h1;simp at h1
  |some y=>rw[hx]at h1;simp at h1;exact .inl ⟨rfl,h1.symm⟩
 ·refine .inr ?_
  rw[Wt (by omega)]at h1
  unfold aC;rw[if_pos h0];exact h1
def u7(n:aj)(l:List ao)(ae:List au)(ab f:Int)(r:List Int)(x v:Int):Prop:=
 ∃(i:Nat) (y:bM) (d u z:Int),n.ay[i]?=some y∧bb (ak n) y.aV=x∧aC r (bb (ak n) y.ar)=some u∧¬u<0∧cN n u (decide (bb (ak n) y.ar=f))=some z∧cz n l ae (i:Int) z ab=some d∧¬d<0∧bn n ⟨(i:Int),d⟩=some v
section
variable {n:aj} (hf:cI n)
include hf
theorem Dp{l:List ao}(hl:l.length≤1048576){ae:List au}(hc:ae.length≤1048576)(ab:Int)(hb:gB.length=(ak n).length)(f:Int):aI (dK n l ae ab (ak n) gB f) fun r=>r.length=(ak n).length∧∀x v,aC r x=some v→aC gB x=some v∨u7 n l ae ab f gB x v:=by
 have hp:=JF hf
 have DV:=hf.ay
 unfold dK
 refine aI.bind (P:=fun r=>r=gB) ?_ fun r hr=>?_
 ·by_cases h1:gB.length≤1048576
  ·exact aI.of (xG h1) rfl
  ·unfold dR
   exact aI.cL (jt (by simp only[VY];omega) (by omega)) (aI.ret (by simp))
 ·subst hr
  refine aI.bind (P:=fun o=>o.length=(ak n).length∧∀x v,aC o x=some v→aC r x=some v∨u7 n l ae ab f r x v) ?_ fun o ho=>aI.ret ho
  refine aI.loop (fun(k:Nat) (s:Int×List Int)=>∃i:Nat,s.1=(i:Int)∧i+k=n.ay.length∧s.2.length=(ak n).length∧∀x v,aC s.2 x=some v→aC r x=some v∨u7 n l ae ab f r x v) (fun k s hs=>?_) NN n.ay.length _ ⟨0,rfl,by omega,hb,fun x v h=>.inl h⟩ (by unfold NN;omega)
  obtain⟨i,hi,hk,hlen,Gl⟩:=hs
  unfold ew
  rw[hi]
  refine aI.cond (fun hd=>?_) fun hd=>aI.ret ⟨hlen,Gl⟩
  have bF:=of_decide_eq_true hd
  have hw:aL ((i:Int)+1)=((i+1:Nat):Int):=by rw[aQ (by omega)];omega
  obtain⟨y,hy,hm⟩:=kc (xs:=n.ay) (i:=(i:Int)) ⟨by omega,bF⟩
  obtain⟨m1,m2⟩:=pD hm
  have a0:=mZ m1
  have a1:=(kM (ak n) y.ar).2
  have b0:=mZ m2
  have b1:=(kM (ak n) y.aV).2
  obtain⟨v6,g6,_⟩:=kc (xs:=r) (i:=bb (ak n) y.ar) ⟨a0,by omega⟩
  obtain⟨v11,g11,_⟩:=kc (xs:=s.2) (i:=bb (ak n) y.aV) ⟨b0,by omega⟩
  simp only[hy,VS,n7 hf,g6,hw]
  have go:∀(s':List Int),s'.length=(ak n).length→(∀x v,aC s' x=some v→aC r x=some v∨u7 n l ae ab f r x v)→rO (fun(k:Nat) (s:Int×List Int)=>∃i:Nat,s.1=(i:Int)∧i+k=n.ay.length∧s.2.length=(ak n).length∧∀x v,aC s.2 x=some v→aC r x=some v∨u7 n l ae ab f r x v) (fun o:List Int=>o.length=(ak n).length∧∀x v,aC o x=some v→aC r x=some v∨u7 n l ae ab f r x v) k (XT (((i+1:Nat):Int),s')):=fun s' h' h''=>⟨k-1,by omega,i+1,rfl,by omega,h',h''⟩
  refine aI.cond (fun _=>aI.ret (go _ hlen Gl)) fun hu=>?_
  obtain⟨z,ez,_⟩:=wM (n:=n) v6 (decide (bb (ak n) y.ar=f))
  obtain⟨d,ed,_⟩:=CO hf hl hc hy z ab
  rw[ez,VS,ed,VS]
  refine aI.cond (fun _=>aI.ret (go _ hlen Gl)) fun DU=>?_
  obtain⟨e,he⟩:=oK (n:=n) (t:=⟨(i:Int),d⟩) hy
  simp only[he,VS,g11]
  have hyi:n.ay[i]?=some y:=by rw[aR]at hy;exact hy
  have new:∀x v,aC (s.2.set (Wo (bb (ak n) y.aV)) e) x=some v→aC r x=some v∨u7 n l ae ab f r x v:=fun x v h=>by
   rcases IP b0 h with⟨rfl,rfl⟩ |h
   ·exact .inr ⟨i,y,d,v6,z,hyi,rfl,g6,of_decide_eq_false hu,ez,ed,of_decide_eq_false DU,he⟩
   ·exact Gl x v h
  exact aI.cond (fun _=>aI.ret (go _ (by rw[WL];exact hlen) new)) fun _=>aI.cond (fun _=>aI.ret (go _ (by rw[WL];exact hlen) new)) fun _=>aI.ret (go _ hlen Gl)
end
def He(n:aj)(l:List ao)(ae:List au)(ab f:Int)(r:List Int):List Int:=(dK n l ae ab (ak n) r f).getD []
def bP(n:aj)(l:List ao)(ae:List au)(ab f aO:Int):Nat→List Int
 |0=>(gX (ak n) f aO).getD []
 |k+1=>He n l ae ab f (bP n l ae ab f aO k)
section
variable {n:aj} (hf:cI n) {l:List ao} (hl:l.length≤1048576) {ae:List au} (hc:ae.length≤1048576) (ab f aO:Int)
include hf hl hc
theorem mc:∀k,(bP n l ae ab f aO k).length=(ak n).length
 |0=>by
  obtain⟨r,e,h⟩:=zA hf f aO
  unfold bP;rw[e];exact h
 |k+1=>by
  obtain⟨r,e,h,_⟩:=Dp hf hl hc ab (mc k) f
  unfold bP He;rw[e];exact h
theorem si(k:Nat):dK n l ae ab (ak n) (bP n l ae ab f aO k) f=some (bP n l ae ab f aO (k+1))∧∀x v,aC (bP n l ae ab f aO (k+1)) x=some v→aC (bP n l ae ab f aO k) x=some v∨u7 n l ae ab f (bP n l ae ab f aO k) x v:=by
 obtain⟨r,e,h,h'⟩:=Dp hf hl hc ab (mc hf hl hc ab f aO k) f
 have:bP n l ae ab f aO (k+1)=r:=by show(dK n l ae ab (ak n) (bP n l ae ab f aO k) f).getD []=r;rw[e];rfl
 rw[this]
 exact⟨e,h'⟩
theorem oL{ar:ByteArray}(hC:bJ n l=true∧0≤bb (ak n) ar∧aO≤100000∧1≤ab)(hk:k≤(ak n).length):dc n l ae ar aO ab (k:Int)=some (bP n l ae ab (bb (ak n) ar) aO k):=by
 have hp:=JF hf
 obtain⟨r0,e0,_⟩:=zA hf (bb (ak n) ar) aO
 have h0:bP n l ae ab (bb (ak n) ar) aO 0=r0:=by unfold bP;rw[e0];rfl
 unfold dc
 rw[(di hf).2]
 simp only[VS,n7 hf,iv hf hl,hC.1,V0,cond_false,decide_eq_false (show ¬bb (ak n) ar<0 by omega),decide_eq_false (show ¬100000<aO by omega),decide_eq_false (show ¬ab<1 by omega),decide_eq_false (show ¬(k:Int)<0 by omega),e0]
 have e:aD (iO n l ae ab (k:Int) (ak n) (bb (ak n) ar)) NN (0,bP n l ae ab (bb (ak n) ar) aO 0)=some (bP n l ae ab (bb (ak n) ar) aO k):=by
  refine lp (body:=iO n l ae ab (k:Int) (ak n) (bb (ak n) ar)) (fun i:Nat=>((i:Int),bP n l ae ab (bb (ak n) ar) aO i)) (n:=k) (o:=bP n l ae ab (bb (ak n) ar) aO k) (fun i hi=>?_) ?_ NN (by unfold NN;omega)
  ·unfold iO
   rw[decide_eq_true (show(i:Int)<(k:Int)by omega),decide_eq_true (show(i:Int)<((ak n).length:Int)by omega),cond_true,cond_true,(si hf hl hc ab _ aO i).1,VS,aQ (by omega)]
   rfl
  ·unfold iO
   simp
 rw[←h0,e];rfl
end
section
variable {n:aj} (hf:cI n)
include hf
end
theorem JL:@ko=@cN:=rfl
def ZbW{σ ο ο':Type}(h:ο→ο'):σ⊕ο→σ⊕ο'
 |.inl s=>.inl s
 |.inr o=>.inr (h o)
theorem E3{σ ο ο':Type}{b1:σ→Option (σ⊕ο)}{b2:σ→Option (σ⊕ο')}(h:ο→ο')(hb:∀s,b2 s=(b1 s).map (ZbW h)):∀(N:Nat) (s:σ),aD b2 N s=(aD b1 N s).map h
 |0,s=>rfl
 |N+1,s=>by
  have ih:=E3 h hb N
  unfold aD
  rw[hb s]
  cases h1:b1 s with
  |none=>rfl
  |some r=>
   cases r with
   |inl s'=>exact ih s'
   |inr o=>rfl
theorem NY{α β γ:Type}(x:Option α)(f:α→Option β)(g:β→γ):(x.bind f).map g=x.bind fun a=>(f a).map g:=by cases x<;>rfl
theorem N3{β γ:Type}(b:Bool)(x y:Option β)(g:β→γ):(cond b x y).map g=cond b (x.map g) (y.map g):=by cases b<;>rfl
def Q4(bx:Int):Unit⊕Int→Unit⊕(au×Bool)
 |.inl u=>.inl u
 |.inr d=>.inr ((⟨bx,d⟩:au),true)
section
variable {n:aj} (hf:cI n)
include hf
theorem Of(l:List ao)(ae:List au)(bx aO ab:Int)(s:Int):gh bx aO n ae l ab s=(cf n l ae bx aO ab s).map (ZbW (Q4 bx)):=by
 unfold gh cf
 rw[(qA hf bx s).1,pU,wH,fP]
 simp only[N3,NY,Wr,ZbW,Q4]
theorem MK{l:List ao}(hl:l.length≤1048576){ae:List au}(hc:ae.length≤1048576){bx:Int}(hy:aC n.ay bx=some y)(aO ab:Int):
 ∃d,cz n l ae bx aO ab=some d∧im bx aO n ae l ab=some (if d<0 then((⟨0,0⟩:au),false)else((⟨bx,d⟩:au),true)):=by
 have D9:aI (aD (cf n l ae bx aO ab) NN 0) fun r=>∀d,r=.inr d→0≤d:=by
  refine aI.loop (fun k s=>∃i:Nat,s=(i:Int)∧i+k=61) (fun k s hs=>?_) NN 61 0 ⟨0,rfl,rfl⟩ (by unfold NN;omega)
  obtain⟨i,rfl,hk⟩:=hs
  unfold cf
  refine aI.cond (fun hd=>?_) fun hd=>aI.ret (fun d h=>by cases h)
  have hi:=of_decide_eq_true hd
  have hw:aL ((i:Int)+1)=((i+1:Nat):Int):=by rw[aQ (by omega)];omega
  have go:rO (fun k (s:Int)=>∃i:Nat,s=(i:Int)∧i+k=61) (fun r:Unit⊕Int=>∀d,r=.inr d→0≤d) k (XT (aL ((i:Int)+1))):=⟨k-1,by omega,i+1,hw,by omega⟩
  obtain⟨b,hb⟩:=L2 hf bx (i:Int)
  obtain⟨v,hv⟩:=pV (n:=n) (t:=⟨bx,(i:Int)⟩) hy
  obtain⟨q,hq⟩:=td hl (⟨bx,(i:Int)⟩:au)
  rw[hb,VS]
  refine aI.cond (fun _=>?_) fun _=>aI.ret go
  rw[hv,VS]
  refine aI.cond (fun _=>?_) fun _=>aI.ret go
  rw[fP,fC hc,VS]
  refine aI.cond (fun _=>?_) fun _=>aI.ret go
  rw[hy,VS,hq,VS]
  exact aI.cond (fun _=>aI.ret (fun d h=>by cases h;omega)) fun _=>aI.ret go
 obtain⟨r,e,hr⟩:=D9
 have e2:=E3 (Q4 bx) (Of hf l ae bx aO ab) NN (0:Int)
 rw[e]at e2
 unfold cz im
 rw[e,e2]
 cases r with
 |inl u=>exact⟨-1,rfl,rfl⟩
 |inr d=>exact⟨d,rfl,by rw[if_neg (by have:=hr d rfl;omega)];rfl⟩
theorem RN{l:List ao}(hl:l.length≤1048576){ae:List au}(hc:ae.length≤1048576)(ab ay f:Int)(hb:gB.length=(ak n).length)(k:Int){Kt:List Int}(Ro:Kt.length=(ak n).length)(ch:Bool){i:Nat}(hi:i<n.ay.length):
 ∃ON ch',ew n l ae ab (ak n) gB f ((i:Int),Kt)=some (.inl (((i+1:Nat):Int),ON))∧dn n n ae l ab ay (ak n) f (k,gB) ((i:Int),ch,Kt)=some (.inl (((i+1:Nat):Int),ch',ON))∧ON.length=(ak n).length∧((ch'=ch∧ON=Kt)∨ch'=true):=by
 have hp:=JF hf
 have DV:=hf.ay
 have hw:aL ((i:Int)+1)=((i+1:Nat):Int):=by rw[aQ (by omega)];omega
 obtain⟨y,hy,hm⟩:=kc (xs:=n.ay) (i:=(i:Int)) ⟨by omega,by omega⟩
 obtain⟨m1,m2⟩:=pD hm
 have a0:=mZ m1
 have a1:=(kM (ak n) y.ar).2
 have b0:=mZ m2
 have b1:=(kM (ak n) y.aV).2
 obtain⟨v6,g6,_⟩:=kc (xs:=gB) (i:=bb (ak n) y.ar) ⟨a0,by omega⟩
 obtain⟨v11,g11,_⟩:=kc (xs:=Kt) (i:=bb (ak n) y.aV) ⟨b0,by omega⟩
 obtain⟨z,ez,_⟩:=wM (n:=n) v6 (decide (bb (ak n) y.ar=f))
 obtain⟨d,ed,ef⟩:=MK hf hl hc hy z ab
 obtain⟨e,he⟩:=oK (n:=n) (t:=⟨(i:Int),d⟩) hy
 unfold ew dn
 have Ot:∀p,bV (ak n) p=some (bb (ak n) p):=fun p=>by rw[lY];exact n7 hf p
 simp only[decide_eq_true (show(i:Int)<n.ay.length by omega),cond_true,hy,VS,n7 hf,Ot,g6,hw,JL,ez,ed,ef,g11,rY]
 by_cases hu:v6<0
 ·simp only[decide_eq_true hu,cond_true]
  exact⟨Kt,ch,rfl,rfl,Ro,.inl ⟨rfl,rfl⟩⟩
 simp only[decide_eq_false hu,cond_false]
 by_cases hd:d<0
 ·simp only[decide_eq_true hd,cond_true,if_pos hd,cond_false]
  exact⟨Kt,ch,rfl,rfl,Ro,.inl ⟨rfl,rfl⟩⟩
 simp only[decide_eq_false hd,cond_false,if_neg hd,cond_true,he,VS]
 by_cases h1:v11<0
 ·simp only[decide_eq_true h1,cond_true]
  exact⟨_,true,rfl,rfl,by rw[WL];exact Ro,.inr rfl⟩
 simp only[decide_eq_false h1,cond_false]
 by_cases h2:e<v11
 ·simp only[decide_eq_true h2,cond_true]
  exact⟨_,true,rfl,rfl,by rw[WL];exact Ro,.inr rfl⟩
 ·simp only[decide_eq_false h2,cond_false]
  exact⟨Kt,ch,rfl,rfl,Ro,.inl ⟨rfl,rfl⟩⟩
theorem Lb{l:List ao}(hl:l.length≤1048576){ae:List au}(hc:ae.length≤1048576)(ab ay f:Int)(hb:gB.length=(ak n).length)(uk:gB.length≤1048576)(k:Int):
 ∃r ch,dK n l ae ab (ak n) gB f=some r∧aD (dn n n ae l ab ay (ak n) f (k,gB)) NN (0,false,gB)=some (ch,r)∧r.length=(ak n).length∧(ch=false→r=gB):=by
 have DV:=hf.ay
 have key:∀(d i:Nat),i+d=n.ay.length→∀(Kt:List Int) (ch:Bool),Kt.length=(ak n).length→(ch=false→Kt=gB)→∀N,d<N→
  ∃r ch',aD (ew n l ae ab (ak n) gB f) N ((i:Int),Kt)=some r∧aD (dn n n ae l ab ay (ak n) f (k,gB)) N ((i:Int),ch,Kt)=some (ch',r)∧r.length=(ak n).length∧(ch'=false→r=gB):=by
  intro d
  induction d with
  |zero=>
   intro i hi Kt ch h1 h2 N hN
   obtain⟨N,rfl⟩:∃M,N=M+1:=⟨N-1,by omega⟩
   have Eb:¬(i:Int)<n.ay.length:=by omega
   refine⟨Kt,ch,?_,?_,h1,h2⟩
   ·unfold aD ew
    simp only[decide_eq_false Eb,cond_false];rfl
   ·unfold aD dn
    simp only[decide_eq_false Eb,cond_false];rfl
  |succ d ih=>
   intro i hi Kt ch h1 h2 N hN
   obtain⟨N,rfl⟩:∃M,N=M+1:=⟨N-1,by omega⟩
   obtain⟨ON,ch',e1,e2,h3,h4⟩:=RN hf hl hc ab ay f hb k h1 ch (show i<n.ay.length by omega)
   obtain⟨r,c,q1,q2,q3,q4⟩:=ih (i+1) (by omega) ON ch' h3 (fun h=>by
    rcases h4 with⟨a,b⟩ |a
    ·rw[b];exact h2 (a▸h)
    ·rw[a]at h;cases h) N (by omega)
   refine⟨r,c,?_,?_,q3,q4⟩
   ·unfold aD;rw[e1];exact q1
   ·unfold aD;rw[e2];exact q2
 obtain⟨r,ch,q1,q2,q3,q4⟩:=key n.ay.length 0 (by omega) gB false hb (fun _=>rfl) NN (by unfold NN;omega)
 have e0:((0:Nat):Int)=0:=rfl
 rw[e0]at q1 q2
 refine⟨r,ch,?_,q2,q3,q4⟩
 unfold dK
 rw[xG uk,VS,q1];rfl
omit hf in
theorem B5{l:List ao}{ae:List au}{ab f aO:Int}{i:Nat}(h:bP n l ae ab f aO (i+1)=bP n l ae ab f aO i):∀k,bP n l ae ab f aO (i+k)=bP n l ae ab f aO i
 |0=>rfl
 |k+1=>by
  have ih:=B5 h k
  have e1:bP n l ae ab f aO (i+(k+1))=He n l ae ab f (bP n l ae ab f aO (i+k)):=rfl
  have e2:bP n l ae ab f aO (i+1)=He n l ae ab f (bP n l ae ab f aO i):=rfl
  rw[e1,ih,←e2,h]
theorem Lp{l:List ao}(hl:l.length≤1048576){ae:List au}(hc:ae.length≤1048576)(ab f aO:Int)(hp:(ak n).length≤1048576)(ay:Nat)(Zan:ay≤1048576):
 aD (dm n n ae l ab (ay:Int) (ak n) f) NN (0,bP n l ae ab f aO 0)=some (bP n l ae ab f aO ay):=by
 have key:∀(d i:Nat),i+d=ay→∀N,d<N→aD (dm n n ae l ab (ay:Int) (ak n) f) N ((i:Int),bP n l ae ab f aO i)=some (bP n l ae ab f aO ay):=by
  intro d
  induction d with
  |zero=>
   intro i hi N hN
   obtain⟨N,rfl⟩:∃M,N=M+1:=⟨N-1,by omega⟩
   have:i=ay:=by omega
   subst this
   unfold aD dm
   simp only[decide_eq_false (show ¬(i:Int)<(i:Int)by omega),cond_false];rfl
  |succ d ih=>
   intro i hi N hN
   obtain⟨N,rfl⟩:∃M,N=M+1:=⟨N-1,by omega⟩
   have uk:=mc hf hl hc ab f aO i
   have wB:aL ((i:Int)+1)=((i+1:Nat):Int):=by rw[aQ (by omega)];omega
   obtain⟨r,ch,q1,q2,q3,q4⟩:=Lb hf hl hc ab (ay:Int) f uk (by omega) (i:Int)
   have hr:bP n l ae ab f aO (i+1)=r:=by
    have:=(si hf hl hc ab f aO i).1
    rw[q1]at this
    exact(VV this).symm
   have ha:cL (bo ((([]:List Int):List Int).length+(bP n l ae ab f aO i).length) 8)=some ():=by
    simp only[VY];exact yl (by omega) (by omega)
   have body:dm n n ae l ab (ay:Int) (ak n) f ((i:Int),bP n l ae ab f aO i)=(cond (!ch) (some (.inr r)) (some (.inl (((i+1:Nat):Int),r)))):=by
    unfold dm
    simp only[decide_eq_true (show(i:Int)<(ay:Int)by omega),cond_true,ha,VS,WM,q2,wB]
   unfold aD
   rw[body]
   cases ch with
   |false=>
    have e:=q4 rfl
    rw[←hr]at e
    have hconst:=B5 e (d+1)
    rw[show i+(d+1)=ay by omega]at hconst
    show some r=_
    rw[←hr,e,hconst]
   |true=>
    rw[←hr]
    exact ih (i+1) (by omega) N (by omega)
 exact key ay 0 (by omega) NN (by unfold NN;omega)
theorem Bs(hp:(ak n).length≤1048576)(f:Int)(hf0:0≤f∧f<((ak n).length:Int))(aO:Int):gX (ak n) f aO=some ((WA (ak n).length (-1:Int)).set f.toNat (if 0 > aO then 0 else aO)):=by
 have Uv:fv aO 0=some (if 0 > aO then 0 else aO):=by
  unfold fv
  by_cases h:aO<0
  ·rw[if_pos (by omega)]
   by_cases h2:0<aO
   ·omega
   ·simp[h2,h]
  ·rw[if_neg (by omega)]
   by_cases h2:0<aO
   ·simp[h2,h]
   ·have:aO=0:=by omega
    subst this;simp
 generalize hm:(if 0 > aO then 0 else aO:Int)=mx at Uv⊢
 have hLl:((WA (ak n).length (-1:Int)).set f.toNat mx).length=(ak n).length:=by simp
 have hLi:∀i:Nat,i<(ak n).length→((WA (ak n).length (-1:Int)).set f.toNat mx)[i]?=some (if(i:Int)=f then mx else -1):=fun i hi=>by
  by_cases h:(i:Int)=f
  ·rw[if_pos h,show f.toNat=i by omega,Wl (by simpa using hi)]
  ·rw[if_neg h,Wt (by omega),List.getElem?_replicate,if_pos hi]
 generalize (WA (ak n).length (-1:Int)).set f.toNat mx=L at hLl hLi⊢
 have e:aD (gY (ak n) f aO) NN (0,[])=some L:=by
  have:=lp (body:=gY (ak n) f aO) (fun i:Nat=>((i:Int),L.take i)) (n:=(ak n).length) (o:=L) (fun i hi=>?_) ?_ NN (by unfold NN;omega)
  ·simpa using this
  ·have hw:aL ((i:Int)+1)=((i+1:Nat):Int):=by rw[aQ (by omega)];omega
   have hx:=hLi i hi
   have hlen:(L.take i).length=i:=by rw[V8];omega
   have ha:∀x:Int,cL (bo ((L.take i).length+([x]:List Int).length) 8)=some ():=fun x=>eR (by simp only[VX,VY];omega) (by omega)
   unfold gY
   rw[←uK hx]
   by_cases h:(i:Int)=f
   ·simp only[decide_eq_true (show(i:Int)<((ak n).length:Int)by omega),decide_eq_true h,cond_true,Uv,VS,ha,hw,if_pos h]
   ·simp only[decide_eq_true (show(i:Int)<((ak n).length:Int)by omega),decide_eq_false h,cond_true,cond_false,VS,ha,hw,if_neg h]
  ·unfold gY
   simp[←hLl]
 unfold gX
 rw[e];rfl
theorem BW{l:List ao}(hl:l.length≤1048576){ae:List au}(hc:ae.length≤1048576)(ab:Int){ar:ByteArray}(h0:0≤bb (ak n) ar){aO:Int}(Bb:aO≤100000)(hp:(ak n).length≤1048576)(ay:Nat)(Zan:ay≤1048576):
 dZ n n ae l ab ar aO (ay:Int)=some (bP n l ae ab (bb (ak n) ar) aO ay):=by
 have bF:=(kM (ak n) ar).2
 have e0:aD (eG n n ae l ab aO (ay:Int) (ak n) (bb (ak n) ar)) NN (0,[])=some (WA (ak n).length (-1:Int)):=by
  refine lp (body:=eG n n ae l ab aO (ay:Int) (ak n) (bb (ak n) ar)) (fun i:Nat=>((i:Int),WA i (-1:Int))) (n:=(ak n).length) (o:=WA (ak n).length (-1:Int)) (fun i hi=>?_) ?_ NN (by unfold NN;omega)
  ·have hw:aL ((i:Int)+1)=((i+1:Nat):Int):=by rw[aQ (by omega)];omega
   have ha:cL (bo ((WA i (-1:Int)).length+([(-1)]:List Int).length) 8)=some ():=eR (by simp only[Xz,VX,VY];omega) (by omega)
   unfold eG
   simp only[decide_eq_true (show(i:Int)<((ak n).length:Int)by omega),cond_true,ha,VS,hw,List.replicate_succ']
  ·unfold eG
   simp
 have Zba:bP n l ae ab (bb (ak n) ar) aO 0=(WA (ak n).length (-1:Int)).set (bb (ak n) ar).toNat (if 0 > aO then 0 else aO):=by
  unfold bP;rw[Bs hf hp _ ⟨h0,bF⟩];rfl
 obtain⟨x,hx,_⟩:=kc (xs:=WA (ak n).length (-1:Int)) (i:=bb (ak n) ar) ⟨h0,by rw[Xz];exact bF⟩
 unfold dZ
 rw[lY,(di hf).1,(di hf).2]
 simp only[VS,n7 hf,decide_eq_false (show ¬bb (ak n) ar<0 by omega),decide_eq_false (show ¬100000<aO by omega),decide_eq_false (show ¬(ay:Int)<0 by omega),cond_false,e0,hx,←Zba,Lp hf hl hc ab _ aO hp ay Zan]
end
section
variable {n:aj} (hf:cI n)
include hf
structure Found(n:aj)(l:List ao)(ae:List au)(aO ab:Int)(t:au):Prop where
 bf:et n t=true
 start:aO≤cd n t
 open_:df ae t=some false
 fy:∃y q,aC n.ay t.bx=some y∧cY l t=some q∧ab≤aL (y.fy-q)
theorem Ji{l:List ao}{ae:List au}{bx aO ab d:Int}(h:cz n l ae bx aO ab=some d):d=-1∨Found n l ae aO ab ⟨bx,d⟩:=by
 unfold cz at h
 cases e:aD (cf n l ae bx aO ab) NN 0 with
 |none=>rw[e]at h;cases h
 |some r=>
  rw[e]at h
  cases r with
  |inl u=>exact .inl (VV h).symm
  |inr d'=>
   obtain rfl:d'=d:=VV h
   refine .inr ?_
   have:=wE (body:=cf n l ae bx aO ab) (P:=fun r=>∀d,r=.inr d→Found n l ae aO ab ⟨bx,d⟩) (fun s o hs=>?_) NN 0 _ e
   ·exact this d' rfl
   ·unfold cf at hs
    by_cases h60:s≤60
    ·rw[decide_eq_true h60,cond_true]at hs
     obtain⟨_,b,hb⟩:=qA hf bx s
     have uX:=hb
     rw[hb,VS]at hs
     intro d hd
     subst hd
     cases b with
     |false=>simp at hs
     |true=>
      have ht:et n ⟨bx,s⟩=true:=by unfold et;rw[uX];rfl
      simp only[cond_true]at hs
      cases h1:bq n ⟨bx,s⟩with
      |none=>rw[h1]at hs;cases hs
      |some v=>
       rw[h1,VS]at hs
       by_cases h2:aO≤v
       ·rw[decide_eq_true h2,cond_true]at hs
        cases h3:df ae ⟨bx,s⟩with
        |none=>rw[h3]at hs;cases hs
        |some c=>
         rw[h3,VS]at hs
         cases c with
         |true=>simp at hs
         |false=>
          simp only[Wz,cond_true]at hs
          cases h4:aC n.ay bx with
          |none=>rw[h4]at hs;cases hs
          |some y=>
           rw[h4,VS]at hs
           cases h5:cY l ⟨bx,s⟩with
           |none=>rw[h5]at hs;cases hs
           |some q=>
            rw[h5,VS]at hs
            by_cases h6:ab≤aL (y.fy-q)
            ·rw[decide_eq_true h6,cond_true]at hs
             have:s=d:=by simpa using hs
             rw[←this]
             exact⟨ht,by unfold cd;rw[h1];exact h2,h3,y,q,h4,h5,h6⟩
            ·rw[decide_eq_false h6]at hs;simp at hs
       ·rw[decide_eq_false h2]at hs;simp at hs
    ·rw[decide_eq_false h60]at hs
     intro d hd
     subst hd
     simp at hs
theorem OS{l:List ao}{ae:List au}{bx aO ab d:Int}(h:cz n l ae bx aO ab=some d):d=-1∨et n ⟨bx,d⟩=true:=by
 rcases Ji hf h with h|h
 ·exact .inl h
 ·exact .inr h.bf
omit hf in
theorem qX{xs:List α}{i:Int}(h0:0≤i)(h1:i<xs.length):aC (xs.set i.toNat v) i=some v:=by
 unfold aC;rw[if_pos h0,Wl (by omega)]
omit hf in
theorem IQ{xs:List α}{i j:Int}(h0:0≤i)(h:j≠i):aC (xs.set i.toNat v) j=aC xs j:=by
 unfold aC
 by_cases hj:0≤j
 ·rw[if_pos hj,if_pos hj,Wt (by omega)]
 ·rw[if_neg hj,if_neg hj]
def qc(r:List Int)(x v:Int):Prop:=∃w,aC r x=some w∧0≤w∧w≤v
def Es(n:aj)(l:List ao)(ae:List au)(ab f:Int)(r:List Int)(i:Nat)(x v:Int):Prop:=
 ∃(y:bM) (d u z:Int),n.ay[i]?=some y∧bb (ak n) y.aV=x∧aC r (bb (ak n) y.ar)=some u∧¬u<0∧cN n u (decide (bb (ak n) y.ar=f))=some z∧cz n l ae (i:Int) z ab=some d∧¬d<0∧bn n ⟨(i:Int),d⟩=some v
theorem SC(hn:aU n=some true){l:List ao}(hl:l.length≤1048576){ae:List au}(hc:ae.length≤1048576)(ab:Int)(hb:gB.length=(ak n).length)(f:Int):
 aI (dK n l ae ab (ak n) gB f) fun r=>(∀x v,aC gB x=some v→0≤v→qc r x v)∧∀x v,u7 n l ae ab f gB x v→qc r x v:=by
 have hp:=JF hf
 have DV:=hf.ay
 unfold dK
 refine aI.bind (P:=fun r=>r=gB) ?_ fun r hr=>?_
 ·by_cases h1:gB.length≤1048576
  ·exact aI.of (xG h1) rfl
  ·unfold dR
   exact aI.cL (jt (by simp only[VY];omega) (by omega)) (aI.ret (by simp))
 ·subst hr
  refine aI.bind (P:=fun o=>(∀x v,aC r x=some v→0≤v→qc o x v)∧∀x v,u7 n l ae ab f r x v→qc o x v) ?_ fun o ho=>aI.ret ho
  refine aI.loop (fun(k:Nat) (s:Int×List Int)=>∃i:Nat,s.1=(i:Int)∧i+k=n.ay.length∧s.2.length=(ak n).length∧(∀x v,aC r x=some v→0≤v→qc s.2 x v)∧∀j,j<i→∀x v,Es n l ae ab f r j x v→qc s.2 x v) (fun k s hs=>?_) NN n.ay.length _ ⟨0,rfl,by omega,hb,fun x v h h0=>⟨v,h,h0,Wv _⟩,fun j hj=>by omega⟩ (by unfold NN;omega)
  obtain⟨i,hi,hk,hlen,hA,hB⟩:=hs
  unfold ew
  rw[hi]
  refine aI.cond (fun hd=>?_) fun hd=>aI.ret ⟨hA,fun x v h=>?_⟩
  case refine_2=>
   obtain⟨j,y,d,u,z,c1,c2⟩:=h
   have h1:=(VU.1 c1).1
   have h2:=of_decide_eq_false hd
   exact hB j (by omega) x v ⟨y,d,u,z,c1,c2⟩
  have bF:=of_decide_eq_true hd
  have hw:aL ((i:Int)+1)=((i+1:Nat):Int):=by rw[aQ (by omega)];omega
  obtain⟨y,hy,hm⟩:=kc (xs:=n.ay) (i:=(i:Int)) ⟨by omega,bF⟩
  obtain⟨m1,m2⟩:=pD hm
  have a0:=mZ m1
  have a1:=(kM (ak n) y.ar).2
  have b0:=mZ m2
  have b1:=(kM (ak n) y.aV).2
  obtain⟨v6,g6,_⟩:=kc (xs:=r) (i:=bb (ak n) y.ar) ⟨a0,by omega⟩
  obtain⟨v11,g11,_⟩:=kc (xs:=s.2) (i:=bb (ak n) y.aV) ⟨b0,by omega⟩
  simp only[hy,VS,n7 hf,g6,hw]
  have hyi:n.ay[i]?=some y:=by rw[aR]at hy;exact hy
  have go:∀(s':List Int),s'.length=(ak n).length→(∀x v,qc s.2 x v→qc s' x v)→(∀x v,Es n l ae ab f r i x v→qc s' x v)→rO (fun(k:Nat) (s:Int×List Int)=>∃i:Nat,s.1=(i:Int)∧i+k=n.ay.length∧s.2.length=(ak n).length∧(∀x v,aC r x=some v→0≤v→qc s.2 x v)∧∀j,j<i→∀x v,Es n l ae ab f r j x v→qc s.2 x v) (fun o:List Int=>(∀x v,aC r x=some v→0≤v→qc o x v)∧∀x v,u7 n l ae ab f r x v→qc o x v) k (XT (((i+1:Nat):Int),s')):=fun s' h1 h2 h3=>
   ⟨k-1,by omega,i+1,rfl,by omega,h1,fun x v h h0=>h2 x v (hA x v h h0),fun j hj x v h=>by
    by_cases wz:j=i
    ·subst wz;exact h3 x v h
    ·exact h2 x v (hB j (by omega) x v h)⟩
  refine aI.cond (fun hu=>aI.ret (go _ hlen (fun x v h=>h) fun x v h=>?_)) fun hu=>?_
  ·exfalso
   obtain⟨y',d,u,z,c1,c2,c3,c4,_⟩:=h
   rw[hyi]at c1
   obtain rfl:=VV c1
   rw[g6]at c3
   obtain rfl:=VV c3
   exact c4 (of_decide_eq_true hu)
  obtain⟨z,ez,_⟩:=wM (n:=n) v6 (decide (bb (ak n) y.ar=f))
  obtain⟨d,ed,_⟩:=CO hf hl hc hy z ab
  have hcI:∀x v,Es n l ae ab f r i x v→¬d<0∧x=bb (ak n) y.aV∧bn n ⟨(i:Int),d⟩=some v:=by
   rintro x v ⟨y',d',u,z',c1,c2,c3,c4,c5,c6,c7,c8⟩
   rw[hyi]at c1
   obtain rfl:=VV c1
   rw[g6]at c3
   obtain rfl:=VV c3
   rw[ez]at c5
   obtain rfl:=VV c5
   rw[ed]at c6
   obtain rfl:=VV c6
   exact⟨c7,c2.symm,c8⟩
  rw[ez,VS,ed,VS]
  refine aI.cond (fun hdd=>aI.ret (go _ hlen (fun x v h=>h) fun x v h=>absurd (of_decide_eq_true hdd) (hcI x v h).1)) fun DU=>?_
  have MR:et n ⟨(i:Int),d⟩=true:=by
   rcases OS hf ed with h|h
   ·subst h;have:=of_decide_eq_false DU;omega
   ·exact h
  obtain⟨e,he⟩:=oK (n:=n) (t:=⟨(i:Int),d⟩) hy
  have he0:0≤e:=by
   obtain⟨_,h2,h3,h4,_⟩:=cH hf hn MR
   rw[he]at h2
   have:=VV h2
   omega
  simp only[he,VS,g11]
  have Zay:=fun(hv:v11<0∨e<v11)=>go (s.2.set (Wo (bb (ak n) y.aV)) e) (by rw[WL];exact hlen) (fun x v h=>by
   obtain⟨w,wA,zK,hw3⟩:=h
   by_cases hx:x=bb (ak n) y.aV
   ·subst hx
    rw[g11]at wA
    obtain rfl:=VV wA
    exact⟨_,qX b0 (by omega),he0,by omega⟩
   ·exact⟨w,by rw[IQ b0 hx];exact wA,zK,hw3⟩) (fun x v h=>by
   obtain⟨_,rfl,h8⟩:=hcI x v h
   rw[he]at h8
   obtain rfl:=VV h8
   exact⟨_,qX b0 (by omega),he0,Wv _⟩)
  refine aI.cond (fun h=>aI.ret (Zay (.inl (of_decide_eq_true h)))) fun h1=>aI.cond (fun h=>aI.ret (Zay (.inr (of_decide_eq_true h)))) fun h2=>aI.ret (go _ hlen (fun x v h=>h) fun x v h=>?_)
  obtain⟨_,rfl,h8⟩:=hcI x v h
  rw[he]at h8
  obtain rfl:=VV h8
  have h1:=of_decide_eq_false h1
  have h2:=of_decide_eq_false h2
  exact⟨v11,g11,by omega,by omega⟩
theorem uq(hn:aU n=some true){l:List ao}(hl:l.length≤1048576){ae:List au}(hc:ae.length≤1048576)(ab f aO:Int)(k:Nat):
 (∀x v,aC (bP n l ae ab f aO k) x=some v→0≤v→qc (bP n l ae ab f aO (k+1)) x v)∧∀x v,u7 n l ae ab f (bP n l ae ab f aO k) x v→qc (bP n l ae ab f aO (k+1)) x v:=by
 obtain⟨r,e,h⟩:=SC hf hn hl hc ab (mc hf hl hc ab f aO k) f
 have h1:=(si hf hl hc ab f aO k).1
 rw[e]at h1
 obtain rfl:=VV h1
 exact h
end
section
variable {n:aj} (hf:cI n)
include hf
omit hf in
theorem UD{l:List ByteArray}(hp:0≤bb l p):decide (bb l p=bb l q)=decide (p=q):=by
 by_cases h:p=q
 ·subst h;simp
 ·rw[decide_eq_false h]
  refine decide_eq_false fun he=>h ?_
  have h1:=pC hp
  have h2:=pC (l:=l) (p:=q) (by omega)
  rw[←he,h1]at h2
  exact VV h2
def P4(n:aj)(l:List ao)(ae:List au)(ab f:Int)(r:List Int)(x v:Int)(t:au):Prop:=
 ∃(i:Nat) (y:bM) (d u z:Int),t=⟨(i:Int),d⟩∧n.ay[i]?=some y∧bb (ak n) y.aV=x∧aC r (bb (ak n) y.ar)=some u∧¬u<0∧cN n u (decide (bb (ak n) y.ar=f))=some z∧cz n l ae (i:Int) z ab=some d∧¬d<0∧bn n ⟨(i:Int),d⟩=some v
theorem E7{l:List ao}(hl:l.length≤1048576){ae:List au}(hc:ae.length≤1048576)(ab:Int){ar:ByteArray}(hb:before.length=(ak n).length){x:Int}(UA:x=bb (ak n) q0)(hx:0≤x∧x<(ak n).length)(e:Int){i:Nat}(hi:i<n.ay.length):
 (iU n l ae ab (ak n) before (bb (ak n) ar) x e (i:Int)=some (.inl ((i+1:Nat):Int))∧fb n n ae l ab (ak n) before ar x e (i:Int)=some (.inl ((i+1:Nat):Int))∧¬Es n l ae ab (bb (ak n) ar) before i x e)∨
 ∃t,iU n l ae ab (ak n) before (bb (ak n) ar) x e (i:Int)=some (.inr (.inr t))∧fb n n ae l ab (ak n) before ar x e (i:Int)=some (.inr (.inr (t,true)))∧P4 n l ae ab (bb (ak n) ar) before x e t:=by
 have DV:=hf.ay
 have hw:aL ((i:Int)+1)=((i+1:Nat):Int):=by rw[aQ (by omega)];omega
 obtain⟨y,hy,hm⟩:=kc (xs:=n.ay) (i:=(i:Int)) ⟨by omega,by omega⟩
 have hyi:n.ay[i]?=some y:=by rw[aR]at hy;exact hy
 obtain⟨m1,m2⟩:=pD hm
 have a0:=mZ m1
 have a1:=(kM (ak n) y.ar).2
 obtain⟨v6,g6,_⟩:=kc (xs:=before) (i:=bb (ak n) y.ar) ⟨a0,by omega⟩
 obtain⟨p,gp,_⟩:=kc (xs:=ak n) (i:=x) hx
 obtain⟨z,ez,_⟩:=wM (n:=n) v6 (decide (bb (ak n) y.ar=bb (ak n) ar))
 obtain⟨d,ed,ef⟩:=MK hf hl hc hy z ab
 obtain⟨v,hv⟩:=oK (n:=n) (t:=⟨(i:Int),d⟩) hy
 have Ot:∀p,bV (ak n) p=some (bb (ak n) p):=fun p=>by rw[lY];exact n7 hf p
 have ez':ko n v6 (decide (y.ar=ar))=some z:=by rw[JL,←UD (l:=ak n) a0];exact ez
 have uQ:∀{P:Prop},(∀y' d' u z',n.ay[i]?=some y'→bb (ak n) y'.aV=x→aC before (bb (ak n) y'.ar)=some u→¬u<0→cN n u (decide (bb (ak n) y'.ar=bb (ak n) ar))=some z'→cz n l ae (i:Int) z' ab=some d'→¬d'<0→bn n ⟨(i:Int),d'⟩=some e→y'=y→u=v6→z'=z→d'=d→False)→¬Es n l ae ab (bb (ak n) ar) before i x e:=by
  rintro _ H ⟨y',d',u,z',c1,c2,c3,c4,c5,c6,c7,c8⟩
  have q1:y'=y:=by rw[hyi]at c1;exact(VV c1).symm
  have q2:u=v6:=by rw[q1,g6]at c3;exact(VV c3).symm
  have q3:z'=z:=by rw[q1,q2,ez]at c5;exact(VV c5).symm
  have q4:d'=d:=by rw[q3,ed]at c6;exact(VV c6).symm
  exact H y' d' u z' c1 c2 c3 c4 c5 c6 c7 c8 q1 q2 q3 q4
 have S:iU n l ae ab (ak n) before (bb (ak n) ar) x e (i:Int)=cond (!decide (y.aV=p)) (some (.inl ((i+1:Nat):Int))) (cond (decide (v6<0)) (some (.inl ((i+1:Nat):Int))) (cond (decide (0≤d)) (cond (decide (v=e)) (some (.inr (.inr ⟨(i:Int),d⟩))) (some (.inl ((i+1:Nat):Int)))) (some (.inl ((i+1:Nat):Int))))):=by
  unfold iU
  simp only[decide_eq_true (show(i:Int)<n.ay.length by omega),cond_true,hy,VS,n7 hf,gp,g6,ez,ed,hv,hw]
 have T:fb n n ae l ab (ak n) before ar x e (i:Int)=cond (!decide (y.aV=p)) (some (.inl ((i+1:Nat):Int))) (cond (decide (v6<0)) (some (.inl ((i+1:Nat):Int))) (cond (decide (0≤d)) (cond (decide (v=e)) (some (.inr (.inr (⟨(i:Int),d⟩,true)))) (some (.inl ((i+1:Nat):Int)))) (some (.inl ((i+1:Nat):Int))))):=by
  unfold fb
  simp only[decide_eq_true (show(i:Int)<n.ay.length by omega),cond_true,hy,VS,Ot,gp,g6,ez',ef,hw,rY]
  by_cases hd:d<0
  ·simp only[if_pos hd,decide_eq_false (show ¬0≤d by omega),cond_false]
  ·simp only[if_neg hd,decide_eq_true (show 0≤d by omega),cond_true,hv,VS]
 rw[S,T]
 by_cases h1:y.aV=p
 ·by_cases h2:v6<0
  ·refine .inl ⟨by simp[h1,h2],by simp[h1,h2],uQ (P:=True) fun y' d' u z' c1 c2 c3 c4 c5 c6 c7 c8 q1 q2 q3 q4=>c4 (by rw[q2];exact h2)⟩
  ·by_cases h3:0≤d
   ·by_cases h4:v=e
    ·refine .inr ⟨⟨(i:Int),d⟩,by simp[h1,h2,h3,h4],by simp[h1,h2,h3,h4],i,y,d,v6,z,rfl,hyi,?_,g6,h2,ez,ed,by omega,by rw[hv,h4]⟩
     have g:=pC (l:=ak n) (p:=q0) (by omega)
     rw[←UA,gp]at g
     rw[h1,VV g,UA]
    ·refine .inl ⟨by simp[h1,h2,h3,h4],by simp[h1,h2,h3,h4],uQ (P:=True) fun y' d' u z' c1 c2 c3 c4 c5 c6 c7 c8 q1 q2 q3 q4=>h4 (by rw[q4,hv]at c8;exact VV c8)⟩
   ·refine .inl ⟨by simp[h1,h2,h3],by simp[h1,h2,h3],uQ (P:=True) fun y' d' u z' c1 c2 c3 c4 c5 c6 c7 c8 q1 q2 q3 q4=>c7 (by rw[q4];omega)⟩
 ·refine .inl ⟨by simp[h1],by simp[h1],uQ (P:=True) fun y' d' u z' c1 c2 c3 c4 c5 c6 c7 c8 q1 q2 q3 q4=>h1 ?_⟩
  rw[q1]at c2
  have g:=pC (mZ m2)
  rw[c2,gp]at g
  exact(VV g).symm
theorem E6{l:List ao}(hl:l.length≤1048576){ae:List au}(hc:ae.length≤1048576)(ab:Int){ar:ByteArray}(hb:before.length=(ak n).length){x:Int}(UA:x=bb (ak n) q0)(hx:0≤x∧x<(ak n).length)(e:Int)(Gl:u7 n l ae ab (bb (ak n) ar) before x e):
 ∃t,pn n l ae ab (ak n) before (bb (ak n) ar) x e=some t∧kq n n ae l ab (ak n) before ar x e=some (t,true)∧P4 n l ae ab (bb (ak n) ar) before x e t:=by
 have DV:=hf.ay
 obtain⟨i0,hci⟩:=Gl
 have Ur:i0<n.ay.length:=by obtain⟨y,_,_,_,c1,_⟩:=hci;exact(VU.1 c1).1
 have key:∀(d i:Nat),i+d=i0→∀N,d<N→∃t,aD (iU n l ae ab (ak n) before (bb (ak n) ar) x e) N (i:Int)=some (.inr t)∧aD (fb n n ae l ab (ak n) before ar x e) N (i:Int)=some (.inr (t,true))∧P4 n l ae ab (bb (ak n) ar) before x e t:=by
  intro d
  induction d with
  |zero=>
   intro i hi N hN
   obtain⟨N,rfl⟩:∃M,N=M+1:=⟨N-1,by omega⟩
   rcases E7 hf hl hc ab hb UA hx e (ar:=ar) (i:=i) (by omega)with⟨_,_,h⟩ |⟨t,h1,h2,h3⟩
   ·exact absurd ((show i=i0 by omega)▸hci) h
   ·exact⟨t,by unfold aD;rw[h1];rfl,by unfold aD;rw[h2];rfl,h3⟩
  |succ d ih=>
   intro i hi N hN
   obtain⟨N,rfl⟩:∃M,N=M+1:=⟨N-1,by omega⟩
   rcases E7 hf hl hc ab hb UA hx e (ar:=ar) (i:=i) (by omega)with⟨h1,h2,_⟩ |⟨t,h1,h2,h3⟩
   ·obtain⟨t,q1,q2,q3⟩:=ih (i+1) (by omega) N (by omega)
    exact⟨t,by unfold aD;rw[h1];exact q1,by unfold aD;rw[h2];exact q2,q3⟩
   ·exact⟨t,by unfold aD;rw[h1];rfl,by unfold aD;rw[h2];rfl,h3⟩
 obtain⟨t,h1,h2,h3⟩:=key i0 0 (by omega) NN (by unfold NN;omega)
 have e0:((0:Nat):Int)=0:=rfl
 rw[e0]at h1 h2
 exact⟨t,by unfold pn;rw[h1];rfl,by unfold kq;rw[h2];rfl,h3⟩
omit hf in
theorem Sy{o:List au}(h:o.length≤1048576):aD (ic o) NN ((aL ((o.length:Int)-1)),([]:List au))=some o.reverse:=by
 have key:∀(m:Nat),m≤o.length→∀N,m<N→aD (ic o) N ((m:Int)-1,(o.drop m).reverse)=some o.reverse:=by
  intro m
  induction m with
  |zero=>
   intro hm N hN
   obtain⟨N,rfl⟩:∃M,N=M+1:=⟨N-1,by omega⟩
   unfold aD ic
   simp
  |succ m ih=>
   intro hm N hN
   obtain⟨N,rfl⟩:∃M,N=M+1:=⟨N-1,by omega⟩
   have hg:aC o (((m+1:Nat):Int)-1)=some o[m]:=by
    rw[show((m+1:Nat):Int)-1=(m:Int)by omega,aR];exact VT (by omega)
   have hw:aL (((m+1:Nat):Int)-1-1)=(m:Int)-1:=by rw[aQ (by omega)];omega
   have ha:cL (bo ((o.drop (m+1)).reverse.length+([o[m]]:List au).length) 16)=some ():=eR (by simp only[List.length_reverse,WK,VX,VY];omega) (by omega)
   have hd:o.drop m=o[m]::o.drop (m+1):=YB (by omega)
   have q:=ih (by omega) N (by omega)
   rw[hd,List.reverse_cons]at q
   unfold aD
   unfold ic
   simp only[decide_eq_true (show(0:Int)≤((m+1:Nat):Int)-1 by omega),cond_true,hg,VS,ha,hw]
   exact q
 have:=key o.length (V3 _) NN (by unfold NN;omega)
 rw[List.drop_length]at this
 rw[aQ (by omega)]
 exact this
def FZ(n:aj)(l:List ao)(ae:List au)(ab f aO:Int):List (List Int):=(WO ((ak n).length+1)).map (bP n l ae ab f aO)
omit hf in
theorem ye{l:List ao}{ae:List au}{ab f aO:Int}(hk:k≤(ak n).length):aC (FZ n l ae ab f aO) (k:Int)=some (bP n l ae ab f aO k):=by
 rw[aR];unfold FZ
 rw[Wj,List.getElem?_range (by omega)];rfl
theorem NX(hn:aU n=some true){l:List ao}(hl:l.length≤1048576){ae:List au}(hc:ae.length≤1048576)(ab:Int){ar:ByteArray}(aO:Int)
 (hC:bJ n l=true∧0≤bb (ak n) ar∧aO≤100000∧1≤ab):
 ∀(k:Nat) (q0:ByteArray) (x e:Int) (back:List au),x=bb (ak n) q0→0≤x→aC (bP n l ae ab (bb (ak n) ar) aO k) x=some e→0≤e→(k=0∨¬aC (bP n l ae ab (bb (ak n) ar) aO (k-1)) x=some e)→back.length+k≤(ak n).length→∀N,k<N→
  ∃Ib,aD (dQ n l ae ar aO ab (ak n) (bb (ak n) ar)) N (x,e,(k:Int),back.reverse)=some Ib.reverse∧aD (ib n n ae l ab ar (ak n) (FZ n l ae ab (bb (ak n) ar) aO)) N (x,e,(k:Int),back)=some (.inl Ib)∧Ib.length≤(ak n).length:=by
 have hlg:=qv hn
 have hp:(ak n).length≤40:=by have:=eA n;omega
 intro k
 induction k with
 |zero=>
  intro q0 x e back UA hx hg he Eb hlen N hN
  obtain⟨N,rfl⟩:∃M,N=M+1:=⟨N-1,by omega⟩
  refine⟨back,?_,?_,by omega⟩
  ·unfold aD dQ;simp
  ·unfold aD ib;simp
 |succ k ih=>
  intro q0 x e back UA hx hg he Eb hlen N hN
  obtain⟨N,rfl⟩:∃M,N=M+1:=⟨N-1,by omega⟩
  have uk:=mc hf hl hc ab (bb (ak n) ar) aO
  have hnx:¬aC (bP n l ae ab (bb (ak n) ar) aO k) x=some e:=by
   rcases Eb with h|h
   ·omega
   ·exact h
  have Gl:u7 n l ae ab (bb (ak n) ar) (bP n l ae ab (bb (ak n) ar) aO k) x e:=by
   rcases(si hf hl hc ab (bb (ak n) ar) aO k).2 x e hg with h|h
   ·exact absurd h hnx
   ·exact h
  have hxl:x<(ak n).length:=by rw[UA];exact(kM (ak n) q0).2
  obtain⟨t,hs,hi,i,y,d,u,z,rfl,c1,c2,c3,c4,c5,c6,c7,c8⟩:=E6 hf hl hc ab (uk k) UA ⟨hx,hxl⟩ e Gl
  have hfb:=oL hf hl hc ab aO hC (k:=k) (by omega)
  have hw:aL (((k+1:Nat):Int)-1)=(k:Int):=by rw[aQ (by omega)];omega
  have hy:aC n.ay (i:Int)=some y:=by rw[aR];exact c1
  have ha1:cL (bo (([⟨(i:Int),d⟩]:List au).length+back.reverse.length) 16)=some ():=eR (by simp only[List.length_reverse,VX,VY];omega) (by omega)
  have ha2:cL (bo (back.length+([⟨(i:Int),d⟩]:List au).length) 16)=some ():=eR (by simp only[VX,VY];omega) (by omega)
  have CA:=ye (n:=n) (l:=l) (ae:=ae) (ab:=ab) (f:=bb (ak n) ar) (aO:=aO) (k:=k) (by omega)
  have Ot:bV (ak n) y.ar=some (bb (ak n) y.ar):=by rw[lY];exact n7 hf _
  have a0:=mZ (pD (VW c1)).1
  obtain⟨Ib,q1,q2,q3⟩:=ih y.ar (bb (ak n) y.ar) u (back++[⟨(i:Int),d⟩]) rfl a0 c3 (by omega) (by
   by_cases xz:k=0
   ·exact .inl xz
   ·refine .inr fun hu=>hnx ?_
    obtain⟨k',rfl⟩:∃k',k=k'+1:=⟨k-1,by omega⟩
    have uY:=(uq hf hn hl hc ab (bb (ak n) ar) aO k').2 x e ⟨i,y,d,u,z,c1,c2,hu,c4,c5,c6,c7,c8⟩
    obtain⟨w,w1,w2,w3⟩:=uY
    obtain⟨w',v1,v2,v3⟩:=(uq hf hn hl hc ab (bb (ak n) ar) aO (k'+1)).1 x w w1 w2
    rw[hg]at v1
    obtain rfl:=VV v1
    rw[w1,show w=e by omega]) (by simp only[V2,VX,VY];omega) N (by omega)
  refine⟨Ib,?_,?_,q3⟩
  ·have hb:dQ n l ae ar aO ab (ak n) (bb (ak n) ar) (x,e,((k+1:Nat):Int),back.reverse)=some (.inl (bb (ak n) y.ar,u,(k:Int),[⟨(i:Int),d⟩]++back.reverse)):=by
    unfold dQ
    simp only[decide_eq_true (show(0:Int)<((k+1:Nat):Int)by omega),cond_true,hw,hfb,VS,hs,ha1,hy,n7 hf,c3]
   rw[List.reverse_append,List.reverse_singleton]at q1
   unfold aD
   rw[hb]
   exact q1
  ·have hb:ib n n ae l ab ar (ak n) (FZ n l ae ab (bb (ak n) ar) aO) (x,e,((k+1:Nat):Int),back)=some (.inl (bb (ak n) y.ar,u,(k:Int),back++[⟨(i:Int),d⟩])):=by
    unfold ib
    simp only[decide_eq_true (show(0:Int)<((k+1:Nat):Int)by omega),cond_true,hw,CA,VS,hi,V0,cond_false,ha2,hy,Ot,c3]
   unfold aD
   rw[hb]
   exact q2
theorem xt{l:List ao}(hl:l.length≤1048576){ae:List au}(hc:ae.length≤1048576)(ab:Int){ar:ByteArray}(aO:Int)(hp:(ak n).length≤40)
 (hC:bJ n l=true∧0≤bb (ak n) ar∧aO≤100000∧1≤ab) {x e:Int} (hx:0≤x∧x<(ak n).length) (hg:aC (bP n l ae ab (bb (ak n) ar) aO (ak n).length) x=some e):
 ∃k:Nat,k≤(ak n).length∧aC (bP n l ae ab (bb (ak n) ar) aO k) x=some e∧(k=0∨¬aC (bP n l ae ab (bb (ak n) ar) aO (k-1)) x=some e)∧
  aD (ft n l ae ar aO ab (ak n) (bb (ak n) ar) x e) NN 0=some (k:Int)∧aD (e9 n n ae l ab ar (ak n) x (FZ n l ae ab (bb (ak n) ar) aO) e) NN 0=some (k:Int):=by
 have uk:=mc hf hl hc ab (bb (ak n) ar) aO
 have key:∀(dd i:Nat),i+dd=(ak n).length→(i=0∨¬aC (bP n l ae ab (bb (ak n) ar) aO (i-1)) x=some e)→∀N,dd<N→
  ∃k:Nat,k≤(ak n).length∧aC (bP n l ae ab (bb (ak n) ar) aO k) x=some e∧(k=0∨¬aC (bP n l ae ab (bb (ak n) ar) aO (k-1)) x=some e)∧
  aD (ft n l ae ar aO ab (ak n) (bb (ak n) ar) x e) N (i:Int)=some (k:Int)∧aD (e9 n n ae l ab ar (ak n) x (FZ n l ae ab (bb (ak n) ar) aO) e) N (i:Int)=some (k:Int):=by
  intro dd
  induction dd with
  |zero=>
   intro i hi h0 N hN
   obtain⟨N,rfl⟩:∃M,N=M+1:=⟨N-1,by omega⟩
   obtain rfl:i=(ak n).length:=by omega
   refine⟨(ak n).length,V3 _,hg,h0,?_,?_⟩
   ·unfold aD ft
    simp only[oL hf hl hc ab aO hC (V3 _),VS,hg,decide_true,V0,cond_false]
   ·unfold aD e9
    simp only[ye (V3 _),VS,hg,decide_true,V0,cond_false]
  |succ dd ih=>
   intro i hi h0 N hN
   obtain⟨N,rfl⟩:∃M,N=M+1:=⟨N-1,by omega⟩
   have hw:aL ((i:Int)+1)=((i+1:Nat):Int):=by rw[aQ (by omega)];omega
   obtain⟨v,hv,_⟩:=kc (xs:=bP n l ae ab (bb (ak n) ar) aO i) (i:=x) ⟨hx.1,by rw[uk];exact hx.2⟩
   by_cases hve:v=e
   ·subst hve
    refine⟨i,by omega,hv,h0,?_,?_⟩
    ·unfold aD ft
     simp only[oL hf hl hc ab aO hC (show i≤(ak n).length by omega),VS,hv,decide_true,V0,cond_false]
    ·unfold aD e9
     simp only[ye (show i≤(ak n).length by omega),VS,hv,decide_true,V0,cond_false]
   ·obtain⟨k,q1,q2,q3,q4,q5⟩:=ih (i+1) (by omega) (.inr (by rw[Xl,hv];simpa using hve)) N (by omega)
    refine⟨k,q1,q2,q3,?_,?_⟩
    ·have hb:ft n l ae ar aO ab (ak n) (bb (ak n) ar) x e (i:Int)=some (.inl ((i+1:Nat):Int)):=by
      unfold ft
      simp only[oL hf hl hc ab aO hC (show i≤(ak n).length by omega),VS,hv,decide_eq_false hve,Wz,cond_true,hw]
     unfold aD
     rw[hb]
     exact q4
    ·have hb:e9 n n ae l ab ar (ak n) x (FZ n l ae ab (bb (ak n) ar) aO) e (i:Int)=some (.inl ((i+1:Nat):Int)):=by
      unfold e9
      simp only[ye (show i≤(ak n).length by omega),VS,hv,decide_eq_false hve,Wz,cond_true,hw]
     unfold aD
     rw[hb]
     exact q5
 obtain⟨k,q1,q2,q3,q4,q5⟩:=key (ak n).length 0 (by omega) (.inl rfl) NN (by unfold NN;omega)
 exact⟨k,q1,q2,q3,q4,q5⟩
theorem H9{l:List ao}{ae:List au}(ab:Int){ar:ByteArray}{aO:Int}(h:bb (ak n) ar<0∨100000<aO)(ay:Int):dZ n n ae l ab ar aO ay=some []:=by
 unfold dZ
 rw[lY,(di hf).1,(di hf).2]
 simp only[VS,n7 hf]
 by_cases h1:bb (ak n) ar<0
 ·simp only[decide_eq_true h1,cond_true]
 ·simp only[decide_eq_false h1,cond_false,decide_eq_true (show 100000<aO by omega),cond_true]
theorem nF{l:List ao}(hl:l.length≤1048576){ae:List au}(hc:ae.length≤1048576)(ar aV:ByteArray)(aO ab:Int):
 ∃r,il n l ae ar aV aO ab=some r∧bE n l ae ar aV aO ab=some r:=by
 have ZfN:=JF hf
 have Ot:∀p,bV (ak n) p=some (bb (ak n) p):=fun p=>by rw[lY];exact n7 hf p
 unfold il bE qZ oR
 rw[vA hf hl,(di hf).1,(di hf).2]
 simp only[VS,n7 hf,Ot]
 by_cases hB:bJ n l=true
 case neg=>
  have hB:bJ n l=false:=by simpa using hB
  have e:dc n l ae ar aO ab ((ak n).length:Int)=some []:=by
   unfold dc
   rw[(di hf).2]
   simp only[VS,n7 hf,iv hf hl,hB,Wz,cond_true]
  refine⟨([],false),by simp only[hB,Wz,cond_true],?_⟩
  simp only[e,VS]
  by_cases h:bb (ak n) aV<0
  ·simp only[decide_eq_true h,cond_true]
  ·simp only[decide_eq_false h,cond_false,VY];rfl
 have hn:=(cW hB).1
 have hlg:=qv hn
 have hp:(ak n).length≤40:=by have:=eA n;omega
 simp only[hB,V0,cond_false]
 by_cases wA:ab<1
 ·have e:dc n l ae ar aO ab ((ak n).length:Int)=some []:=by
   unfold dc
   rw[(di hf).2]
   simp only[VS,n7 hf,iv hf hl,hB,V0,cond_false,decide_eq_true wA,cond_true]
   by_cases h1:bb (ak n) ar<0
   ·simp only[decide_eq_true h1,cond_true]
   ·by_cases h2:100000<aO
    ·simp only[decide_eq_false h1,decide_eq_true h2,cond_true,cond_false]
    ·simp only[decide_eq_false h1,decide_eq_false h2,cond_false]
  refine⟨([],false),by simp only[decide_eq_true wA,cond_true],?_⟩
  simp only[e,VS]
  by_cases h:bb (ak n) aV<0
  ·simp only[decide_eq_true h,cond_true]
  ·simp only[decide_eq_false h,cond_false,VY];rfl
 simp only[decide_eq_false wA,cond_false]
 by_cases hA:bb (ak n) ar<0∨100000<aO
 ·have e:dc n l ae ar aO ab ((ak n).length:Int)=some []:=by
   unfold dc
   rw[(di hf).2]
   simp only[VS,n7 hf,iv hf hl,hB,V0,cond_false]
   by_cases h1:bb (ak n) ar<0
   ·simp only[decide_eq_true h1,cond_true]
   ·simp only[decide_eq_false h1,cond_false,decide_eq_true (show 100000<aO by omega),cond_true]
  have e0:aD (dE n n ae l ab ar aO (ak n) (bb (ak n) aV)) NN (0,([]:List (List Int)))=some (.inr ([],false)):=by
   obtain⟨N,hN⟩:∃N,NN=N+1:=⟨NN-1,by unfold NN;omega⟩
   rw[hN]
   unfold aD dE
   simp only[decide_eq_true (show(0:Int)≤((ak n).length:Int)by omega),cond_true,H9 hf ab hA,VS,VY]
   rfl
  refine⟨([],false),by rw[e0];rfl,?_⟩
  simp only[e,VS]
  by_cases h:bb (ak n) aV<0
  ·simp only[decide_eq_true h,cond_true]
  ·simp only[decide_eq_false h,cond_false,VY];rfl
 have hC:bJ n l=true∧0≤bb (ak n) ar∧aO≤100000∧1≤ab:=⟨hB,by omega,by omega,by omega⟩
 have uk:=mc hf hl hc ab (bb (ak n) ar) aO
 have EV:=(kM (ak n) ar).2
 have hav:=fun(k:Nat) (hk:k≤(ak n).length)=>BW hf hl hc ab hC.2.1 hC.2.2.1 (by omega) k (by omega)
 by_cases ht:bb (ak n) aV<0
 ·have e0:aD (dE n n ae l ab ar aO (ak n) (bb (ak n) aV)) NN (0,([]:List (List Int)))=some (.inr ([],false)):=by
   obtain⟨N,hN⟩:∃N,NN=N+1:=⟨NN-1,by unfold NN;omega⟩
   rw[hN]
   have h0:=hav 0 (by omega)
   rw[show((0:Nat):Int)=0 from rfl]at h0
   unfold aD dE
   simp only[decide_eq_true (show(0:Int)≤((ak n).length:Int)by omega),cond_true,h0,VS,decide_eq_true ht]
   cases decide (((bP n l ae ab (bb (ak n) ar) aO 0).length:Int)=0)<;>rfl
  have hfb:=oL hf hl hc ab aO hC (k:=(ak n).length) (V3 _)
  refine⟨([],false),by rw[e0];rfl,?_⟩
  simp only[hfb,VS,decide_eq_true ht,cond_true]
 have e0:aD (dE n n ae l ab ar aO (ak n) (bb (ak n) aV)) NN (0,([]:List (List Int)))=some (.inl (FZ n l ae ab (bb (ak n) ar) aO)):=by
  refine lp (body:=dE n n ae l ab ar aO (ak n) (bb (ak n) aV)) (fun i:Nat=>((i:Int),(WO i).map (bP n l ae ab (bb (ak n) ar) aO))) (n:=(ak n).length+1) (o:=.inl (FZ n l ae ab (bb (ak n) ar) aO)) (fun i hi=>?_) ?_ NN (by unfold NN;omega)
  ·have hw:aL ((i:Int)+1)=((i+1:Nat):Int):=by rw[aQ (by omega)];omega
   have ha:cL (bo (((WO i).map (bP n l ae ab (bb (ak n) ar) aO)).length+([bP n l ae ab (bb (ak n) ar) aO i]:List (List Int)).length) 24)=some ():=eR (by simp only[Wg,List.length_range,VX,VY];omega) (by omega)
   unfold dE
   simp only[decide_eq_true (show(i:Int)≤((ak n).length:Int)by omega),cond_true,hav i (by omega),VS,decide_eq_false (show ¬(((bP n l ae ab (bb (ak n) ar) aO i).length:Int)=0)by rw[uk];omega),cond_false,decide_eq_false ht,A8,ha,hw,List.range_succ,Xq,Wx,List.map_nil]
  ·unfold dE
   simp only[decide_eq_false (show ¬(((ak n).length+1:Nat):Int)≤((ak n).length:Int)by omega),cond_false]
   rfl
 have PW:=(kM (ak n) aV).2
 obtain⟨dX,Un,_⟩:=kc (xs:=bP n l ae ab (bb (ak n) ar) aO (ak n).length) (i:=bb (ak n) aV) ⟨by omega,by rw[uk];exact PW⟩
 rw[e0]
 simp only[VS,bl,ye (V3 _),Un,oL hf hl hc ab aO hC (V3 _),decide_eq_false ht,cond_false,decide_eq_false (show ¬(((bP n l ae ab (bb (ak n) ar) aO (ak n).length).length:Int)=0)by rw[uk];omega)]
 by_cases hd:dX<0
 ·exact⟨([],false),by simp only[decide_eq_true hd,cond_true];rfl,by simp only[decide_eq_true hd,cond_true]⟩
 simp only[decide_eq_false hd,cond_false]
 obtain⟨k,q1,q2,q3,q4,q5⟩:=xt hf hl hc ab aO hp hC ⟨by omega,PW⟩ Un
 obtain⟨back,b1,b2,b3⟩:=NX hf hn hl hc ab aO hC k aV (bb (ak n) aV) dX [] rfl (by omega) q2 (by omega) q3 (by simp only[VY];omega) NN (by unfold NN;omega)
 rw[List.reverse_nil]at b1
 refine⟨(back.reverse,true),?_,?_⟩
 ·simp only[q5,VS,b2,bl,Sy (show back.length≤1048576 by omega)]
 ·simp only[q4,VS,b1]
end
inductive BL(n:aj)(l:List ao)(ae:List au)(ab:Int)(ar:ByteArray)(aO:Int):Nat→ByteArray→Int→List au→Prop
 |nil {q:ByteArray} {e:Int} (h0:0≤bb (ak n) q) (hg:aC (bP n l ae ab (bb (ak n) ar) aO 0) (bb (ak n) q)=some e) (he:0≤e):BL n l ae ab ar aO 0 q e []
 |snoc {k:Nat} {y:bM} {u z d e:Int} {i:Nat} {aE:List au} (hp:BL n l ae ab ar aO k y.ar u aE) (c1:n.ay[i]?=some y)
  (hg:aC (bP n l ae ab (bb (ak n) ar) aO (k+1)) (bb (ak n) y.aV)=some e)
  (c5:cN n u (decide (bb (ak n) y.ar=bb (ak n) ar))=some z) (c6:cz n l ae (i:Int) z ab=some d) (c7:¬d<0) (c8:bn n ⟨(i:Int),d⟩=some e):BL n l ae ab ar aO (k+1) y.aV e (aE++[⟨(i:Int),d⟩])
section
variable {n:aj} (hf:cI n)
include hf
theorem M7(hn:aU n=some true){l:List ao}(hl:l.length≤1048576){ae:List au}(hc:ae.length≤1048576)(ab:Int){ar:ByteArray}(aO:Int)
 (hC:bJ n l=true∧0≤bb (ak n) ar∧aO≤100000∧1≤ab):
 ∀(k:Nat) (q0:ByteArray) (e:Int) (tail:List au),0≤bb (ak n) q0→aC (bP n l ae ab (bb (ak n) ar) aO k) (bb (ak n) q0)=some e→0≤e→(k=0∨¬aC (bP n l ae ab (bb (ak n) ar) aO (k-1)) (bb (ak n) q0)=some e)→tail.length+k≤(ak n).length→∀N,k<N→
  ∃aE,aD (dQ n l ae ar aO ab (ak n) (bb (ak n) ar)) N (bb (ak n) q0,e,(k:Int),tail)=some (aE++tail)∧BL n l ae ab ar aO k q0 e aE:=by
 have hlg:=qv hn
 have hp:(ak n).length≤40:=by have:=eA n;omega
 intro k
 induction k with
 |zero=>
  intro q0 e tail hx hg he Eb hlen N hN
  obtain⟨N,rfl⟩:∃M,N=M+1:=⟨N-1,by omega⟩
  exact⟨[],by unfold aD dQ;simp,.nil hx hg he⟩
 |succ k ih=>
  intro q0 e tail hx hg he Eb hlen N hN
  obtain⟨N,rfl⟩:∃M,N=M+1:=⟨N-1,by omega⟩
  have uk:=mc hf hl hc ab (bb (ak n) ar) aO
  have hnx:¬aC (bP n l ae ab (bb (ak n) ar) aO k) (bb (ak n) q0)=some e:=by
   rcases Eb with h|h
   ·omega
   ·exact h
  have Gl:u7 n l ae ab (bb (ak n) ar) (bP n l ae ab (bb (ak n) ar) aO k) (bb (ak n) q0) e:=by
   rcases(si hf hl hc ab (bb (ak n) ar) aO k).2 _ e hg with h|h
   ·exact absurd h hnx
   ·exact h
  have hxl:=(kM (ak n) q0).2
  obtain⟨t,hs,hi,i,y,d,u,z,rfl,c1,c2,c3,c4,c5,c6,c7,c8⟩:=E6 hf hl hc ab (uk k) (q0:=q0) rfl ⟨hx,hxl⟩ e Gl
  have hfb:=oL hf hl hc ab aO hC (k:=k) (by omega)
  have hw:aL (((k+1:Nat):Int)-1)=(k:Int):=by rw[aQ (by omega)];omega
  have hy:aC n.ay (i:Int)=some y:=by rw[aR];exact c1
  have ha1:cL (bo (([⟨(i:Int),d⟩]:List au).length+tail.length) 16)=some ():=eR (by simp only[VX,VY];omega) (by omega)
  obtain⟨m1,m2⟩:=pD (VW c1)
  have a0:=mZ m1
  obtain⟨aE,q1,q2⟩:=ih y.ar u ([⟨(i:Int),d⟩]++tail) a0 c3 (by omega) (by
   by_cases xz:k=0
   ·exact .inl xz
   ·refine .inr fun hu=>hnx ?_
    obtain⟨k',rfl⟩:∃k',k=k'+1:=⟨k-1,by omega⟩
    have uY:=(uq hf hn hl hc ab (bb (ak n) ar) aO k').2 _ e ⟨i,y,d,u,z,c1,c2,hu,c4,c5,c6,c7,c8⟩
    obtain⟨w,w1,w2,w3⟩:=uY
    obtain⟨w',v1,v2,v3⟩:=(uq hf hn hl hc ab (bb (ak n) ar) aO (k'+1)).1 _ w w1 w2
    rw[hg]at v1
    obtain rfl:=VV v1
    rw[w1,show w=e by omega]) (by simp only[V2,VX,VY];omega) N (by omega)
  have hq:y.aV=q0:=by
   have g1:=pC (mZ m2)
   have g2:=pC hx
   rw[c2,g2]at g1
   exact(VV g1).symm
  refine⟨aE++[⟨(i:Int),d⟩],?_,?_⟩
  ·have hb:dQ n l ae ar aO ab (ak n) (bb (ak n) ar) (bb (ak n) q0,e,((k+1:Nat):Int),tail)=some (.inl (bb (ak n) y.ar,u,(k:Int),[⟨(i:Int),d⟩]++tail)):=by
    unfold dQ
    simp only[decide_eq_true (show(0:Int)<((k+1:Nat):Int)by omega),cond_true,hw,hfb,VS,hs,ha1,hy,n7 hf,c3]
   unfold aD
   rw[hb,Xb]
   exact q1
  ·subst hq
   exact .snoc q2 c1 hg c5 c6 c7 c8
omit hf in
theorem Cf{t:au}(ht:et n t=true):∀(aE:List au) (p:ByteArray) (a:Int),gy n p a aE→(aE=[]→jc n t=p∧a≤cd n t)→(∀t',aE.getLast?=some t'→jc n t=bU n t'∧cS n t'+n.change≤cd n t)→gy n p a (aE++[t])
 | [],p,a,_,h1,_=>⟨ht,(h1 rfl).1,(h1 rfl).2,trivial⟩
 |x::aE,p,a,hc,h1,h2=>by
  obtain⟨c1,c2,c3,c4⟩:=hc
  refine⟨c1,c2,c3,Cf ht aE _ _ c4 (fun hw=>?_) fun t' h=>?_⟩
  ·subst hw
   exact h2 x rfl
  ·cases aE with
   |nil=>simp at h
   |cons y ys=>exact h2 t' (by rw[W5];exact h)
omit hf in
theorem zQ:∀(m:Nat) (l:List Nat),l.Nodup→(∀x∈l,x<m)→l.length≤m
 |0,l,_,h=>by
  cases l with
  |nil=>simp
  |cons x xs=>have:=h x (by simp);omega
 |m+1,l,hn,h=>by
  have h1:=zQ m (l.erase m) (hn.erase m) fun x hx=>by
   have h2:=(List.Nodup.mem_erase_iff hn).1 hx
   have:=h x h2.2
   have h3:=h2.1
   omega
  have h4:l.length≤(l.erase m).length+1:=by rw[List.length_erase];split<;>omega
  omega
section
variable (hn:aU n=some true) {l:List ao} (hl:l.length≤1048576) {ae:List au} (hc:ae.length≤1048576) (ab:Int) {ar:ByteArray} (aO:Int) (Ko:0≤bb (ak n) ar) (Bb:aO≤100000)
include hn hl hc Ko Bb
omit Ko Bb in
theorem sh(f:Int){x u:Int}{j:Nat}(hg:aC (bP n l ae ab f aO j) x=some u)(h0:0≤u):∀d,qc (bP n l ae ab f aO (j+d)) x u
 |0=>⟨u,hg,h0,Wv _⟩
 |d+1=>by
  obtain⟨w,w1,w2,w3⟩:=sh f hg h0 d
  obtain⟨w',v1,v2,v3⟩:=(uq hf hn hl hc ab f aO (j+d)).1 x w w1 w2
  exact⟨w',v1,v2,by omega⟩
structure ZaF(n:aj)(l:List ao)(ae:List au)(ab:Int)(ar:ByteArray)(aO:Int)(k:Nat)(q:ByteArray)(e:Int)(aE:List au):Prop where
 time:0≤e∧e≤100000
 seen:∀p∈ar::aE.map (bU n),∃(j:Nat) (u:Int),j≤k∧aC (bP n l ae ab (bb (ak n) ar) aO j) (bb (ak n) p)=some u∧0≤u∧u≤e
 nodup:(ar::aE.map (bU n)).Nodup
 last:(ar::aE.map (bU n)).getLast?=some q
 chain:gy n ar (if 0 > aO then 0 else aO) aE
 ends:aE=[]∧e=(if 0 > aO then 0 else aO)∨∃t,aE.getLast?=some t∧cS n t=e
 found:∀t∈aE,df ae t=some false∧∃y q,aC n.ay t.bx=some y∧cY l t=some q∧ab≤aL (y.fy-q)
 idx:0≤bb (ak n) q
theorem Vc{aE:List au}(h:BL n l ae ab ar aO k q e aE):ZaF n l ae ab ar aO k q e aE:=by
 have hlg:=qv hn
 have hp:(ak n).length≤40:=by have:=eA n;omega
 have bF:=(kM (ak n) ar).2
 induction h with
 |nil h0 hg he=>
  rename_i q e
  have hb:bP n l ae ab (bb (ak n) ar) aO 0=(WA (ak n).length (-1:Int)).set (bb (ak n) ar).toNat (if 0 > aO then 0 else aO):=by
   unfold bP;rw[Bs hf (by omega) _ ⟨Ko,bF⟩];rfl
  rw[hb]at hg
  have hq:bb (ak n) q=bb (ak n) ar∧e=(if 0 > aO then 0 else aO):=by
   rcases IP Ko hg with⟨a,b⟩ |h
   ·exact⟨a,b⟩
   ·exfalso
    obtain⟨_,h2⟩:=iH h
    have:=VW h2
    have:=List.eq_of_mem_replicate this
    omega
  have hqf:ar=q:=by
   have g1:=pC h0
   have g2:=pC Ko
   rw[hq.1,g2]at g1
   exact VV g1
  subst hqf
  have he2:=hq.2
  refine⟨⟨he,by rw[he2];split<;>omega⟩,fun p hp=>?_,by simp,rfl,trivial,.inl ⟨rfl,he2⟩,fun t ht=>by simp at ht,Ko⟩
  have:p=ar:=by simpa using hp
  subst this
  exact⟨0,e,V3 _,by rw[hb];exact hg,he,Wv _⟩
 |snoc hpt c1 hg c5 c6 c7 c8 ih=>
  rename_i k y u z d e i aE
  have Zc8:aC n.ay (i:Int)=some y:=by rw[aR];exact c1
  have hfo:Found n l ae z ab ⟨(i:Int),d⟩:=by
   rcases Ji hf c6 with h|h
   ·omega
   ·exact h
  obtain⟨_,t2,t3,t4,t5⟩:=cH hf hn hfo.bf
  have hee:cS n ⟨(i:Int),d⟩=e:=by rw[c8]at t2;exact(VV t2).symm
  have EZ:bU n ⟨(i:Int),d⟩=y.aV:=by unfold bU;rw[Zc8];rfl
  have Zam:jc n ⟨(i:Int),d⟩=y.ar:=by unfold jc;rw[Zc8];rfl
  obtain⟨n0,n1⟩:=gm hn
  have hz:z=if bb (ak n) y.ar=bb (ak n) ar then u else u+n.change:=by
   unfold cN at c5
   by_cases h:bb (ak n) y.ar=bb (ak n) ar
   ·rw[decide_eq_true h,cond_true]at c5;rw[if_pos h];exact(VV c5).symm
   ·rw[decide_eq_false h,cond_false,aQ (by have:=ih.time;omega)]at c5;rw[if_neg h];exact(VV c5).symm
  have hzu:u≤z:=by rw[hz];split<;>omega
  have rD:=hfo.start
  have hue:u<e:=by omega
  obtain⟨m1,m2⟩:=pD (VW c1)
  have Gq:∀p∈ar::aE.map (bU n),p≠y.aV:=fun p hp heq=>by
   obtain⟨j,u',hj,hg',h0,hu⟩:=ih.seen p hp
   rw[heq]at hg'
   obtain⟨w,w1,w2,w3⟩:=sh hf hn hl hc ab aO _ hg' h0 (k+1-j)
   rw[show j+(k+1-j)=k+1 by omega,hg]at w1
   have:=VV w1
   omega
  have Za5:ar::(aE++[(⟨(i:Int),d⟩:au)]).map (bU n)=(ar::aE.map (bU n))++[y.aV]:=by
   rw[Xq,Wx,List.map_nil,EZ];rfl
  refine⟨⟨by omega,by omega⟩,fun p hp=>?_,?_,?_,?_,.inr ⟨_,List.getLast?_concat,hee⟩,fun t ht=>?_,mZ m2⟩
  ·rw[Za5]at hp
   rcases WC.1 hp with hp|hp
   ·obtain⟨j,u',hj,hg',h0,hu⟩:=ih.seen p hp
    exact⟨j,u',by omega,hg',h0,by omega⟩
   ·obtain rfl:=Wc.1 hp
    exact⟨k+1,e,V3 _,hg,by omega,Wv _⟩
  ·rw[Za5,List.nodup_append]
   exact⟨ih.nodup,by simp,fun a ha b hb=>by rw[Wc]at hb;rw[hb];exact Gq a ha⟩
  ·rw[Za5];exact List.getLast?_concat
  ·refine Cf hfo.bf aE _ _ ih.chain (fun hw=>?_) fun t' zJ=>?_
   ·subst hw
    have hq:ar=y.ar:=by have:=ih.last;simpa using this
    rcases ih.ends with⟨_,he⟩ |⟨t,ht,_⟩
    ·exact⟨by rw[Zam,hq],by omega⟩
    ·simp at ht
   ·have Ea:t'∈aE:=List.mem_of_getLast? zJ
    have nn:bU n t'=y.ar:=by
     have h1:=ih.last
     cases aE with
     |nil=>simp at zJ
     |cons x xs=>
      rw[Wx,W5,←Wx,List.getLast?_map,zJ]at h1
      exact VV h1
    have iw:¬bb (ak n) y.ar=bb (ak n) ar:=fun he=>by
     have g1:=pC (mZ m1)
     have g2:=pC Ko
     rw[he,g2]at g1
     have hff:ar=y.ar:=VV g1
     have hnd:=ih.nodup
     rw[Xr]at hnd
     exact hnd.1 (by rw[hff,←nn];exact X8 Ea)
    rw[if_neg iw]at hz
    rcases ih.ends with⟨hw,_⟩ |⟨t'',Zdq,ZeU⟩
    ·rw[hw]at zJ;simp at zJ
    ·rw[zJ]at Zdq
     obtain rfl:=VV Zdq
     exact⟨by rw[Zam,nn],by rw[ZeU];omega⟩
  ·rcases WC.1 ht with ht|ht
   ·exact ih.found t ht
   ·obtain rfl:=Wc.1 ht
    exact⟨hfo.open_,hfo.fy⟩
end
end
theorem CU(t:au):cY [] t=some 0:=by
 unfold cY
 obtain⟨N,hN⟩:∃N,NN=N+1:=⟨NN-1,by unfold NN;omega⟩
 rw[hN]
 unfold aD dv
 rfl
section
variable {n:aj} (hf:cI n) (hn:aU n=some true) (hr:∀l∈n.ay,1≤l.fy)
include hf hn hr
end
abbrev PY(a b:ao):Prop:=nj b a=false
theorem zu{a b:ao}(h:nj a b=true):nj b a=false:=Go.Sort.SWO.asymmA BF h
theorem Mi{l:List ao}(hl:l.length≤1048575)(b:ao)(hs:l.Pairwise PY):aI (nh l b) fun r=>r.length=l.length+1∧r.Perm (l++[b])∧r.Pairwise PY:=by
 unfold nh
 refine aI.bind (P:=fun o:Int=>∃k:Nat,o=(k:Int)∧k≤l.length∧(∀i (h:i<l.length),i<k→nj l[i] b=true)∧(∀h:k<l.length,nj l[k] b=false)) ?_ fun o ho=>?_
 ·refine aI.loop (fun k s=>∃i:Nat,s=(i:Int)∧i+k=l.length∧∀j (h:j<l.length),j<i→nj l[j] b=true) (fun k s hs=>?_) NN l.length 0 ⟨0,rfl,by omega,fun j _ h=>by omega⟩ (by unfold NN;omega)
  obtain⟨i,rfl,hk,hb⟩:=hs
  unfold pI
  refine aI.cond (fun hd=>?_) fun hd=>aI.ret ⟨i,rfl,by omega,fun j h h'=>hb j h h',fun h=>by have:=of_decide_eq_false hd;omega⟩
  have bF:=of_decide_eq_true hd
  have hw:aL ((i:Int)+1)=((i+1:Nat):Int):=by rw[aQ (by omega)];omega
  have x5:i<l.length:=by omega
  have hy:aC l (i:Int)=some l[i]:=by rw[aR];exact VT x5
  rw[hy,VS,BZ,VS]
  refine aI.cond (fun h1=>aI.ret ⟨k-1,by omega,i+1,hw,by omega,fun j h h'=>?_⟩) fun h1=>aI.ret ⟨i,rfl,by omega,fun j h h'=>hb j h h',fun _=>h1⟩
  by_cases wz:j=i
  ·subst wz;exact h1
  ·exact hb j h (by omega)
 ·obtain⟨k,rfl,hk,ZeN,Eb⟩:=ho
  have e1:cD l 0 (k:Int)=l.take k:=by unfold cD;simp
  have e2:cD l (k:Int) (l.length:Int)=l.drop k:=by
   unfold cD
   simp only[Int.toNat_natCast]
   rw[List.take_of_length_le (by simp)]
  rw[e1,e2]
  refine aI.cL (by unfold gA;exact decide_eq_true (by omega)) ?_
  rw[qM (by simp only[V8];omega),VS]
  refine aI.cL (jt (by simp only[VX,VY,V8];omega) (by omega)) (aI.cL (by unfold gA;exact decide_eq_true (by omega)) (aI.cL (jt (by simp only[V2,VX,VY,V8,WK];omega) (by omega)) (aI.ret ⟨?_,?_,?_⟩)))
  ·simp only[V2,VX,VY,V8,WK];omega
  ·have h1:(l.take k++[b]++l.drop k).Perm (l.take k++(l.drop k++[b])):=by
    rw[Xb]
    exact List.Perm.append_left _ List.perm_append_comm
   rw[←Xb,List.take_append_drop]at h1
   exact h1
  ·have xD:=List.Pairwise.sublist (List.take_sublist k l) hs
   have u6:=List.Pairwise.sublist (List.drop_sublist k l) hs
   have zm:∀y∈l.drop k,nj y b=false:=fun y hy=>by
    obtain⟨j,hj,rfl⟩:=Wf hy
    rw[WK]at hj
    rw[List.getElem_drop]
    have h0:=Eb (by omega)
    by_cases hj0:j=0
    ·subst hj0;exact h0
    ·have:=WG.1 hs k (k+j) (by omega) (by omega) (by omega)
     exact BF.ntrans _ _ _ this h0
   have bF:∀x∈l.take k,nj x b=true:=fun x hx=>by
    obtain⟨j,hj,rfl⟩:=Wf hx
    rw[V8]at hj
    rw[List.getElem_take]
    exact ZeN j (by omega) (by omega)
   rw[Xb,List.pairwise_append]
   refine⟨xD,?_,fun x hx y hy=>?_⟩
   ·rw[List.singleton_append,List.pairwise_cons]
    exact⟨fun y hy=>zm y hy,u6⟩
   ·rw[List.singleton_append,V4]at hy
    rcases hy with rfl|hy
    ·exact zu (bF x hx)
    ·exact BF.ntrans _ _ _ (zm y hy) (zu (bF x hx))
def ff(bk ab:Int)(aE:List au):List ao:=aE.map fun t=>⟨bk,t,ab⟩
theorem Ig{n:aj}{l:List ao}(h:bJ n l=true):l.Pairwise PY:=WG.2 fun i j hi hj xa=>zu (rm h j i hj xa)
theorem DD{n:aj}{d e:List ao}(hp:d.Perm e)(hd:d.Pairwise PY)(he:e.Pairwise PY)(hb:bJ n d=true):d=e:=by
 refine List.Perm.eq_of_pairwise (le:=PY) (fun a b ha uX h1 h2=>?_) hd he hp
 have zk:=hp.mem_iff.2 uX
 obtain⟨i,hi,rfl⟩:=Wf ha
 obtain⟨j,hj,rfl⟩:=Wf zk
 rcases Nat.lt_trichotomy i j with h|h|h
 ·have:=rm hb j i hj h
  have h2':nj d[i] d[j]=false:=h2
  rw[this]at h2';cases h2'
 ·subst h;rfl
 ·have:=rm hb i j hi h
  have ML:nj d[j] d[i]=false:=h1
  rw[this]at ML;cases ML
theorem Py{n:aj}{d e:List ao}(hp:d.Perm e)(hd:d.Pairwise PY)(he:e.Pairwise PY):bJ n d=bJ n e:=by
 cases h1:bJ n d with
 |true=>rw[←DD hp hd he h1,h1]
 |false=>
  cases h2:bJ n e with
  |false=>rfl
  |true=>rw[DD hp.symm he hd h2,h1]at h2;cases h2
theorem sj{n:aj}(hf:cI n){l:List ao}(hl:l.length≤1048000)(bk ab:Int){aE:List au}{d:List ao}(hp:d.Perm (l++ff bk ab aE))(hs:d.Pairwise PY):
 ck n l bk ab aE=some (if bJ n l=true∧aE.length≤20∧bJ n d=true then(d,true)else(l,false)):=by
 unfold ck
 rw[qM (by omega),VS,iv hf (by omega),VS]
 by_cases hb:bJ n l=true
 case neg=>
  have uX:bJ n l=false:=by simpa using hb
  rw[uX,if_neg (fun h=>by cases h.1)];rfl
 rw[hb]
 by_cases hw:aE.length≤20
 case neg=>
  rw[if_neg (fun h=>hw h.2.1),decide_eq_true (show 20<(aE.length:Int)by omega)];rfl
 rw[decide_eq_false (show ¬20<(aE.length:Int)by omega)]
 obtain⟨o,ho,x6,u5,Rs⟩:aI (aD (lM n l bk ab aE) NN (0,l)) fun o=>o.length=l.length+aE.length∧o.Perm (l++ff bk ab aE)∧o.Pairwise PY:=by
  refine aI.loop (fun k s=>∃i:Nat,s.1=(i:Int)∧i+k=aE.length∧s.2.length=l.length+i∧s.2.Perm (l++ff bk ab (aE.take i))∧s.2.Pairwise PY) (fun k s hs=>?_) NN aE.length _ ⟨0,rfl,by omega,rfl,by simp[ff],Ig hb⟩ (by unfold NN;omega)
  obtain⟨i,hi,hk,hlen,hpp,hss⟩:=hs
  unfold lM
  rw[hi]
  refine aI.cond (fun hd=>?_) fun hd=>aI.ret (by
   have:=of_decide_eq_false hd
   have hi2:i=aE.length:=by omega
   rw[hi2,Xo]at hpp
   exact⟨by omega,hpp,hss⟩)
  have bF:=of_decide_eq_true hd
  have wB:aL ((i:Int)+1)=((i+1:Nat):Int):=by rw[aQ (by omega)];omega
  have x5:i<aE.length:=by omega
  have hy:aC aE (i:Int)=some aE[i]:=by rw[aR];exact VT x5
  rw[hy,VS,wB]
  refine aI.bind (Mi (by omega) _ hss) fun r hr=>aI.ret ⟨k-1,by omega,i+1,rfl,by omega,by simp only;omega,?_,hr.2.2⟩
  refine hr.2.1.trans ?_
  have:ff bk ab (aE.take (i+1))=ff bk ab (aE.take i)++[⟨bk,aE[i],ab⟩]:=by
   unfold ff
   rw[Xe x5,Xq];rfl
  rw[this,←Xb]
  exact hpp.append_right _
 simp only[V0,cond_false,ho,VS]
 rw[iv hf (by omega),VS,Py (n:=n) (u5.trans hp.symm) Rs hs]
 by_cases hd:bJ n d=true
 ·rw[hd,if_pos ⟨by trivial,hw,by trivial⟩,DD (hp.trans u5.symm) hs Rs hd];rfl
 ·have vt:bJ n d=false:=by simpa using hd
  rw[vt,if_neg (fun h=>by cases h.2.2)];rfl
structure Qd(n:aj)(l:List ao)(ae:List au)(ab:Int)(ar aV:ByteArray)(aO:Int)(aE:List au):Prop where
 hC:bJ n l=true∧0≤bb (ak n) ar∧aO≤100000∧1≤ab
 EZ:0≤bb (ak n) aV
 len:aE.length≤20
 gB:∃e,aC (bP n l ae ab (bb (ak n) ar) aO (ak n).length) (bb (ak n) aV)=some e∧0≤e∧e≤100000∧(aE=[]∧e=(if 0 > aO then 0 else aO)∨∃t,aE.getLast?=some t∧cS n t=e)
 nodup:(ar::aE.map (bU n)).Nodup
 last:(ar::aE.map (bU n)).getLast?=some aV
 chain:gy n ar (if 0 > aO then 0 else aO) aE
 found:∀t∈aE,df ae t=some false∧∃y q,aC n.ay t.bx=some y∧cY l t=some q∧ab≤aL (y.fy-q)
theorem mX{n:aj}:∀{ts:List au} {p:ByteArray} {a:Int},gy n p a ts→∀t∈ts,et n t=true
 |x::ts,p,a,h,t,ht=>by
  rcases V4.1 ht with rfl|ht
  ·exact h.1
  ·exact mX h.2.2.2 t ht
section
variable {n:aj} (hf:cI n)
include hf
theorem Ua{l:List ao}(hl:l.length≤1048576){ae:List au}{ar:ByteArray}{aO ab:Int}(hC:¬(bJ n l=true∧0≤bb (ak n) ar∧aO≤100000∧1≤ab))(k:Int):dc n l ae ar aO ab k=some []:=by
 unfold dc
 rw[(di hf).2]
 simp only[VS,n7 hf,iv hf hl]
 by_cases hB:bJ n l=true
 case neg=>rw[show bJ n l=false by simpa using hB];rfl
 rw[hB]
 by_cases h1:bb (ak n) ar<0
 ·rw[decide_eq_true h1];rfl
 by_cases h2:100000<aO
 ·rw[decide_eq_true h2,decide_eq_false h1];rfl
 by_cases h3:ab<1
 ·rw[decide_eq_true h3,decide_eq_false h1,decide_eq_false h2];rfl
 exact absurd ⟨hB,by omega,by omega,by omega⟩ hC
theorem Zab{ar:ByteArray}{aO:Int}{aE:List au}(hn:aU n=some true)(hnd:(ar::aE.map (bU n)).Nodup)(hc:gy n ar aO aE):aE.length≤20:=by
 have hlg:=qv hn
 have hb:∀t∈aE,0≤t.bx∧t.bx.toNat<n.ay.length:=fun t ht=>by
  obtain⟨y,hy,_⟩:=dG hf (mX hc t ht)
  obtain⟨a,b⟩:=iH hy
  exact⟨a,(VU.1 b).1⟩
 have h1:=(Xr.1 hnd).2
 unfold XE at h1
 rw[Xf]at h1
 have h2:(aE.map fun t=>t.bx.toNat).Nodup:=by
  unfold XE
  rw[Xf]
  refine h1.imp_of_mem fun {a b} ha uX h e=>h ?_
  have e1:a.bx=b.bx:=by have:=hb a ha;have:=hb b uX;omega
  unfold bU
  rw[e1]
 have:=zQ n.ay.length _ h2 fun x hx=>by
  obtain⟨t,ht,rfl⟩:=WS.1 hx
  exact(hb t ht).2
 rw[Wg]at this
 omega
theorem nI{l:List ao}(hl:l.length≤1048576){ae:List au}(hc:ae.length≤1048576){ar aV:ByteArray}{aO ab:Int}{aE:List au}(h:bE n l ae ar aV aO ab=some (aE,true)):Qd n l ae ab ar aV aO aE:=by
 unfold bE at h
 rw[(di hf).2]at h
 simp only[VS,n7 hf]at h
 by_cases hC:bJ n l=true∧0≤bb (ak n) ar∧aO≤100000∧1≤ab
 case neg=>
  rw[Ua hf hl hC]at h
  simp only[VS,VY]at h
  by_cases ht:bb (ak n) aV<0
  ·rw[decide_eq_true ht]at h;cases h
  ·rw[decide_eq_false ht]at h;cases h
 have hn:=(cW hC.1).1
 have hlg:=qv hn
 have hp:(ak n).length≤40:=by have:=eA n;omega
 have uk:=mc hf hl hc ab (bb (ak n) ar) aO
 have EV:=(kM (ak n) ar).2
 have PW:=(kM (ak n) aV).2
 rw[oL hf hl hc ab aO hC (V3 _)]at h
 simp only[VS]at h
 by_cases ht:bb (ak n) aV<0
 ·rw[decide_eq_true ht]at h;cases h
 obtain⟨e,he,_⟩:=kc (xs:=bP n l ae ab (bb (ak n) ar) aO (ak n).length) (i:=bb (ak n) aV) ⟨by omega,by rw[uk];exact PW⟩
 simp only[decide_eq_false ht,cond_false,decide_eq_false (show ¬(((bP n l ae ab (bb (ak n) ar) aO (ak n).length).length:Int)=0)by rw[uk];omega),he,VS]at h
 by_cases hd:e<0
 ·rw[decide_eq_true hd]at h;cases h
 obtain⟨k,q1,q2,q3,q4,q5⟩:=xt hf hl hc ab aO hp hC ⟨by omega,PW⟩ he
 obtain⟨w,p1,p2⟩:=M7 hf hn hl hc ab aO hC k aV e [] (by omega) q2 (by omega) q3 (by simp only[VY];omega) NN (by unfold NN;omega)
 rw[Xc]at p1
 simp only[decide_eq_false hd,cond_false,q4,VS,p1,V1,Prod.mk.injEq]at h
 obtain⟨rfl,_⟩:=h
 have po:=Vc hf hn hl hc ab aO hC.2.1 hC.2.2.1 p2
 exact⟨hC,by omega,Zab hf hn po.nodup po.chain,⟨e,he,po.time.1,po.time.2,po.ends⟩,po.nodup,po.last,po.chain,po.found⟩
theorem Ar(hn:aU n=some true){aE:List au}(hl:aE.length≤1048576){a b:ByteArray}{t:Int}(ha:0≤bb (ak n) a)(hb:0≤bb (ak n) b)(hc:gy n a t aE)(he:aE.foldl (fun _ t=>bU n t) a=b):eJ n aE a b t=some true:=by
 obtain⟨ch0,ch1⟩:=gm hn
 have key:∀(d i:Nat) (p:ByteArray) (u:Int),i+d=aE.length→gy n p u (aE.drop i)→∀N,d<N→aD (dy n aE b) N (p,u,(i:Int))=some (.inl ((aE.drop i).foldl (fun _ t=>bU n t) p)):=by
  intro d
  induction d with
  |zero=>
   intro i p u hi h N hN
   obtain⟨N,rfl⟩:∃M,N=M+1:=⟨N-1,by omega⟩
   rw[List.drop_of_length_le (by omega)]
   unfold aD dy
   simp only[decide_eq_false (show ¬(i:Int)<(aE.length:Int)by omega),cond_false,List.foldl_nil]
   rfl
  |succ d ih=>
   intro i p u hi h N hN
   obtain⟨N,rfl⟩:∃M,N=M+1:=⟨N-1,by omega⟩
   have bF:i<aE.length:=by omega
   have hg:aC aE (i:Int)=some aE[i]:=by rw[aR];exact VT bF
   have hw:aL ((i:Int)+1)=((i+1:Nat):Int):=bI bF (by omega)
   rw[YB bF]at h⊢
   obtain⟨c1,c2,c3,c4⟩:=h
   obtain⟨y,hy,_⟩:=dG hf c1
   obtain⟨t1,t2,t3,t4,t5⟩:=cH hf hn c1
   have f1:jc n aE[i]=y.ar:=by unfold jc;rw[hy];rfl
   have f2:bU n aE[i]=y.aV:=by unfold bU;rw[hy];rfl
   have hwe:aL (cS n aE[i]+n.change)=cS n aE[i]+n.change:=aQ (by omega)
   have xd:dy n aE b (p,u,(i:Int))=some (.inl (bU n aE[i],cS n aE[i]+n.change,((i+1:Nat):Int))):=by
    unfold dy
    simp only[decide_eq_true (show(i:Int)<aE.length by omega),cond_true,hg,VS,yI hf hn,c1,V0,cond_false,hy,t1,t2,decide_eq_true (show y.ar=p by rw[←f1];exact c2),decide_eq_false (show ¬cd n aE[i]<u by omega),hwe,hw,f2]
   unfold aD
   rw[xd,WI]
   exact ih (i+1) _ _ (by omega) c4 N (by omega)
 have hk:=key aE.length 0 a t (by omega) (by simpa using hc) NN (by unfold NN;omega)
 rw[List.drop_zero,he]at hk
 have xC:=eA n
 have DV:=hf.ay
 unfold eJ
 rw[(di hf).2,hn]
 simp only[VS,oM (show(ak n).length≤4194304 by omega),decide_eq_false (show ¬bb (ak n) a<0 by omega),decide_eq_false (show ¬bb (ak n) b<0 by omega),V0,cond_false]
 rw[show(0:Int)=((0:Nat):Int)from rfl,hk]
 simp[bl]
end
theorem Cw{α β:Type}(f:α→β):∀(l:List α) (a b:β),(a::l.map f).getLast?=some b→l.foldl (fun _ x=>f x) a=b
 | [],a,b,h=>by simpa using h
 |x::l,a,b,h=>by
  rw[Wx,W5]at h
  exact Cw f l (f x) b h
theorem DC:∀(l:List ao),l.length≤1048575→∃d:List ao,d.Perm l∧d.Pairwise PY
 | [],_=>⟨[],.nil,.nil⟩
 |x::l,h=>by
  rw[VX]at h
  obtain⟨d,h1,h2⟩:=DC l (by omega)
  have:=h1.length_eq
  obtain⟨r,_,_,h3,h4⟩:=Mi (l:=d) (by omega) x h2
  exact⟨r,h3.trans ((h1.append_right [x]).trans (List.perm_append_comm (l₁:=l) (l₂:=[x]))),h4⟩
def mI(w:av)(ar aV:ByteArray)(ax ab dX:Int)(aE:List au):az:=⟨ar,aV,ax,ab,w.now,dX,aE,0,1,ar,0⟩
def ya(w:av)(o:az)(ys:List ao):av:=fB ⟨w.aa,w.ah++[o],ys,w.ae,w.now,w.aH,w.skip,w.bd⟩ ⟨(w.ah.length:Int)+1,w.now,1,o.ar,⟨0,0⟩⟩
theorem Ie{l l':List ao}(h:∀b∈l,b∈l'){wt:Int}(hb:gE l th t wt=true):gE l' th t wt=true:=by
 unfold gE at *
 rw[W3]at *
 obtain⟨x,h1,h2⟩:=hb
 exact⟨x,h x h1,h2⟩
theorem Od(os:List az)(o:az):(os++[o]).foldl (fun a (o:az)=>aL (a+(o.aE.length:Int))) 0=aL (os.foldl (fun a (o:az)=>aL (a+(o.aE.length:Int))) 0+(o.aE.length:Int)):=by
 rw[List.foldl_append];rfl
section
variable {w:av} (h:pL w)
include h
theorem SJ(h1:1≤th∧th≤9999)(hp:0≤bb (ak w.aa) p):cu w.aa ⟨th,w.now,1,p,⟨0,0⟩⟩=some true:=by
 have CF:=h.parts.1
 have xC:=eA w.aa
 have DV:=h.fit.ey.ay
 unfold cu
 rw[h.ey]
 simp only[VS,dt,V0,cond_false,decide_eq_true h1.1,decide_eq_true h1.2,decide_eq_true CF.1,decide_eq_true CF.2,W8,(di h.fit.ey).2,oM (show(ak w.aa).length≤4194304 by omega),decide_true,cond_true,decide_eq_true hp]
theorem ZaH(Zgu:w.ah.length<30){ar aV:ByteArray}(iw:¬ar=aV){ax ab dX:Int}(hs:1≤ax∧ax≤3)(hw:1≤ab∧ab≤30000)(Un:0≤dX∧dX≤200000){aE:List au}(hR:Qd w.aa w.aq w.ae ab ar aV (w.now+1) aE)
 {ys:List ao} (hp:ys.Perm (w.aq++ff ((w.ah.length:Int)+1) ab aE)) (hb:bJ w.aa ys=true):pL (ya w (mI w ar aV ax ab dX aE) ys):=by
 obtain⟨p1,p2,p3,p4,p5,p6,p7⟩:=h.parts
 have PO:=(cW hb).2
 have hlen:=hR.len
 have hyl:=hp.length_eq
 rw[V2]at hyl
 have xb:(ff ((w.ah.length:Int)+1) ab aE).length=aE.length:=by unfold ff;rw[Wg]
 rw[xb]at hyl
 have hv:=h.ok
 have Bb:(if 0 > w.now+1 then 0 else w.now+1)=w.now+1:=if_neg (by omega)
 have zl:=hR.chain
 rw[Bb]at zl
 have Zaq:=mX zl
 have Ea:∀b∈w.aq,b∈ys:=fun b hb=>hp.mem_iff.2 (List.mem_append_left _ hb)
 have nn:=Cw (bU w.aa) aE ar aV hR.last
 have Ec:=Fc (n:=w.aa) (aO:=w.now) (skip:=w.skip) (p:=(w.aH,w.bd)) (s:=⟨(w.ah.length:Int)+1,w.now,1,ar,⟨0,0⟩⟩) ⟨fun s hs=>DQ h.fit h.ok hs,p4,p6⟩ ⟨SJ h (by omega) hR.hC.2.1,Wv _⟩
 have Gq:iV (ya w (mI w ar aV ax ab dX aE) ys) w.ah.length (mI w ar aV ax ab dX aE)=true:=by
  have yy:aX (mI w ar aV ax ab dX aE)=0:=by unfold aX mI;rw[if_neg (by simp)]
  have rD:bW w.aa (mI w ar aV ax ab dX aE) w.now=some true:=by
   refine(uh h.fit.ey h.ey ⟨Wv _,by simp only[mI];omega⟩ (by simp only[mI];omega) Zaq w.now).2 ⟨fun t h0=>by simp[mI]at h0,.inl ⟨rfl,?_,?_,rfl,fun t ht=>?_⟩⟩
   ·unfold oW mI;rw[if_neg (by simp)]
   ·unfold oW mI;rw[if_neg (by simp)];exact iw
   ·have zJ:aE[0]?=some t:=ht
    cases aE with
    |nil=>simp at zJ
    |cons x xs=>
     obtain rfl:x=t:=by simpa using zJ
     have:=zl.2.2.1
     omega
  unfold iV
  simp only[VZ,Wa,decide_eq_true_iff,decide_eq_false_iff_not]
  have hid:¬bb (ak w.aa) ar<0:=by have:=hR.hC.2.1;omega
  have ZeZ:¬bb (ak w.aa) aV<0:=by have:=hR.EZ;omega
  have wA:aL (w.now+1)=w.now+1:=aQ (by omega)
  refine⟨⟨⟨⟨⟨⟨⟨⟨⟨⟨⟨hid,ZeZ⟩,iw⟩,hs⟩,hw⟩,p1.1,Wv _⟩,Un⟩,Wv _,by simp only[mI];omega⟩,?_⟩,?_⟩,?_⟩,?_⟩
  ·refine cJ.2 fun j t hj=>?_
   have wv:aE[j]?=some t:=hj
   have htm:=VW wv
   unfold uj
   simp only[VZ,Wa,Bool.and_eq_false_imp,decide_eq_true_iff,decide_eq_false_iff_not,Wb]
   refine⟨⟨Zaq t htm,?_⟩,fun he hj1=>?_⟩
   ·unfold gE
    refine W3.2 ⟨⟨(w.ah.length:Int)+1,t,ab⟩,hp.mem_iff.2 (List.mem_append_right _ ?_),decide_eq_true ?_⟩
    ·unfold ff;exact X8 htm
    ·rw[show((w.ah.length+1:Nat):Int)=(w.ah.length:Int)+1 by omega];rfl
   ·have Zc6:j+1<aE.length:=hj1
    have Rj:bU w.aa t=aV:=he
    have hnd:=hR.nodup
    have Bt:=hR.last
    rw[List.getLast?_eq_getElem?,VX,Wg,Xl]at Bt
    have h1:(ar::aE.map (bU w.aa))[j+1]?=some aV:=by rw[List.getElem?_cons_succ,Wj,wv,Wr,Rj]
    have h2:=WG.1 hnd (j+1) aE.length (by simp;omega) (by simp) (by omega)
    exact h2 ((VU.1 h1).2.trans (VU.1 Bt).2.symm)
  ·have I0:A7 w.aa (mI w ar aV ax ab dX aE)=aV:=nn
   show(eJ w.aa aE ar (A7 w.aa (mI w ar aV ax ab dX aE)) (aL (w.now+1))).getD false=true
   rw[I0,wA,Ar h.fit.ey h.ey (by omega) hR.hC.2.1 hR.EZ zl nn];rfl
  ·show(bW w.aa (mI w ar aV ax ab dX aE) w.now).getD false=true
   rw[rD];rfl
  ·rw[yy]
   refine List.any_eq_false.2 fun t ht=>?_
   have htm:t∈aE:=List.mem_of_mem_drop ht
   have:=(hR.found t htm).1
   rw[fP,fC h.fit.ae]at this
   have:=VV this
   show ¬ct w.ae t=true
   unfold ct
   rw[this];simp
 have hold:∀(i:Nat) (o:az),w.ah[i]?=some o→iV (ya w (mI w ar aV ax ab dX aE) ys) i o=true:=fun i o hi=>by
  have hv:=pW h.ok hi
  unfold iV at hv⊢
  simp only[VZ,Wa,decide_eq_true_iff,decide_eq_false_iff_not]at hv⊢
  obtain⟨⟨⟨⟨⟨⟨⟨⟨⟨⟨⟨h1,h2⟩,h3⟩,h4⟩,h5⟩,h6⟩,h7⟩,h8⟩,h9⟩,xZ⟩,Cz⟩,Tb⟩:=hv
  refine⟨⟨⟨⟨⟨⟨⟨⟨⟨⟨⟨h1,h2⟩,h3⟩,h4⟩,h5⟩,h6⟩,h7⟩,h8⟩,?_⟩,xZ⟩,Cz⟩,Tb⟩
  refine cJ.2 fun j t hj=>?_
  have:=cJ.1 h9 j t hj
  unfold uj at this⊢
  simp only[VZ]at this⊢
  exact⟨⟨this.1.1,Ie Ea this.1.2⟩,this.2⟩
 refine⟨⟨h.fit.ey,?_,?_,h.fit.ae,?_,h.fit.skip,fun o ho=>?_⟩,?_⟩
 ·simp only[ya,fB,V2,VX,VY];omega
 ·simp only[ya,fB];omega
 ·have:=Ec.len;simp only[ya,fB,mI];omega
 ·have zn:o∈w.ah++[mI w ar aV ax ab dX aE]:=ho
  rcases WC.1 zn with ho|ho
  ·exact h.fit.aE o ho
  ·obtain rfl:=Wc.1 ho;simp only[mI];omega
 ·unfold eu at hv⊢
  simp only[VZ,Wa,decide_eq_true_iff,decide_eq_false_iff_not]at hv⊢
  obtain⟨⟨⟨⟨⟨⟨⟨⟨⟨⟨h1,h2⟩,h3⟩,h4⟩,h5⟩,h6⟩,h7⟩,h8⟩,h9⟩,xZ⟩,Cz⟩:=hv
  have hl:=Ec.len
  have hmd:=Ec.bd
  refine⟨⟨⟨⟨⟨⟨⟨⟨⟨⟨hb,h2⟩,?_⟩,h4⟩,?_⟩,h6⟩,?_⟩,h8⟩,?_⟩,?_⟩,?_⟩
  ·simp only[ya,fB,V2,VX,VY];omega
  ·simp only[ya,fB,mI];omega
  ·simp only[ya,fB,mI];omega
  ·refine cJ.2 fun j s hj=>?_
   obtain⟨a,b⟩:=Ec.ZcP s (VW hj)
   show((cu w.aa s).getD false&&!decide (w.now<s.aO))=true
   rw[a,decide_eq_false (show ¬w.now<s.aO by omega)];rfl
  ·refine cJ.2 fun j o hj=>?_
   rw[Wb]
   have wv:(w.ah++[mI w ar aV ax ab dX aE])[j]?=some o:=hj
   by_cases xy:j<w.ah.length
   ·rw[List.getElem?_append_left xy]at wv
    exact hold j o wv
   ·rw[List.getElem?_append_right (by omega)]at wv
    have hj0:j-w.ah.length=0:=by
     have:=(VU.1 wv).1
     simp only[VX,VY]at this;omega
    rw[hj0]at wv
    obtain rfl:mI w ar aV ax ab dX aE=o:=by simpa using wv
    rw[show j=w.ah.length by omega]
    exact Gq
  ·have ZeF:w.ah.foldl (fun a (o:az)=>aL (a+(o.aE.length:Int))) 0=(w.aq.length:Int):=Cz
   show(w.ah++[mI w ar aV ax ab dX aE]).foldl (fun a (o:az)=>aL (a+(o.aE.length:Int))) 0=(ys.length:Int)
   rw[Od,ZeF]
   show aL ((w.aq.length:Int)+(aE.length:Int))=_
   rw[aQ (by omega)];omega
end
def gG(l:List ao)(t:au):Int:=(l.map fun b=>if b.bf=t then b.ab else 0).sum
theorem rv{l:List ao}(hw:∀b∈l,1≤b.ab∧b.ab≤1000000)(t:au):0≤gG l t∧gG l t≤1000000*l.length:=by
 induction l with
 |nil=>simp[gG]
 |cons x xs ih=>
  have hx:=hw x Wp
  have:=ih fun b hb=>hw b (Wi _ hb)
  unfold gG at this⊢
  rw[Wx,WT,VX]
  split<;>omega
theorem zM{l:List ao}(hl:l.length≤1000)(hw:∀b∈l,1≤b.ab∧b.ab≤1000000)(t:au):cY l t=some (gG l t):=by
 unfold cY
 have e:aD (dv l t) NN (0,0)=some (gG l t):=by
  have:=lp (body:=dv l t) (fun i:Nat=>(gG (l.take i) t,(i:Int))) (n:=l.length) (o:=gG l t) (fun i hi=>?_) ?_ NN (by unfold NN;omega)
  ·simpa[gG]using this
  ·have ho:l[i]?=some l[i]:=VT hi
   have hg:aC l (i:Int)=some l[i]:=by rw[aR];exact ho
   have wB:aL ((i:Int)+1)=((i+1:Nat):Int):=bI hi (by omega)
   have hb:=rv (l:=l.take i) (fun b hb=>hw b (List.mem_of_mem_take hb)) t
   have hx:=hw _ (Wm hi)
   have hlen:(l.take i).length≤1000:=by rw[V8];omega
   unfold dv
   have hs:gG (l.take (i+1)) t=gG (l.take i) t+(if l[i].bf=t then l[i].ab else 0):=by
    unfold gG
    rw[←uK ho,Xq,List.sum_append];simp
   simp only[decide_eq_true (show(i:Int)<l.length by omega),cond_true,hg,VS,wB]
   rw[hs]
   by_cases ht:l[i].bf=t
   ·rw[decide_eq_true ht,if_pos ht,cond_true,aQ (by omega)]
   ·rw[decide_eq_false ht,if_neg ht,cond_false,Int.add_zero]
  ·unfold dv
   simp
 rw[e];rfl
def IG(e ax:Int):Int:=(e / 1440+(if 1080<e % 1440 then 1 else 0)+(if ax=1 then 0 else if ax=2 then 1 else 4))*1440+1080
theorem Da{n:aj}{ax e aO:Int}{ar aV:ByteArray}(he:ju n ar aV aO=some e)(h0:0≤e)(h1:e≤100000)(hs:1≤ax∧ax≤3):eV n ax ar aV aO=some (IG e ax):=by
 unfold eV
 rw[he,fV]
 simp only[VS,dt]
 have d1:e.tdiv 1440=e / 1440:=YA h0
 have d2:e.tmod 1440=e % 1440:=Int.tmod_eq_emod_of_nonneg h0
 have hb:0≤e / 1440∧e / 1440≤69:=by omega
 have E0:IntKind.i64.wrap (e / 1440)=e / 1440:=aQ (by omega)
 have hk:∃k:Int,0≤k∧k≤4∧aC ([0,1,4]:List Int) (aL (ax-1))=some k∧k=(if ax=1 then 0 else if ax=2 then 1 else 4):=by
  rw[aQ (by omega)]
  rcases(show ax=1∨ax=2∨ax=3 by omega)with rfl|rfl|rfl
  ·exact⟨0,by omega,by omega,rfl,by simp⟩
  ·exact⟨1,by omega,by omega,rfl,by simp⟩
  ·exact⟨4,by omega,by omega,rfl,by simp⟩
 obtain⟨k,k0,k1,k2,k3⟩:=hk
 rw[d1,d2,E0,decide_eq_true hs.1,decide_eq_true hs.2,decide_eq_false (show ¬e=-1 by omega),k2]
 simp only[cond_false,W8,V0,VS]
 unfold IG
 rw[←k3]
 by_cases hd:1080<e % 1440
 ·rw[decide_eq_true hd,if_pos hd,cond_true]
  rw[aQ (n:=e / 1440+1) (by omega),aQ (n:=e / 1440+1+k) (by omega),aQ (n:=(e / 1440+1+k)*1440) (by omega),aQ (by omega)]
 ·rw[decide_eq_false hd,if_neg hd,cond_false]
  rw[aQ (n:=e / 1440+k) (by omega),aQ (n:=(e / 1440+k)*1440) (by omega),aQ (by omega),Int.add_zero]
theorem QW{e ax:Int}(h0:0≤e)(h1:e≤100000):e≤IG e ax∧IG e ax≤200000:=by
 unfold IG
 split<;>split<;>(try split)<;>omega
section
variable {n:aj} (hf:cI n) (hn:aU n=some true) (hr:∀l∈n.ay,1≤l.fy)
include hf hn hr
end
theorem CS{l l':List ao}(h:l.Perm l')(t:au):gG l t=gG l' t:=by
 induction h with
 |nil=>rfl
 |cons x _ ih=>unfold gG at *;rw[Wx,Wx,WT,WT,ih]
 |swap x y l=>unfold gG;simp only[Wx,WT];omega
 |trans _ _ i1 i2=>rw[i1,i2]
theorem CR(th wt:Int):∀(aE:List au) (t:au),aE.Nodup→gG (ff th wt aE) t=if t∈aE then wt else 0
 | [],t,_=>rfl
 |x::aE,t,h=>by
  have ih:=CR th wt aE t (Xr.1 h).2
  have hx:=(Xr.1 h).1
  unfold gG ff at *
  rw[Wx,Wx,WT,ih]
  by_cases hxt:x=t
  ·subst hxt
   rw[if_pos rfl,if_neg hx,if_pos Wp];exact Int.add_zero wt
  ·rw[if_neg hxt]
   by_cases ht:t∈aE
   ·rw[if_pos ht,if_pos (Wi _ ht)];omega
   ·rw[if_neg ht,if_neg (fun hm=>by rcases V4.1 hm with h|h;exact hxt h.symm;exact ht h)];omega
section
variable {n:aj} (hf:cI n) (hn:aU n=some true)
include hf hn
theorem R6(bx aO:Int):nw bx aO n=im bx aO n [] [] 0:=by
 have hb:qt n bx aO=gh bx aO n [] [] 0:=by
  funext s
  unfold qt gh
  rw[(qA hf bx s).1]
  cases hd:decide (s≤60)with
  |false=>rfl
  |true=>
  cases hx:cx n bx s with
  |none=>rfl
  |some b=>
  cases b with
  |false=>rfl
  |true=>
  obtain⟨y,hy⟩:=vN hf hx
  have PS:=(tj hf hn y (rn hy)).fy
  have hm:(0:Int)≤y.fy:=by omega
  have hw:aL (y.fy-0)=y.fy:=by rw[aQ (by omega)];omega
  have ht:eM [] (⟨bx,s⟩:au)=some false:=by rw[fC (by simp)];rfl
  have hL:jX [] (⟨bx,s⟩:au)=some 0:=by rw[wH];exact CU _
  simp only[cond_true,VS,ht,hL,hy,hw,decide_eq_true hm,Wz]
 unfold nw im tf
 rw[hb]
 cases(aD (gh bx aO n [] [] 0) NN 0).bind (bl (fun o0=>some ((⟨0,0⟩:au),false)) fun r=>some r)with
 |none=>rfl
 |some r=>rfl
theorem F4(ar:ByteArray)(aO ay:Int):jM n n ar aO ay=dZ n n [] [] 0 ar aO ay:=by
 have zk:∀ay y1 y2 s1,jR n n ay y1 y2 s1=dn n n [] [] 0 ay y1 y2 s1:=fun ay y1 y2 s1=>by
  funext s2
  unfold jR dn
  simp only[R6 hf hn]
 have uY:∀ay y1 y2,jQ n n ay y1 y2=dm n n [] [] 0 ay y1 y2:=fun ay y1 y2=>by
  funext s1
  unfold jQ dm
  rw[zk]
 have Hw:∀y1 y2,nb n n aO ay y1 y2=eG n n [] [] 0 aO ay y1 y2:=fun y1 y2=>rfl
 unfold jM dZ
 simp only[Hw,uY]
theorem Cq{ar aV:ByteArray}{aO:Int}(Ko:0≤bb (ak n) ar)(Bb:aO≤100000)(EZ:0≤bb (ak n) aV)(he:aC (bP n [] [] 0 (bb (ak n) ar) aO (ak n).length) (bb (ak n) aV)=some e):ju n ar aV aO=some e:=by
 have hlg:=qv hn
 have hp:(ak n).length≤40:=by have:=eA n;omega
 have xC:=(kM (ak n) aV).2
 have uk:=mc hf (l:=[]) (by simp) (ae:=[]) (by simp) 0 (bb (ak n) ar) aO (ak n).length
 have hav:=BW hf (l:=[]) (by simp) (ae:=[]) (by simp) 0 Ko Bb (by omega) (ak n).length (by omega)
 have Ot:bV (ak n) aV=some (bb (ak n) aV):=by rw[lY];exact n7 hf aV
 have hi:eU n=some true:=by rw[(jP hf).1];exact hn
 unfold ju l5 re
 rw[(di hf).1,(di hf).2,hi]
 simp only[VS,V0,cond_false,F4 hf hn,hav,Ot,decide_eq_false (show ¬bb (ak n) aV<0 by omega),decide_eq_false (show ¬(((bP n [] [] 0 (bb (ak n) ar) aO (ak n).length).length:Int)=0)by rw[uk];omega),he]
theorem wR(ht:et n t=true)(hy:aC n.ay t.bx=some y):cd n t=t.day*1440+y.start∧cS n t=t.day*1440+y.start+y.lT:=by
 obtain⟨d0,d1⟩:=zh ht
 have hl:=tj hf hn y (rn hy)
 obtain⟨a0,a1⟩:=hl.start
 obtain⟨b0,b1⟩:=hl.lT
 have e1:bq n t=some (t.day*1440+y.start):=by
  unfold bq
  rw[hy]
  simp only[VS]
  rw[aQ (n:=t.day*1440) (by omega),aQ (by omega)]
 have e2:bn n t=some (t.day*1440+y.start+y.lT):=by
  unfold bn
  rw[e1,hy]
  simp only[VS]
  rw[aQ (by omega)]
 exact⟨by unfold cd;rw[e1];rfl,by unfold cS;rw[e2];rfl⟩
theorem U0{bx d0 z:Int}(ht:et n ⟨bx,d0⟩=true)(hz:z≤cd n ⟨bx,d0⟩):∃d,cz n [] [] bx z 0=some d∧0≤d∧d≤d0∧et n ⟨bx,d⟩=true:=by
 obtain⟨d1,d2⟩:=zh ht
 simp only at d1 d2
 obtain⟨y,hy,MS⟩:=dG hf ht
 have PS:=(tj hf hn y MS).fy
 have hc:df []=fun _=>some false:=by
  funext t
  rw[fP,fC (by simp)];rfl
 have hw:aL (y.fy-0)=y.fy:=by rw[aQ (by omega)];omega
 have xd:∀s:Int,0≤s→s≤60→cf n [] [] bx z 0 s=some (if et n ⟨bx,s⟩=true∧z≤cd n ⟨bx,s⟩then .inr (.inr s)else .inl (s+1)):=fun s s0 s1=>by
  have hws:aL (s+1)=s+1:=aQ (by omega)
  have hr:=tl hf ⟨bx,s⟩
  simp only at hr
  unfold cf
  rw[decide_eq_true s1,cond_true,hr,VS,hws]
  cases hb:et n ⟨bx,s⟩with
  |false=>simp
  |true=>
  obtain⟨t1,_⟩:=cH hf hn hb
  simp only[cond_true,t1,VS,hc,Wz,hy,CU,hw,decide_eq_true (show(0:Int)≤y.fy by omega),true_and]
  by_cases h:z≤cd n ⟨bx,s⟩
  ·rw[decide_eq_true h,if_pos h];rfl
  ·rw[decide_eq_false h,if_neg h];rfl
 have key:∀(k:Nat) (s:Int),0≤s→s+(k:Int)=d0→∀N,k<N→∃d,aD (cf n [] [] bx z 0) N s=some (.inr d)∧s≤d∧d≤d0∧et n ⟨bx,d⟩=true:=by
  intro k
  induction k with
  |zero=>
   intro s s0 hs N hN
   obtain⟨N,rfl⟩:∃M,N=M+1:=⟨N-1,by omega⟩
   obtain rfl:s=d0:=by omega
   refine⟨s,?_,Wv _,Wv _,ht⟩
   unfold aD
   rw[xd s s0 d2,if_pos ⟨ht,hz⟩]
   rfl
  |succ k ih=>
   intro s s0 hs N hN
   obtain⟨N,rfl⟩:∃M,N=M+1:=⟨N-1,by omega⟩
   unfold aD
   rw[xd s s0 (by omega)]
   by_cases h:et n ⟨bx,s⟩=true∧z≤cd n ⟨bx,s⟩
   ·rw[if_pos h]
    exact⟨s,rfl,Wv _,by omega,h.1⟩
   ·rw[if_neg h]
    obtain⟨d,e1,e2,e3,e4⟩:=ih (s+1) (by omega) (by omega) N (by omega)
    exact⟨d,e1,by omega,e3,e4⟩
 obtain⟨d,e1,e2,e3,e4⟩:=key d0.toNat 0 (by omega) (by omega) NN (by unfold NN;omega)
 refine⟨d,?_,e2,e3,e4⟩
 unfold cz
 rw[e1]
 rfl
theorem VJ{f aO:Int}(ht:et n t=true)(hl:qc (bP n [] [] 0 f aO k) (bb (ak n) (jc n t)) u)(hu:(if bb (ak n) (jc n t)=f then u else u+n.change)≤cd n t):
 qc (bP n [] [] 0 f aO (k+1)) (bb (ak n) (bU n t)) (cS n t):=by
 obtain⟨y,hy,MS⟩:=dG hf ht
 have f1:jc n t=y.ar:=by unfold jc;rw[hy];rfl
 have f2:bU n t=y.aV:=by unfold bU;rw[hy];rfl
 obtain⟨n0,n1⟩:=gm hn
 obtain⟨_,_,_,t4,t5⟩:=cH hf hn ht
 rw[f1]at hl hu
 rw[f2]
 obtain⟨v,v1,v2,v3⟩:=hl
 have Uy:u≤cd n t:=by split at hu<;>omega
 obtain⟨i0,hi⟩:=iH hy
 have hz:cN n v (decide (bb (ak n) y.ar=f))=some (if bb (ak n) y.ar=f then v else v+n.change):=by
  unfold cN
  by_cases h:bb (ak n) y.ar=f
  ·rw[decide_eq_true h,if_pos h];rfl
  ·rw[decide_eq_false h,if_neg h,cond_false,aQ (by omega)]
 have uZ:(if bb (ak n) y.ar=f then v else v+n.change)≤cd n ⟨t.bx,t.day⟩:=by
  show _≤cd n t
  split at hu<;>split<;>omega
 obtain⟨d,e1,e2,e3,e4⟩:=U0 hf hn (bx:=t.bx) (d0:=t.day) ht uZ
 obtain⟨_,q2,_⟩:=cH hf hn e4
 have bF:t.bx=((t.bx.toNat:Nat):Int):=by omega
 have Rf:u7 n [] [] 0 f (bP n [] [] 0 f aO k) (bb (ak n) y.aV) (cS n ⟨t.bx,d⟩):=by
  refine⟨t.bx.toNat,y,d,v,_,hi,rfl,v1,by omega,hz,?_,by omega,?_⟩
  ·rw[←bF];exact e1
  ·rw[←bF];exact q2
 obtain⟨x,x1,x2,x3⟩:=(uq hf hn (l:=[]) (by simp) (ae:=[]) (by simp) 0 f aO k).2 _ _ Rf
 refine⟨x,x1,x2,?_⟩
 have g1:=(wR hf hn ht hy).2
 have g2:=(wR hf hn e4 hy).2
 simp only at g2
 omega
theorem Ii{f aO:Int}:∀(aE:List au) (p:ByteArray) (z u:Int) (k:Nat),gy n p z aE→qc (bP n [] [] 0 f aO k) (bb (ak n) p) u→(if bb (ak n) p=f then u else u+n.change)≤z→
 ∀t,aE.getLast?=some t→qc (bP n [] [] 0 f aO (k+aE.length)) (bb (ak n) (bU n t)) (cS n t)
 | [],p,z,u,k,_,_,_,t,ht=>by simp at ht
 |x::aE,p,z,u,k,hc,hl,hu,t,ht=>by
  obtain⟨c1,c2,c3,c4⟩:=hc
  obtain⟨n0,n1⟩:=gm hn
  subst c2
  have h1:=VJ hf hn (t:=x) c1 hl (by omega)
  cases aE with
  |nil=>
   obtain rfl:x=t:=by simpa using ht
   exact h1
  |cons y aE=>
   rw[W5]at ht
   have:=Ii (y::aE) (bU n x) (cS n x+n.change) (cS n x) (k+1) c4 h1 (by split<;>omega) t ht
   rw[show k+(x::y::aE).length=k+1+(y::aE).length by simp only[VX];omega]
   exact this
theorem DO{ar:ByteArray}{aO:Int}{aE:List au}(Ko:0≤bb (ak n) ar)(hnd:(ar::aE.map (bU n)).Nodup)(hc:gy n ar aO aE):aE.length≤(ak n).length:=by
 have xC:∀p∈ar::aE.map (bU n),0≤bb (ak n) p:=fun p hp=>by
  rcases V4.1 hp with rfl|hp
  ·exact Ko
  ·obtain⟨t,ht,rfl⟩:=WS.1 hp
   obtain⟨y,hy,MS⟩:=dG hf (mX hc t ht)
   have f2:bU n t=y.aV:=by unfold bU;rw[hy];rfl
   rw[f2]
   exact mZ (pD MS).2
 have h2:((ar::aE.map (bU n)).map fun p=>(bb (ak n) p).toNat).Nodup:=by
  unfold XE at hnd⊢
  rw[Xf]
  refine hnd.imp_of_mem fun {a b} ha hb iw e=>iw ?_
  have h1:=xC a ha
  have h2:=xC b hb
  have he:bb (ak n) a=bb (ak n) b:=by omega
  have g1:=pC h1
  have g2:=pC h2
  rw[he,g2]at g1
  exact(VV g1).symm
 have:=zQ (ak n).length _ h2 fun x hx=>by
  obtain⟨p,hp,rfl⟩:=WS.1 hx
  have:=xC p hp
  have:=(kM (ak n) p).2
  omega
 simp only[Wg,VX]at this
 omega
theorem B6{l:List ao}(hl:l.length≤1048576){ae:List au}(hc:ae.length≤1048576){ar aV:ByteArray}{aO ab:Int}{aE:List au}(h:bE n l ae ar aV aO ab=some (aE,true)):
 ∃e,qc (bP n [] [] 0 (bb (ak n) ar) aO (ak n).length) (bb (ak n) aV) e∧e≤100000:=by
 have hR:=nI hf hl hc h
 obtain⟨q1,q2,q3,q4⟩:=hR.hC
 have hlg:=qv hn
 have hp:(ak n).length≤40:=by have:=eA n;omega
 have bF:=(kM (ak n) ar).2
 obtain⟨n0,n1⟩:=gm hn
 have Hw:aC (bP n [] [] 0 (bb (ak n) ar) aO 0) (bb (ak n) ar)=some (if 0 > aO then 0 else aO):=by
  unfold bP
  rw[Bs hf (by omega) _ ⟨q2,bF⟩]
  exact qX q2 (by rw[Xz];omega)
 have h0:qc (bP n [] [] 0 (bb (ak n) ar) aO 0) (bb (ak n) ar) (if 0 > aO then 0 else aO):=⟨_,Hw,by split<;>omega,Wv _⟩
 have nn:=hR.last
 cases hw:aE.getLast? with
 |none=>
  obtain rfl:aE=[]:=List.getLast?_eq_none_iff.1 hw
  obtain rfl:ar=aV:=by simpa using nn
  have:=sh hf hn (l:=[]) (by simp) (ae:=[]) (by simp) 0 aO (bb (ak n) ar) Hw (by split<;>omega) (ak n).length
  rw[Wb]at this
  exact⟨_,this,by split<;>omega⟩
 |some t=>
  have zl:=hR.chain
  have MR:=mX zl t (List.mem_of_getLast? hw)
  obtain⟨_,_,_,_,t5⟩:=cH hf hn MR
  have EZ:bU n t=aV:=by
   cases aE with
   |nil=>simp at hw
   |cons x xs=>
    rw[Wx,W5,←Wx,List.getLast?_map,hw]at nn
    exact VV nn
  have h1:=Ii hf hn aE ar _ _ 0 zl h0 (by rw[if_pos rfl];exact Wv _) t hw
  have K7:=DO hf hn q2 hR.nodup zl
  rw[Wb,EZ]at h1
  obtain⟨v,v1,v2,v3⟩:=h1
  obtain⟨v',w1,w2,w3⟩:=sh hf hn (l:=[]) (by simp) (ae:=[]) (by simp) 0 aO (bb (ak n) ar) v1 v2 ((ak n).length-aE.length)
  rw[show aE.length+((ak n).length-aE.length)=(ak n).length by omega]at w1
  exact⟨v',⟨v',w1,w2,Wv _⟩,by omega⟩
theorem JI{l:List ao}(hl:l.length≤1048576){ae:List au}(hc:ae.length≤1048576){ar aV:ByteArray}{aO ab ax:Int}(hs:1≤ax∧ax≤3){aE:List au}(h:bE n l ae ar aV aO ab=some (aE,true)):
 ∃d,eV n ax ar aV aO=some d∧0≤d∧d≤200000:=by
 have hR:=nI hf hl hc h
 obtain⟨q1,q2,q3,q4⟩:=hR.hC
 have sD:=B6 hf hn hl hc h
 obtain⟨e,⟨v,v1,v2,v3⟩,he⟩:=sD
 have:=QW (ax:=ax) v2 (show v≤100000 by omega)
 exact⟨_,Da (Cq hf hn q2 q3 hR.EZ v1) v2 (by omega) hs,by omega,this.2⟩
end
end Go.Proofs.YtbalgkakkoocjaaGreat
namespace Go.Proofs.YtbalgkakkoocjaaGreat
set_option maxRecDepth 10000
open Go.RowKit Go.Lib Go.Sort
set_option maxRecDepth 100000
set_option maxHeartbeats 4000000
abbrev SW(w:World):Nat→Prop:=fun b=>b<w.heap.size
theorem wN{w w':World}{p:PV}{x:Value}(h:fA w (SW w) p x)(hu:Up w w'):fA w' (SW w') p x:=
 h.ext (fun b hb=>Xa hb hu.size) (fun b o hb=>hu.cell (p:=⟨b,o,none⟩) hb)
theorem iZ.Zft{P:Program}{α:Type}[dT α]{c:α→List PV}[hf:xm c (id:α→α)]{f:FuncId}{args:List PV}{T:TypeId}{r:List α}(h:iZ P f args [] (.ms 0) [some ⟨T,dT.k α,r.map c⟩]){w:World}(ht:HY w (nL fun _=>none)){vs:Array Value}(hl:vs.size=args.length)(ha:∀(i:Nat) (p:PV),args[i]?=some p→∃x,vs[i]?=some x∧dL w (E1 (SW w) (fun _=>none) 0) p x):
 Calls P f vs w fun e w'=>∃v,e=.returned v∧Own w' w.heap.size T v r∧Up w w':=by
 have ik:Ok w (nL fun _=>none) (E1 (fun b=>b<w.heap.size) (fun _=>none) 0) w []:=
  ⟨FX.refl _ _,fun b h=>h,fun l B h=>(by cases h),fun l l' B B' h=>(by cases h),fun l h=>absurd h (Nat.not_lt_zero l),fun l B h=>(by cases h),fun l mb h=>(by simp at h),fun l B h=>(by cases h),ht,fun _ _ h=>h.elim⟩
 refine(h (fun b=>b<w.heap.size) (fun _=>none) w vs (fun _ _=>False) ik hl ha).mono ?_
 rintro e w' ⟨v,E',rfl,hk,_,_,_,hr⟩
 refine⟨v,rfl,?_,⟨hk.up.os,hk.up.tape,hk.up.output,hk.up.size,fun b hb=>hk.up.block b hb GJ⟩⟩
 obtain⟨B,hB,hb,rfl⟩:=hr.sI hk (l:=0) rfl
 have D8:=hb.k
 have hn:B.n=r.length:=by have:=hb.n;simpa using this
 have hT:=hb.T
 simp only at D8 hT
 cases hz:B.z with
 |true=>
  have h0:r=[]:=by have:=hb.nil hz;simpa using this
  subst h0
  have DX:B.sv=.slice none 0 0:=by simp[qa.sv,hz]
  rw[DX]
  exact World.ownsRow_nil _ _ _ _
 |false=>
  have DX:B.sv=.slice (some ⟨B.b,0,none⟩) r.length B.c:=by simp[qa.sv,hz,hn]
  rw[DX]
  obtain⟨cells,hc,qF,yx⟩:=hb.mem hz
  have pZ:=hk.own 0 B hB hz
  have Ko:w.heap.size≤B.b:=by
   rcases pZ.1 with h|h
   ·exact absurd h GJ
   ·exact h
  refine⟨by rw[nZ],.inr ⟨B.b,B.c,cells,rfl,Ko,by rw[hc,hT];rfl,by rw[←hn];exact hb.nc,hb.cm,by rw[qF,D8],?_⟩⟩
  apply List.ext_getElem?
  intro t
  have hkp:0<dT.k α:=dT.pos
  rcases WB t (r.length*dT.k α)with hi|hi
  ·rw[List.getElem?_take_of_lt hi,Array.getElem?_toList]
   have lV:t / dT.k α<r.length:=by rw[Nat.div_lt_iff_lt_mul hkp];exact hi
   have hj:=Nat.mod_lt t hkp
   have e0:t / dT.k α*dT.k α+t % dT.k α=t:=by rw[Nat.mul_comm];exact Nat.div_add_mod t _
   have qD:(c r[t / dT.k α]).length=dT.k α:=hf.len _
   obtain⟨u,Kr,K6⟩:=hf.aO r[t / dT.k α] (t % dT.k α) _ (VT (by rw[qD];exact hj))
   obtain⟨x,x1,_,x3⟩:=yx (t / dT.k α) (c r[t / dT.k α]) (t % dT.k α) (.v u) (by simp[lV]) (by rw[VT (by rw[qD];exact hj),K6])
   obtain⟨rfl,_⟩:=x3.iG
   rw[D8,e0]at x1
   have EV:=uy (xs:=r) (i:=t / dT.k α) (x:=r[t / dT.k α]) (VT lV) Kr
   rw[e0]at EV
   rw[x1,EV]
  ·rw[Wy (by rw[V8];omega),Wy (by rw[nZ];omega)]
theorem ZcG:P3 Tryz.prog 29 177 (dT.k ao) 32:=P3.mk' (z:=.agg #[I 0,I 0,I 0,I 0]) Tryz.underlying29 (by kernel_rfl) rfl
section
variable {n:aj} (hf:cI n) {w:World} {O:Nat→Prop} (ht:HY w O) {v0 v1:Value} (h0:fA w (SW w) (.sl (n.ay.map bp)) v0) (h1:fA w (SW w) (.sl (n.off.map aG)) v1)
include hf ht h0 h1
theorem Qo{W:World}(hu:Up w W){xs:List ao}(hx:xs.length≤1048576){lv:Value}(hl:fA W (SW W) (.sl (xs.map aB)) lv):
 Calls Tryz.prog 186 #[.agg #[v0,v1,I n.change],lv] W fun e w'=>e=.returned (.bool (bJ n xs))∧Up W w':=by
 have o0:=h0.one (by simp) (by simp)
 have o1:=h1.one (by simp) (by simp)
 have hC:=CT.ok (P:=Tryz.prog) (vA hf hx)
 simp only[CT.f,CT.args,CT.m0,CT.res,CT.mem]at hC
 refine iZ.ZdR hC (Ma ht (O':=fun _=>False) ⟨hu.os,hu.tape,hu.output,hu.size,fun b hb _=>hu.block b hb⟩ fun b _ h=>h.elim) rfl fun i p hp=>?_
 match i with
 |0=>
  obtain rfl:_=p:=VV hp
  refine⟨_,rfl,.ag _ _ rfl (fun j x hx=>?_) fun j p x hp hx=>?_⟩
  ·match j with
   |0=>obtain rfl:_=x:=VV hx
       exact o0
   |1=>obtain rfl:_=x:=VV hx
       exact o1
   |2=>obtain rfl:_=x:=VV hx
       rfl
   |j+3=>simp at hx
  ·match j with
   |0=>obtain rfl:_=x:=VV hx
       obtain rfl:_=p:=VV hp
       exact .c (wN h0 hu)
   |1=>obtain rfl:_=x:=VV hx
       obtain rfl:_=p:=VV hp
       exact .c (wN h1 hu)
   |2=>obtain rfl:_=x:=VV hx
       obtain rfl:_=p:=VV hp
       exact JU _ rfl
   |j+3=>simp at hx
 |1=>
  obtain rfl:_=p:=VV hp
  exact⟨_,rfl,.c hl⟩
 |i+2=>simp at hp
omit hf h0 h1 in
theorem Mo{W:World}(hu:Up w W){xs:List ao}(hx:xs.length≤1048576){lv:Value}(hl:fA W (SW W) (.sl (xs.map aB)) lv):
 Calls Tryz.prog 184 #[lv] W fun e w'=>∃v,e=.returned v∧Own w' W.heap.size 177 v xs∧Up W w':=by
 have hm:fL xs=some xs:=by
  unfold fL
  simp only[VY,yl hx (show 32≤1024 by omega),VS,WM]
 have hC:=CT.ok (P:=Tryz.prog) hm
 simp only[CT.f,CT.args,CT.m0,CT.res,CT.mem]at hC
 refine iZ.Zft hC (Ma ht (O':=fun _=>False) ⟨hu.os,hu.tape,hu.output,hu.size,fun b hb _=>hu.block b hb⟩ fun b _ h=>h.elim) rfl fun i p hp=>?_
 match i with
 |0=>
  obtain rfl:_=p:=VV hp
  exact⟨_,rfl,.c hl⟩
 |i+1=>simp at hp
end
theorem Bp{w w':World}{b o:Nat}{v:Value}(h:w.cell? ⟨b,o,none⟩=some v)(hb:b<w.heap.size)(hu:Up w w'):w'.cell? ⟨b,o,none⟩=some v:=(hu.cell (p:=⟨b,o,none⟩) hb).trans h
theorem VM{w W:World}{O:Nat→Prop}(h:HY w O)(hu:Up w W){B:Nat}(hB:w.heap.size≤B):HY W (fun b=>B≤b):=by
 obtain⟨T,h1,h2⟩:=h
 exact⟨T,fun b hb=>⟨Xa (h1 b hb).1 hu.size,fun h=>by have:=(h1 b hb).1;omega⟩,fun w'' Zbl=>h2 w'' fun b hb=>(Zbl b hb).trans (hu.block b (h1 b hb).1)⟩
theorem Sb{w:World}{B Bx:Nat}{v v':Value}{xs:List ao}(h:Own w B 177 v xs)(hx:w.heap[Bx]?=some (.cells #[v'] 29 (0,0))):v.ownBlock≠some Bx:=by
 rcases h.2 with⟨hv,_⟩ |⟨g,cap,cur,hv,hB,hg,_⟩
 ·rw[hv];simp[Value.ownBlock]
 ·rw[hv]
  intro e
  have:g=Bx:=by simpa[Value.ownBlock]using e
  subst this
  rw[hg]at hx
  simp at hx
section
variable {n:aj} (hf:cI n) {w:World} {O:Nat→Prop} (ht:HY w O) {v0 v1:Value} (h0:fA w (SW w) (.sl (n.ay.map bp)) v0) (h1:fA w (SW w) (.sl (n.off.map aG)) v1)
 {l:List ao} (hl:l.length≤1048000) {lv:Value} (hlr:fA w (SW w) (.sl (l.map aB)) lv) (bk ab:Int) {aE:List au} (K7:aE.length≤1048576) {A:Option Addr} {wn:Nat} (E0:Rd w w.heap.size A aE)
include hf ht h0 h1 hl hlr K7 E0
theorem TC(uQ:¬(bJ n l=true∧aE.length≤20)):
 Calls Tryz.prog 202 #[.agg #[v0,v1,I n.change],lv,I bk,I ab,.slice A aE.length wn] w fun e w'=>∃v,e=.returned (.tuple #[v,.bool false])∧Own w' w.heap.size 177 v l∧Up w w':=by
 have hA:=fun(W:World) (hu:Up w W)=>Qo hf ht h0 h1 hu (xs:=l) (by omega) (wN hlr hu)
 have hC:=fun(W:World) (hu:Up w W)=>Mo ht hu (xs:=l) (by omega) (wN hlr hu)
 have HA:Hid _:=hA
 have HC:Hid _:=hC
 clear hA hC hf ht h0 h1 hlr E0
 by_cases hb:bJ n l=true
 ·have h20:(20:Int)<(aE.length:Int):=by
   rcases WB 20 aE.length with h|h
   ·omega
   ·exact absurd ⟨hb,h⟩ uQ
  have Hb:Hid (bJ n l=true):=hb
  clear uQ hb
  go_enter Tryz.func202,Tryz.ntmps202
  go_wp2_with (first
   |(go_at_call 186;refine(HA.out _ (by(repeat(first|exact Up.rfl' _|(refine Up.al _ ?_) |(refine Up.dr _ ?_) |(refine Up.xY ?_) |(refine Up.sc ?_ (by first|exact V3 _|(simp;done) |omega) _) |(refine Up.step (by assumption) ?_))))).mono ?_;rintro e w1 ⟨rfl,Kr⟩;rw[Hb.out])
   |(go_at_call 184;refine(HC.out _ (by(repeat(first|exact Up.rfl' _|(refine Up.al _ ?_) |(refine Up.dr _ ?_) |(refine Up.xY ?_) |(refine Up.sc ?_ (by first|exact V3 _|(simp;done) |omega) _) |(refine Up.step (by assumption) ?_))))).mono ?_;rintro e w2 ⟨v2,rfl,u5,K6⟩))
  go_ret2
  exact⟨v2,rfl,u5.down (by(repeat(first|exact Up.rfl' _|(refine Up.al _ ?_) |(refine Up.dr _ ?_) |(refine Up.xY ?_) |(refine Up.sc ?_ (by first|exact V3 _|(simp;done) |omega) _) |(refine Up.step (by assumption) ?_)))),by(repeat(first|exact Up.rfl' _|(refine Up.al _ ?_) |(refine Up.dr _ ?_) |(refine Up.xY ?_) |(refine Up.sc ?_ (by first|exact V3 _|(simp;done) |omega) _) |(refine Up.step (by assumption) ?_)))⟩
 ·have uX:bJ n l=false:=by simpa using hb
  have Hb:Hid (bJ n l=false):=uX
  clear uQ hb uX
  go_enter Tryz.func202,Tryz.ntmps202
  go_wp2_with (first
   |(go_at_call 186;refine(HA.out _ (by(repeat(first|exact Up.rfl' _|(refine Up.al _ ?_) |(refine Up.dr _ ?_) |(refine Up.xY ?_) |(refine Up.sc ?_ (by first|exact V3 _|(simp;done) |omega) _) |(refine Up.step (by assumption) ?_))))).mono ?_;rintro e w1 ⟨rfl,Kr⟩;rw[Hb.out])
   |(go_at_call 184;refine(HC.out _ (by(repeat(first|exact Up.rfl' _|(refine Up.al _ ?_) |(refine Up.dr _ ?_) |(refine Up.xY ?_) |(refine Up.sc ?_ (by first|exact V3 _|(simp;done) |omega) _) |(refine Up.step (by assumption) ?_))))).mono ?_;rintro e w2 ⟨v2,rfl,u5,K6⟩))
  go_ret2
  exact⟨v2,rfl,u5.down (by(repeat(first|exact Up.rfl' _|(refine Up.al _ ?_) |(refine Up.dr _ ?_) |(refine Up.xY ?_) |(refine Up.sc ?_ (by first|exact V3 _|(simp;done) |omega) _) |(refine Up.step (by assumption) ?_)))),by(repeat(first|exact Up.rfl' _|(refine Up.al _ ?_) |(refine Up.dr _ ?_) |(refine Up.xY ?_) |(refine Up.sc ?_ (by first|exact V3 _|(simp;done) |omega) _) |(refine Up.step (by assumption) ?_)))⟩
theorem Qr(hb:bJ n l=true)(h20:aE.length≤20):
 Calls Tryz.prog 202 #[.agg #[v0,v1,I n.change],lv,I bk,I ab,.slice A aE.length wn] w fun e w'=>∃v ys ok,e=.returned (.tuple #[v,.bool ok])∧Own w' w.heap.size 177 v ys∧Up w w'∧ck n l bk ab aE=some (ys,ok):=by
 have hlb:=(cW hb).2
 have hA:=fun(W:World) (hu:Up w W) (xs:List ao) (hx:xs.length≤1048576) (lv:Value) (hl:fA W (SW W) (.sl (xs.map aB)) lv)=>Qo hf ht h0 h1 hu (xs:=xs) hx hl
 have hC:=fun(W:World) (hu:Up w W)=>Mo ht hu (xs:=l) (by omega) (wN hlr hu)
 have HA:Hid _:=hA
 have HC:Hid _:=hC
 have HL:Hid (∀W,Up w W→fA W (SW W) (.sl (l.map aB)) lv):=fun W hu=>wN hlr hu
 have HW:Hid (Rd w w.heap.size A aE):=E0
 have HF:Hid (cI n):=hf
 have HT:Hid (HY w O):=ht
 have Hb:Hid (bJ n l=true):=hb
 have Zgp:¬(20:Int)<(aE.length:Int):=by omega
 clear hA hC hf ht h0 h1 hlr E0 hb
 go_enter Tryz.func202,Tryz.ntmps202
 go_wp2_with (first
  |(go_at_call 186;refine(HA.out _ (by(repeat(first|exact Up.rfl' _|(refine Up.al _ ?_) |(refine Up.dr _ ?_) |(refine Up.xY ?_) |(refine Up.sc ?_ (by first|exact V3 _|(simp;done) |omega) _) |(refine Up.step (by assumption) ?_)))) l (by omega) lv (HL.out _ (by(repeat(first|exact Up.rfl' _|(refine Up.al _ ?_) |(refine Up.dr _ ?_) |(refine Up.xY ?_) |(refine Up.sc ?_ (by first|exact V3 _|(simp;done) |omega) _) |(refine Up.step (by assumption) ?_)))))).mono ?_;rintro e w1 ⟨rfl,Kr⟩;rw[Hb.out])
  |(go_at_call 184;refine(HC.out _ (by(repeat(first|exact Up.rfl' _|(refine Up.al _ ?_) |(refine Up.dr _ ?_) |(refine Up.xY ?_) |(refine Up.sc ?_ (by first|exact V3 _|(simp;done) |omega) _) |(refine Up.step (by assumption) ?_))))).mono ?_;rintro e w2 ⟨v2,rfl,u5,K6⟩;obtain⟨A2,c2,rfl,DT,_⟩:=u5.form))
 have hub:Up (w.alloc (.cells #[v0,v1,I n.change] 27)) w2:=by(repeat(first|exact Up.rfl' _|(refine Up.al _ ?_) |(refine Up.dr _ ?_) |(refine Up.xY ?_) |(refine Up.sc ?_ (by first|exact V3 _|(simp;done) |omega) _) |(refine Up.step (by assumption) ?_)))
 have pZ:Own w2 (w.heap.size+1) 177 (.slice A2 l.length c2) l:=by
  have:=u5.down (w0:=w.alloc (.cells #[v0,v1,I n.change] 27)) (by(repeat(first|exact Up.rfl' _|(refine Up.al _ ?_) |(refine Up.dr _ ?_) |(refine Up.xY ?_) |(refine Up.sc ?_ (by first|exact V3 _|(simp;done) |omega) _) |(refine Up.step (by assumption) ?_))))
  simpa using this
 have HUB:=Lib.hid hub
 have HO:=Lib.hid pZ
 clear u5 DT pZ
 go_loopw [30] (fun vi wr=>∃(i:Nat) (v:Value),vi=.int .i64 i∧i≤aE.length∧Own wr (w.heap.size+1) 177 v (l++ff bk ab (aE.take i))∧wr.heap[w2.heap.size]?=some (.cells #[v] 29 (0,0))∧Up (w.alloc (.cells #[v0,v1,I n.change] 27)) wr) (fun vi _=>aE.length-(intOf vi).toNat)
 case atStart=>
  refine⟨0,_,by go_num,by omega,?_,heap_alloc_new _ _,Up.al _ HUB.out⟩
  simp only[List.take_zero,ff,List.map_nil,Xc]
  exact HO.out.up (Up.al _ (Up.rfl' _))
 case round=>
  obtain⟨i,v,rfl,hi,hv,hx,E0⟩:=hrel
  obtain⟨A3,c3,rfl,hc3,hm3⟩:=hv.form
  have xb:(l++ff bk ab (aE.take i)).length=l.length+i:=by simp[ff];omega
  rw[xb]at hv hx
  have Td:wr.cell? ⟨w2.heap.size,0,none⟩=some (.slice A3 (l.length+i) c3):=by rw[cell_of_row wr _ 0 _ _ (0,0) hx];rfl
  have hz:w2.heap.size<wr.heap.size:=(V6.1 hx).1
  have Ks:wr.heap.size≠w2.heap.size:=by omega
  have Ov:w2.heap.size≠wr.heap.size:=by omega
  have HV:=Lib.hid hv
  have HX:=Lib.hid hx
  have HWR:=Lib.hid E0
  have HNL:=Lib.hid xb
  clear hv hx E0
  clear xb hc3 hm3
  by_cases bF:i<aE.length
  ·obtain⟨b,off,rfl,hbb,zH⟩:=(HW.out.up (Up.step (w.alloc (.cells #[v0,v1,I n.change] 27) |> fun _=>HWR.out) (Up.al _ (Up.rfl' w)))).aO (VT bF)
   have d0:wr.cell? ⟨b,off+i*2,none⟩=some (I aE[i].bx):=zH 0 _ rfl
   have d1:wr.cell? ⟨b,off+i*2+1,none⟩=some (I aE[i].day):=zH 1 _ rfl
   clear zH
   have Zdl:Rd ((wr.alloc (.cells #[I aE[i].bx,I aE[i].day] 46)).alloc (.cells #[I bk,I aE[i].bx,I aE[i].day,I ab] 177)) (wr.heap.size+2) (some ⟨wr.heap.size+1,0,none⟩) [(⟨bk,aE[i],ab⟩:ao)]:=by
    have e:(wr.alloc (.cells #[I aE[i].bx,I aE[i].day] 46)).heap.size=wr.heap.size+1:=by simp
    have h:=Rd.one (wr.alloc (.cells #[I aE[i].bx,I aE[i].day] 46)) 177 (⟨bk,aE[i],ab⟩:ao) (wr.heap.size+2) (by rw[e];omega)
    rw[e]at h
    exact h
   have HR1:=Lib.hid Zdl
   clear Zdl
   have hlen:=HNL.out
   have Bu:w.heap.size+1≤wr.heap.size:=by have:=HWR.out.size;simpa using this
   go_wp2_with (at_builtin;refine cX ZcG rfl (.tmp 34) (.tmp 39) rfl (base:=w.heap.size+1) (ys:=l++ff bk ab (aE.take i)) (xs:=[(⟨bk,aE[i],ab⟩:ao)]) (by rfl) (HV.out.up (by(repeat(first|exact Up.rfl' _|(refine Up.al _ ?_) |(refine Up.dr _ ?_) |(refine Up.xY ?_) |(refine Up.sc ?_ (by first|exact V3 _|(simp;done) |omega) _) |(refine Up.step (by assumption) ?_))))) 1 (by rfl) rfl HR1.out (by simp only[VX,VY];omega) (by unfold maxLen;simp only[VX,VY];omega) (by simp;omega) ?_;intro v' w3 Rs hg3 _ hu3;refine Hid.out ?_)
   have hx3:w3.heap[w2.heap.size]?=some (.cells #[.slice A3 (l.length+i) c3] 29 (0,0)):=by
    rw[hg3.block _ (by simp;omega) (fun e=>Sb HV.out HX.out e.symm)]
    exact((Up.al _ (Up.al _ (Up.rfl' wr))).block _ hz).trans HX.out
   obtain⟨A4,c4,rfl,On,hm4⟩:=Rs.form
   have hl4:(l++ff bk ab (aE.take i)++[(⟨bk,aE[i],ab⟩:ao)]).length=l.length+(i+1):=by simp[ff];omega
   rw[hl4]at Rs⊢
   clear hl4
   have MP:ff bk ab (aE.take (i+1))=ff bk ab (aE.take i)++[⟨bk,aE[i],ab⟩]:=by
    unfold ff
    rw[Xe bF,Xq];rfl
   have ZeO:w3.cell? ⟨w2.heap.size,0,none⟩=some (.slice A3 (l.length+i) c3):=by rw[cell_of_row w3 _ 0 _ _ (0,0) hx3];rfl
   have Zgq:w3.frozen? ⟨w2.heap.size,0,none⟩=false:=by simp[World.frozen?,hx3]
   have Zdr:Up (w.alloc (.cells #[v0,v1,I n.change] 27)) w3:=hu3 _ (by simp) (Up.al _ (Up.al _ HWR.out))
   have HX3:=Lib.hid hx3
   have HO3:=Lib.hid Rs
   have HN:=Lib.hid MP
   have HW3:=Lib.hid Zdr
   clear hx3 Rs hg3 hu3 MP Zdr On hm4 hlen
   refine Lib.hid ?_
   go_wp2
   refine⟨⟨i+1,_,by go_num,by omega,?_,heap_setCell_same w3 _ 0 _ _ _ HX3.out,Up.sc HW3.out (by have:=HUB.out.size;simp at this⊢;omega) _⟩,by simp[intOf];omega⟩
   rw[HN.out,←Xb]
   exact HO3.out.grown (row:=some w2.heap.size) ⟨rfl,rfl,rfl,by simp,fun k hk iw=>heap_setCell_other _ _ _ _ (fun e=>iw (by rw[e]))⟩ (.inr (Sb HO3.out HX3.out))
  ·have hie:i=aE.length:=by omega
   subst hie
   have rD:=VI HV.out HX.out (by rw[HNL.out];omega) (VM HT.out (Up.step HWR.out (Up.al _ (Up.rfl' w))) (by omega)) (fun b h=>h)
   have yz:¬(aE.length:Int)<(aE.length:Int):=by omega
   go_wp2_with (go_at_call 275;refine rD.mono ?_;rintro e w4 ⟨rfl,ys,hp,hs,ho4,hu4⟩;refine Hid.out ?_)
   rw[Xo]at hp
   have hyl:ys.length=l.length+aE.length:=by rw[hp.length_eq];simp[ff]
   have vw:=sj HF.out hl bk ab hp hs
   have Ou:Up (w.alloc (.cells #[v0,v1,I n.change] 27)) w4:=by
    have h:=HWR.out
    exact⟨hu4.os.trans h.os,hu4.tape.trans h.tape,hu4.output.trans h.output,Nat.le_trans h.size hu4.size,fun b hb=>(hu4.block b (Xa hb h.size) (fun hh=>by simp at hb;omega)).trans (h.block b hb)⟩
   have e0:w4.cell? ⟨w.heap.size,0,none⟩=some v0:=Bp (by simp) (by simp) Ou
   have e1:w4.cell? ⟨w.heap.size,1,none⟩=some v1:=Bp (by simp) (by simp) Ou
   have e2:w4.cell? ⟨w.heap.size,2,none⟩=some (I n.change):=Bp (by simp) (by simp) Ou
   have ex:w4.heap[w2.heap.size]?=some (.cells #[.slice A3 (l.length+aE.length) c3] 29 (0,0)):=(hu4.block _ hz (fun hh=>hh.2 rfl)).trans HX.out
   have exc:w4.cell? ⟨w2.heap.size,0,none⟩=some (.slice A3 (l.length+aE.length) c3):=by rw[cell_of_row w4 _ 0 _ _ (0,0) ex];rfl
   have hrp:fA w4 (SW w4) (.sl (ys.map aB)) (.slice A3 (l.length+aE.length) c3):=by
    rw[←hyl]at ho4⊢
    obtain⟨A5,c5,e5,h5,h6⟩:=ho4.form
    obtain⟨rfl,rfl⟩:A3=A5∧c3=c5:=by simpa using e5
    exact Nh (c:=aB) id (by rw[X2];exact ho4.rd) h5 h6
   have Zbk:Up w w4:=Up.step Ou (Up.al _ (Up.rfl' w))
   have hA:=HA.out w4 Zbk ys (by omega) _ hrp
   have HSP:=Lib.hid vw
   have HO4:=Lib.hid ho4
   have HUP:=Lib.hid Ou
   have ZaE:=Lib.hid Zbk
   have HZ4:Hid (w2.heap.size<w4.heap.size):=Xa hz hu4.size
   clear rD hp hs ho4 hu4 hyl vw Ou ex hrp Zbk
   refine Lib.hid ?_
   cases hby:bJ n ys with
   |true=>
    rw[hby]at hA
    have HBY:=Lib.hid hby
    clear hby
    go_wp2_with (first
     |(go_at_call 186;refine hA.mono ?_;rintro e w5 ⟨rfl,hu5⟩;have Zgo:=Bp exc HZ4.out hu5))
    go_ret2
    exact⟨_,ys,true,rfl,(HO4.out.more (by omega)).up hu5,Up.step hu5 (Up.step HUP.out (Up.al _ (Up.rfl' w))),by rw[HSP.out,if_pos ⟨Hb.out,h20,HBY.out⟩]⟩
   |false=>
    rw[hby]at hA
    have HBY:=Lib.hid hby
    clear hby
    go_wp2_with (first
     |(go_at_call 186;refine hA.mono ?_;rintro e w5 ⟨rfl,hu5⟩)
     |(go_at_call 184;refine(HC.out _ (Up.step hu5 ZaE.out)).mono ?_;rintro e w6 ⟨v6,rfl,ho6,hu6⟩))
    go_ret2
    exact⟨v6,l,false,rfl,ho6.down (Up.step hu5 ZaE.out),Up.step hu6 (Up.step hu5 ZaE.out),by rw[HSP.out,if_neg (fun h=>by rw[HBY.out]at h;cases h.2.2)]⟩
end
end Go.Proofs.YtbalgkakkoocjaaGreat
namespace Go.Proofs.YtbalgkakkoocjaaGreat
set_option maxRecDepth 10000
open Go.RowKit Go.Lib
def ZaV(n:aj):Bool:=decide (n.ay.length≤1048576)&&decide (n.off.length≤1048576)&&n.ay.all fun l=>decide (l.ar.size≤xl)&&decide (l.aV.size≤xl)
theorem Ct{n:aj}:ZaV n=true↔cI n:=by
 unfold ZaV
 simp only[VZ,decide_eq_true_iff,List.all_eq_true]
 exact⟨fun h=>⟨h.1.1,h.1.2,fun l hl=>h.2 l hl⟩,fun h=>⟨⟨h.ay,h.off⟩,fun l hl=>h.bx l hl⟩⟩
def fm(n:aj)(l:List ao)(bk:Int)(ab:Int)(aE:List au):Option ((List ao)×Bool):=
 if ZaV n=true∧l.length≤1048000∧aE.length≤1048576 then ck n l bk ab aE else none
theorem Zei{vs:Array Value}{x0 x1 x2 x3 x4:Value}(h:vs.size=5)(h0:vs[0]?=some x0)(h1:vs[1]?=some x1)(h2:vs[2]?=some x2)(h3:vs[3]?=some x3)(h4:vs[4]?=some x4):vs=#[x0,x1,x2,x3,x4]:=by
 apply Array.ext (by simp[h])
 intro i hi hj
 have a0:=(V6.1 h0).2
 have a1:=(V6.1 h1).2
 have a2:=(V6.1 h2).2
 have a3:=(V6.1 h3).2
 have a4:=(V6.1 h4).2
 match i,hi with
 |0,_=>simpa using a0
 |1,_=>simpa using a1
 |2,_=>simpa using a2
 |3,_=>simpa using a3
 |4,_=>simpa using a4
 |i+5,hi=>omega
theorem Bd(n:aj)(l:List ao)(bk:Int)(ab:Int)(aE:List au){r:(List ao)×Bool}(H:fm n l bk ab aE=some r):iZ Tryz.prog 202 [.ag (bA n),.sl (l.map aB),vi bk,vi ab,.sl (aE.map aS)] [] (.tu [.ms 0,vb r.2]) [some ⟨.of 177,4,r.1.map aB⟩]:=by
 unfold fm at H
 split at H
 case isFalse=>cases H
 rename_i ik
 obtain⟨hf,hln,hwn⟩:=ik
 have hf:=Ct.1 hf
 intro S β w vs ω hk hl ha
 obtain⟨x0,q0,r0⟩:=ha 0 _ rfl
 obtain⟨x1,q1,r1⟩:=ha 1 _ rfl
 obtain⟨x2,q2,r2⟩:=ha 2 _ rfl
 obtain⟨x3,q3,r3⟩:=ha 3 _ rfl
 obtain⟨x4,q4,r4⟩:=ha 4 _ rfl
 obtain rfl:=Zei hl q0 q1 q2 q3 q4
 obtain rfl:=LX r2
 obtain rfl:=LX r3
 obtain⟨us,rfl,hul,Kr,hur⟩:=r0.qg
 have Zbj:us.size=3:=hul
 have z0:us[0]?=some us[0]:=V9 (by omega)
 have z1:us[1]?=some us[1]:=V9 (by omega)
 have z2:us[2]?=some us[2]:=V9 (by omega)
 have Uy:us=#[us[0],us[1],us[2]]:=Zco Zbj z0 z1 z2
 have w0:=(hur 0 (.sl (n.ay.map bp)) _ rfl z0).vR
 have w1:=(hur 1 (.sl (n.off.map aG)) _ rfl z1).vR
 have w2:=LX (hur 2 (vi n.change) _ rfl z2)
 have w3:=r1.vR
 have w4:=r4.vR
 have up:∀{p:PV} {x:Value},fA w S p x→fA w (SW w) p x:=fun h=>h.ext (fun b hb=>hk.sz b hb) fun _ _ _=>rfl
 obtain⟨A,wn,rfl,_,_,Tj⟩:=Vi (id:au→au) (c:=aS) hk.sz w4
 rw[X2]at Tj
 have Zdc:Calls Tryz.prog 202 #[.agg #[us[0],us[1],I n.change],x1,I bk,I ab,.slice A aE.length wn] w fun e w'=>∃v ys ok,e=.returned (.tuple #[v,.bool ok])∧Own w' w.heap.size 177 v ys∧Up w w'∧ck n l bk ab aE=some (ys,ok):=by
  by_cases uQ:bJ n l=true∧aE.length≤20
  ·exact Qr hf hk.Tm (up w0) (up w1) hln (up w3) bk ab hwn Tj uQ.1 uQ.2
  ·refine(TC hf hk.Tm (up w0) (up w1) hln (up w3) bk ab hwn Tj uQ).mono ?_
   rintro e w' ⟨v,rfl,ho,hu⟩
   refine⟨v,l,false,rfl,ho,hu,?_⟩
   unfold ck
   rw[qM (by omega),VS,iv hf (by omega),VS]
   by_cases hb:bJ n l=true
   ·rw[hb,decide_eq_true (show 20<(aE.length:Int)by
     rcases WB 20 aE.length with h|h
     ·omega
     ·exact absurd ⟨hb,h⟩ uQ)];rfl
   ·have uX:bJ n l=false:=by simpa using hb
    rw[uX];rfl
 rw[Uy,w2]
 refine Zdc.mono ?_
 rintro e w' ⟨v,ys,ok,rfl,ho,hu,vw⟩
 rw[vw]at H
 obtain rfl:=VV H
 obtain⟨E',h1,h2,h3,h4,h5⟩:=zP (c:=aB) hk ho hu (fun x=>⟨rfl,fun j p hj=>by
  obtain⟨u,Kr,K6⟩:=xm.aO (c:=aB) (g:=(id:ao→ao)) x j p hj
  exact⟨u,Kr,dT.one _ u (VW Kr),fun w E=>by rw[K6];exact JU _ (dT.one _ u (VW Kr))⟩⟩)
 refine⟨_,E',rfl,h1,h2,h3,h4,.tu _ _ rfl fun j p x hp hx=>?_⟩
 match j with
 |0=>obtain rfl:_=p:=VV hp
     obtain rfl:_=x:=VV hx
     exact h5
 |1=>obtain rfl:_=p:=VV hp
     obtain rfl:_=x:=VV hx
     exact JU _ rfl
 |j+2=>simp at hp
instance (n:aj)(l:List ao)(bk:Int)(ab:Int)(aE:List au):CT Tryz.prog (fm n l bk ab aE):=⟨202,[.ag (bA n),.sl (l.map aB),vi bk,vi ab,.sl (aE.map aS)],[],fun r=>.tu [.ms 0,vb r.2],fun r=>[some ⟨.of 177,4,r.1.map aB⟩],Bd n l bk ab aE⟩
end Go.Proofs.YtbalgkakkoocjaaGreat
namespace Go.Proofs.YtbalgkakkoocjaaGreat
set_option maxRecDepth 10000
open Go.RowKit
set_option maxHeartbeats 16000000
def fo(w:av)(cG:ByteArray)(aV:ByteArray)(ax:Int)(ab:Int):Option (av×Int×Bool):=
 (dP w).bind fun y1=>
 (gI w).bind fun y2=>
 cond (!y2)
 (some (y1,0,false))
 (cond (decide (30≤(w.ah.length:Int)))
 (some (y1,0,false))
 (cond (decide (cG=aV))
 (some (y1,0,false))
 ((aZ ax 1 3).bind fun y3=>
 cond (!y3)
 (some (y1,0,false))
 ((aZ ab 1 30000).bind fun y4=>
 cond (!y4)
 (some (y1,0,false))
 ((il w.aa w.aq w.ae cG aV (aL (w.now+1)) ab).bind fun y5=>
 cond (!y5.2)
 (some (y1,0,false))
 ((fm w.aa w.aq (aL ((w.ah.length:Int)+1)) ab y5.1).bind fun y6=>
 cond (!y6.2)
 (some (y1,0,false))
 ((A8 (.un::vs cG::vs aV::vi ax::vi ab::.be 0 0 0::(U 4 (.be 1 0 0::.un::.un::.be 2 0 0::vi (aL ((w.ah.length:Int)+1))::.sl (y5.1.map aS)::(U 101 [])))) [some ⟨.of 33,10,[[.sl (w.aa.ay.map bp),.sl (w.aa.off.map aG),vi w.aa.change,.sl (w.ah.map bc),.sl (w.aq.map aB),.sl (w.ae.map aS),vi w.now,.sl (w.aH.map bt),.sl (w.skip.map aG),vi w.bd]]⟩,some ⟨.of 33,10,[[.v (.slice none 0 0),.v (.slice none 0 0),vi 0,.v (.slice none 0 0),.v (.slice none 0 0),.v (.slice none 0 0),vi 0,.v (.slice none 0 0),.v (.slice none 0 0),vi 0]]⟩,some ⟨.of 33,10,[[.ms 3,.ms 4,vi y1.aa.change,.ms 5,.ms 6,.ms 7,vi y1.now,.ms 8,.ms 9,vi y1.bd]]⟩,some ⟨.of 174,6,y1.aa.ay.map bp⟩,some ⟨.of 3,1,y1.aa.off.map aG⟩,some ⟨.of 155,11,y1.ah.map bc⟩,some ⟨.of 177,4,y6.1.map aB⟩,some ⟨.of 46,2,y1.ae.map aS⟩,some ⟨.of 181,6,y1.aH.map bt⟩,some ⟨.of 3,1,y1.skip.map aG⟩]).bind fun _=>
 (eV w.aa ax cG aV (aL (w.now+1))).bind fun y7=>
 (jI y5.1).bind fun y8=>
 (cL (bo ((y1.ah:List az).length+([(⟨cG,aV,ax,ab,w.now,y7,y8,0,1,cG,0⟩:az)]:List az).length) 128)).bind fun _=>
 (bh [2,3,4,98,6,7,8,9]).bind fun _=>
 (fq (⟨y1.aa,((y1.ah:List az)++[(⟨cG,aV,ax,ab,w.now,y7,y8,0,1,cG,0⟩:az)]),y6.1,y1.ae,y1.now,y1.aH,y1.skip,y1.bd⟩:av) (⟨(aL ((w.ah.length:Int)+1)),w.now,1,cG,(⟨0,0⟩:au)⟩:br)).bind fun y9=>
 some (y9,(aL ((w.ah.length:Int)+1)),true))))))))
instance (w:av)(cG:ByteArray)(aV:ByteArray)(ax:Int)(ab:Int):CT Tryz.prog (fo w cG aV ax ab):=⟨106,[.ag (fK w),vs cG,vs aV,vi ax,vi ab],[],fun r=>.tu [.ag [.ms 0,.ms 1,vi r.1.aa.change,.ms 2,.ms 3,.ms 4,vi r.1.now,.ms 5,.ms 6,vi r.1.bd],vi r.2.1,vb r.2.2],fun r=>[some ⟨.of 174,6,r.1.aa.ay.map bp⟩,some ⟨.of 3,1,r.1.aa.off.map aG⟩,some ⟨.of 155,11,r.1.ah.map bc⟩,some ⟨.of 177,4,r.1.aq.map aB⟩,some ⟨.of 46,2,r.1.ae.map aS⟩,some ⟨.of 181,6,r.1.aH.map bt⟩,some ⟨.of 3,1,r.1.skip.map aG⟩],fun H=>by replace H:=H0 H;unfold fo at H;exact aA Tryz.func106 rfl Tryz.ntmps106 Tryz.results106 fun Q hQ cR=>dU⟩
def Me(w:av)(ar aV:ByteArray)(ax ab:Int):Prop:=
 30≤w.ah.length∨ar=aV∨¬(1≤ax∧ax≤3)∨¬(1≤ab∧ab≤30000)∨(∃x,bE w.aa w.aq w.ae ar aV (w.now+1) ab=some (x,false))∨
  ∃aE l,bE w.aa w.aq w.ae ar aV (w.now+1) ab=some (aE,true)∧ck w.aa w.aq ((w.ah.length:Int)+1) ab aE=some (l,false)
structure Qc(w:av)(ar aV:ByteArray)(ax ab:Int)(r:av×Int×Bool)(aE:List au)(ys:List ao)(dX:Int):Prop where
 fy:bE w.aa w.aq w.ae ar aV (w.now+1) ab=some (aE,true)
 book:ck w.aa w.aq ((w.ah.length:Int)+1) ab aE=some (ys,true)
 prom:eV w.aa ax ar aV (w.now+1)=some dX
 res:r=(ya w (mI w ar aV ax ab dX aE) ys,(w.ah.length:Int)+1,true)
 ne:¬ar=aV
 ok:pL (ya w (mI w ar aV ax ab dX aE) ys)
theorem Qg{w:av}(h:pL w)(ar aV:ByteArray)(ax ab:Int)(hpr:∀aE,bE w.aa w.aq w.ae ar aV (w.now+1) ab=some (aE,true)→1≤ax∧ax≤3→∃d,eV w.aa ax ar aV (w.now+1)=some d∧0≤d∧d≤200000):
 ∃r,fo w ar aV ax ab=some r∧(r=(w,0,false)∧Me w ar aV ax ab∨∃aE ys dX,Qc w ar aV ax ab r aE ys dX):=by
 have hf:=h.fit
 obtain⟨p1,p2,p3,p4,p5,p6,p7⟩:=h.parts
 have wA:aL (w.now+1)=w.now+1:=aQ (by omega)
 have zK:aL ((w.ah.length:Int)+1)=(w.ah.length:Int)+1:=aQ (by omega)
 unfold fo
 rw[wk hf,VS,sF hf,h.ok,VS,fV,wA,zK]
 simp only[V0,cond_false,dt,VS]
 by_cases c1:30≤w.ah.length
 ·exact⟨_,by rw[decide_eq_true (show(30:Int)≤(w.ah.length:Int)by omega)];rfl,.inl ⟨rfl,.inl c1⟩⟩
 rw[decide_eq_false (show ¬(30:Int)≤(w.ah.length:Int)by omega),cond_false]
 by_cases c2:ar=aV
 ·exact⟨_,by rw[decide_eq_true c2];rfl,.inl ⟨rfl,.inr (.inl c2)⟩⟩
 rw[decide_eq_false c2,cond_false]
 by_cases c3:1≤ax∧ax≤3
 case neg=>
  refine⟨(w,0,false),?_,.inl ⟨rfl,.inr (.inr (.inl c3))⟩⟩
  have:(decide (1≤ax)&&decide (ax≤3))=false:=by rw[←XX];exact decide_eq_false c3
  rw[this];rfl
 rw[decide_eq_true c3.1,decide_eq_true c3.2]
 by_cases c4:1≤ab∧ab≤30000
 case neg=>
  refine⟨(w,0,false),?_,.inl ⟨rfl,.inr (.inr (.inr (.inl c4)))⟩⟩
  have:(decide (1≤ab)&&decide (ab≤30000))=false:=by rw[←XX];exact decide_eq_false c4
  rw[this];rfl
 rw[decide_eq_true c4.1,decide_eq_true c4.2]
 simp only[W8,V0,cond_false]
 obtain⟨⟨aE,b⟩,e1,e2⟩:=nF hf.ey hf.aq hf.ae ar aV (w.now+1) ab
 rw[e1,VS]
 cases b with
 |false=>exact⟨(w,0,false),rfl,.inl ⟨rfl,.inr (.inr (.inr (.inr (.inl ⟨aE,e2⟩))))⟩⟩
 |true=>
 have hR:=nI hf.ey hf.aq hf.ae e2
 have hlen:=hR.len
 simp only[V0,cond_false]
 have xb:(ff ((w.ah.length:Int)+1) ab aE).length=aE.length:=by unfold ff;rw[Wg]
 obtain⟨d,d1,d2⟩:=DC (w.aq++ff ((w.ah.length:Int)+1) ab aE) (by rw[V2,xb];omega)
 have D6:fm w.aa w.aq ((w.ah.length:Int)+1) ab aE=ck w.aa w.aq ((w.ah.length:Int)+1) ab aE:=by
  unfold fm
  rw[if_pos ⟨Ct.2 hf.ey,by omega,by omega⟩]
 have vw:=sj hf.ey (show w.aq.length≤1048000 by omega) ((w.ah.length:Int)+1) ab d1 d2
 rw[D6]
 by_cases Re:bJ w.aa d=true
 case neg=>
  rw[if_neg (fun hx=>Re hx.2.2)]at vw
  refine⟨(w,0,false),?_,.inl ⟨rfl,.inr (.inr (.inr (.inr (.inr ⟨aE,w.aq,e2,vw⟩))))⟩⟩
  rw[vw];rfl
 rw[if_pos ⟨hR.hC.1,hlen,Re⟩]at vw
 obtain⟨dX,q1,q2,q3⟩:=hpr aE e2 c3
 have D5:=ZaH h (by omega) c2 c3 c4 ⟨q2,q3⟩ hR d1 Re
 have ha:cL (bo (w.ah.length+([mI w ar aV ax ab dX aE]:List az).length) 128)=some ():=eR (by simp only[VX,VY];omega) (by omega)
 have hct:jI aE=some aE:=by
  unfold jI
  exact s8 (by omega)
 have hsi:=Hj (w:=⟨w.aa,w.ah++[mI w ar aV ax ab dX aE],d,w.ae,w.now,w.aH,w.skip,w.bd⟩) ⟨by simp only;omega,p4,by simp only;omega⟩ ⟨(w.ah.length:Int)+1,w.now,1,ar,⟨0,0⟩⟩
 refine⟨(ya w (mI w ar aV ax ab dX aE) d,(w.ah.length:Int)+1,true),?_,.inr ⟨aE,d,dX,e2,vw,q1,rfl,c2,D5⟩⟩
 rw[vw]
 simp only[VS,V0,cond_false,A8,q1,hct,bh]
 unfold mI at ha hsi⊢
 rw[ha]
 simp only[VS]
 rw[hsi]
 rfl
def jr(w:aj)(o:az):Option ByteArray:=
 cond (decide (o.state=2))
 ((aC o.aE o.aJ).bind fun y1=>
 (aC w.ay y1.bx).bind fun y2=>
 some y2.aV)
 (some o.place)
instance (w:aj)(o:az):CT Tryz.prog (jr w o):=⟨279,[.ag [.sl (w.ay.map bp),.sl (w.off.map aG),vi w.change,.un,.un,.un,.un,.un,.un,.un],.ag (bc o)],[],fun r=>vs r,fun r=>[],fun H=>by replace H:=H0 H;unfold jr at H;exact aA Tryz.func279 rfl Tryz.ntmps279 Tryz.results279 fun Q hQ cR=>dU⟩
structure Zck(w:av)(t:au)(r:List Int):Prop where
 len:r.length≤w.ah.length
 pw:r.Pairwise (· < ·)
 aO:∀y∈r,∃(i:Nat) (o:az),y=(i:Int)+1∧w.ah[i]?=some o∧o.state=2∧aC o.aE o.aJ=some t
def lz(w:av)(s0:Int×(List Int)):Option ((Int×(List Int))⊕(List Int)):=
 cond (decide (s0.1<(w.ah.length:Int)))
 ((aC w.ah s0.1).bind fun y2=>
 (fR w y2).bind fun y3=>
 cond y3
 ((cL (bo ((s0.2:List Int).length+([(aL (s0.1+1))]:List Int).length) 8)).bind fun _=>
 some (.inl ((aL (s0.1+1)),((s0.2:List Int)++[(aL (s0.1+1))]))))
 (some (.inl ((aL (s0.1+1)),s0.2))))
 (some (.inr s0.2))
instance (w:av):bm (lz w):=⟨fun s0=>(.un::.be 0 0 0::.un::.ms 1::(U 8 (.sl (w.ah.map bc)::vi (w.ah.length:Int)::vi s0.1::(U 14 [])))),fun s0=>[some ⟨.of 33,10,[[.sl (w.aa.ay.map bp),.sl (w.aa.off.map aG),vi w.aa.change,.sl (w.ah.map bc),.sl (w.aq.map aB),.sl (w.ae.map aS),vi w.now,.sl (w.aH.map bt),.sl (w.skip.map aG),vi w.bd]]⟩,some ⟨.of 3,1,s0.2.map aG⟩]⟩
def ly(w:av):Option (List Int):=
 (gI w).bind fun y1=>
 cond (!y1)
 (some ([]:List Int))
 ((aD (lz w) NN (0,([]:List Int))).bind (fun o0=>
 some o0))
instance (w:av):CT Tryz.prog (ly w):=⟨213,[.ag (fK w)],[],fun r=>.ms 0,fun r=>[some ⟨.of 3,1,r.map aG⟩],fun H=>by replace H:=H0 H;unfold ly at H;exact aA Tryz.func213 rfl Tryz.ntmps213 Tryz.results213 fun Q hQ cR=>dU⟩
end Go.Proofs.YtbalgkakkoocjaaGreat
