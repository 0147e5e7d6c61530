/- A part of the proof of the statement in the last file of this claim: texts on the language of the program and on its functions. No condition. -/
import Derived.Test.YtdilaemengjipaaGreatDoorCA29
import Derived.Test.YtdilaemengjipaaGreatDoorCA17
import Derived.Test.YtdilaemengjipaaGreatDoorCA22
import Derived.Test.YtdilaemengjipaaGreatDoorCA8
import Derived.Test.YtdilaemengjipaaGreatDoorCA10
import Derived.Test.YtdilaemengjipaaGreatDoorCA1
set_option linter.unusedVariables false
set_option linter.unusedSimpArgs false
set_option linter.unusedSectionVars false
open Option renaming some->YH,none->YI
open Bool renaming true->YJ,false->YK
open Decidable renaming decide->YL
open Go.Proofs.Tryz
set_option maxHeartbeats 40000000
open List renaming mem_of_getElem?->VV,mem_append->Wl,mem_singleton->Wf,append_assoc->Xm,getElem_of_mem->Wc,pairwise_iff_getElem->Ws,mem_cons->V1,Nodup->XW,pairwise_map->W5,length_cons->VZ,length_append->V3,length_nil->VY,mem_map->WE,getElem?_eq_getElem->VU,getElem?_eq_none->Xa,mem_filter->Xg,countP_eq_length_filter->XS,length_map->Wo
open Option renaming bind_some->VS,getD_some->Xe
open _root_.Int renaming le_refl->WH
open Option.some renaming inj->VW
open List.Pairwise renaming sublist->WW,nil->XC
open Bool renaming not_true->V5,and_eq_true->V6,not_eq_true'->WG,and_eq_false_imp->Xx
namespace Go.Proofs.YtdilaemengjipaaGreatDoor
set_option maxRecDepth 10000
open Go.RowKit
variable {e th:Int}{k:Nat}{t:av}
inductive Be(n:aj)(l:List aq)(ah:List av)(ab:Int)(au:ByteArray)(aP:Int):Nat->ByteArray->Int->List av->Prop
 |nil {q:ByteArray} {e:Int} (h0:0<=bf (ak n) q) (hg:aB (cd n l ah ab (bf (ak n) au) aP 0) (bf (ak n) q)=YH e) (he:0<=e):Be n l ah ab au aP 0 q e []
 |snoc {k:Nat} {y:bK} {u z d e:Int} {i:Nat} {aG:List av} (hp:Be n l ah ab au aP k y.au u aG) (c1:n.aA[i]?=YH y)
  (hg:aB (cd n l ah ab (bf (ak n) au) aP (k+1)) (bf (ak n) y.a8)=YH e)
  (c5:cZ n u (YL (bf (ak n) y.au=bf (ak n) au))=YH z) (c6:cF n l ah (i:Int) z ab=YH d) (c7:¬d<0) (c8:bl n ⟨(i:Int),d⟩=YH e):Be n l ah ab au aP (k+1) y.a8 e (aG++[⟨(i:Int),d⟩])
section
variable {n:aj} (hf:cO n)
include hf
theorem VH(hn:aV n=YH YJ){l:List aq}(hl:l.length<=1048576){ah:List av}(hc:ah.length<=1048576)(ab:Int){au:ByteArray}(aP:Int)
 (hC:cn n l=YJ/\0<=bf (ak n) au/\aP<=100000/\1<=ab):
 ∀(k:Nat) (q0:ByteArray) (e:Int) (tail:List av),0<=bf (ak n) q0->aB (cd n l ah ab (bf (ak n) au) aP k) (bf (ak n) q0)=YH e->0<=e->(k=0\/¬aB (cd n l ah ab (bf (ak n) au) aP (k-1)) (bf (ak n) q0)=YH e)->tail.length+k<=(ak n).length->∀N,k<N->
  ∃aG,aD (fz n l ah au aP ab (ak n) (bf (ak n) au)) N (bf (ak n) q0,e,(k:Int),tail)=YH (aG++tail)/\Be n l ah ab au aP k q0 e aG:=by
 have hlg:=rD hn;have hp:(ak n).length<=40:=by have:=ff n;omega
 intro k
 induction k with
 |zero=>
  intro q0 e tail hx hg he Ry hlen N hN;obtain⟨N,rfl⟩:∃M,N=M+1:=⟨N-1,X9⟩;exact⟨[],by rfl,.nil hx hg he⟩
 |succ k ih=>
  intro q0 e tail hx hg he Ry hlen N hN;obtain⟨N,rfl⟩:∃M,N=M+1:=⟨N-1,X9⟩;have zi:=nw hf hl hc ab (bf (ak n) au) aP;have hnx:¬aB (cd n l ah ab (bf (ak n) au) aP k) (bf (ak n) q0)=YH e:=by
   grind
  have Od:wk n l ah ab (bf (ak n) au) (cd n l ah ab (bf (ak n) au) aP k) (bf (ak n) q0) e:=by
   rcases(r7 hf hl hc ab (bf (ak n) au) aP k).2 _ e hg with h|h
   all_goals grind
  have hxl:=(na (ak n) q0).2;obtain⟨t,hs,hi,i,y,d,u,z,rfl,c1,c2,c3,c4,c5,c6,c7,c8⟩:=En hf hl hc ab (zi k) (q0:=q0) rfl ⟨hx,hxl⟩ e Od;have hfb:=qc hf hl hc ab aP hC (k:=k) X9;have hw:aI (((k+1:Nat):Int)-1)=(k:Int):=by rw[aR X9];omega
  have hy:aB n.aA (i:Int)=YH y:=by rw[aS];omega
  have ha1:bW (bm (([⟨(i:Int),d⟩]:List av).length+tail.length) 16)=YH ():=eV Yd X9;obtain⟨m1,m2⟩:=pL (VV c1);have a0:=nb m1;obtain⟨aG,q1,q2⟩:=ih y.au u ([⟨(i:Int),d⟩]++tail) a0 c3 X9 (by
   by_cases xU:k=0
   ·omega
   ·refine .inr λhu=>hnx ?_
    obtain⟨k',rfl⟩:∃k',k=k'+1:=⟨k-1,X9⟩;have pk:=(vM hf hn hl hc ab (bf (ak n) au) aP k').2 _ e ⟨i,y,d,u,z,c1,c2,hu,c4,c5,c6,c7,c8⟩;obtain⟨w,w1,w2,w3⟩:=pk;obtain⟨w',v1,v2,v3⟩:=(vM hf hn hl hc ab (bf (ak n) au) aP (k'+1)).1 _ w w1 w2
    grind) Yd N X9
  have hq:y.a8=q0:=by
   have g1:=pK (nb m2);have g2:=pK hx
   grind
  refine⟨aG++[⟨(i:Int),d⟩],?_,?_⟩
  ·have hb:fz n l ah au aP ab (ak n) (bf (ak n) au) (bf (ak n) q0,e,((k+1:Nat):Int),tail)=YH (.inl (bf (ak n) y.au,u,(k:Int),[⟨(i:Int),d⟩]++tail)):=by
    unfold fz;simp only[X1 (show(0:Int)<((k+1:Nat):Int)by omega),X5,hw,hfb,VS,hs,ha1,hy,oZ hf,c3]
   unfold aD
   grind
  ·subst hq
   exact .snoc q2 c1 hg c5 c6 c7 c8
omit hf in
theorem BJ{t:av}(ht:fV n t=YJ):∀(aG:List av) (p:ByteArray) (a:Int),iE n p a aG->(aG=[]->mi n t=p/\a<=cM n t)->(∀t',aG.getLast?=YH t'->mi n t=cg n t'/\dF n t'+n.change<=cM n t)->iE n p a (aG++[t])
 | [],p,a,_,h1,_=>⟨ht,(h1 rfl).1,(h1 rfl).2,trivial⟩
 |x::aG,p,a,hc,h1,h2=>by
  obtain⟨c1,c2,c3,c4⟩:=hc;refine⟨c1,c2,c3,BJ ht aG _ _ c4 (λhw=>?_) λt' h=>?_⟩
  all_goals grind
omit hf in
theorem zt:∀(m:Nat) (l:List Nat),l.Nodup->(∀x∈l,x<m)->l.length<=m
 |0,l,_,h=>by
  cases l with
  |nil=>simp
  |cons x xs=>have:=h x Ye;omega
 |m+1,l,hn,h=>by
  have h1:=zt m (l.erase m) (hn.erase m) λx hx=>by
   grind
  grind
section
variable (hn:aV n=YH YJ) {l:List aq} (hl:l.length<=1048576) {ah:List av} (hc:ah.length<=1048576) (ab:Int) {au:ByteArray} (aP:Int) (KB:0<=bf (ak n) au) (Dt:aP<=100000)
include hn hl hc KB Dt
omit KB Dt in
theorem vN(f:Int){x u:Int}{j:Nat}(hg:aB (cd n l ah ab f aP j) x=YH u)(h0:0<=u):∀d,sj (cd n l ah ab f aP (j+d)) x u
 |0=>⟨u,hg,h0,WH _⟩
 |d+1=>by
  obtain⟨w,w1,w2,w3⟩:=vN f hg h0 d;obtain⟨w',v1,v2,v3⟩:=(vM hf hn hl hc ab f aP (j+d)).1 x w w1 w2;exact⟨w',v1,v2,X9⟩
structure Zbn(n:aj)(l:List aq)(ah:List av)(ab:Int)(au:ByteArray)(aP:Int)(k:Nat)(q:ByteArray)(e:Int)(aG:List av):Prop where
 time:0<=e/\e<=100000
 seen:∀p∈au::aG.map (cg n),∃(j:Nat) (u:Int),j<=k/\aB (cd n l ah ab (bf (ak n) au) aP j) (bf (ak n) p)=YH u/\0<=u/\u<=e
 nodup:(au::aG.map (cg n)).Nodup
 last:(au::aG.map (cg n)).getLast?=YH q
 chain:iE n au (if 0 > aP then 0 else aP) aG
 ends:aG=[]/\e=(if 0 > aP then 0 else aP)\/∃t,aG.getLast?=YH t/\dF n t=e
 found:∀t∈aG,dp ah t=YH YK/\∃y q,aB n.aA t.bD=YH y/\dD l t=YH q/\ab<=aI (y.iU-q)
 idx:0<=bf (ak n) q
theorem VI{q:ByteArray}{aG:List av}(h:Be n l ah ab au aP k q e aG):Zbn n l ah ab au aP k q e aG:=by
 have hlg:=rD hn;have hp:(ak n).length<=40:=by have:=ff n;omega
 have bU:=(na (ak n) au).2
 induction h with
 |nil h0 hg he=>
  rename_i q e;have hb:cd n l ah ab (bf (ak n) au) aP 0=(List.replicate (ak n).length (-1:Int)).set (bf (ak n) au).toNat (if 0 > aP then 0 else aP):=by
   unfold cd;rw[Fy hf X9 _ ⟨KB,bU⟩];rfl
  rw[hb]at hg
  have hq:bf (ak n) q=bf (ak n) au/\e=(if 0 > aP then 0 else aP):=by
   rcases H4 KB hg with⟨a,b⟩ |h
   ·omega
   ·obtain⟨_,h2⟩:=mw h
    grind
  have hqf:au=q:=by
   have g1:=pK h0;have g2:=pK KB
   grind
  subst hqf;have he2:=hq.2;refine⟨⟨he,X9⟩,λp hp=>?_,by simp,rfl,trivial,.inl ⟨rfl,he2⟩,λt ht=>by grind,KB⟩
  grind
 |snoc hpt c1 hg c5 c6 c7 c8 ih=>
  rename_i k y u z d e i aG;have Zhr:aB n.aA (i:Int)=YH y:=by rw[aS];omega
  have hfo:Found n l ah z ab ⟨(i:Int),d⟩:=by
   rcases IL hf c6 with h|h
   all_goals omega
  obtain⟨_,t2,t3,t4,t5⟩:=cR hf hn hfo.bj;have hee:dF n ⟨(i:Int),d⟩=e:=by grind
  have JZ:cg n ⟨(i:Int),d⟩=y.a8:=by unfold cg;grind
  have ZgR:mi n ⟨(i:Int),d⟩=y.au:=by unfold mi;grind
  obtain⟨n0,n1⟩:=kI hn;have hz:z=if bf (ak n) y.au=bf (ak n) au then u else u+n.change:=by
   unfold cZ at c5
   by_cases h:bf (ak n) y.au=bf (ak n) au
   ·grind
   ·rw[X2 h,aR (by have:=ih.time;omega)]at c5;grind
  have uL:=hfo.start;obtain⟨m1,m2⟩:=pL (VV c1);have Zb7:∀p∈au::aG.map (cg n),p≠y.a8:=λp hp heq=>by
   obtain⟨j,u',hj,hg',h0,hu⟩:=ih.seen p hp;rw[heq]at hg'
   obtain⟨w,w1,w2,w3⟩:=vN hf hn hl hc ab aP _ hg' h0 (k+1-j)
   grind
  have UF:au::(aG++[(⟨(i:Int),d⟩:av)]).map (cg n)=(au::aG.map (cg n))++[y.a8]:=by
   grind
  refine⟨⟨X9,X9⟩,λp hp=>?_,?_,?_,?_,.inr ⟨_,List.getLast?_concat,hee⟩,λt ht=>?_,nb m2⟩
  ·rw[UF]at hp
   rcases Wl.1 hp with hp|hp
   ·obtain⟨j,u',hj,hg',h0,hu⟩:=ih.seen p hp
    grind
   grind
  ·rw[UF,List.nodup_append]
   exact⟨ih.nodup,by simp,λa ha b hb=>by grind⟩
  ·grind
  ·refine BJ hfo.bj aG _ _ ih.chain (λhw=>?_) λt' Ei=>?_
   ·subst hw
    have hq:au=y.au:=by have:=ih.last;grind
    rcases ih.ends with⟨_,he⟩ |⟨t,ht,_⟩
    all_goals grind
   ·have Dy:t'∈aG:=List.mem_of_getLast? Ei
    have wF:cg n t'=y.au:=by
     have h1:=ih.last
     grind
    have iq:¬bf (ak n) y.au=bf (ak n) au:=λhe=>by
     have g1:=pK (nb m1);have g2:=pK KB;rw[he,g2]at g1
     have hff:au=y.au:=VW g1;have hnd:=ih.nodup
     grind
    rw[if_neg iq]at hz
    rcases ih.ends with⟨hw,_⟩ |⟨t'',ZhB,Zhn⟩
    all_goals grind
  ·rcases Wl.1 ht with ht|ht
   ·exact ih.found t ht
   ·obtain rfl:=Wf.1 ht
    exact⟨hfo.open_,hfo.iU⟩
end
end
theorem IJ(t:av):dD [] t=YH 0:=by
 rfl
section
variable {n:aj} (hf:cO n) (hn:aV n=YH YJ) (hr:∀l∈n.aA,1<=l.iU)
include hf hn hr
end
abbrev PY(a b:aq):Prop:=pj b a=YK
theorem yV{a b:aq}(h:pj a b=YJ):pj b a=false:=Go.Sort.SWO.asymmA A9 h
theorem Mb{l:List aq}(hl:l.length<=1048575)(b:aq)(hs:l.Pairwise PY):aJ (nk l b) λr=>r.length=l.length+1/\r.Perm (l++[b])/\r.Pairwise PY:=by
 unfold nk;refine aJ.bind (P:=λo:Int=>∃k:Nat,o=(k:Int)/\k<=l.length/\(∀i (h:i<l.length),i<k->pj l[i] b=YJ)/\(∀h:k<l.length,pj l[k] b=YK)) ?_ λo ho=>?_
 ·refine aJ.loop (λk s=>∃i:Nat,s=(i:Int)/\i+k=l.length/\∀j (h:j<l.length),j<i->pj l[j] b=YJ) (λk s hs=>?_) NN l.length 0 ⟨0,rfl,X9,λj _ h=>X9⟩ Yc
  obtain⟨i,rfl,hk,hb⟩:=hs;unfold pU;refine aJ.cond (λhd=>?_) λhd=>aJ.ret ⟨i,rfl,X9,λj h h'=>hb j h h',λh=>by simp_all⟩
  have bU:=X3 hd;have hw:aI ((i:Int)+1)=((i+1:Nat):Int):=by rw[aR X9];omega
  have Dk:i<l.length:=X9;have hy:aB l (i:Int)=YH l[i]:=by rw[aS];simp
  rw[hy,VS,Bt,VS];refine aJ.cond (λh1=>aJ.ret ⟨k-1,X9,i+1,hw,X9,λj h h'=>?_⟩) λh1=>aJ.ret ⟨i,rfl,X9,λj h h'=>hb j h h',λ_=>h1⟩
  grind
 ·obtain⟨k,rfl,hk,Zhj,Ry⟩:=ho
  have e1:cH l 0 (k:Int)=l.take k:=by rfl
  have e2:cH l (k:Int) (l.length:Int)=l.drop k:=by
   unfold cH;simp only[Int.toNat_natCast];rw[List.take_of_length_le Ye]
  rw[e1,e2];refine aJ.bW Yv ?_;rw[qR Yd,VS];refine aJ.bW (jj Yd X9) (aJ.bW Yv (aJ.bW (jj Yd X9) (aJ.ret ⟨?_,?_,?_⟩)))
  ·grind
  ·have h1:(l.take k++[b]++l.drop k).Perm (l.take k++(l.drop k++[b])):=by
    grind
   rw[<-Xm,List.take_append_drop]at h1
   omega
  ·have Dl:=WW (List.take_sublist k l) hs
   have Ay:=WW (List.drop_sublist k l) hs;have Cc:∀y∈l.drop k,pj y b=false:=λy hy=>by
    obtain⟨j,hj,rfl⟩:=Wc hy;rw[List.length_drop]at hj
    rw[List.getElem_drop];have h0:=Ry X9
    by_cases hj0:j=0
    ·simp_all
    ·have:=Ws.1 hs k (k+j) X9 X9 X9
     exact A9.ntrans _ _ _ this h0
   have bU:∀x∈l.take k,pj x b=true:=λx hx=>by
    obtain⟨j,hj,rfl⟩:=Wc hx
    grind
   rw[Xm,List.pairwise_append];refine⟨Dl,?_,λx hx y hy=>?_⟩
   ·grind
   ·rw[List.singleton_append,V1]at hy
    rcases hy with rfl|hy
    ·exact yV (bU x hx)
    ·exact A9.ntrans _ _ _ (Cc y hy) (yV (bU x hx))
def gD(bw ab:Int)(aG:List av):List aq:=aG.map λt=>⟨bw,t,ab⟩
theorem He{n:aj}{l:List aq}(h:cn n l=YJ):l.Pairwise PY:=Ws.2 λi j hi hj yN=>yV (sk h j i hj yN)
theorem C1{n:aj}{d e:List aq}(hp:d.Perm e)(hd:d.Pairwise PY)(he:e.Pairwise PY)(hb:cn n d=YJ):d=e:=by
 refine List.Perm.eq_of_pairwise (le:=PY) (λa b ha FF h1 h2=>?_) hd he hp
 have uI:=hp.mem_iff.2 FF;obtain⟨i,hi,rfl⟩:=Wc ha;obtain⟨j,hj,rfl⟩:=Wc uI
 rcases Nat.lt_trichotomy i j with h|h|h
 ·have:=sk hb j i hj h
  simp_all
 ·simp_all
 ·have:=sk hb i j hi h
  simp_all
theorem PI{n:aj}{d e:List aq}(hp:d.Perm e)(hd:d.Pairwise PY)(he:e.Pairwise PY):cn n d=cn n e:=by
 cases h1:cn n d with
 |true=>rw[<-C1 hp hd he h1,h1]
 |false=>
  cases h2:cn n e with
  |false=>rfl
  |true=>rw[C1 hp.symm he hd h2,h1]at h2;omega
theorem tp{n:aj}(hf:cO n){l:List aq}(hl:l.length<=1048000)(bw ab:Int){aG:List av}{d:List aq}(hp:d.Perm (l++gD bw ab aG))(hs:d.Pairwise PY):
 ct n l bw ab aG=YH (if cn n l=YJ/\aG.length<=20/\cn n d=YJ then(d,YJ)else(l,YK)):=by
 unfold ct;rw[qR X9,VS,il hf X9,VS]
 by_cases hb:cn n l=YJ
 case neg=>
  simp_all
 rw[hb]
 by_cases hw:aG.length<=20
 case neg=>
  grind
 rw[X2 (show ¬20<(aG.length:Int)by omega)]
 obtain⟨o,ho,Dz,zX,GO⟩:aJ (aD (lR n l bw ab aG) NN (0,l)) λo=>o.length=l.length+aG.length/\o.Perm (l++gD bw ab aG)/\o.Pairwise PY:=by
  refine aJ.loop (λk s=>∃i:Nat,s.1=(i:Int)/\i+k=aG.length/\s.2.length=l.length+i/\s.2.Perm (l++gD bw ab (aG.take i))/\s.2.Pairwise PY) (λk s hs=>?_) NN aG.length _ ⟨0,rfl,X9,rfl,by simp[gD],He hb⟩ Yc
  obtain⟨i,hi,hk,hlen,hpp,hss⟩:=hs;unfold lR;rw[hi];refine aJ.cond (λhd=>?_) λhd=>aJ.ret (by
   have:=X4 hd;have hi2:i=aG.length:=X9;rw[hi2,List.take_length]at hpp
   exact⟨X9,hpp,hss⟩)
  have bU:=X3 hd;have wI:aI ((i:Int)+1)=((i+1:Nat):Int):=by rw[aR X9];omega
  have Dk:i<aG.length:=X9;have hy:aB aG (i:Int)=YH aG[i]:=by rw[aS];simp
  rw[hy,VS,wI];refine aJ.bind (Mb X9 _ hss) λr hr=>aJ.ret ⟨k-1,X9,i+1,rfl,X9,by grind,?_,hr.2.2⟩
  refine hr.2.1.trans ?_;have:gD bw ab (aG.take (i+1))=gD bw ab (aG.take i)++[⟨bw,aG[i],ab⟩]:=by
   unfold gD;rw[List.take_succ_eq_append_getElem Dk,List.map_append];rfl
  grind
 simp only[V5,X6,ho,VS];rw[il hf X9,VS,PI (n:=n) (zX.trans hp.symm) GO hs]
 by_cases hd:cn n d=YJ
 ·rw[hd,if_pos ⟨by simp,hw,by rfl⟩,C1 (hp.trans zX.symm) hs GO hd];rfl
 simp_all
structure TN(n:aj)(l:List aq)(ah:List av)(ab:Int)(au a8:ByteArray)(aP:Int)(aG:List av):Prop where
 hC:cn n l=YJ/\0<=bf (ak n) au/\aP<=100000/\1<=ab
 JZ:0<=bf (ak n) a8
 len:aG.length<=20
 gG:∃e,aB (cd n l ah ab (bf (ak n) au) aP (ak n).length) (bf (ak n) a8)=YH e/\0<=e/\e<=100000/\(aG=[]/\e=(if 0 > aP then 0 else aP)\/∃t,aG.getLast?=YH t/\dF n t=e)
 nodup:(au::aG.map (cg n)).Nodup
 last:(au::aG.map (cg n)).getLast?=YH a8
 chain:iE n au (if 0 > aP then 0 else aP) aG
 found:∀t∈aG,dp ah t=YH YK/\∃y q,aB n.aA t.bD=YH y/\dD l t=YH q/\ab<=aI (y.iU-q)
theorem pW{n:aj}:∀{ts:List av} {p:ByteArray} {a:Int},iE n p a ts->∀t∈ts,fV n t=YJ
 |x::ts,p,a,h,t,ht=>by
  rcases V1.1 ht with rfl|ht
  ·exact h.1
  ·exact pW h.2.2.2 t ht
section
variable {n:aj} (hf:cO n)
include hf
theorem Ux{l:List aq}(hl:l.length<=1048576){ah:List av}{au:ByteArray}{aP ab:Int}(hC:¬(cn n l=YJ/\0<=bf (ak n) au/\aP<=100000/\1<=ab))(k:Int):cV n l ah au aP ab k=YH []:=by
 unfold cV;rw[(dh hf).2];simp only[VS,oZ hf,il hf hl]
 grind
theorem ZaQ{au:ByteArray}{aP:Int}{aG:List av}(hn:aV n=YH YJ)(hnd:(au::aG.map (cg n)).Nodup)(hc:iE n au aP aG):aG.length<=20:=by
 have hlg:=rD hn;have hb:∀t∈aG,0<=t.bD/\t.bD.toNat<n.aA.length:=λt ht=>by
  obtain⟨y,hy,_⟩:=fa hf (pW hc t ht);obtain⟨a,b⟩:=mw hy
  grind
 have h1:=(List.nodup_cons.1 hnd).2;unfold XW at h1
 rw[W5]at h1
 have h2:(aG.map λt=>t.bD.toNat).Nodup:=by
  unfold XW;rw[W5];refine h1.imp_of_mem λ{a b} ha FF h e=>h ?_
  have e1:a.bD=b.bD:=by grind
  unfold cg;rw[e1]
 have:=zt n.aA.length _ h2 λx hx=>by
  grind
 grind
theorem qe{l:List aq}(hl:l.length<=1048576){ah:List av}(hc:ah.length<=1048576){au a8:ByteArray}{aP ab:Int}{aG:List av}(h:bN n l ah au a8 aP ab=YH (aG,YJ)):TN n l ah ab au a8 aP aG:=by
 unfold bN at h
 rw[(dh hf).2]at h
 simp only[VS,oZ hf]at h
 by_cases hC:cn n l=YJ/\0<=bf (ak n) au/\aP<=100000/\1<=ab
 case neg=>
  rw[Ux hf hl hC]at h
  grind
 have hn:=(dH hC.1).1;have hlg:=rD hn;have hp:(ak n).length<=40:=by have:=ff n;omega
 have zi:=nw hf hl hc ab (bf (ak n) au) aP;have htl:=(na (ak n) a8).2;rw[qc hf hl hc ab aP hC (Nat.le_refl _)]at h
 simp only[VS]at h
 by_cases ht:bf (ak n) a8<0
 ·grind
 obtain⟨e,he,_⟩:=ki (xs:=cd n l ah ab (bf (ak n) au) aP (ak n).length) (i:=bf (ak n) a8) ⟨X9,by grind⟩
 simp only[X2 ht,X2 (show ¬(((cd n l ah ab (bf (ak n) au) aP (ak n).length).length:Int)=0)by grind),he]at h
 by_cases hd:e<0
 ·grind
 obtain⟨k,q1,q2,q3,q4,q5⟩:=BV hf hl hc ab aP hp hC ⟨X9,htl⟩ he;obtain⟨w,p1,p2⟩:=VH hf hn hl hc ab aP hC k a8 e [] X9 q2 X9 q3 Yd NN Yc;rw[List.append_nil]at p1
 simp only[X2 hd,q4,VS,p1]at h
 obtain⟨rfl,_⟩:=h;have po:=VI hf hn hl hc ab aP hC.2.1 hC.2.2.1 p2;exact⟨hC,X9,ZaQ hf hn po.nodup po.chain,⟨e,he,po.time.1,po.time.2,po.ends⟩,po.nodup,po.last,po.chain,po.found⟩
theorem zN(hn:aV n=YH YJ){aG:List av}(hl:aG.length<=1048576){a b:ByteArray}{t:Int}(ha:0<=bf (ak n) a)(hb:0<=bf (ak n) b)(hc:iE n a t aG)(he:aG.foldl (λ_ t=>cg n t) a=b):eK n aG a b t=YH true:=by
 obtain⟨ch0,ch1⟩:=kI hn;have key:∀(d i:Nat) (p:ByteArray) (u:Int),i+d=aG.length->iE n p u (aG.drop i)->∀N,d<N->aD (dn n aG b) N (p,u,(i:Int))=YH (.inl ((aG.drop i).foldl (λ_ t=>cg n t) p)):=by
  intro d
  induction d with
  |zero=>
   intro i p u hi h N hN;rw[List.drop_of_length_le X9];unfold aD dn
   grind
  |succ d ih=>
   intro i p u hi h N hN;obtain⟨N,rfl⟩:∃M,N=M+1:=⟨N-1,X9⟩;have bU:i<aG.length:=X9;have hg:aB aG (i:Int)=YH aG[i]:=by rw[aS];simp
   have hw:aI ((i:Int)+1)=((i+1:Nat):Int):=bE bU X9;rw[List.drop_eq_getElem_cons bU]at h⊢
   obtain⟨c1,c2,c3,c4⟩:=h;obtain⟨y,hy,_⟩:=fa hf c1;obtain⟨t1,t2,t3,t4,t5⟩:=cR hf hn c1;have f1:mi n aG[i]=y.au:=by unfold mi;grind
   have f2:cg n aG[i]=y.a8:=by unfold cg;grind
   have hwe:aI (dF n aG[i]+n.change)=dF n aG[i]+n.change:=aR X9;have Ir:dn n aG b (p,u,(i:Int))=YH (.inl (cg n aG[i],dF n aG[i]+n.change,((i+1:Nat):Int))):=by
    unfold dn;simp only[X1 (show(i:Int)<aG.length by omega),X5,hg,VS,x8 hf hn,c1,V5,X6,hy,t1,t2,X1 (show y.au=p by grind),X2 (show ¬cM n aG[i]<u by omega),hwe,hw,f2]
   unfold aD
   grind
 have hk:=key aG.length 0 a t X9 Yd NN Yc;have wq:=ff n;have Il:=hf.aA;unfold eK;rw[(dh hf).2];simp only[VS,oN (show(ak n).length<=4194304 by omega)]
 grind
end
theorem BZ{α β:Type}(f:α->β):∀(l:List α) (a b:β),(a::l.map f).getLast?=YH b->l.foldl (λ_ x=>f x) a=b
 | [],a,b,h=>by grind
 |x::l,a,b,h=>by
  exact BZ f l (f x) b h
theorem Gx:∀(l:List aq),l.length<=1048575->∃d:List aq,d.Perm l/\d.Pairwise PY
 | [],_=>⟨[],.nil,.nil⟩
 |x::l,h=>by
  rw[VZ]at h
  obtain⟨d,h1,h2⟩:=Gx l X9;have:=h1.length_eq;obtain⟨r,_,_,h3,h4⟩:=Mb (l:=d) X9 x h2
  grind
def nL(w:ax)(au a8:ByteArray)(ay ab dW:Int)(aG:List av):az:=⟨au,a8,ay,ab,w.now,dW,aG,0,1,au,0⟩
def xw(w:ax)(o:az)(ys:List aq):ax:=ga ⟨w.aa,w.ae++[o],ys,w.ah,w.now,w.aH,w.skip,w.bd⟩ ⟨(w.ae.length:Int)+1,w.now,1,o.au,⟨0,0⟩⟩
theorem Hd{l l':List aq}(h:∀b∈l,b∈l'){wt:Int}(hb:jJ l th t wt=YJ):jJ l' th t wt=true:=by
 unfold jJ at *
 grind
theorem N5(os:List az)(o:az):(os++[o]).foldl (λa (o:az)=>aI (a+(o.aG.length:Int))) 0=aI (os.foldl (λa (o:az)=>aI (a+(o.aG.length:Int))) 0+(o.aG.length:Int)):=by
 simp
section
variable {w:ax} (h:ql w)
include h
theorem S9(h1:1<=th/\th<=9999){p:ByteArray}(hp:0<=bf (ak w.aa) p):cz w.aa ⟨th,w.now,1,p,⟨0,0⟩⟩=YH true:=by
 have Cg:=h.parts.1;have wq:=ff w.aa;have Il:=h.fit.eO.aA;unfold cz;rw[h.eO];simp only[VS,cE,V5,X6,X1 h1.1,X1 h1.2,X1 Cg.1,X1 Cg.2,Bool.and_self,(dh h.fit.eO).2,oN (show(ak w.aa).length<=4194304 by omega),decide_true,X5,X1 hp]
theorem Zbo(Zhx:w.ae.length<30){au a8:ByteArray}(iq:¬au=a8){ay ab dW:Int}(hs:1<=ay/\ay<=3)(hw:1<=ab/\ab<=30000)(UI:0<=dW/\dW<=200000){aG:List av}(hR:TN w.aa w.ar w.ah ab au a8 (w.now+1) aG)
 {ys:List aq} (hp:ys.Perm (w.ar++gD ((w.ae.length:Int)+1) ab aG)) (hb:cn w.aa ys=YJ):ql (xw w (nL w au a8 ay ab dW aG) ys):=by
 obtain⟨p1,p2,p3,p4,p5,p6,p7⟩:=h.parts;have hlen:=hR.len;have hyl:=hp.length_eq;rw[V3]at hyl
 have AU:(gD ((w.ae.length:Int)+1) ab aG).length=aG.length:=by unfold gD;simp
 have hv:=h.ok;have Dt:(if 0 > w.now+1 then 0 else w.now+1)=w.now+1:=if_neg X9
 have Cb:=hR.chain;rw[Dt]at Cb
 have Za5:=pW Cb;have Dy:∀b∈w.ar,b∈ys:=λb hb=>hp.mem_iff.2 (List.mem_append_left _ hb)
 have wF:=BZ (cg w.aa) aG au a8 hR.last;have DA:=Eu (n:=w.aa) (aP:=w.now) (skip:=w.skip) (p:=(w.aH,w.bd)) (s:=⟨(w.ae.length:Int)+1,w.now,1,au,⟨0,0⟩⟩) ⟨λs hs=>Di h.fit h.ok hs,p4,p6⟩ ⟨S9 h X9 hR.hC.2.1,WH _⟩
 have Zb7:jR (xw w (nL w au a8 ay ab dW aG) ys) w.ae.length (nL w au a8 ay ab dW aG)=true:=by
  have zj:bb (nL w au a8 ay ab dW aG)=0:=by rfl
  have uL:cb w.aa (nL w au a8 ay ab dW aG) w.now=YH true:=by
   refine(tW h.fit.eO h.eO ⟨WH _,by simp only[nL];omega⟩ (by simp only[nL];omega) Za5 w.now).2 ⟨λt h0=>by simp[nL]at h0,.inl ⟨rfl,?_,?_,rfl,λt ht=>?_⟩⟩
   ·rfl
   ·unfold pn nL;grind
   ·have Ei:aG[0]?=YH t:=ht
    cases aG with
    |nil=>grind
    |cons x xs=>
     obtain rfl:x=t:=by grind
     have:=Cb.2.2.1;omega
  unfold jR;simp only[V6,WG,X7,X8];have hid:¬bf (ak w.aa) au<0:=by have:=hR.hC.2.1;omega
  have Zf0:¬bf (ak w.aa) a8<0:=by have:=hR.JZ;omega
  have wY:aI (w.now+1)=w.now+1:=aR X9;refine⟨⟨⟨⟨⟨⟨⟨⟨⟨⟨⟨hid,Zf0⟩,iq⟩,hs⟩,hw⟩,p1.1,WH _⟩,UI⟩,WH _,by simp only[nL];omega⟩,?_⟩,?_⟩,?_⟩,?_⟩
  ·refine cB.2 λj t hj=>?_
   have Cd:aG[j]?=YH t:=hj;have htm:=VV Cd;unfold tY;simp only[V6,WG,Xx,X7,X8,Nat.zero_add];refine⟨⟨Za5 t htm,?_⟩,λhe hj1=>?_⟩
   ·unfold jJ
    refine List.any_eq_true.2 ⟨⟨(w.ae.length:Int)+1,t,ab⟩,hp.mem_iff.2 (List.mem_append_right _ ?_),X1 ?_⟩
    ·unfold gD;grind
    rfl
   ·have Zd2:j+1<aG.length:=hj1
    have he':cg w.aa t=a8:=he;have hnd:=hR.nodup;have MA:=hR.last;rw[List.getLast?_eq_getElem?,VZ]at MA
    have h1:(au::aG.map (cg w.aa))[j+1]?=YH a8:=by grind
    have h2:=Ws.1 hnd (j+1) aG.length Yd Ye X9
    grind
  ·have Ih:Av w.aa (nL w au a8 ay ab dW aG)=a8:=wF
   show(eK w.aa aG au (Av w.aa (nL w au a8 ay ab dW aG)) (aI (w.now+1))).getD YK=YJ;rw[Ih,wY,zN h.fit.eO h.eO X9 hR.hC.2.1 hR.JZ Cb wF];rfl
  ·show(cb w.aa (nL w au a8 ay ab dW aG) w.now).getD YK=YJ
   grind
  ·rw[zj]
   refine List.any_eq_false.2 λt ht=>?_
   have htm:t∈aG:=List.mem_of_mem_drop ht;have:=(hR.found t htm).1;rw[jX,jk h.fit.ah]at this
   have:=VW this;show ¬dx w.ah t=YJ;unfold dx
   grind
 have hold:∀(i:Nat) (o:az),w.ae[i]?=YH o->jR (xw w (nL w au a8 ay ab dW aG) ys) i o=true:=λi o hi=>by
  have hv:=qh h.ok hi;unfold jR at hv⊢
  simp at hv⊢
  obtain⟨⟨⟨⟨⟨⟨⟨⟨⟨⟨⟨h1,h2⟩,h3⟩,h4⟩,h5⟩,h6⟩,h7⟩,h8⟩,h9⟩,wm⟩,Eb⟩,TC⟩:=hv;refine⟨⟨⟨⟨⟨⟨⟨⟨⟨⟨⟨h1,h2⟩,h3⟩,h4⟩,h5⟩,h6⟩,h7⟩,h8⟩,?_⟩,wm⟩,Eb⟩,TC⟩;refine cB.2 λj t hj=>?_
  have:=cB.1 h9 j t hj;unfold tY at this⊢
  simp at this⊢
  exact⟨⟨this.1.1,Hd Dy this.1.2⟩,this.2⟩
 refine⟨⟨h.fit.eO,?_,?_,h.fit.ah,?_,h.fit.skip,λo ho=>?_⟩,?_⟩
 ·simp only[xw,ga,V3,VZ,VY];omega
 ·simp only[xw,ga];omega
 ·have:=DA.len;simp only[xw,ga,nL];omega
 ·have yO:o∈w.ae++[nL w au a8 ay ab dW aG]:=ho
  rcases Wl.1 yO with ho|ho
  ·exact h.fit.aG o ho
  ·obtain rfl:=Wf.1 ho;simp only[nL];omega
 ·unfold ew at hv⊢
  simp at hv⊢
  obtain⟨⟨⟨⟨⟨⟨⟨⟨⟨⟨h1,h2⟩,h3⟩,h4⟩,h5⟩,h6⟩,h7⟩,h8⟩,h9⟩,wm⟩,Eb⟩:=hv;have hl:=DA.len;have hmd:=DA.bd;refine⟨⟨⟨⟨⟨⟨⟨⟨⟨⟨hb,h2⟩,?_⟩,h4⟩,?_⟩,h6⟩,?_⟩,h8⟩,?_⟩,?_⟩,?_⟩
  ·simp only[xw,ga,V3,VZ,VY];omega
  ·simp only[xw,ga,nL];omega
  ·simp only[xw,ga,nL];omega
  ·refine cB.2 λj s hj=>?_
   obtain⟨a,b⟩:=DA.ZdL s (VV hj);show((cz w.aa s).getD YK&&!decide (w.now<s.aP))=YJ
   grind
  ·refine cB.2 λj o hj=>?_
   rw[Nat.zero_add];have Cd:(w.ae++[nL w au a8 ay ab dW aG])[j]?=YH o:=hj
   grind
  ·have ZfL:w.ae.foldl (λa (o:az)=>aI (a+(o.aG.length:Int))) 0=(w.ar.length:Int):=Eb
   show(w.ae++[nL w au a8 ay ab dW aG]).foldl (λa (o:az)=>aI (a+(o.aG.length:Int))) 0=(ys.length:Int)
   rw[N5,ZfL];show aI ((w.ar.length:Int)+(aG.length:Int))=_;rw[aR X9];omega
end
def HD(e ay:Int):Int:=(e / 1440+(if 1080<e % 1440 then 1 else 0)+(if ay=1 then 0 else if ay=2 then 1 else 4))*1440+1080
theorem CJ{n:aj}{ay e aP:Int}{au a8:ByteArray}(he:jm n au a8 aP=YH e)(h0:0<=e)(h1:e<=100000)(hs:1<=ay/\ay<=3):fE n ay au a8 aP=YH (HD e ay):=by
 unfold fE;rw[he,gE];simp only[VS,cE];have d1:e.tdiv 1440=e / 1440:=Int.tdiv_eq_ediv_of_nonneg h0;have d2:e.tmod 1440=e % 1440:=Int.tmod_eq_emod_of_nonneg h0;have hb:0<=e / 1440/\e / 1440<=69:=X9;have GR:IntKind.i64.wrap (e / 1440)=e / 1440:=aR X9;have hk:∃k:Int,0<=k/\k<=4/\aB ([0,1,4]:List Int) (aI (ay-1))=YH k/\k=(if ay=1 then 0 else if ay=2 then 1 else 4):=by
  rw[aR X9]
  rcases(show ay=1\/ay=2\/ay=3 by omega)with rfl|rfl|rfl
  ·exact⟨0,X9,X9,rfl,by simp⟩
  ·exact⟨1,X9,X9,rfl,by simp⟩
  ·exact⟨4,X9,X9,rfl,by simp⟩
 obtain⟨k,k0,k1,k2,k3⟩:=hk;rw[d1,d2,GR,X1 hs.1,X1 hs.2,X2 (show ¬e=-1 by omega),k2]
 simp only[X6,Bool.and_self,V5,VS];unfold HD;rw[<-k3]
 by_cases hd:1080<e % 1440
 ·rw[X1 hd,if_pos hd,X5]
  rw[aR (n:=e / 1440+1) X9,aR (n:=e / 1440+1+k) X9,aR (n:=(e / 1440+1+k)*1440) X9,aR X9]
 ·rw[X2 hd,if_neg hd,X6]
  rw[aR (n:=e / 1440+k) X9,aR (n:=(e / 1440+k)*1440) X9,aR X9,Int.add_zero]
theorem QY{e ay:Int}(h0:0<=e)(h1:e<=100000):e<=HD e ay/\HD e ay<=200000:=by
 unfold HD;omega
section
variable {n:aj} (hf:cO n) (hn:aV n=YH YJ) (hr:∀l∈n.aA,1<=l.iU)
include hf hn hr
end
section
variable {n:aj} (hf:cO n) (hn:aV n=YH YJ)
include hf hn
theorem Si(bD aP:Int):nE bD aP n=ig bD aP n [] [] 0:=by
 have hb:qB n bD aP=gq bD aP n [] [] 0:=by
  funext s
  unfold qB gq;rw[(rm hf bD s).1]
  cases hd:YL (s<=60)with
  |false=>rfl
  |true=>
  cases hx:cA n bD s with
  |none=>rfl
  |some b=>
  cases b with
  |false=>rfl
  |true=>
  obtain⟨y,hy⟩:=vv hf hx;have Rq:=(ym hf hn y (su hy)).iU;have hw:aI (y.iU-0)=y.iU:=by rw[aR X9];omega
  have ht:eR [] (⟨bD,s⟩:av)=YH false:=by rfl
  have hL:jY [] (⟨bD,s⟩:av)=YH 0:=by rfl
  grind
 unfold nE ig sY;rw[hb]
 cases(aD (gq bD aP n [] [] 0) NN 0).bind (bk (λo0=>YH ((⟨0,0⟩:av),YK)) λr=>YH r)with
 |none=>rfl
 |some r=>rfl
theorem Fk(au:ByteArray)(aP aA:Int):jH n n au aP aA=dV n n [] [] 0 au aP aA:=by
 have uI:∀aA y1 y2 s1,jP n n aA y1 y2 s1=de n n [] [] 0 aA y1 y2 s1:=λaA y1 y2 s1=>by
  unfold jP de;simp only[Si hf hn]
 have pk:∀aA y1 y2,jO n n aA y1 y2=dc n n [] [] 0 aA y1 y2:=λaA y1 y2=>by
  unfold jO dc
  grind
 have Ob:∀y1 y2,nf n n aP aA y1 y2=eH n n [] [] 0 aP aA y1 y2:=λy1 y2=>rfl
 unfold jH dV
 grind
theorem BR{au a8:ByteArray}{aP:Int}(KB:0<=bf (ak n) au)(Dt:aP<=100000)(JZ:0<=bf (ak n) a8)(he:aB (cd n [] [] 0 (bf (ak n) au) aP (ak n).length) (bf (ak n) a8)=YH e):jm n au a8 aP=YH e:=by
 have hlg:=rD hn;have hp:(ak n).length<=40:=by have:=ff n;omega
 have wq:=(na (ak n) a8).2;have zi:=nw hf (l:=[]) Ye (ah:=[]) Ye 0 (bf (ak n) au) aP (ak n).length;have hav:=Bq hf (l:=[]) Ye (ah:=[]) Ye 0 KB Dt X9 (ak n).length X9;have RC:bS (ak n) a8=YH (bf (ak n) a8):=by exact oZ hf a8
 have hi:eW n=YH true:=by rw[(jM hf).1];omega
 unfold jm mj rh;rw[(dh hf).1,(dh hf).2,hi];simp only[VS,V5,X6,Fk hf hn,hav,RC,X2 (show ¬bf (ak n) a8<0 by omega),X2 (show ¬(((cd n [] [] 0 (bf (ak n) au) aP (ak n).length).length:Int)=0)by omega),he]
theorem E3(ht:fV n t=YJ){y:bK}(hy:aB n.aA t.bD=YH y):cM n t=t.day*1440+y.start/\dF n t=t.day*1440+y.start+y.mP:=by
 obtain⟨d0,d1⟩:=Dd ht;have hl:=ym hf hn y (su hy);obtain⟨a0,a1⟩:=hl.start;obtain⟨b0,b1⟩:=hl.mP;have e1:bp n t=YH (t.day*1440+y.start):=by
  unfold bp;rw[hy];simp;rw[aR (n:=t.day*1440) X9,aR X9]
 have e2:bl n t=YH (t.day*1440+y.start+y.mP):=by
  unfold bl;rw[e1,hy];simp;rw[aR X9]
 exact⟨by unfold cM;grind,by unfold dF;grind⟩
theorem Vq{bD d0 z:Int}(ht:fV n ⟨bD,d0⟩=YJ)(hz:z<=cM n ⟨bD,d0⟩):∃d,cF n [] [] bD z 0=YH d/\0<=d/\d<=d0/\fV n ⟨bD,d⟩=true:=by
 obtain⟨d1,d2⟩:=Dd ht;simp only at d1 d2
 obtain⟨y,hy,hym⟩:=fa hf ht;have Rq:=(ym hf hn y hym).iU;have hc:dp []=λ_=>YH false:=by
  rfl
 have hw:aI (y.iU-0)=y.iU:=by rw[aR X9];omega
 have Ir:∀s:Int,0<=s->s<=60->cK n [] [] bD z 0 s=YH (if fV n ⟨bD,s⟩=YJ/\z<=cM n ⟨bD,s⟩then .inr (.inr s)else .inl (s+1)):=λs s0 s1=>by
  have hws:aI (s+1)=s+1:=aR X9;have hr:=uB hf ⟨bD,s⟩;unfold cK;rw[X1 s1,hr,hws]
  cases hb:fV n ⟨bD,s⟩with
  |false=>simp
  |true=>
  obtain⟨t1,_⟩:=cR hf hn hb;simp only[IJ]
  grind
 have key:∀(k:Nat) (s:Int),0<=s->s+(k:Int)=d0->∀N,k<N->∃d,aD (cK n [] [] bD z 0) N s=YH (.inr d)/\s<=d/\d<=d0/\fV n ⟨bD,d⟩=true:=by
  intro k
  induction k with
  |zero=>
   intro s s0 hs N hN;obtain rfl:s=d0:=X9;refine⟨s,?_,WH _,WH _,ht⟩;unfold aD
   grind
  |succ k ih=>
   intro s s0 hs N hN;obtain⟨N,rfl⟩:∃M,N=M+1:=⟨N-1,X9⟩;unfold aD;rw[Ir s s0 X9]
   by_cases h:fV n ⟨bD,s⟩=YJ/\z<=cM n ⟨bD,s⟩
   ·grind
   ·obtain⟨d,e1,e2,e3,e4⟩:=ih (s+1) X9 X9 N X9
    grind
 obtain⟨d,e1,e2,e3,e4⟩:=key d0.toNat 0 X9 X9 NN Yc;unfold cF
 grind
theorem ZaA{f aP:Int}{u:Int}(ht:fV n t=YJ)(hl:sj (cd n [] [] 0 f aP k) (bf (ak n) (mi n t)) u)(hu:(if bf (ak n) (mi n t)=f then u else u+n.change)<=cM n t):
 sj (cd n [] [] 0 f aP (k+1)) (bf (ak n) (cg n t)) (dF n t):=by
 obtain⟨y,hy,hym⟩:=fa hf ht;have f1:mi n t=y.au:=by unfold mi;grind
 have f2:cg n t=y.a8:=by unfold cg;grind
 obtain⟨n0,n1⟩:=kI hn;obtain⟨_,_,_,t4,t5⟩:=cR hf hn ht;rw[f1]at hl hu
 rw[f2];obtain⟨v,v1,v2,v3⟩:=hl;obtain⟨i0,hi⟩:=mw hy;have hz:cZ n v (YL (bf (ak n) y.au=f))=YH (if bf (ak n) y.au=f then v else v+n.change):=by
  unfold cZ
  by_cases h:bf (ak n) y.au=f
  ·grind
  ·rw[X2 h,if_neg h,X6,aR X9]
 have yQ:(if bf (ak n) y.au=f then v else v+n.change)<=cM n ⟨t.bD,t.day⟩:=by
  show _<=cM n t;omega
 obtain⟨d,e1,e2,e3,e4⟩:=Vq hf hn (bD:=t.bD) (d0:=t.day) ht yQ;obtain⟨_,q2,_⟩:=cR hf hn e4;have ZdS:wk n [] [] 0 f (cd n [] [] 0 f aP k) (bf (ak n) y.a8) (dF n ⟨t.bD,d⟩):=by
  refine⟨t.bD.toNat,y,d,v,_,hi,rfl,v1,X9,hz,?_,X9,?_⟩
  all_goals grind
 obtain⟨x,x1,x2,x3⟩:=(vM hf hn (l:=[]) Ye (ah:=[]) Ye 0 f aP k).2 _ _ ZdS;refine⟨x,x1,x2,?_⟩;have g1:=(E3 hf hn ht hy).2;have g2:=(E3 hf hn e4 hy).2
 grind
theorem Hi{f aP:Int}:∀(aG:List av) (p:ByteArray) (z u:Int) (k:Nat),iE n p z aG->sj (cd n [] [] 0 f aP k) (bf (ak n) p) u->(if bf (ak n) p=f then u else u+n.change)<=z->
 ∀t,aG.getLast?=YH t->sj (cd n [] [] 0 f aP (k+aG.length)) (bf (ak n) (cg n t)) (dF n t)
 | [],p,z,u,k,_,_,_,t,ht=>by grind
 |x::aG,p,z,u,k,hc,hl,hu,t,ht=>by
  obtain⟨c1,c2,c3,c4⟩:=hc;obtain⟨n0,n1⟩:=kI hn;subst c2;have h1:=ZaA hf hn (t:=x) c1 hl X9
  cases aG with
  |nil=>
   grind
  |cons y aG=>
   have:=Hi (y::aG) (cg n x) (dF n x+n.change) (dF n x) (k+1) c4 h1 X9 t ht
   grind
theorem L2{au:ByteArray}{aP:Int}{aG:List av}(KB:0<=bf (ak n) au)(hnd:(au::aG.map (cg n)).Nodup)(hc:iE n au aP aG):aG.length<=(ak n).length:=by
 have wq:∀p∈au::aG.map (cg n),0<=bf (ak n) p:=λp hp=>by
  rcases V1.1 hp with rfl|hp
  ·omega
  ·obtain⟨t,ht,rfl⟩:=WE.1 hp
   obtain⟨y,hy,hym⟩:=fa hf (pW hc t ht);have f2:cg n t=y.a8:=by unfold cg;grind
   rw[f2];exact nb (pL hym).2
 have h2:((au::aG.map (cg n)).map λp=>(bf (ak n) p).toNat).Nodup:=by
  unfold XW at hnd⊢
  rw[W5];refine hnd.imp_of_mem λ{a b} ha hb iq e=>iq ?_
  have h1:=wq a ha;have h2:=wq b hb;have g1:=pK h1;have g2:=pK h2
  grind
 have:=zt (ak n).length _ h2 λx hx=>by
  obtain⟨p,hp,rfl⟩:=WE.1 hx;have:=wq p hp;have:=(na (ak n) p).2;omega
 grind
theorem Bw{l:List aq}(hl:l.length<=1048576){ah:List av}(hc:ah.length<=1048576){au a8:ByteArray}{aP ab:Int}{aG:List av}(h:bN n l ah au a8 aP ab=YH (aG,YJ)):
 ∃e,sj (cd n [] [] 0 (bf (ak n) au) aP (ak n).length) (bf (ak n) a8) e/\e<=100000:=by
 have hR:=qe hf hl hc h;obtain⟨q1,q2,q3,q4⟩:=hR.hC;have hlg:=rD hn;have hp:(ak n).length<=40:=by have:=ff n;omega
 have bU:=(na (ak n) au).2;have Ob:aB (cd n [] [] 0 (bf (ak n) au) aP 0) (bf (ak n) au)=YH (if 0 > aP then 0 else aP):=by
  unfold cd;rw[Fy hf X9 _ ⟨q2,bU⟩];exact ta q2 Yd
 have h0:sj (cd n [] [] 0 (bf (ak n) au) aP 0) (bf (ak n) au) (if 0 > aP then 0 else aP):=⟨_,Ob,X9,WH _⟩
 have wF:=hR.last
 cases hw:aG.getLast? with
 |none=>
  obtain rfl:au=a8:=by grind
  have:=vN hf hn (l:=[]) Ye (ah:=[]) Ye 0 aP (bf (ak n) au) Ob X9 (ak n).length
  grind
 |some t=>
  have Cb:=hR.chain;have ME:=pW Cb t (List.mem_of_getLast? hw);obtain⟨_,_,_,_,t5⟩:=cR hf hn ME;have JZ:cg n t=a8:=by
   grind
  have h1:=Hi hf hn aG au _ _ 0 Cb h0 X9 t hw;have TH:=L2 hf hn q2 hR.nodup Cb;rw[Nat.zero_add,JZ]at h1
  obtain⟨v,v1,v2,v3⟩:=h1;obtain⟨v',w1,w2,w3⟩:=vN hf hn (l:=[]) Ye (ah:=[]) Ye 0 aP (bf (ak n) au) v1 v2 ((ak n).length-aG.length);rw[show aG.length+((ak n).length-aG.length)=(ak n).length by omega]at w1
  exact⟨v',⟨v',w1,w2,WH _⟩,X9⟩
theorem Jh{l:List aq}(hl:l.length<=1048576){ah:List av}(hc:ah.length<=1048576){au a8:ByteArray}{aP ab ay:Int}(hs:1<=ay/\ay<=3){aG:List av}(h:bN n l ah au a8 aP ab=YH (aG,YJ)):
 ∃d,fE n ay au a8 aP=YH d/\0<=d/\d<=200000:=by
 have hR:=qe hf hl hc h;obtain⟨q1,q2,q3,q4⟩:=hR.hC;have rV:=Bw hf hn hl hc h;obtain⟨e,⟨v,v1,v2,v3⟩,he⟩:=rV;have:=QY (ay:=ay) v2 (show v<=100000 by omega)
 exact⟨_,CJ (BR hf hn q2 q3 hR.JZ v1) v2 X9 hs,X9,this.2⟩
end
end Go.Proofs.YtdilaemengjipaaGreatDoor
namespace Go.Proofs.YtdilaemengjipaaGreatDoor
set_option maxRecDepth 10000
open Go.RowKit Go.Lib Go.Sort
set_option maxRecDepth 100000
variable {W:World}{lv:Value}
abbrev SW(w:World):Nat->Prop:=λb=>b<w.heap.size
theorem ux{w w':World}{p:PV}{x:Value}(h:fg w (SW w) p x)(hu:Up w w'):fg w' (SW w') p x:=
 h.ext (λb hb=>Nat.lt_of_lt_of_le hb hu.size) (λb o hb=>hu.cell (p:=⟨b,o,YI⟩) hb)
theorem fL.Zgv{P:Program}{α:Type}[eQ α]{c:α->List PV}[hf:uR c (id:α->α)]{f:FuncId}{args:List PV}{T:TypeId}{r:List α}(h:fL P f args [] (.ms 0) [YH ⟨T,eQ.k α,r.map c⟩]){w:World}(ht:Dn w (np λ_=>YI)){vs:Array Value}(hl:vs.size=args.length)(ha:∀(i:Nat) (p:PV),args[i]?=YH p->∃x,vs[i]?=YH x/\dE w (E1 (SW w) (λ_=>YI) 0) p x):
 Calls P f vs w λe w'=>∃v,e=.returned v/\Own w' w.heap.size T v r/\Up w w':=by
 have hok:Ok w (np λ_=>YI) (E1 (λb=>b<w.heap.size) (λ_=>YI) 0) w []:=
  ⟨Dp.refl _ _,λb h=>h,λl B h=>Yj,λl l' B B' h=>Yj,λl h=>absurd h (Nat.not_lt_zero l),λl B h=>Yj,λl mb h=>Yd,λl B h=>Yj,ht,λ_ _ h=>h.elim⟩
 refine(h (λb=>b<w.heap.size) (λ_=>YI) w vs (λ_ _=>False) hok hl ha).mono ?_
 rintro e w' ⟨v,E',rfl,hk,_,_,_,hr⟩;refine⟨v,rfl,?_,⟨hk.up.os,hk.up.tape,hk.up.output,hk.up.size,λb hb=>hk.up.block b hb K6⟩⟩
 obtain⟨B,hB,hb,rfl⟩:=hr.tf hk (l:=0) rfl;have Oh:=hb.k;have hn:B.n=r.length:=by have:=hb.n;simp_all
 have hT:=hb.T;simp only at Oh hT
 cases hz:B.z with
 |true=>
  have h0:r=[]:=by have:=hb.nil hz;simp_all
  subst h0;have On:B.sv=.slice YI 0 0:=by simp[qm.sv,hz]
  rw[On];exact World.ownsRow_nil _ _ _ _
 |false=>
  have On:B.sv=.slice (YH ⟨B.b,0,YI⟩) r.length B.c:=by simp[qm.sv,hz,hn]
  rw[On];obtain⟨cells,hc,sL,Ee⟩:=hb.mem hz;have oM:=hk.own 0 B hB hz;have KB:w.heap.size<=B.b:=by
   grind
  refine⟨by rw[rz],.inr ⟨B.b,B.c,cells,rfl,KB,by simp_all,by rw[<-hn];exact hb.nc,hb.cm,by simp_all,?_⟩⟩
  apply List.ext_getElem?;intro t;have hkp:0<eQ.k α:=eQ.pos
  rcases Nat.lt_or_ge t (r.length*eQ.k α)with hi|hi
  ·rw[List.getElem?_take_of_lt hi,Array.getElem?_toList]
   have mZ:t / eQ.k α<r.length:=by rw[Nat.div_lt_iff_lt_mul hkp];omega
   have hj:=Nat.mod_lt t hkp;have e0:t / eQ.k α*eQ.k α+t % eQ.k α=t:=by rw[Nat.mul_comm];exact Nat.div_add_mod t _
   have tD:(c r[t / eQ.k α]).length=eQ.k α:=hf.len _;obtain⟨u,Ej,J0⟩:=hf.aP r[t / eQ.k α] (t % eQ.k α) _ (VU X9);obtain⟨x,x1,_,x3⟩:=Ee (t / eQ.k α) (c r[t / eQ.k α]) (t % eQ.k α) (.v u) Yd Yg;obtain⟨rfl,_⟩:=x3.gW;rw[Oh,e0]at x1
   have Og:=ug (xs:=r) (i:=t / eQ.k α) (x:=r[t / eQ.k α]) (VU mZ) Ej
   simp_all
  ·rw[Xa Yd,Xa (by rw[rz];omega)]
theorem ZdA:P3 prog 29 147 (eQ.k aq) 32:=P3.mk' (z:=.agg #[I 0,I 0,I 0,I 0]) Tryz.underlying29 Yb rfl
section
variable {n:aj} (hf:cO n) {w:World} {O:Nat->Prop} (ht:Dn w O) {v0 v1:Value} (h0:fg w (SW w) (.sl (n.aA.map bn)) v0) (h1:fg w (SW w) (.sl (n.off.map aE)) v1)
include hf ht h0 h1
theorem Qp(hu:Up w W){xs:List aq}(hx:xs.length<=1048576)(hl:fg W (SW W) (.sl (xs.map aC)) lv):
 Calls prog 85 #[.agg #[v0,v1,I n.change],lv] W λe w'=>e=.returned (.bool (cn n xs))/\Up W w':=by
 have o0:=h0.one Ye Ye;have o1:=h1.one Ye Ye;have hC:=CT.ok (P:=prog) (vc hf hx);simp only[CT.f,CT.args,CT.m0,CT.res,CT.mem]at hC
 refine fL.ZaO hC (Da ht (O':=λ_=>False) ⟨hu.os,hu.tape,hu.output,hu.size,λb hb _=>hu.block b hb⟩ λb _ h=>h.elim) rfl λi p hp=>?_
 match i with
 |0=>
  obtain rfl:_=p:=VW hp;refine⟨_,rfl,.ag _ _ rfl (λj x hx=>?_) λj p x hp hx=>?_⟩
  ·match j with
   |0=>simp_all
   |1=>simp_all
   |2=>obtain rfl:_=x:=VW hx
       rfl
   |j+3=>grind
  ·match j with
   |0=>obtain rfl:_=x:=VW hx
       obtain rfl:_=p:=VW hp;exact .c (ux h0 hu)
   |1=>obtain rfl:_=x:=VW hx
       obtain rfl:_=p:=VW hp;exact .c (ux h1 hu)
   |2=>obtain rfl:_=x:=VW hx
       obtain rfl:_=p:=VW hp;exact CO _ rfl
   |j+3=>grind
 |1=>
  obtain rfl:_=p:=VW hp;exact⟨_,rfl,.c hl⟩
 |i+2=>grind
omit hf h0 h1 in
theorem Mj(hu:Up w W){xs:List aq}(hx:xs.length<=1048576)(hl:fg W (SW W) (.sl (xs.map aC)) lv):
 Calls prog 132 #[lv] W λe w'=>∃v,e=.returned v/\Own w' W.heap.size 147 v xs/\Up W w':=by
 have hm:fP xs=YH xs:=by
  unfold fP;simp only[VY,xJ hx (show 32<=1024 by omega),VS,List.nil_append]
 have hC:=CT.ok (P:=prog) hm;simp only[CT.f,CT.args,CT.m0,CT.res,CT.mem]at hC
 refine fL.Zgv hC (Da ht (O':=λ_=>False) ⟨hu.os,hu.tape,hu.output,hu.size,λb hb _=>hu.block b hb⟩ λb _ h=>h.elim) rfl λi p hp=>?_
 match i with
 |0=>
  obtain rfl:_=p:=VW hp;exact⟨_,rfl,.c hl⟩
 |i+1=>grind
end
end Go.Proofs.YtdilaemengjipaaGreatDoor
namespace Go.Proofs.YtdilaemengjipaaGreatDoor
set_option maxRecDepth 10000
open Go.RowKit
variable {l l':List aq}{p:ByteArray}{rest ts:List av}
theorem se{α:Type}[DecidableEq α]:∀{xs ys:List α},xs.Nodup->(∀x∈xs,x∈ys)->xs.length<=ys.length
 | [],ys,_,_=>Nat.zero_le _
 |x::xs,ys,hn,hs=>by
  obtain⟨h1,h2⟩:=List.nodup_cons.1 hn;have:=se (ys:=ys.erase x) h2 λy hy=>(List.mem_erase_of_ne (λe:y=x=>h1 (e▸hy))).2 (hs y Yd)
  grind
theorem Nk{α:Type}(f:α->Nat):∀{l:List α} {i:Nat} {o:α} (x:α),l[i]?=YH o->((l.set i x).map f).sum+f o=(l.map f).sum+f x
 | [],_,_,_,h=>by grind
 |a::l,0,o,x,h=>by
  grind
 |a::l,i+1,o,x,h=>by
  have:=Nk f x (l:=l) (i:=i) (o:=o) Yd
  grind
theorem E4:∀(os:List az) (a:Nat),(∀o∈os,o.aG.length<=1048576)->a+1048576*os.length<=1099511627776->os.foldl (λa (o:az)=>aI (a+(o.aG.length:Int))) (a:Int)=((a+(os.map λo=>o.aG.length).sum:Nat):Int)
 | [],a,_,_=>by simp
 |o::os,a,h,hb=>by
  have h1:=h o Ye;simp at hb
  rw[List.foldl_cons,aR X9,show((a:Int)+(o.aG.length:Int))=((a+o.aG.length:Nat):Int)by omega,E4 os _ (λx hx=>h x Yd) X9]
  grind
/-! Zha in two parts. -/
section
variable {n:aj}
def Kx(n:aj)(p:ByteArray)(ts:List av):ByteArray:=ts.foldl (λ_ t=>cg n t) p
def N1(n:aj)(a:Int)(ts:List av):Int:=ts.foldl (λ_ t=>dF n t+n.change) a
theorem za:∀(xs:List av) {ys:List av} {p:ByteArray} {a:Int},iE n p a (xs++ys)↔iE n p a xs/\iE n (Kx n p xs) (N1 n a xs) ys
 | [],ys,p,a=>by simp[iE,Kx,N1]
 |x::xs,ys,p,a=>by
  have:=za xs (ys:=ys) (p:=cg n x) (a:=dF n x+n.change);simp only[List.cons_append,iE,Kx,N1]at this⊢
  grind
theorem Fq{a b:Int}(h:iE n p a ts)(B8:b<=a):iE n p b ts:=by
 cases ts with
 |nil=>trivial
 |cons t ts=>exact⟨h.1,h.2.1,Int.le_trans B8 h.2.2.1,h.2.2.2⟩
variable (hf:cO n) (hn:aV n=YH YJ)
include hf hn
theorem BG:∀{ts:List av} {p:ByteArray} {a:Int},iE n p a ts->∀t∈ts,a<=cM n t
 |x::ts,p,a,h,t,ht=>by
  rcases V1.1 ht with rfl|ht
  ·exact h.2.2.1
  ·obtain⟨t1,t2,t3,t4,t5⟩:=cR hf hn h.1
   obtain⟨c0,c1⟩:=kI hn;have:=BG h.2.2.2 t ht;have:=h.2.2.1;omega
theorem BH:∀{ts:List av} {p:ByteArray} {a:Int},iE n p a ts->ts.Pairwise λx y=>cM n x<cM n y
 | [],_,_,_=>XC
 |x::ts,p,a,h=>by
  obtain⟨t1,t2,t3,t4,t5⟩:=cR hf hn h.1;obtain⟨c0,c1⟩:=kI hn;refine List.pairwise_cons.2 ⟨λy hy=>?_,BH h.2.2.2⟩
  have:=BG hf hn h.2.2.2 y hy;omega
theorem u4{a:Int}(h:iE n p a ts):ts.Nodup:=by
 exact(BH hf hn h).imp λ{a b} bU e=>by grind
theorem Sv(hp:0<=bf (ak n) p)(h:∀t∈ts,fV n t=YJ):0<=bf (ak n) (Kx n p ts):=by
 induction ts generalizing p with
 |nil=>exact hp
 |cons t ts ih=>
  obtain⟨y,hy,hym⟩:=fa hf (h t Ye);have e:cg n t=y.a8:=by unfold cg;grind
  have:=ih (p:=cg n t) (by rw[e];exact nb (pL hym).2) λx hx=>h x Yd
  exact this
end
theorem Zcc{l:List ByteArray}(h:0<=bf l p):p∈l:=by
 unfold bf at h
 cases hx:l.findIdx? λy=>YL (y=p)with
 |none=>grind
 |some k=>
  obtain⟨h1,h2,_⟩:=List.findIdx?_eq_some_iff_getElem.1 hx
  grind
theorem tz{n:aj}{p:ByteArray}:∀{ts:List av} {t:av},ts.getLast?=YH t->Kx n p ts=cg n t
 | [],_,h=>by grind
 | [x],t,h=>by obtain rfl:x=t:=by grind
               rfl
 |x::y::ts,t,h=>by
  have:=tz (n:=n) (p:=cg n x) (ts:=y::ts) (t:=t) Yd;exact this
theorem D4{n:aj}{a:Int}:∀{ts:List av} {t:av},ts.getLast?=YH t->N1 n a ts=dF n t+n.change
 | [],_,h=>by grind
 | [x],t,h=>by obtain rfl:x=t:=by grind
               rfl
 |x::y::ts,t,h=>by
  have:=D4 (n:=n) (a:=dF n x+n.change) (ts:=y::ts) (t:=t) Yd;exact this
/-! P2 of Zg7 YH are dropped. -/
def oY(id:Int)(rest:List av)(bs:List aq):List aq:=bs.filter λb=>!(YL (b.bw=id)&&dx rest b.bj)
theorem jT{l:List av}{t:av}:dx l t=YJ↔t∈l:=by
 unfold dx;simp
theorem Et{id:Int}{bs:List aq}{b:aq}:b∈oY id rest bs↔b∈bs/\¬(b.bw=id/\b.bj∈rest):=by
 unfold oY;rw[Xg];simp only[WG,Xx,X7,not_and];refine and_congr_right λ_=>⟨λh h1 h2=>?_,λh h1=>?_⟩
 ·have:=h h1;rw[jT.2 h2]at this;grind
 ·cases hc:dx rest b.bj with
  |false=>rfl
  |true=>exact absurd (jT.1 hc) (h h1)
theorem N0(id:Int)(bs:List aq):oY id [] bs=bs:=by
 exact List.filter_eq_self.2 λb _=>by simp[dx]
theorem OH(h:l'.Sublist l)(hw:∀b∈l,1<=b.ab/\b.ab<=1000000)(t:av):rP l' t<=rP l t:=by
 induction h with
 |slnil=>omega
 |cons a h ih=>
  have:=ih λb hb=>hw b Yd
  unfold rP at *
  grind
 |cons_cons a h ih=>
  have:=ih λb hb=>hw b Yd
  unfold rP at *
  grind
theorem yW{n:aj}(hf:cO n)(hb:cn n l=YJ)(hs:l'.Sublist l):cn n l'=true:=by
 obtain⟨hn,hl⟩:=dH hb;have Il:=hs.length_le;have hw:∀b∈l,1<=b.ab/\b.ab<=1000000:=λb hm=>by
  obtain⟨i,hi,rfl⟩:=Wc hm;have h1:=(xF hb hi).1;unfold Mg at h1
  grind
 have hp:l'.Pairwise λa b=>pj a b=true:=by
  refine WW hs ?_;exact Ws.2 λi j hi hj yN=>sk hb j i hj yN
 unfold cn;rw[hn];simp only[Xe,Bool.true_and,V6,X7];refine⟨X9,List.all_eq_true.2 λi hi=>?_⟩
 have mZ:i<l'.length:=List.mem_range.1 hi;obtain⟨j,hj,hje⟩:=Wc (hs.subset (List.getElem_mem mZ));obtain⟨b1,b2⟩:=xF hb hj;unfold Mg at b1
 unfold T4 at b2
 rw[VU hj,hje]at b1 b2
 simp only[V6]at b1⊢
 constructor
 ·unfold Mg
  rw[VU mZ];simp only[V6];refine⟨b1.1,?_⟩
  cases i with
  |zero=>rfl
  |succ i=>
   have hi2:i<l'.length:=X9;have:=Ws.1 hp i (i+1) hi2 mZ X9
   grind
 ·unfold T4
  rw[VU mZ];have hw':∀b∈l',1<=b.ab/\b.ab<=1000000:=λb hb=>hw b (hs.subset hb)
  simp only[R3 (show l.length<=1000 by omega) hw]at b2
  simp only[R3 (show l'.length<=1000 by omega) hw']
  cases hg:aB n.aA l'[i].bj.bD with
  |none=>grind
  |some g=>
   rw[hg]at b2
   simp at b2⊢
   have:=OH hs hw l'[i].bj;omega
theorem tw(id:Int)(rest:List av)(bs:List aq):(oY id rest bs).Sublist bs:=List.filter_sublist
theorem Hf{n:aj}(hb:cn n l=YJ):l.Nodup:=by
 refine Ws.2 λi j hi hj yN e=>?_
 have:=sk hb j i hj yN;rw[Bs (by rw[e]) (by rw[e])]at this
 grind
theorem NZ{n:aj}(hb:cn n l=YJ){id wt:Int}(hr:rest.Nodup)(hm:∀t∈rest,(⟨id,t,wt⟩:aq)∈l):(oY id rest l).length+rest.length=l.length:=by
 have hu:=Bz hb;have e:=List.length_eq_countP_add_countP (p:=λb:aq=>YL (b.bw=id)&&dx rest b.bj) (l:=l)
 have e2:l.countP (λb=>YL ¬(YL (b.bw=id)&&dx rest b.bj)=YJ)=(oY id rest l).length:=by
  rw[XS];unfold oY;simp
 have e3:l.countP (λb:aq=>YL (b.bw=id)&&dx rest b.bj)=rest.length:=by
  rw[XS];refine Nat.le_antisymm ?_ ?_
  ·have el:((l.filter λb=>YL (b.bw=id)&&dx rest b.bj).map λb:aq=>b.bj).length=(l.filter λb=>YL (b.bw=id)&&dx rest b.bj).length:=Wo ..
   rw[<-el];refine se ?_ λt ht=>?_
   ·unfold XW
    rw[W5];refine(WW List.filter_sublist (Hf hb)).imp_of_mem λ{a b} ha FF iq e=>iq ?_
    have FF:=Xg.1 FF;simp at ha FF
    exact hu a ha.1 b FF.1 (ha.2.1.trans FF.2.1.symm) e
   ·obtain⟨b,pk,rfl⟩:=WE.1 ht
    have:=(Xg.1 pk).2;simp at this
    exact jT.1 this.2
  ·have el:(rest.map λt=>(⟨id,t,wt⟩:aq)).length=rest.length:=Wo ..
   rw[<-el];refine se ?_ λb pk=>?_
   ·grind
   ·obtain⟨t,ht,rfl⟩:=WE.1 pk
    refine Xg.2 ⟨hm t ht,?_⟩;simp;exact jT.2 ht
 omega
end Go.Proofs.YtdilaemengjipaaGreatDoor
