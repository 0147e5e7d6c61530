/- A part of the proof of the statement in the last file of this claim: texts on the language of the program and on its functions. No condition. -/
import Derived.Test.YtdilaemengjipaaGreatDoorCA4
import Derived.Test.YtdilaemengjipaaGreatDoorCA8
import Derived.Test.YtdilaemengjipaaGreatDoorCA9
import Derived.Test.YtdilaemengjipaaGreatDoorCA7
import Derived.Test.YtdilaemengjipaaGreatDoorCA5
import Derived.Sort.Walk0
import Derived.Test.YtdilaemengjipaaGreatDoorCA1
set_option linter.unusedVariables false
set_option linter.unusedSimpArgs false
set_option linter.unusedSectionVars false
open Option renaming some->YH,none->YI
open Bool renaming true->YJ,false->YK
open Decidable renaming decide->YL
open Go.Proofs.Tryz
set_option maxHeartbeats 40000000
namespace Go.Proofs.YtdilaemengjipaaGreatDoor
open Option renaming bind_some->VS
open Bool renaming not_true->V5,not_false->Wr
open List renaming mem_cons_self->Wp,pairwise_cons->WZ,mem_cons->V1,foldl_cons->Wn,mem_map->WE,pairwise_map->W5,getElem?_eq_some_iff->VT,takeWhile_cons_of_pos->XV
open _root_.Int renaming toNat_natCast->WQ,tdiv->W3,toNat->Wd
set_option maxRecDepth 10000
open Go.RowKit
variable {a b p:ByteArray}{body:Int->Option (Int⊕Int)}{i:Nat}{n:aj}{out:List ByteArray}{α:Type}
theorem qf:@df=@bp:=rfl
theorem rU:@cX=@bl:=rfl
def Co(l:bK):Prop:=l.au.size<=rq/\l.a8.size<=rq
theorem x6{l:bK}(h:Co l):qy l=fq l/\∃b,fq l=YH b:=by
 obtain⟨e1,b1,s1⟩:=l7 (s:=l.au) h.1;obtain⟨e2,b2,s2⟩:=l7 (s:=l.a8) h.2;constructor
 ·unfold qy fq;rw[e1,e2,gE]
 ·unfold fq
  rw[s1,s2];simp only[VS,cE]
  grind
structure cO(n:aj):Prop where
 aA:n.aA.length<=1048576
 off:n.off.length<=1048576
 bD:∀l∈n.aA,Co l
theorem su{xs:List α}{i:Int}{x:α}(h:aB xs i=YH x):x∈xs:=List.mem_of_getElem? (mw h).2
theorem Se(h:cO n):ml n=bX n:=by
 funext i
 unfold ml bX
 cases hg:aB n.aA i with
 |none=>rfl
 |some y=>simp only[VS,(x6 (h.bD y (su hg))).1]
theorem Sf:mn n=bY n:=by
 funext i
 unfold mn bY;rw[gE]
 cases hg:aB n.off i with
 |none=>rfl
 |some y=>rfl
theorem Zex(h:cO n):∃o,aD (bX n) NN 0=YH o:=by
 refine yd (n:=n.aA.length) (by have:=h.aA;unfold NN;omega) (λi hi=>?_) ⟨_,by simp[bX];rfl⟩
 have hw:=bE hi (by have:=h.aA;omega)
 have hg:aB n.aA (i:Int)=YH n.aA[i]:=by rw[aS];simp
 obtain⟨b,hb⟩:=(x6 (h.bD _ (List.getElem_mem hi))).2
 cases b with
 |true=>exact Nj (by simp only[bX,X1 (show(i:Int)<n.aA.length by omega),X5,hg,VS,hb,hw,V5,X6])
 |false=>exact LY (by simp only[bX,X1 (show(i:Int)<n.aA.length by omega),X5,hg,VS,hb,Wr,X5];rfl)
theorem Zey(h:cO n):∃o,aD (bY n) NN 0=YH o:=by
 refine yd (n:=n.off.length) (by have:=h.off;unfold NN;omega) (λi hi=>?_) ⟨_,by simp[bY];rfl⟩
 have hw:=bE hi (by have:=h.off;omega)
 have hg:aB n.off (i:Int)=YH n.off[i]:=by rw[aS];simp
 have hd:=X1 (show(i:Int)<n.off.length by omega)
 cases hb:YL (0<=n.off[i])&&YL (n.off[i]<=60)with
 |false=>exact LY (by simp only[bY,hd,X5,hg,VS,cE,hb,Wr];rfl)
 |true=>
  by_cases h0:0<(i:Int)
  ·have Az:aI ((i:Int)-1)=((i-1:Nat):Int):=by rw[aR (by have:=h.off;omega)];omega
   have UJ:aB n.off ((i-1:Nat):Int)=YH n.off[i-1]:=by rw[aS];simp
   cases hc:YL (n.off[i]<=n.off[i-1])with
   |true=>exact LY (by simp only[bY,hd,X5,hg,VS,cE,hb,V5,X6,X1 h0,Az,UJ,hc];rfl)
   |false=>exact Nj (by simp only[bY,hd,X5,hg,VS,cE,hb,V5,X6,X1 h0,Az,UJ,hc,hw])
  ·exact Nj (by simp only[bY,hd,X5,hg,VS,cE,hb,V5,X6,X2 h0,hw])
theorem jM(h:cO n):eW n=aV n/\∃b,aV n=YH b:=by
 constructor
 ·unfold eW aV;rw[Se h,Sf,gE]
 ·obtain⟨o0,h0⟩:=Zex h
  obtain⟨o1,h1⟩:=Zey h;unfold aV;rw[h0,h1];simp only[VS,cE]
  rcases o0 with o0|o0
  ·rcases o1 with o1|o1
   ·simp only[bk]
    cases YL ((n.aA.length:Int)<=20)<;>cases YL ((n.off.length:Int)<=10)<;>exact⟨_,rfl⟩
   simp
  simp
theorem ET{α:Type}{r:α->α->Prop}(irr:∀a,¬r a a)(asy:∀a b,r a b->¬r b a):∀{l1 l2:List α},l1.Pairwise r->l2.Pairwise r->(∀x,x∈l1↔x∈l2)->l1=l2
 | [],[],_,_,_=>rfl
 | [],b::l2,_,_,h=>absurd ((h b).2 (Wp ..)) Ye
 |a::l1,[],_,_,h=>absurd ((h a).1 (Wp ..)) Ye
 |a::l1,b::l2,h1,h2,h=>by
  rw[WZ]at h1 h2
  have B8:a=b:=by
   rcases V1.1 ((h a).1 (Wp ..))with e|e
   ·exact e
   ·rcases V1.1 ((h b).2 (Wp ..))with e'|e'
    all_goals grind
  congr 1
  refine ET irr asy h1.2 h2.2 λx=>⟨λhx=>?_,λhx=>?_⟩
  all_goals grind
theorem yA(a b:ByteArray):qM a b=YJ↔a.data.toList<b.data.toList:=by
 unfold qM;rw[Go.Proofs.bytesLess_eq,ByteArray.toList_eq,ByteArray.toList_eq,X7]
theorem Fm(h:a.data.toList=b.data.toList):a=b:=by
 obtain⟨⟨x⟩⟩:=a;simp_all
theorem Gr(a:ByteArray):¬qM a a=true:=by rw[yA];simp
theorem S6(a b:ByteArray)(h:qM a b=YJ):¬qM b a=true:=by rw[yA]at *;grind
theorem ZcE{a b c:ByteArray}(h:qM a b=YJ)(h':qM b c=YJ):qM a c=true:=by rw[yA]at *;grind
theorem M9(h:¬qM a b=YJ)(hn:a≠b):qM b a=true:=by
 rw[yA]at *
 rcases List.le_total a.data.toList b.data.toList with e|e
 ·rcases(List.le_iff_lt_or_eq.1 e)with e'|e'
  ·grind
  ·exact absurd (Fm e') hn
 ·rcases(List.le_iff_lt_or_eq.1 e)with e'|e'
  ·omega
  ·exact absurd (Fm e'.symm) hn
def sA:List ByteArray->ByteArray->List ByteArray
 | [],p=>[p]
 |x::xs,p=>if qM x p=YJ then x::sA xs p else if x=p then x::xs else p::x::xs
theorem Cj{p y:ByteArray}:∀{xs:List ByteArray},y∈sA xs p↔y=p\/y∈xs
 | []=>by simp[sA]
 |x::xs=>by
  unfold sA
  split
  ·rw[V1,Cj];grind
  grind
theorem Ab{p:ByteArray}:∀{xs:List ByteArray},xs.Pairwise (λa b=>qM a b=YJ)->(sA xs p).Pairwise (λa b=>qM a b=YJ)
 | [],_=>by simp[sA]
 |x::xs,h=>by
  rw[WZ]at h
  unfold sA
  split
  ·rw[WZ]
   refine⟨λy hy=>?_,Ab h.2⟩
   rcases Cj.1 hy with e|e
   all_goals grind
  ·rename_i h1
   split
   ·simp_all
   ·rename_i h2
    have h3:=M9 h1 h2;rw[WZ,WZ];refine⟨λy hy=>?_,h⟩
    rcases V1.1 hy with e|e
    ·grind
    ·exact ZcE h3 (h.1 y e)
theorem Ci{p:ByteArray}:∀{xs:List ByteArray},(sA xs p).length<=xs.length+1
 | []=>by simp[sA]
 |x::xs=>by
  unfold sA
  split
  ·have:=Ci (p:=p) (xs:=xs);grind
  grind
theorem r8{y:ByteArray}:∀{l acc:List ByteArray},y∈l.foldl sA acc↔y∈l\/y∈acc
 | [],acc=>by simp
 |p::l,acc=>by rw[Wn,r8,Cj];grind
theorem uh:∀{l acc:List ByteArray},acc.Pairwise (λa b=>qM a b=YJ)->(l.foldl sA acc).Pairwise (λa b=>qM a b=YJ)
 | [],acc,h=>h
 |p::l,acc,h=>uh (l:=l) (Ab h)
theorem D8:∀{l acc:List ByteArray},(l.foldl sA acc).length<=l.length+acc.length
 | [],acc=>by simp
 |p::l,acc=>by
  have h1:=D8 (l:=l) (acc:=sA acc p);have h2:=Ci (p:=p) (xs:=acc)
  grind
/-! The Zc1: a list Zfe Zfd,sorted. -/
theorem QS{y:ByteArray}:∀{l acc:List ByteArray},y∈l.foldl dd acc↔y∈l\/y∈acc
 | [],acc=>by simp
 |p::l,acc=>by
  rw[Wn,QS];unfold dd
  split
  ·rename_i h
   have h:=MG.1 h
   grind
  grind
theorem Hw:∀{l acc:List ByteArray},acc.Nodup->(l.foldl dd acc).Nodup
 | [],acc,h=>h
 |p::l,acc,h=>by
  rw[Wn];refine Hw ?_;unfold dd
  split
  ·exact h
  ·rename_i h1
   rw[List.nodup_append];refine⟨h,by simp,?_⟩
   intro a ha b hb;simp at hb
   rintro rfl;subst hb;exact h1 (MG.2 ha)
theorem Tf{y:ByteArray}{xs:List ByteArray}:y∈C0 xs↔y∈xs:=by
 unfold C0;rw[WE];constructor
 ·rintro⟨l,hl,rfl⟩
  rw[List.mem_mergeSort,WE]at hl
  obtain⟨b,hb,rfl⟩:=hl;omega
 ·intro h
  exact⟨y.data.toList,by rw[List.mem_mergeSort];grind,Fm Ye⟩
theorem JG{xs:List ByteArray}(h:xs.Nodup):(C0 xs).Pairwise (λa b=>qM a b=YJ):=by
 unfold C0;rw[W5];have h1:((xs.map λb:ByteArray=>b.data.toList).mergeSort λx y=>YL (x<=y)).Pairwise (λa b=>YL (a<=b)=YJ):=
  List.pairwise_mergeSort (λa b c=>by grind) (λa b=>by grind) _
 have h2:((xs.map λb:ByteArray=>b.data.toList).mergeSort λx y=>YL (x<=y)).Nodup:=by
  rw[(List.mergeSort_perm _ _).nodup_iff];unfold List.Nodup;rw[W5];exact h.imp λiq e=>iq (Fm e)
 refine(h1.and h2).imp ?_;rintro a b ⟨h3,h4⟩;rw[yA]
 grind
def ak(n:aj):List ByteArray:=(ir n).foldl sA []
theorem Aa(h:cO n):dm n=YH (ak n):=by
 unfold dm;rw[if_pos ⟨h.aA,List.all_eq_true.2 λl hl=>X1 (by have:=h.bD l hl;unfold Co rq at this;unfold maxLen;omega)⟩]
 congr 1
 exact ET (r:=λa b=>qM a b=YJ) Gr S6 (JG (Hw List.nodup_nil)) (uh List.Pairwise.nil) λx=>by
  rw[Tf,QS];unfold ak;rw[r8]
theorem U6{xs:List α}{p:α->Bool}(h1:∀i (hi:i<xs.length),body (i:Int)=YH (if p xs[i]=YJ then .inl ((i+1:Nat):Int)else .inr (i:Int)))(h2:body (xs.length:Int)=YH (.inr (xs.length:Int)))(hN:xs.length<NN):
 aD body NN 0=YH ((xs.takeWhile p).length:Int):=by
 have key:∀(ys:List α) (i N:Nat),xs.drop i=ys->i<=xs.length->ys.length<N->aD body N (i:Int)=YH ((i+(ys.takeWhile p).length:Nat):Int):=by
  intro ys
  induction ys with
  |nil=>
   intro i N hd hi hN
   cases N with
   |zero=>omega
   |succ N=>
    have:i=xs.length:=by grind
    subst this;simp only[aD,h2];rfl
  |cons y ys ih=>
   intro i N hd hi hN
   cases N with
   |zero=>omega
   |succ N=>
    have hy:xs[i]?=YH y:=by
     have:=congrArg (λl=>l[0]?) hd
     grind
    have bU:i<xs.length:=(VT.1 hy).1;have hyv:xs[i]=y:=(VT.1 hy).2;have wV:xs.drop (i+1)=ys:=by
     have:=congrArg (List.drop 1) hd
     simpa using this
    simp only[aD,h1 i bU,hyv]
    cases hp:p y with
    |true=>
     have:=ih (i+1) N wV bU Yg;rw[XV hp]
     grind
    |false=>
     simp_all
 grind
theorem MH(p:ByteArray):∀(xs:List ByteArray),sA xs p=
 if xs[(xs.takeWhile λx=>qM x p).length]?=YH p then xs else xs.take (xs.takeWhile λx=>qM x p).length++[p]++xs.drop (xs.takeWhile λx=>qM x p).length
 | []=>by rfl
 |x::xs=>by
  unfold sA
  cases h:qM x p with
  |true=>
   rw[XV (by exact h),MH p xs]
   grind
  |false=>
   simp_all
theorem JC{i':Int}(hl:out.length<=4194304):
 (cond (YL (((out.takeWhile λx=>qM x p).length:Int)=(out.length:Int)))
  ((bW (gg 0 ((out.takeWhile λx=>qM x p).length:Int) out.length)).bind λ_=>
  (bW (bm ((([]:List ByteArray):List ByteArray).length+((cH out 0 ((out.takeWhile λx=>qM x p).length:Int)):List ByteArray).length) 16)).bind λ_=>
  (bW (bm ((((([]:List ByteArray):List ByteArray)++(cH out 0 ((out.takeWhile λx=>qM x p).length:Int))):List ByteArray).length+([p]:List ByteArray).length) 16)).bind λ_=>
  (bW (gg ((out.takeWhile λx=>qM x p).length:Int) (out.length:Int) out.length)).bind λ_=>
  (bW (bm ((((((([]:List ByteArray):List ByteArray)++(cH out 0 ((out.takeWhile λx=>qM x p).length:Int))):List ByteArray)++[p]):List ByteArray).length+((cH out ((out.takeWhile λx=>qM x p).length:Int) (out.length:Int)):List ByteArray).length) 16)).bind λ_=>
  (YH (.inl (i',((((((([]:List ByteArray):List ByteArray)++(cH out 0 ((out.takeWhile λx=>qM x p).length:Int))):List ByteArray)++[p]):List ByteArray)++(cH out ((out.takeWhile λx=>qM x p).length:Int) (out.length:Int))))):Option ((Int×List ByteArray)⊕List ByteArray)))
  ((aB out ((out.takeWhile λx=>qM x p).length:Int)).bind λy4=>
  cond (!decide (y4=p))
  ((bW (gg 0 ((out.takeWhile λx=>qM x p).length:Int) out.length)).bind λ_=>
  (bW (bm ((([]:List ByteArray):List ByteArray).length+((cH out 0 ((out.takeWhile λx=>qM x p).length:Int)):List ByteArray).length) 16)).bind λ_=>
  (bW (bm ((((([]:List ByteArray):List ByteArray)++(cH out 0 ((out.takeWhile λx=>qM x p).length:Int))):List ByteArray).length+([p]:List ByteArray).length) 16)).bind λ_=>
  (bW (gg ((out.takeWhile λx=>qM x p).length:Int) (out.length:Int) out.length)).bind λ_=>
  (bW (bm ((((((([]:List ByteArray):List ByteArray)++(cH out 0 ((out.takeWhile λx=>qM x p).length:Int))):List ByteArray)++[p]):List ByteArray).length+((cH out ((out.takeWhile λx=>qM x p).length:Int) (out.length:Int)):List ByteArray).length) 16)).bind λ_=>
  YH (.inl (i',((((((([]:List ByteArray):List ByteArray)++(cH out 0 ((out.takeWhile λx=>qM x p).length:Int))):List ByteArray)++[p]):List ByteArray)++(cH out ((out.takeWhile λx=>qM x p).length:Int) (out.length:Int))))))
  (YH (.inl (i',out)))))=YH (.inl (i',sA out p)):=by
 have hk:(out.takeWhile λx=>qM x p).length<=out.length:=(List.takeWhile_sublist _).length_le
 rw[MH];generalize Oh:(out.takeWhile λx=>qM x p).length=k at *
 have e1:cH out 0 (k:Int)=out.take k:=by rfl
 have e2:cH out (k:Int) (out.length:Int)=out.drop k:=by
  unfold cH;rw[WQ,WQ,List.take_of_length_le Ye]
 have c1:bW (gg 0 (k:Int) out.length)=YH ():=od Yv;have c2:bW (gg (k:Int) (out.length:Int) out.length)=YH ():=od Yv;have ap:∀n:Nat,n<=8388608->bW (bm n 16)=YH ():=λn hn=>od (by unfold bm;grind)
 simp
 by_cases hke:(k:Int)=out.length
 ·grind
 ·rw[X2 hke,aS]
  grind
theorem Ev(h:i<n.aA.length):(ir n)[2*i]?=YH n.aA[i].au/\(ir n)[2*i+1]?=YH n.aA[i].a8:=by
 unfold ir;have key:∀(l:List bK) (i:Nat) (h:i<l.length),(l.flatMap λx=>[x.au,x.a8])[2*i]?=YH l[i].au/\(l.flatMap λx=>[x.au,x.a8])[2*i+1]?=YH l[i].a8:=by
  intro l
  induction l with
  |nil=>simp
  |cons a l ih=>
   intro i h
   cases i with
   |zero=>simp
   |succ i=>
    grind
 grind
theorem vX(n:aj):(ir n).length=2*n.aA.length:=by
 unfold ir
 induction n.aA with
 |nil=>rfl
 |cons a l ih=>grind
theorem twL(hl:out.length<=4194304)(hb:∀i:Int,body i=cond (YL (i<(out.length:Int))) ((aB out i).bind λy=>cond (qM y p) (YH (.inl (aI (i+1)))) (YH (.inr i))) (YH (.inr i))):
 aD body NN 0=YH ((out.takeWhile λx=>qM x p).length:Int):=by
 refine U6 (λi hi=>?_) ?_ Yc
 ·have hw:=bE hi X9
  have hg:aB out (i:Int)=YH out[i]:=by rw[aS];simp
  grind
 grind
theorem LV(h:n.aA.length<=1048576)(hp:(ir n)[i]?=YH p)(ho:out.length<=4194304):
 iP n ((i:Int),out)=YH (.inl (((i+1:Nat):Int),sA out p)):=by
 have hi:i<2*n.aA.length:=by rw[<-vX];grind
 have Az:aI (2*(n.aA.length:Int))=2*n.aA.length:=aR X9;have hdiv:IntKind.i64.wrap (W3 (i:Int) 2)=((i / 2:Nat):Int):=by
  rw[show W3 (i:Int) 2=((i / 2:Nat):Int)from rfl];exact aR X9
 have Zea:Int.tmod (i:Int) 2=((i % 2:Nat):Int):=rfl;have hw:aI ((i:Int)+1)=((i+1:Nat):Int):=bE hi X9;have bU:i / 2<n.aA.length:=X9;have hg:aB n.aA ((i / 2:Nat):Int)=YH n.aA[i / 2]:=by rw[aS];simp
 obtain⟨n1,n2⟩:=Ev bU;unfold iP;simp only[Az,hdiv,Zea,hw,hg,VS];rw[X1 (show(i:Int)<2*(n.aA.length:Int)by omega)]
 rcases Nat.mod_two_eq_zero_or_one i with hm|hm
 ·rw[hm,X2 (show ¬((0:Nat):Int)=1 by omega)]
  have Ol:p=n.aA[i / 2].au:=by
   grind
  rw[<-Ol];rw[twL ho (body:=pY n ((i:Int),out) n.aA[i / 2]) (p:=p) (λj=>by rw[Ol];rfl)]
  exact JC ho
 ·rw[hm,X1 (show((1:Nat):Int)=1 by omega)]
  have Ol:p=n.aA[i / 2].a8:=by
   grind
  rw[<-Ol];rw[twL ho (body:=pX n ((i:Int),out) n.aA[i / 2]) (p:=p) (λj=>by rw[Ol];rfl)]
  exact JC ho
theorem Ao(h:n.aA.length<=1048576):cW n=YH (ak n):=by
 have key:∀(ps:List ByteArray) (i N:Nat) (out:List ByteArray),(ir n).drop i=ps->i<=(ir n).length->ps.length<N->out.length<=i->aD (iP n) N ((i:Int),out)=YH (ps.foldl sA out):=by
  have AU:=vX n;intro ps
  induction ps with
  |nil=>
   intro i N out hd hi hN ho
   cases N with
   |zero=>omega
   |succ N=>
    have:i=(ir n).length:=by grind
    have Az:aI (2*(n.aA.length:Int))=2*n.aA.length:=aR X9;simp only[aD,iP]
    grind
  |cons p ps ih=>
   intro i N out hd hi hN ho
   cases N with
   |zero=>omega
   |succ N=>
    have hp:(ir n)[i]?=YH p:=by
     have:=congrArg (λl=>l[0]?) hd
     grind
    have bU:=(VT.1 hp).1;have wV:(ir n).drop (i+1)=ps:=by
     have:=congrArg (List.drop 1) hd
     simpa using this
    simp only[aD,LV h hp (show out.length<=4194304 by omega)]
    exact ih (i+1) N (sA out p) wV bU Yd (by have:=Ci (p:=p) (xs:=out);omega)
 have AU:=vX n;unfold cW;rw[show((0:Int))=((0:Nat):Int)from rfl,key (ir n) 0 NN [] rfl (Nat.zero_le _) Yc Ye];rfl
theorem dh(h:cO n):dm n=cW n/\cW n=YH (ak n):=⟨(Aa h).trans (Ao h.aA).symm,Ao h.aA⟩
theorem ff(n:aj):(ak n).length<=2*n.aA.length:=by
 have:=D8 (l:=ir n) (acc:=[]);rw[vX]at this
 simpa[ak]using this
def kG(w:ax)(i:Int):Option Bool:=
 (aB w.ae i).bind λy1=>
 cond (!decide (y1.state=3))
 ((e9 y1).bind λy2=>
 cond (YL (y2=(y1.aG.length:Int)))
 ((eU w.aa y1).bind λy3=>
 YH (!decide (y3=y1.a8)))
 (YH YK))
 (YH YK)
instance (w:ax)(i:Int):CT prog (kG w i):=⟨296,[.ag (fY w),vi i],[],λr=>vb r,λr=>[],cw (kG.eq_1 ..) func296 ntmps296 results296⟩
def kl(l:List bL)(aY:Int)(s0:Int):Option (Int⊕(Unit⊕Bool)):=
 cond (YL (s0<(l.length:Int)))
 ((jn 3 12 (
 (aB l s0).bind λy1=>
 cond (YL (y1.nt<0))
 (YH (.inr YK))
 (cond (YL (aY<=y1.nt))
 (YH (.inr YK))
 ((aZ y1.ay 1 3).bind λy2=>
 cond (!y2)
 (YH (.inr YK))
 ((aZ y1.nU 1 1000000000).bind λy3=>
 cond (!y3)
 (YH (.inr YK))
 ((aZ y1.kQ 0 100000).bind λy4=>
 cond (!y4)
 (YH (.inr YK))
 (cond (YL (s0=0))
 (YH (.inl ()))
 ((aB l (aI (s0-1))).bind λy5=>
 (dR y5.nt y1.nt).bind λy6=>
 (dR y5.ay y1.ay).bind λy7=>
 (dR y5.nU y1.nU).bind λy8=>
 (oS ([y6,y7,y8])).bind λy9=>
 cond (YL (0<=y9))
 (YH (.inr YK))
 (cond (YL (y5.nt=y1.nt))
 (cond (YL (y5.ay=y1.ay))
 (cond (YL (y1.kQ<y5.kQ))
 (YH (.inr YK))
 (YH (.inl ())))
 (YH (.inl ())))
 (YH (.inl ()))))))))):Option (Unit⊕Bool)) (λz10=>(.sl (l.map cI)::vi aY::(U 6 (.sl (l.map cI)::vi (l.length:Int)::vi s0::(U 79 []))))) (λz10=>[])).bind (bk (λz10=>
 YH (.inl (aI (s0+1)))) (λr=>YH (.inr (.inr r)))))
 (YH (.inr (.inl ())))
instance (l:List bL)(aY:Int):bo (kl l aY):=⟨λs0=>(.sl (l.map cI)::vi aY::(U 6 (.sl (l.map cI)::vi (l.length:Int)::vi s0::(U 79 [])))),λs0=>[]⟩
def kY(l:List bL)(aY:Int):Option Bool:=
 (aD (kl l aY) NN 0).bind (bk (λo0=>
 YH (YL ((l.length:Int)<=24))) (λr=>YH r))
instance (l:List bL)(aY:Int):CT prog (kY l aY):=⟨40,[.sl (l.map cI),vi aY],[],λr=>vb r,λr=>[],cw (kY.eq_1 ..) func40 ntmps40 results40⟩
def nW(aX:List bL)(p:aT)(y4:Int)(s0:Int):Option (Int⊕(Unit⊕(Int×Bool))):=
 cond (YL (s0<(aX.length:Int)))
 ((jn 6 9 (
 (aB aX s0).bind λy5=>
 cond (YL (y5.nt=y4))
 (cond (YL (y5.ay=p.label.ay))
 ((gX p).bind λy6=>
 cond (YL (y6<=y5.nU))
 (YH (.inr (y5.kQ,YJ)))
 (YH (.inl ())))
 (YH (.inl ())))
 (YH (.inl ())):Option (Unit⊕(Int×Bool))) (λz7=>(U 5 (.be 0 0 0::.un::.un::vi y4::(U 22 (.sl (aX.map cI)::vi (aX.length:Int)::vi s0::(U 25 [])))))) (λz7=>[YH ⟨.of 44,7,[[vi p.label.ay,vi p.label.da,vs p.label.a8,vs p.au,vi p.ab,.sl (p.bH.map aE),vi p.value]]⟩])).bind (bk (λz7=>
 YH (.inl (aI (s0+1)))) (λr=>YH (.inr (.inr r)))))
 (YH (.inr (.inl ())))
instance (aX:List bL)(p:aT)(y4:Int):bo (nW aX p y4):=⟨λs0=>(U 5 (.be 0 0 0::.un::.un::vi y4::(U 22 (.sl (aX.map cI)::vi (aX.length:Int)::vi s0::(U 25 []))))),λs0=>[YH ⟨.of 44,7,[[vi p.label.ay,vi p.label.da,vs p.label.a8,vs p.au,vi p.ab,.sl (p.bH.map aE),vi p.value]]⟩]⟩
def kr(aY:List bI)(aX:List bL)(p:aT):Option (Int×Bool):=
 (ju aY).bind λy1=>
 cond (!y1)
 (YH (0,YK))
 ((kY aX (aY.length:Int)).bind λy2=>
 cond (!y2)
 (YH (0,YK))
 ((gb p).bind λy3=>
 cond (!y3)
 (YH (0,YK))
 ((px aY p.label.a8).bind λy4=>
 (aD (nW aX p y4) NN 0).bind (bk (λo0=>
 YH (0,YK)) (λr=>YH r)))))
instance (aY:List bI)(aX:List bL)(p:aT):CT prog (kr aY aX p):=⟨43,[.sl (aY.map cG),.sl (aX.map cI),.ag (bJ p)],[],λr=>.tu [vi r.1,vb r.2],λr=>[],cw (kr.eq_1 ..) func43 ntmps43 results43⟩
def fc(w:ax)(s:bq):Option ax:=
 (pA w.skip (if 1000000000<(aI (w.bd+1))then 1000000000 else(aI (w.bd+1)))).bind λy1=>
 cond (!y1)
 (cond (YL ((w.aH.length:Int)<200))
 ((bW (bm ((w.aH:List bq).length+([s]:List bq).length) 56)).bind λ_=>
 YH (⟨w.aa,w.ae,w.ar,w.ah,w.now,((w.aH:List bq)++[s]),w.skip,(if 1000000000<(aI (w.bd+1))then 1000000000 else(aI (w.bd+1)))⟩:ax))
 (YH (⟨w.aa,w.ae,w.ar,w.ah,w.now,w.aH,w.skip,(if 1000000000<(aI (w.bd+1))then 1000000000 else(aI (w.bd+1)))⟩:ax)))
 (YH (⟨w.aa,w.ae,w.ar,w.ah,w.now,w.aH,w.skip,(if 1000000000<(aI (w.bd+1))then 1000000000 else(aI (w.bd+1)))⟩:ax))
instance (w:ax)(s:bq):CT prog (fc w s):=⟨140,[.be 0 0 0,.ag (bt s)],[YH ⟨.of 33,10,[[.ms 1,.ms 2,vi w.aa.change,.ms 3,.ms 4,.ms 5,vi w.now,.ms 6,.ms 7,vi w.bd]]⟩,YH ⟨.of 144,6,w.aa.aA.map bn⟩,YH ⟨.of 3,1,w.aa.off.map aE⟩,YH ⟨⟨94,YH 46⟩,11,w.ae.map ba⟩,YH ⟨.of 147,4,w.ar.map aC⟩,YH ⟨.of 46,2,w.ah.map aW⟩,YH ⟨.of 151,6,w.aH.map bt⟩,YH ⟨.of 3,1,w.skip.map aE⟩],λr=>.tu [],λr=>[YH ⟨.of 33,10,[[.ms 1,.ms 2,vi r.aa.change,.ms 3,.ms 4,.ms 5,vi r.now,.ms 8,.ms 7,vi r.bd]]⟩,YH ⟨.of 144,6,r.aa.aA.map bn⟩,YH ⟨.of 3,1,r.aa.off.map aE⟩,YH ⟨⟨94,YH 46⟩,11,r.ae.map ba⟩,YH ⟨.of 147,4,r.ar.map aC⟩,YH ⟨.of 46,2,r.ah.map aW⟩,YI,YH ⟨.of 3,1,r.skip.map aE⟩,YH ⟨.of 151,6,r.aH.map bt⟩],ck (fc.eq_1 ..) func140 ntmps140 results140⟩
def gz(w:ax)(ft:Int)(s0:Int×Int×Int×Int×(List bK)×(List Int)×(List az)×(List aq)×(List av)×(List Int)×(List bq)):Option ((Int×Int×Int×Int×(List bK)×(List Int)×(List az)×(List aq)×(List av)×(List Int)×(List bq))⊕(Int×Int×Int×(List bK)×(List Int)×(List az)×(List aq)×(List av)×(List Int)×(List bq))):=
 cond (YL (s0.1<(w.ae.length:Int)))
 ((aB s0.2.2.2.2.2.2.1 s0.1).bind λy1=>
 cond (!decide (y1.state=2))
 (YH (.inl ((aI (s0.1+1)),s0.2.1,s0.2.2.1,s0.2.2.2.1,s0.2.2.2.2.1,s0.2.2.2.2.2.1,s0.2.2.2.2.2.2.1,s0.2.2.2.2.2.2.2.1,s0.2.2.2.2.2.2.2.2.1,s0.2.2.2.2.2.2.2.2.2.1,s0.2.2.2.2.2.2.2.2.2.2)))
 ((aB y1.aG y1.aN).bind λy2=>
 (cX (⟨s0.2.2.2.2.1,s0.2.2.2.2.2.1,w.aa.change⟩:aj) y2).bind λy3=>
 cond (!decide (y3=ft))
 (YH (.inl ((aI (s0.1+1)),s0.2.1,s0.2.2.1,s0.2.2.2.1,s0.2.2.2.2.1,s0.2.2.2.2.2.1,s0.2.2.2.2.2.2.1,s0.2.2.2.2.2.2.2.1,s0.2.2.2.2.2.2.2.2.1,s0.2.2.2.2.2.2.2.2.2.1,s0.2.2.2.2.2.2.2.2.2.2)))
 ((wC s0.2.2.2.2.2.2.1 s0.1).bind λy4=>
 (aB y4.aG y4.aN).bind λy5=>
 (wC s0.2.2.2.2.2.2.1 s0.1).bind λy6=>
 (aB s0.2.2.2.2.1 y5.bD).bind λy7=>
 (wC s0.2.2.2.2.2.2.1 s0.1).bind λy8=>
 (Ds (s0.2.2.2.2.2.2.1.set (Wd s0.1) (⟨y6.au,y6.a8,y6.ay,y6.ab,y6.aP,y6.dW,y6.aG,(aI (y6.aN+1)),1,y7.a8,y6.bB⟩:az)) (λy9=>(.be 0 0 0::vi ft::.un::.un::.be 9 0 0::vi s0.1::.be 3 (Wd s0.1) 0::.be 10 0 0::(U 10 (vi (w.ae.length:Int)::vi s0.1::(U 167 []))))) (λy9=>[YH ⟨.of 33,10,[[.ms 1,.ms 2,vi s0.2.1,.ms 3,.ms 4,.ms 5,vi s0.2.2.1,.ms 8,.ms 7,vi s0.2.2.2.1]]⟩,YH ⟨.of 144,6,s0.2.2.2.2.1.map bn⟩,YH ⟨.of 3,1,s0.2.2.2.2.2.1.map aE⟩,YH ⟨⟨94,YH 46⟩,11,y9.map ba⟩,YH ⟨.of 147,4,s0.2.2.2.2.2.2.2.1.map aC⟩,YH ⟨.of 46,2,s0.2.2.2.2.2.2.2.2.1.map aW⟩,YI,YH ⟨.of 3,1,s0.2.2.2.2.2.2.2.2.2.1.map aE⟩,YH ⟨.of 151,6,s0.2.2.2.2.2.2.2.2.2.2.map bt⟩,YH ⟨.of 27,3,[[.ms 1,.ms 2,vi w.aa.change]]⟩,YH ⟨.of 46,2,[[vi y5.bD,vi y5.day]]⟩])).bind λy9=>
 (bh [0,1,2,3,4,5,8,7]).bind λ_=>
 (fc (⟨(⟨s0.2.2.2.2.1,s0.2.2.2.2.2.1,s0.2.1⟩:aj),y9,s0.2.2.2.2.2.2.2.1,s0.2.2.2.2.2.2.2.2.1,s0.2.2.1,s0.2.2.2.2.2.2.2.2.2.2,s0.2.2.2.2.2.2.2.2.2.1,s0.2.2.2.1⟩:ax) (⟨(aI (s0.1+1)),ft,2,⟨#[]⟩,y5⟩:bq)).bind λdL=>
 (wC dL.ae s0.1).bind λji=>
 cond (YL (ji.place=ji.a8))
 ((Ds (dL.ae.set (Wd s0.1) (⟨ji.au,ji.a8,ji.ay,ji.ab,ji.aP,ji.dW,ji.aG,ji.aN,3,ji.place,ft⟩:az)) (λoX=>(.be 0 0 0::vi ft::.un::.un::.be 9 0 0::vi s0.1::.be 3 (Wd s0.1) 0::(U 11 (vi (w.ae.length:Int)::vi s0.1::(U 167 []))))) (λoX=>[YH ⟨.of 33,10,[[.ms 1,.ms 2,vi dL.aa.change,.ms 3,.ms 4,.ms 5,vi dL.now,.ms 8,.ms 7,vi dL.bd]]⟩,YH ⟨.of 144,6,dL.aa.aA.map bn⟩,YH ⟨.of 3,1,dL.aa.off.map aE⟩,YH ⟨⟨94,YH 46⟩,11,oX.map ba⟩,YH ⟨.of 147,4,dL.ar.map aC⟩,YH ⟨.of 46,2,dL.ah.map aW⟩,YI,YH ⟨.of 3,1,dL.skip.map aE⟩,YH ⟨.of 151,6,dL.aH.map bt⟩,YH ⟨.of 27,3,[[.ms 1,.ms 2,vi w.aa.change]]⟩])).bind λoX=>
 (wC oX s0.1).bind λmf=>
 (bh [0,1,2,3,4,5,8,7]).bind λ_=>
 (fc (⟨dL.aa,oX,dL.ar,dL.ah,dL.now,dL.aH,dL.skip,dL.bd⟩:ax) (⟨(aI (s0.1+1)),ft,4,mf.place,(⟨0,0⟩:av)⟩:bq)).bind λkX=>
 YH (.inl ((aI (s0.1+1)),kX.aa.change,kX.now,kX.bd,kX.aa.aA,kX.aa.off,kX.ae,kX.ar,kX.ah,kX.skip,kX.aH)))
 (YH (.inl ((aI (s0.1+1)),dL.aa.change,dL.now,dL.bd,dL.aa.aA,dL.aa.off,dL.ae,dL.ar,dL.ah,dL.skip,dL.aH))))))
 (YH (.inr (s0.2.1,s0.2.2.1,s0.2.2.2.1,s0.2.2.2.2.1,s0.2.2.2.2.2.1,s0.2.2.2.2.2.2.1,s0.2.2.2.2.2.2.2.1,s0.2.2.2.2.2.2.2.2.1,s0.2.2.2.2.2.2.2.2.2.1,s0.2.2.2.2.2.2.2.2.2.2)))
instance (w:ax)(ft:Int):bo (gz w ft):=⟨λs0=>(.be 0 0 0::vi ft::.un::.un::.be 9 0 0::(U 13 (vi (w.ae.length:Int)::vi s0.1::(U 167 [])))),λs0=>[YH ⟨.of 33,10,[[.ms 1,.ms 2,vi s0.2.1,.ms 3,.ms 4,.ms 5,vi s0.2.2.1,.ms 8,.ms 7,vi s0.2.2.2.1]]⟩,YH ⟨.of 144,6,s0.2.2.2.2.1.map bn⟩,YH ⟨.of 3,1,s0.2.2.2.2.2.1.map aE⟩,YH ⟨⟨94,YH 46⟩,11,s0.2.2.2.2.2.2.1.map ba⟩,YH ⟨.of 147,4,s0.2.2.2.2.2.2.2.1.map aC⟩,YH ⟨.of 46,2,s0.2.2.2.2.2.2.2.2.1.map aW⟩,YI,YH ⟨.of 3,1,s0.2.2.2.2.2.2.2.2.2.1.map aE⟩,YH ⟨.of 151,6,s0.2.2.2.2.2.2.2.2.2.2.map bt⟩,YH ⟨.of 27,3,[[.ms 1,.ms 2,vi w.aa.change]]⟩]⟩
def gA(w:ax)(ft:Int)(o0:Int×Int×Int×(List bK)×(List Int)×(List az)×(List aq)×(List av)×(List Int)×(List bq))(s1:Int×Int×Int×Int×(List bK)×(List Int)×(List az)×(List aq)×(List av)×(List Int)×(List bq)):Option ((Int×Int×Int×Int×(List bK)×(List Int)×(List az)×(List aq)×(List av)×(List Int)×(List bq))⊕(Int×Int×Int×(List bK)×(List Int)×(List az)×(List aq)×(List av)×(List Int)×(List bq))):=
 cond (YL (s1.1<(o0.2.2.2.2.2.1.length:Int)))
 ((aB s1.2.2.2.2.2.2.1 s1.1).bind λpg=>
 cond (YL (pg.state=1))
 (cond (YL (pg.aN<(pg.aG.length:Int)))
 ((aB pg.aG pg.aN).bind λmu=>
 (df (⟨s1.2.2.2.2.1,s1.2.2.2.2.2.1,w.aa.change⟩:aj) mu).bind λrn=>
 cond (YL (rn=ft))
 ((wC s1.2.2.2.2.2.2.1 s1.1).bind λsi=>
 (Ds (s1.2.2.2.2.2.2.1.set (Wd s1.1) (⟨si.au,si.a8,si.ay,si.ab,si.aP,si.dW,si.aG,si.aN,2,⟨#[]⟩,si.bB⟩:az)) (λvH=>(.be 0 0 0::vi ft::.un::.un::.be 9 0 0::(U 3 (vi s1.1::.be 3 (Wd s1.1) 0::(U 107 (vi (o0.2.2.2.2.2.1.length:Int)::vi s1.1::(U 68 []))))))) (λvH=>[YH ⟨.of 33,10,[[.ms 1,.ms 2,vi s1.2.1,.ms 3,.ms 4,.ms 5,vi s1.2.2.1,.ms 8,.ms 7,vi s1.2.2.2.1]]⟩,YH ⟨.of 144,6,s1.2.2.2.2.1.map bn⟩,YH ⟨.of 3,1,s1.2.2.2.2.2.1.map aE⟩,YH ⟨⟨94,YH 46⟩,11,vH.map ba⟩,YH ⟨.of 147,4,s1.2.2.2.2.2.2.2.1.map aC⟩,YH ⟨.of 46,2,s1.2.2.2.2.2.2.2.2.1.map aW⟩,YI,YH ⟨.of 3,1,s1.2.2.2.2.2.2.2.2.2.1.map aE⟩,YH ⟨.of 151,6,s1.2.2.2.2.2.2.2.2.2.2.map bt⟩,YH ⟨.of 27,3,[[.ms 1,.ms 2,vi w.aa.change]]⟩])).bind λvH=>
 (kR 8 [15]).bind λ_=>
 (wC vH s1.1).bind λAJ=>
 (aB AJ.aG AJ.aN).bind λxp=>
 (bh [0,1,2,3,4,5,8,7]).bind λ_=>
 (fc (⟨(⟨s1.2.2.2.2.1,s1.2.2.2.2.2.1,s1.2.1⟩:aj),vH,s1.2.2.2.2.2.2.2.1,s1.2.2.2.2.2.2.2.2.1,s1.2.2.1,s1.2.2.2.2.2.2.2.2.2.2,s1.2.2.2.2.2.2.2.2.2.1,s1.2.2.2.1⟩:ax) (⟨(aI (s1.1+1)),ft,3,⟨#[]⟩,xp⟩:bq)).bind λAq=>
 YH (.inl ((aI (s1.1+1)),Aq.aa.change,Aq.now,Aq.bd,Aq.aa.aA,Aq.aa.off,Aq.ae,Aq.ar,Aq.ah,Aq.skip,Aq.aH)))
 (YH (.inl ((aI (s1.1+1)),s1.2.1,s1.2.2.1,s1.2.2.2.1,s1.2.2.2.2.1,s1.2.2.2.2.2.1,s1.2.2.2.2.2.2.1,s1.2.2.2.2.2.2.2.1,s1.2.2.2.2.2.2.2.2.1,s1.2.2.2.2.2.2.2.2.2.1,s1.2.2.2.2.2.2.2.2.2.2))))
 (YH (.inl ((aI (s1.1+1)),s1.2.1,s1.2.2.1,s1.2.2.2.1,s1.2.2.2.2.1,s1.2.2.2.2.2.1,s1.2.2.2.2.2.2.1,s1.2.2.2.2.2.2.2.1,s1.2.2.2.2.2.2.2.2.1,s1.2.2.2.2.2.2.2.2.2.1,s1.2.2.2.2.2.2.2.2.2.2))))
 (YH (.inl ((aI (s1.1+1)),s1.2.1,s1.2.2.1,s1.2.2.2.1,s1.2.2.2.2.1,s1.2.2.2.2.2.1,s1.2.2.2.2.2.2.1,s1.2.2.2.2.2.2.2.1,s1.2.2.2.2.2.2.2.2.1,s1.2.2.2.2.2.2.2.2.2.1,s1.2.2.2.2.2.2.2.2.2.2))))
 (YH (.inr (s1.2.1,s1.2.2.1,s1.2.2.2.1,s1.2.2.2.2.1,s1.2.2.2.2.2.1,s1.2.2.2.2.2.2.1,s1.2.2.2.2.2.2.2.1,s1.2.2.2.2.2.2.2.2.1,s1.2.2.2.2.2.2.2.2.2.1,s1.2.2.2.2.2.2.2.2.2.2)))
instance (w:ax)(ft:Int)(o0:Int×Int×Int×(List bK)×(List Int)×(List az)×(List aq)×(List av)×(List Int)×(List bq)):bo (gA w ft o0):=⟨λs1=>(.be 0 0 0::vi ft::.un::.un::.be 9 0 0::(U 112 (vi (o0.2.2.2.2.2.1.length:Int)::vi s1.1::(U 68 [])))),λs1=>[YH ⟨.of 33,10,[[.ms 1,.ms 2,vi s1.2.1,.ms 3,.ms 4,.ms 5,vi s1.2.2.1,.ms 8,.ms 7,vi s1.2.2.2.1]]⟩,YH ⟨.of 144,6,s1.2.2.2.2.1.map bn⟩,YH ⟨.of 3,1,s1.2.2.2.2.2.1.map aE⟩,YH ⟨⟨94,YH 46⟩,11,s1.2.2.2.2.2.2.1.map ba⟩,YH ⟨.of 147,4,s1.2.2.2.2.2.2.2.1.map aC⟩,YH ⟨.of 46,2,s1.2.2.2.2.2.2.2.2.1.map aW⟩,YI,YH ⟨.of 3,1,s1.2.2.2.2.2.2.2.2.2.1.map aE⟩,YH ⟨.of 151,6,s1.2.2.2.2.2.2.2.2.2.2.map bt⟩,YH ⟨.of 27,3,[[.ms 1,.ms 2,vi w.aa.change]]⟩]⟩
def lI(w:ax)(ft:Int):Option ax:=
 (aD (gz w ft) NN (0,w.aa.change,w.now,w.bd,w.aa.aA,w.aa.off,w.ae,w.ar,w.ah,w.skip,w.aH)).bind (λo0=>
 (aD (gA w ft o0) NN (0,o0.1,o0.2.1,o0.2.2.1,o0.2.2.2.1,o0.2.2.2.2.1,o0.2.2.2.2.2.1,o0.2.2.2.2.2.2.1,o0.2.2.2.2.2.2.2.1,o0.2.2.2.2.2.2.2.2.1,o0.2.2.2.2.2.2.2.2.2)).bind (λo1=>
 YH (⟨(⟨o1.2.2.2.1,o1.2.2.2.2.1,o1.1⟩:aj),o1.2.2.2.2.2.1,o1.2.2.2.2.2.2.1,o1.2.2.2.2.2.2.2.1,ft,o1.2.2.2.2.2.2.2.2.2,o1.2.2.2.2.2.2.2.2.1,o1.2.2.1⟩:ax)))
instance (w:ax)(ft:Int):CT prog (lI w ft):=⟨144,[.be 0 0 0,vi ft],[YH ⟨.of 33,10,[[.ms 1,.ms 2,vi w.aa.change,.ms 3,.ms 4,.ms 5,vi w.now,.ms 6,.ms 7,vi w.bd]]⟩,YH ⟨.of 144,6,w.aa.aA.map bn⟩,YH ⟨.of 3,1,w.aa.off.map aE⟩,YH ⟨⟨94,YH 46⟩,11,w.ae.map ba⟩,YH ⟨.of 147,4,w.ar.map aC⟩,YH ⟨.of 46,2,w.ah.map aW⟩,YH ⟨.of 151,6,w.aH.map bt⟩,YH ⟨.of 3,1,w.skip.map aE⟩],λr=>.tu [],λr=>[YH ⟨.of 33,10,[[.ms 1,.ms 2,vi r.aa.change,.ms 3,.ms 4,.ms 5,vi r.now,.ms 8,.ms 7,vi r.bd]]⟩,YH ⟨.of 144,6,r.aa.aA.map bn⟩,YH ⟨.of 3,1,r.aa.off.map aE⟩,YH ⟨⟨94,YH 46⟩,11,r.ae.map ba⟩,YH ⟨.of 147,4,r.ar.map aC⟩,YH ⟨.of 46,2,r.ah.map aW⟩,YI,YH ⟨.of 3,1,r.skip.map aE⟩,YH ⟨.of 151,6,r.aH.map bt⟩],ck (lI.eq_1 ..) func144 ntmps144 results144⟩
def kg(n:aj)(bD:Int)(mR:Int)(s0:Int):Option (Int⊕(Unit⊕Int)):=
 cond (YL (s0<=60))
 ((cA n bD s0).bind λy1=>
 cond y1
 ((bp n (⟨bD,s0⟩:av)).bind λy2=>
 cond (YL (mR<=y2))
 (YH (.inr (.inr s0)))
 (YH (.inl (aI (s0+1)))))
 (YH (.inl (aI (s0+1)))))
 (YH (.inr (.inl ())))
instance (n:aj)(bD:Int)(mR:Int):bo (kg n bD mR):=⟨λs0=>(.un::vi bD::vi mR::.be 0 0 0::(U 3 (vi s0::(U 18 [])))),λs0=>[YH ⟨.of 27,3,[[.sl (n.aA.map bn),.sl (n.off.map aE),vi n.change]]⟩]⟩
def iY(n:aj)(bD:Int)(mR:Int):Option Int:=
 (aD (kg n bD mR) NN 0).bind (bk (λo0=>
 YH (-1)) (λr=>YH r))
instance (n:aj)(bD:Int)(mR:Int):CT prog (iY n bD mR):=⟨234,[.ag (bA n),vi bD,vi mR],[],λr=>vi r,λr=>[],cw (iY.eq_1 ..) func234 ntmps234 results234⟩
def gq(bD:Int)(ft:Int)(yL:aj)(T8:List av)(T9:List aq)(Ua:Int)(s0:Int):Option (Int⊕(Unit⊕(av×Bool))):=
 cond (YL (s0<=60))
 ((oq yL bD s0).bind λy1=>
 cond y1
 ((df yL (⟨bD,s0⟩:av)).bind λy2=>
 cond (YL (ft<=y2))
 ((eR T8 (⟨bD,s0⟩:av)).bind λy3=>
 cond (!y3)
 ((aB yL.aA bD).bind λy4=>
 (jY T9 (⟨bD,s0⟩:av)).bind λy5=>
 cond (YL (Ua<=(aI (y4.iU-y5))))
 (YH (.inr (.inr ((⟨bD,s0⟩:av),YJ))))
 (YH (.inl (aI (s0+1)))))
 (YH (.inl (aI (s0+1)))))
 (YH (.inl (aI (s0+1)))))
 (YH (.inl (aI (s0+1)))))
 (YH (.inr (.inl ())))
instance (bD:Int)(ft:Int)(yL:aj)(T8:List av)(T9:List aq)(Ua:Int):bo (gq bD ft yL T8 T9 Ua):=⟨λs0=>(vi bD::vi ft::.rp [.sl (yL.aA.map bn),.sl (yL.off.map aE),vi yL.change]::.rp [.sl (T8.map aW)]::.rp [.sl (T9.map aC)]::.rp [vi Ua]::.un::.un::.be 0 0 0::.un::vi s0::(U 41 [])),λs0=>[YH ⟨.of 46,2,[[vi 0,vi 0]]⟩]⟩
def ig(bD:Int)(ft:Int)(yL:aj)(T8:List av)(T9:List aq)(Ua:Int):Option (av×Bool):=
 (aD (gq bD ft yL T8 T9 Ua) NN 0).bind (bk (λo0=>
 YH ((⟨0,0⟩:av),YK)) (λr=>YH r))
instance (bD:Int)(ft:Int)(yL:aj)(T8:List av)(T9:List aq)(Ua:Int):CT prog (ig bD ft yL T8 T9 Ua):=⟨250,[vi bD,vi ft,.rp [.sl (yL.aA.map bn),.sl (yL.off.map aE),vi yL.change],.rp [.sl (T8.map aW)],.rp [.sl (T9.map aC)],.rp [vi Ua]],[],λr=>.tu [.ag [vi r.1.bD,vi r.1.day],vb r.2],λr=>[],cw (ig.eq_1 ..) func250 ntmps250 results250⟩
def kV(a:List av)(b:List av)(s0:Int):Option (Int⊕(Unit⊕Bool)):=
 cond (YL (s0<(a.length:Int)))
 ((aB a s0).bind λy1=>
 (aB b s0).bind λy2=>
 cond (!decide (y1=y2))
 (YH (.inr (.inr YK)))
 (YH (.inl (aI (s0+1)))))
 (YH (.inr (.inl ())))
instance (a:List av)(b:List av):bo (kV a b):=⟨λs0=>(.sl (a.map aW)::.sl (b.map aW)::(U 10 (vi (a.length:Int)::vi s0::(U 12 [])))),λs0=>[]⟩
def fG(a:List av)(b:List av):Option Bool:=
 cond (!decide ((a.length:Int)=(b.length:Int)))
 (YH YK)
 ((aD (kV a b) NN 0).bind (bk (λo0=>
 YH YJ) (λr=>YH r)))
instance (a:List av)(b:List av):CT prog (fG a b):=⟨83,[.sl (a.map aW),.sl (b.map aW)],[],λr=>vb r,λr=>[],λH=>by replace H:=H0 H;unfold fG at H;exact ja func83 rfl ntmps83 results83 λQ hQ Ia=>JU⟩
def lH(a:az)(b:az):Option Bool:=
 cond (YL (a.au=b.au))
 (cond (YL (a.a8=b.a8))
 (cond (YL (a.ay=b.ay))
 (cond (YL (a.ab=b.ab))
 (cond (YL (a.aP=b.aP))
 (cond (YL (a.dW=b.dW))
 ((fG a.aG b.aG).bind λy1=>
 cond y1
 (cond (YL (a.aN=b.aN))
 (cond (YL (a.state=b.state))
 (cond (YL (a.place=b.place))
 (YH (YL (a.bB=b.bB)))
 (YH YK))
 (YH YK))
 (YH YK))
 (YH YK))
 (YH YK))
 (YH YK))
 (YH YK))
 (YH YK))
 (YH YK))
 (YH YK)
instance (a:az)(b:az):CT prog (lH a b):=⟨80,[.ag (ba a),.ag (ba b)],[],λr=>vb r,λr=>[],cw (lH.eq_1 ..) func80 ntmps80 results80⟩
def wJ(l:List Int)(x:Int)(s0:Int):Option (Int⊕(Unit⊕Bool)):=
 cond (YL (s0<(l.length:Int)))
 ((aB l s0).bind λy1=>
 cond (YL (y1=x))
 (YH (.inr (.inr YJ)))
 (YH (.inl (aI (s0+1)))))
 (YH (.inr (.inl ())))
instance (l:List Int)(x:Int):bo (wJ l x):=⟨λs0=>(.sl (l.map aE)::vi x::(U 3 (vi s0::(U 12 [])))),λs0=>[]⟩
def sB(l:List Int)(x:Int):Option Bool:=
 (aD (wJ l x) NN 0).bind (bk (λo0=>
 YH YK) (λr=>YH r))
instance (l:List Int)(x:Int):CT prog (sB l x):=⟨50,[.sl (l.map aE),vi x],[],λr=>vb r,λr=>[],cw (sB.eq_1 ..) func50 ntmps50 results50⟩
end Go.Proofs.YtdilaemengjipaaGreatDoor
