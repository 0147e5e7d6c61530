/- A part of the proof of the statement in the last file of this claim: texts on the language of the program and on its functions. No condition. -/
import Derived.Test.YtbalgkakkoocjaaGreatCJ17
import Derived.Test.YtbalgkakkoocjaaGreatCJ18
import Derived.Test.YtbalgkakkoocjaaGreatCJ10
import Derived.Test.YtbalgkakkoocjaaGreatCJ12
import Derived.Test.YtbalgkakkoocjaaGreatCJ6
import Derived.Test.YtbalgkakkoocjaaGreatCJ5
import Derived.Test.YtbalgkakkoocjaaGreatCJ4
import Derived.Test.YtbalgkakkoocjaaGreatCJ7
import Derived.Test.YtbalgkakkoocjaaGreatCJ8
import Derived.Test.YtbalgkakkoocjaaGreatCJ14
import Derived.Test.YtbalgkakkoocjaaGreatCJ16
import Derived.Test.YtbalgkakkoocjaaGreatCJ11
import Derived.Test.YtbalgkakkoocjaaGreatCJ13
import Derived.Test.YtbalgkakkoocjaaGreatCJ1
set_option linter.unusedVariables false
set_option linter.unusedSimpArgs false
set_option linter.unusedSectionVars false
open Go.Value renaming int->ZF
open Go.IntKind renaming i64->ZG
open Go renaming undef->ZH
open Option renaming some->ZA,none->ZB
open Bool renaming true->ZC,false->ZD
open Decidable renaming decide->ZE
open Go.Proofs.Tryz
set_option maxHeartbeats 40000000
open List renaming getElem?_eq_getElem->VF,take_of_length_le->Xa,length_take->V3,length_cons->VL,length_nil->VO,length_append->VV,length_drop->WH,append_assoc->Xe,take_append_drop->Xs,getElem_of_mem->V2,pairwise_iff_getElem->Wm,pairwise_cons->W9,mem_cons->VM,take_length->WA,take_succ_eq_append_getElem->WI,map_append->Yo,nodup_cons->Yk,Nodup->Xt,pairwise_map->WZ,append_nil->Wy,map_cons->Wh,getLast?_cons_cons->XD,mem_append_left->WO,mem_of_getElem?->VI,any_eq_true->WL,mem_append_right->Xr,getLast?_eq_getElem?->Xz,length_map->VX,any_eq_false->XB,mem_append->WD,mem_singleton->V8,mem_map->V6,getLast?_eq_none_iff->Yw,ext_getElem?->Ya,getElem?_eq_none->Wz,nil_append->Wu,map_id->XO,all_eq_true->VS,sum_cons->WB,foldl_cons->Wj,cons_append->W7,getElem_mem->Wd,getElem?_take->WT,mem_filter->Xk,countP_eq_length_filter->Yl,getElem?_eq_some_iff->VH,getElem?_append_left->Wi,getElem?_append_right->V9,nodup_append->XX,length_set->Ws,getElem?_set_self->Wa,getElem?_set_ne->Wk,drop_eq_nil_of_le->XG,countP_cons->Yd,countP_le_length->XJ
open Option renaming bind_some->VE,getD_some->Ww,map_some->Wo
open _root_.Int renaming toNat_natCast->We,le_refl->Wp,tdiv_eq_ediv_of_nonneg->Yu,tmod_eq_emod_of_nonneg->Yv,toNat->V0
open List.Pairwise renaming sublist->Xi,nil->Xx
open Bool renaming not_true->VK,and_self->Xj,and_eq_true->VN,not_eq_true'->V7,and_eq_false_imp->Xd,not_false->Wl,decide_and->XH,true_and->WN
open Nat renaming le_refl->VJ,zero_add->VY,add_sub_cancel->Xp,lt_of_lt_of_le->V4,lt_or_ge->Wg,le_trans->Wb
open Option.some renaming injEq->VR,inj->VG
open _root_.Array renaming getElem?_eq_some_iff->VQ,getElem?_eq_getElem->VU
open Prod renaming fst->XP,snd->XQ
namespace Go.Proofs.YtbalgkakkoocjaaGreat
set_option maxRecDepth 10000
open Go.RowKit
variable {aX ar:ByteArray}{ah:List aw}{t:aw}{th:Int}
abbrev leB(a b:aj):Prop:=qt b a=ZD
theorem Ed{a b:aj}(h:qt a b=ZC):qt b a=false:=Go.Sort.SWO.asymmA Hd h
theorem US{l:List aj}(hl:l.length<=1048575)(b:aj)(hs:l.Pairwise leB):ep (nY l b) λr=>r.length=l.length+1/\r.Perm (l++[b])/\r.Pairwise leB:=by
 unfold nY;refine ep.bind (P:=λo:Int=>∃k:Nat,o=(k:Int)/\k<=l.length/\(∀i (h:i<l.length),i<k->qt l[i] b=ZC)/\(∀h:k<l.length,qt l[k] b=ZD)) ?_ λo ho=>?_
 ·refine ep.loop (λk s=>∃i:Nat,s=(i:Int)/\i+k=l.length/\∀j (h:j<l.length),j<i->qt l[j] b=ZC) (λk s hs=>?_) NN l.length 0 ⟨0,rfl,YG,λj _ h=>YG⟩ YI
  obtain⟨i,rfl,hk,hb⟩:=hs;unfold rO;refine ep.cond (λhd=>?_) λhd=>ep.ret ⟨i,rfl,YG,λj h h'=>hb j h h',λh=>by have:=YB hd;omega⟩
  have bO:=YA hd;have hw:aH ((i:Int)+1)=((i+1:Nat):Int):=by rw[aL YG];omega
  have wI:i<l.length:=YG;have hy:aA l (i:Int)=ZA l[i]:=by rw[aQ];exact VF wI
  rw[hy,VE,HY,VE];refine ep.cond (λh1=>ep.ret ⟨k-1,YG,i+1,hw,YG,λj h h'=>?_⟩) λh1=>ep.ret ⟨i,rfl,YG,λj h h'=>hb j h h',λ_=>h1⟩
  by_cases Cl:j=i
  ·subst Cl;exact h1
  ·exact hb j h YG
 ·obtain⟨k,rfl,hk,Zph,ZeM⟩:=ho
  have e1:cZ l 0 (k:Int)=l.take k:=by unfold cZ;simp
  have e2:cZ l (k:Int) (l.length:Int)=l.drop k:=by
   unfold cZ;simp only[We];rw[Xa YJ]
  rw[e1,e2];refine ep.dg (by unfold iC;exact Yp YG) ?_
  rw[tF (by simp only[V3];omega),VE]
  refine ep.dg (wO (by simp only[VL,VO,V3];omega) YG) (ep.dg (by unfold iC;exact Yp YG) (ep.dg (wO (by simp only[VV,VL,VO,V3,WH];omega) YG) (ep.ret ⟨?_,?_,?_⟩)))
  ·simp only[VV,VL,VO,V3,WH];omega
  ·have h1:(l.take k++[b]++l.drop k).Perm (l.take k++(l.drop k++[b])):=by
    rw[Xe];exact List.Perm.append_left _ List.perm_append_comm
   rw[<-Xe,Xs]at h1
   exact h1
  ·have MR:=Xi (List.take_sublist k l) hs
   have GX:=Xi (List.drop_sublist k l) hs;have GS:∀y∈l.drop k,qt y b=false:=λy hy=>by
    obtain⟨j,hj,rfl⟩:=V2 hy;rw[WH]at hj
    rw[List.getElem_drop];have h0:=ZeM YG
    by_cases hj0:j=0
    ·subst hj0;exact h0
    ·have:=Wm.1 hs k (k+j) YG YG YG
     exact Hd.ntrans _ _ _ this h0
   have bO:∀x∈l.take k,qt x b=true:=λx hx=>by
    obtain⟨j,hj,rfl⟩:=V2 hx;rw[V3]at hj
    rw[List.getElem_take];exact Zph j YG YG
   rw[Xe,List.pairwise_append];refine⟨MR,?_,λx hx y hy=>?_⟩
   ·rw[List.singleton_append,W9]
    exact⟨λy hy=>GS y hy,GX⟩
   ·rw[List.singleton_append,VM]at hy
    rcases hy with rfl|hy
    ·exact Ed (bO x hx)
    ·exact Hd.ntrans _ _ _ (GS y hy) (Ed (bO x hx))
def gz(bo ab:Int)(aK:List aw):List aj:=aK.map λt=>⟨bo,t,ab⟩
theorem OI{n:ak}{l:List aj}(h:cb n l=ZC):l.Pairwise leB:=Wm.2 λi j hi hj C9=>Ed (vJ h j i hj C9)
theorem JL{n:ak}{d e:List aj}(hp:d.Perm e)(hd:d.Pairwise leB)(he:e.Pairwise leB)(hb:cb n d=ZC):d=e:=by
 refine List.Perm.eq_of_pairwise (le:=leB) (λa b ha GQ h1 h2=>?_) hd he hp
 have xj:=hp.mem_iff.2 GQ;obtain⟨i,hi,rfl⟩:=V2 ha;obtain⟨j,hj,rfl⟩:=V2 xj
 rcases Nat.lt_trichotomy i j with h|h|h
 ·have:=vJ hb j i hj h
  have h2':qt d[i] d[j]=false:=h2;rw[this]at h2';cases h2'
 ·subst h;rfl
 ·have:=vJ hb i j hi h
  have Mv:qt d[j] d[i]=false:=h1;rw[this]at Mv;cases Mv
theorem Zc0{n:ak}{d e:List aj}(hp:d.Perm e)(hd:d.Pairwise leB)(he:e.Pairwise leB):cb n d=cb n e:=by
 cases h1:cb n d with
 |true=>rw[<-JL hp hd he h1,h1]
 |false=>
  cases h2:cb n e with
  |false=>rfl
  |true=>rw[JL hp.symm he hd h2,h1]at h2;cases h2
theorem xv{n:ak}(hf:cR n){l:List aj}(hl:l.length<=1048000)(bo ab:Int){aK:List aw}{d:List aj}(hp:d.Perm (l++gz bo ab aK))(hs:d.Pairwise leB):
 cg n l bo ab aK=ZA (if cb n l=ZC/\aK.length<=20/\cb n d=ZC then(d,ZC)else(l,ZD)):=by
 unfold cg;rw[tF YG,VE,iB hf YG,VE]
 by_cases hb:cb n l=ZC
 case neg=>
  have GQ:cb n l=false:=by simpa using hb
  rw[GQ,if_neg (λh=>by cases h.1)];rfl
 rw[hb]
 by_cases hw:aK.length<=20
 case neg=>
  rw[if_neg (λh=>hw h.2.1),Yp (show 20<(aK.length:Int)by omega)];rfl
 rw[Yz (show ¬20<(aK.length:Int)by omega)]
 obtain⟨o,ho,MP,IU,ho3⟩:ep (aD (l8 n l bo ab aK) NN (0,l)) λo=>o.length=l.length+aK.length/\o.Perm (l++gz bo ab aK)/\o.Pairwise leB:=by
  refine ep.loop (λk s=>∃i:Nat,s.1=(i:Int)/\i+k=aK.length/\s.2.length=l.length+i/\s.2.Perm (l++gz bo ab (aK.take i))/\s.2.Pairwise leB) (λk s hs=>?_) NN aK.length _ ⟨0,rfl,YG,rfl,by simp[gz],OI hb⟩ YI
  obtain⟨i,hi,hk,hlen,hpp,hss⟩:=hs;unfold l8;rw[hi];refine ep.cond (λhd=>?_) λhd=>ep.ret (by
   have:=YB hd;have yT:i=aK.length:=YG;rw[yT,WA]at hpp
   exact⟨YG,hpp,hss⟩)
  have bO:=YA hd;have Sf:aH ((i:Int)+1)=((i+1:Nat):Int):=by rw[aL YG];omega
  have wI:i<aK.length:=YG;have hy:aA aK (i:Int)=ZA aK[i]:=by rw[aQ];exact VF wI
  rw[hy,VE,Sf];refine ep.bind (US YG _ hss) λr hr=>ep.ret ⟨k-1,YG,i+1,rfl,YG,by simp only;omega,?_,hr.2.2⟩
  refine hr.2.1.trans ?_;have:gz bo ab (aK.take (i+1))=gz bo ab (aK.take i)++[⟨bo,aK[i],ab⟩]:=by
   unfold gz;rw[WI wI,Yo];rfl
  rw[this,<-Xe];exact hpp.append_right _
 simp only[VK,YD,ho,VE];rw[iB hf YG,VE,Zc0 (n:=n) (IU.trans hp.symm) ho3 hs]
 by_cases hd:cb n d=ZC
 ·rw[hd,if_pos ⟨by trivial,hw,by trivial⟩,JL (hp.trans IU.symm) hs ho3 hd];rfl
 ·have yL:cb n d=false:=by simpa using hd
  rw[yL,if_neg (λh=>by cases h.2.2)];rfl
structure ZgN(n:ak)(l:List aj)(ah:List aw)(ab:Int)(ar aX:ByteArray)(aO:Int)(aK:List aw):Prop where
 hC:cb n l=ZC/\0<=bd (ao n) ar/\aO<=100000/\1<=ab
 Sd:0<=bd (ao n) aX
 len:aK.length<=20
 gF:∃e,aA (bW n l ah ab (bd (ao n) ar) aO (ao n).length) (bd (ao n) aX)=ZA e/\0<=e/\e<=100000/\(aK=[]/\e=(if 0 > aO then 0 else aO)\/∃t,aK.getLast?=ZA t/\dm n t=e)
 nodup:(ar::aK.map (cd n)).Nodup
 last:(ar::aK.map (cd n)).getLast?=ZA aX
 chain:iM n ar (if 0 > aO then 0 else aO) aK
 found:∀t∈aK,dw ah t=ZA ZD/\∃y q,aA n.aB t.bG=ZA y/\df l t=ZA q/\ab<=aH (y.jl-q)
theorem rT{n:ak}:∀{ts:List aw} {p:ByteArray} {a:Int},iM n p a ts->∀t∈ts,fw n t=ZC
 |x::ts,p,a,h,t,ht=>by
  rcases VM.1 ht with rfl|ht
  ·exact h.1
  ·exact rT h.2.2.2 t ht
section
variable {n:ak} (hf:cR n)
include hf
theorem Zhs{l:List aj}(hl:l.length<=1048576){aO ab:Int}(hC:¬(cb n l=ZC/\0<=bd (ao n) ar/\aO<=100000/\1<=ab))(k:Int):cX n l ah ar aO ab k=ZA []:=by
 unfold cX;rw[(dF hf).2];simp only[VE,qL hf,iB hf hl]
 grind
theorem Zji{aO:Int}{aK:List aw}(hn:ba n=ZA ZC)(hnd:(ar::aK.map (cd n)).Nodup)(hc:iM n ar aO aK):aK.length<=20:=by
 have hlg:=uL hn;have hb:∀t∈aK,0<=t.bG/\t.bG.toNat<n.aB.length:=λt ht=>by
  obtain⟨y,hy,_⟩:=fh hf (rT hc t ht);obtain⟨a,b⟩:=mO hy
  grind
 have h1:=(Yk.1 hnd).2;unfold Xt at h1
 rw[WZ]at h1
 have h2:(aK.map λt=>t.bG.toNat).Nodup:=by
  unfold Xt;rw[WZ];refine h1.imp_of_mem λ{a b} ha GQ h e=>h ?_
  have e1:a.bG=b.bG:=by grind
  unfold cd;rw[e1]
 have:=EI n.aB.length _ h2 λx hx=>by
  grind
 grind
theorem tV{l:List aj}(hl:l.length<=1048576)(hc:ah.length<=1048576){aO ab:Int}{aK:List aw}(h:bN n l ah ar aX aO ab=ZA (aK,ZC)):ZgN n l ah ab ar aX aO aK:=by
 unfold bN at h
 rw[(dF hf).2]at h
 simp only[VE,qL hf]at h
 by_cases hC:cb n l=ZC/\0<=bd (ao n) ar/\aO<=100000/\1<=ab
 case neg=>
  rw[Zhs hf hl hC]at h
  simp_all
 have hn:=(dy hC.1).1;have hlg:=uL hn;have hp:(ao n).length<=40:=by have:=e9 n;omega
 have CX:=ot hf hl hc ab (bd (ao n) ar) aO;have SP:=(mP (ao n) ar).2;have htl:=(mP (ao n) aX).2;rw[sn hf hl hc ab aO hC (VJ _)]at h
 simp only[VE]at h
 by_cases ht:bd (ao n) aX<0
 ·simp_all
 obtain⟨e,he,_⟩:=nQ (xs:=bW n l ah ab (bd (ao n) ar) aO (ao n).length) (i:=bd (ao n) aX) ⟨YG,by simp_all⟩
 simp only[Yz ht,YD,Yz (show ¬(((bW n l ah ab (bd (ao n) ar) aO (ao n).length).length:Int)=0)by grind),he,VE]at h
 by_cases hd:e<0
 ·simp_all
 obtain⟨k,q1,q2,q3,q4,q5⟩:=Iz hf hl hc ab aO hp hC ⟨YG,htl⟩ he;obtain⟨w,p1,p2⟩:=Ziu hf hn hl hc ab aO hC k aX e [] YG q2 YG q3 Y9 NN YI;rw[Wy]at p1
 simp only[Yz hd,YD,q4,VE,p1,VR,Prod.mk.injEq]at h
 obtain⟨rfl,_⟩:=h;have po:=Ziv hf hn hl hc ab aO hC.2.1 hC.2.2.1 p2;exact⟨hC,YG,Zji hf hn po.nodup po.chain,⟨e,he,po.time.1,po.time.2,po.ends⟩,po.nodup,po.last,po.chain,po.found⟩
theorem Fi(hn:ba n=ZA ZC){aK:List aw}(hl:aK.length<=1048576){a b:ByteArray}{t:Int}(ha:0<=bd (ao n) a)(hb:0<=bd (ao n) b)(hc:iM n a t aK)(he:aK.foldl (λ_ t=>cd n t) a=b):eC n aK a b t=ZA true:=by
 obtain⟨ch0,ch1⟩:=jJ hn;have key:∀(d i:Nat) (p:ByteArray) (u:Int),i+d=aK.length->iM n p u (aK.drop i)->∀N,d<N->aD (dt n aK b) N (p,u,(i:Int))=ZA (.inl ((aK.drop i).foldl (λ_ t=>cd n t) p)):=by
  intro d
  induction d with
  |zero=>
   intro i p u hi h N hN;obtain⟨N,rfl⟩:∃M,N=M+1:=⟨N-1,YG⟩;rw[List.drop_of_length_le YG];unfold aD dt
   simp_all
  |succ d ih=>
   intro i p u hi h N hN;obtain⟨N,rfl⟩:∃M,N=M+1:=⟨N-1,YG⟩;have bO:i<aK.length:=YG;have hg:aA aK (i:Int)=ZA aK[i]:=by rw[aQ];simp
   have hw:aH ((i:Int)+1)=((i+1:Nat):Int):=bI bO YG;rw[List.drop_eq_getElem_cons bO]at h⊢
   obtain⟨c1,c2,c3,c4⟩:=h;obtain⟨y,hy,_⟩:=fh hf c1;obtain⟨t1,t2,t3,t4,t5⟩:=cT hf hn c1;have f1:mB n aK[i]=y.ar:=by unfold mB;simp_all
   have f2:cd n aK[i]=y.aX:=by unfold cd;simp_all
   have hwe:aH (dm n aK[i]+n.change)=dm n aK[i]+n.change:=aL YG;have K9:dt n aK b (p,u,(i:Int))=ZA (.inl (cd n aK[i],dm n aK[i]+n.change,((i+1:Nat):Int))):=by
    unfold dt;simp only[Yp (show(i:Int)<aK.length by omega),YC,hg,VE,Dl hf hn,c1,VK,YD,hy,t1,t2,Yp (show y.ar=p by simp_all),Yz (show ¬cE n aK[i]<u by omega),hwe,hw,f2]
   unfold aD
   grind
 have hk:=key aK.length 0 a t YG Y9 NN YI;rw[List.drop_zero,he]at hk
 have IV:=e9 n;have AY:=hf.aB;unfold eC;rw[(dF hf).2,hn];simp only[VE,qw (show(ao n).length<=4194304 by omega),Yz (show ¬bd (ao n) a<0 by omega),Yz (show ¬bd (ao n) b<0 by omega),VK,YD]
 simp_all
end
theorem IE{α β:Type}(f:α->β):∀(l:List α) (a b:β),(a::l.map f).getLast?=ZA b->l.foldl (λ_ x=>f x) a=b
 | [],a,b,h=>by simp_all
 |x::l,a,b,h=>by
  rw[Wh,XD]at h
  exact IE f l (f x) b h
theorem N1:∀(l:List aj),l.length<=1048575->∃d:List aj,d.Perm l/\d.Pairwise leB
 | [],_=>⟨[],.nil,.nil⟩
 |x::l,h=>by
  rw[VL]at h
  obtain⟨d,h1,h2⟩:=N1 l YG;have:=h1.length_eq;obtain⟨r,_,_,h3,h4⟩:=US (l:=d) YG x h2
  grind
def pA(w:az)(ar aX:ByteArray)(ax ab ec:Int)(aK:List aw):ay:=⟨ar,aX,ax,ab,w.now,ec,aK,0,1,ar,0⟩
def Cs(w:az)(o:ay)(ys:List aj):az:=fx ⟨w.aa,w.ae++[o],ys,w.ah,w.now,w.aJ,w.skip,w.aT⟩ ⟨(w.ae.length:Int)+1,w.now,1,o.ar,⟨0,0⟩⟩
theorem OH{l l':List aj}(h:∀b∈l,b∈l'){wt:Int}(hb:iD l th t wt=ZC):iD l' th t wt=true:=by
 unfold iD at *
 simp_all
theorem ZbD(os:List ay)(o:ay):(os++[o]).foldl (λa (o:ay)=>aH (a+(o.aK.length:Int))) 0=aH (os.foldl (λa (o:ay)=>aH (a+(o.aK.length:Int))) 0+(o.aK.length:Int)):=by
 simp
section
variable {w:az} (h:tC w)
include h
theorem Zgl(h1:1<=th/\th<=9999){p:ByteArray}(hp:0<=bd (ao w.aa) p):cn w.aa ⟨th,w.now,1,p,⟨0,0⟩⟩=ZA true:=by
 have IS:=h.parts.1;have IV:=e9 w.aa;have AY:=h.fit.fv.aB;unfold cn;rw[h.fv];simp only[VE,dG,VK,YD,Yp h1.1,Yp h1.2,Yp IS.1,Yp IS.2,Xj,(dF h.fit.fv).2,qw (show(ao w.aa).length<=4194304 by omega),decide_true,YC,Yp hp]
theorem ZjV(Zrx:w.ae.length<30)(dX:¬ar=aX){ax ab ec:Int}(hs:1<=ax/\ax<=3)(hw:1<=ab/\ab<=30000)(ZhC:0<=ec/\ec<=200000){aK:List aw}(hR:ZgN w.aa w.aq w.ah ab ar aX (w.now+1) aK)
 {ys:List aj} (hp:ys.Perm (w.aq++gz ((w.ae.length:Int)+1) ab aK)) (hb:cb w.aa ys=ZC):tC (Cs w (pA w ar aX ax ab ec aK) ys):=by
 obtain⟨p1,p2,p3,p4,p5,p6,p7⟩:=h.parts;have hbn:=(dy hb).2;have hlen:=hR.len;have hyl:=hp.length_eq;rw[VV]at hyl
 have D0:(gz ((w.ae.length:Int)+1) ab aK).length=aK.length:=by unfold gz;simp
 rw[D0]at hyl
 have hv:=h.ok;have Fq:(if 0 > w.now+1 then 0 else w.now+1)=w.now+1:=if_neg YG
 have Oh:=hR.chain;rw[Fq]at Oh
 have Zjw:=rT Oh;have ZeK:∀b∈w.aq,b∈ys:=λb hb=>hp.mem_iff.2 (WO _ hb)
 have uC:=IE (cd w.aa) aK ar aX hR.last;have Kj:=Lq (n:=w.aa) (aO:=w.now) (skip:=w.skip) (p:=(w.aJ,w.aT)) (s:=⟨(w.ae.length:Int)+1,w.now,1,ar,⟨0,0⟩⟩) ⟨λs hs=>J1 h.fit h.ok hs,p4,p6⟩ ⟨Zgl h YG hR.hC.2.1,Wp _⟩
 have ZkM:jd (Cs w (pA w ar aX ax ab ec aK) ys) w.ae.length (pA w ar aX ax ab ec aK)=true:=by
  have CZ:bl (pA w ar aX ax ab ec aK)=0:=by rfl
  have xu:bV w.aa (pA w ar aX ax ab ec aK) w.now=ZA true:=by
   refine(xY h.fit.fv h.fv ⟨Wp _,by simp only[pA];omega⟩ (by simp only[pA];omega) Zjw w.now).2 ⟨λt h0=>by simp[pA]at h0,.inl ⟨rfl,?_,?_,rfl,λt ht=>?_⟩⟩
   ·rfl
   ·unfold tw pA;simp_all
   ·have Lb:aK[0]?=ZA t:=ht
    cases aK with
    |nil=>simp_all
    |cons x xs=>
     obtain rfl:x=t:=by simp_all
     have:=Oh.2.2.1;omega
  unfold jd;simp only[VN,V7,YE,YF];have hid:¬bd (ao w.aa) ar<0:=by have:=hR.hC.2.1;omega
  have Zpp:¬bd (ao w.aa) aX<0:=by have:=hR.Sd;omega
  have Df:aH (w.now+1)=w.now+1:=aL YG;refine⟨⟨⟨⟨⟨⟨⟨⟨⟨⟨⟨hid,Zpp⟩,dX⟩,hs⟩,hw⟩,p1.1,Wp _⟩,ZhC⟩,Wp _,by simp only[pA];omega⟩,?_⟩,?_⟩,?_⟩,?_⟩
  ·refine cJ.2 λj t hj=>?_
   have yr:aK[j]?=ZA t:=hj;have htm:=VI yr;unfold ya;simp only[VN,V7,Xd,YE,YF,VY];refine⟨⟨Zjw t htm,?_⟩,λhe hj1=>?_⟩
   ·unfold iD
    refine WL.2 ⟨⟨(w.ae.length:Int)+1,t,ab⟩,hp.mem_iff.2 (Xr _ ?_),Yp ?_⟩
    ·unfold gz;simp_all
    rfl
   ·have Znb:j+1<aK.length:=hj1
    have he':cd w.aa t=aX:=he;have hnd:=hR.nodup;have hl2:=hR.last;rw[Xz,VL,VX,Xp]at hl2
    have h1:(ar::aK.map (cd w.aa))[j+1]?=ZA aX:=by simp_all
    have h2:=Wm.1 hnd (j+1) aK.length YN YJ YG
    grind
  ·have PG:Gd w.aa (pA w ar aX ax ab ec aK)=aX:=uC
   show(eC w.aa aK ar (Gd w.aa (pA w ar aX ax ab ec aK)) (aH (w.now+1))).getD ZD=ZC;rw[PG,Df,Fi h.fit.fv h.fv YG hR.hC.2.1 hR.Sd Oh uC];rfl
  ·show(bV w.aa (pA w ar aX ax ab ec aK) w.now).getD ZD=ZC
   simp_all
  ·rw[CZ]
   refine XB.2 λt ht=>?_
   have htm:t∈aK:=List.mem_of_mem_drop ht;have:=(hR.found t htm).1;rw[iv,gh h.fit.ah]at this
   have:=VG this;show ¬cD w.ah t=ZC;unfold cD
   grind
 have hold:∀(i:Nat) (o:ay),w.ae[i]?=ZA o->jd (Cs w (pA w ar aX ax ab ec aK) ys) i o=true:=λi o hi=>by
  have hv:=sw h.ok hi;unfold jd at hv⊢
  simp only[VN,V7,YE,YF]at hv⊢
  obtain⟨⟨⟨⟨⟨⟨⟨⟨⟨⟨⟨h1,h2⟩,h3⟩,h4⟩,h5⟩,h6⟩,h7⟩,h8⟩,h9⟩,Ge⟩,K0⟩,K1⟩:=hv;refine⟨⟨⟨⟨⟨⟨⟨⟨⟨⟨⟨h1,h2⟩,h3⟩,h4⟩,h5⟩,h6⟩,h7⟩,h8⟩,?_⟩,Ge⟩,K0⟩,K1⟩;refine cJ.2 λj t hj=>?_
  have:=cJ.1 h9 j t hj;unfold ya at this⊢
  simp only[VN]at this⊢
  exact⟨⟨this.1.1,OH ZeK this.1.2⟩,this.2⟩
 refine⟨⟨h.fit.fv,?_,?_,h.fit.ah,?_,h.fit.skip,λo ho=>?_⟩,?_⟩
 ·simp only[Cs,fx,VV,VL,VO];omega
 ·simp only[Cs,fx];omega
 ·have:=Kj.len;simp only[Cs,fx,pA];omega
 ·have Ol:o∈w.ae++[pA w ar aX ax ab ec aK]:=ho
  rcases WD.1 Ol with ho|ho
  ·exact h.fit.aK o ho
  ·obtain rfl:=V8.1 ho;simp only[pA];omega
 ·unfold gf at hv⊢
  simp only[VN,V7,YE,YF]at hv⊢
  obtain⟨⟨⟨⟨⟨⟨⟨⟨⟨⟨h1,h2⟩,h3⟩,h4⟩,h5⟩,h6⟩,h7⟩,h8⟩,h9⟩,Ge⟩,K0⟩:=hv;have hl:=Kj.len;have hmd:=Kj.aT;refine⟨⟨⟨⟨⟨⟨⟨⟨⟨⟨hb,h2⟩,?_⟩,h4⟩,?_⟩,h6⟩,?_⟩,h8⟩,?_⟩,?_⟩,?_⟩
  ·simp only[Cs,fx,VV,VL,VO];omega
  ·simp only[Cs,fx,pA];omega
  ·simp only[Cs,fx,pA];omega
  ·refine cJ.2 λj s hj=>?_
   obtain⟨a,b⟩:=Kj.ZmS s (VI hj);show((cn w.aa s).getD ZD&&!decide (w.now<s.aO))=ZC
   simp_all
  ·refine cJ.2 λj o hj=>?_
   rw[VY];have yr:(w.ae++[pA w ar aX ax ab ec aK])[j]?=ZA o:=hj
   grind
  ·have Zo3:w.ae.foldl (λa (o:ay)=>aH (a+(o.aK.length:Int))) 0=(w.aq.length:Int):=K0
   show(w.ae++[pA w ar aX ax ab ec aK]).foldl (λa (o:ay)=>aH (a+(o.aK.length:Int))) 0=(ys.length:Int)
   rw[ZbD,Zo3];show aH ((w.aq.length:Int)+(aK.length:Int))=_;rw[aL YG];omega
end
def Pf(e ax:Int):Int:=(e / 1440+(if 1080<e % 1440 then 1 else 0)+(if ax=1 then 0 else if ax=2 then 1 else 4))*1440+1080
theorem Jx{n:ak}{ax e aO:Int}(he:jB n ar aX aO=ZA e)(h0:0<=e)(h1:e<=100000)(hs:1<=ax/\ax<=3):eQ n ax ar aX aO=ZA (Pf e ax):=by
 unfold eQ;rw[he,iu];simp only[VE,dG];have d1:e.tdiv 1440=e / 1440:=Yu h0;have d2:e.tmod 1440=e % 1440:=Yv h0;have hb:0<=e / 1440/\e / 1440<=69:=YG;have BU:IntKind.i64.wrap (e / 1440)=e / 1440:=aL YG;have hk:∃k:Int,0<=k/\k<=4/\aA ([0,1,4]:List Int) (aH (ax-1))=ZA k/\k=(if ax=1 then 0 else if ax=2 then 1 else 4):=by
  rw[aL YG]
  rcases(show ax=1\/ax=2\/ax=3 by omega)with rfl|rfl|rfl
  ·exact⟨0,YG,YG,rfl,by simp⟩
  ·exact⟨1,YG,YG,rfl,by simp⟩
  ·exact⟨4,YG,YG,rfl,by simp⟩
 obtain⟨k,k0,k1,k2,k3⟩:=hk;rw[d1,d2,BU,Yp hs.1,Yp hs.2,Yz (show ¬e=-1 by omega),k2]
 simp only[YD,Xj,VK,VE];unfold Pf;rw[<-k3]
 by_cases hd:1080<e % 1440
 ·rw[Yp hd,if_pos hd,YC]
  rw[aL (n:=e / 1440+1) YG,aL (n:=e / 1440+1+k) YG,aL (n:=(e / 1440+1+k)*1440) YG,aL YG]
 ·rw[Yz hd,if_neg hd,YD]
  rw[aL (n:=e / 1440+k) YG,aL (n:=(e / 1440+k)*1440) YG,aL YG,Int.add_zero]
theorem Zeg{e ax:Int}(h0:0<=e)(h1:e<=100000):e<=Pf e ax/\Pf e ax<=200000:=by
 unfold Pf
 split<;>split<;>(try split)<;>omega
section
variable {n:ak} (hf:cR n) (hn:ba n=ZA ZC) (hr:∀l∈n.aB,1<=l.jl)
include hf hn hr
end
section
variable {n:ak} (hf:cR n) (hn:ba n=ZA ZC)
include hf hn
theorem ZfA(bG aO:Int):oD bG aO n=ix bG aO n [] [] 0:=by
 have hb:sL n bG aO=fZ bG aO n [] [] 0:=by
  funext s
  unfold sL fZ;rw[(ur hf bG s).1]
  cases hd:ZE (s<=60)with
  |false=>rfl
  |true=>
  cases hx:cy n bG s with
  |none=>rfl
  |some b=>
  cases b with
  |false=>rfl
  |true=>
  obtain⟨y,hy⟩:=zT hf hx;have hlo:=(DC hf hn y (vN hy)).jl;have hm:(0:Int)<=y.jl:=YG;have hw:aH (y.jl-0)=y.jl:=by rw[aL YG];omega
  have ht:eF [] (⟨bG,s⟩:aw)=ZA false:=by rw[gh YJ];rfl
  have hL:kc [] (⟨bG,s⟩:aw)=ZA 0:=by rw[AB];exact I8 _
  simp only[YC,VE,ht,hL,hy,hw,Yp hm,Wl]
 unfold oD ix wY;rw[hb]
 cases(aD (fZ bG aO n [] [] 0) NN 0).bind (bm (λo0=>ZA ((⟨0,0⟩:aw),ZD)) λr=>ZA r)with
 |none=>rfl
 |some r=>rfl
theorem Md(ar:ByteArray)(aO aB:Int):jY n n ar aO aB=dR n n [] [] 0 ar aO aB:=by
 have xj:∀aB y1 y2 s1,j8 n n aB y1 y2 s1=dc n n [] [] 0 aB y1 y2 s1:=λaB y1 y2 s1=>by
  funext s2
  unfold j8 dc;simp only[ZfA hf hn]
 have uQ:∀aB y1 y2,j7 n n aB y1 y2=db n n [] [] 0 aB y1 y2:=λaB y1 y2=>by
  funext s1
  unfold j7 db;rw[xj]
 have Bq:∀y1 y2,nV n n aO aB y1 y2=ey n n [] [] 0 aO aB y1 y2:=λy1 y2=>rfl
 unfold jY dR;simp only[Bq,uQ]
theorem Iw{aO:Int}(Sb:0<=bd (ao n) ar)(Fq:aO<=100000)(Sd:0<=bd (ao n) aX){e:Int}(he:aA (bW n [] [] 0 (bd (ao n) ar) aO (ao n).length) (bd (ao n) aX)=ZA e):jB n ar aX aO=ZA e:=by
 have hlg:=uL hn;have hp:(ao n).length<=40:=by have:=e9 n;omega
 have IV:=(mP (ao n) aX).2;have CX:=ot hf (l:=[]) YJ (ah:=[]) YJ 0 (bd (ao n) ar) aO (ao n).length;have hav:=HH hf (l:=[]) YJ (ah:=[]) YJ 0 Sb Fq YG (ao n).length YG;have hpa:bU (ao n) aX=ZA (bd (ao n) aX):=by rw[oc];exact qL hf aX
 have hi:eP n=ZA true:=by rw[(j3 hf).1];exact hn
 unfold jB mC um;rw[(dF hf).1,(dF hf).2,hi];simp only[VE,VK,YD,Md hf hn,hav,hpa,Yz (show ¬bd (ao n) aX<0 by omega),Yz (show ¬(((bW n [] [] 0 (bd (ao n) ar) aO (ao n).length).length:Int)=0)by rw[CX];omega),he]
theorem L2(ht:fw n t=ZC){y:bM}(hy:aA n.aB t.bG=ZA y):cE n t=t.day*1440+y.start/\dm n t=t.day*1440+y.start+y.oS:=by
 obtain⟨d0,d1⟩:=JY ht;have hl:=DC hf hn y (vN hy);obtain⟨a0,a1⟩:=hl.start;obtain⟨b0,b1⟩:=hl.oS;have e1:bw n t=ZA (t.day*1440+y.start):=by
  unfold bw;rw[hy];simp only[VE];rw[aL (n:=t.day*1440) YG,aL YG]
 have e2:bp n t=ZA (t.day*1440+y.start+y.oS):=by
  unfold bp;rw[e1,hy];simp only[VE];rw[aL YG]
 exact⟨by unfold cE;rw[e1];rfl,by unfold dm;rw[e2];rfl⟩
theorem Zif{bG d0 z:Int}(ht:fw n ⟨bG,d0⟩=ZC)(hz:z<=cE n ⟨bG,d0⟩):∃d,cC n [] [] bG z 0=ZA d/\0<=d/\d<=d0/\fw n ⟨bG,d⟩=true:=by
 obtain⟨d1,d2⟩:=JY ht;simp only at d1 d2
 obtain⟨y,hy,hym⟩:=fh hf ht;have hlo:=(DC hf hn y hym).jl;have hc:dw []=λ_=>ZA false:=by
  funext t
  rw[iv,gh YJ];rfl
 have hw:aH (y.jl-0)=y.jl:=by rw[aL YG];omega
 have K9:∀s:Int,0<=s->s<=60->cH n [] [] bG z 0 s=ZA (if fw n ⟨bG,s⟩=ZC/\z<=cE n ⟨bG,s⟩then .inr (.inr s)else .inl (s+1)):=λs s0 s1=>by
  have hws:aH (s+1)=s+1:=aL YG;have hr:=yH hf ⟨bG,s⟩;simp only at hr
  unfold cH;rw[Yp s1,YC,hr,VE,hws]
  cases hb:fw n ⟨bG,s⟩with
  |false=>simp
  |true=>
  obtain⟨t1,_⟩:=cT hf hn hb;simp only[YC,t1,VE,hc,Wl,hy,I8,hw,Yp (show(0:Int)<=y.jl by omega),true_and]
  by_cases h:z<=cE n ⟨bG,s⟩
  ·rw[Yp h,if_pos h];rfl
  ·rw[Yz h,if_neg h];rfl
 have key:∀(k:Nat) (s:Int),0<=s->s+(k:Int)=d0->∀N,k<N->∃d,aD (cH n [] [] bG z 0) N s=ZA (.inr d)/\s<=d/\d<=d0/\fw n ⟨bG,d⟩=true:=by
  intro k
  induction k with
  |zero=>
   intro s s0 hs N hN;obtain⟨N,rfl⟩:∃M,N=M+1:=⟨N-1,YG⟩;obtain rfl:s=d0:=YG;refine⟨s,?_,Wp _,Wp _,ht⟩;unfold aD;rw[K9 s s0 d2,if_pos ⟨ht,hz⟩];rfl
  |succ k ih=>
   intro s s0 hs N hN;obtain⟨N,rfl⟩:∃M,N=M+1:=⟨N-1,YG⟩;unfold aD;rw[K9 s s0 YG]
   by_cases h:fw n ⟨bG,s⟩=ZC/\z<=cE n ⟨bG,s⟩
   ·rw[if_pos h]
    exact⟨s,rfl,Wp _,YG,h.1⟩
   ·rw[if_neg h]
    obtain⟨d,e1,e2,e3,e4⟩:=ih (s+1) YG YG N YG;exact⟨d,e1,YG,e3,e4⟩
 obtain⟨d,e1,e2,e3,e4⟩:=key d0.toNat 0 YG YG NN YI;refine⟨d,?_,e2,e3,e4⟩;unfold cC;rw[e1];rfl
theorem Zi3{f aO:Int}{k:Nat}{u:Int}(ht:fw n t=ZC)(hl:vI (bW n [] [] 0 f aO k) (bd (ao n) (mB n t)) u)(hu:(if bd (ao n) (mB n t)=f then u else u+n.change)<=cE n t):
 vI (bW n [] [] 0 f aO (k+1)) (bd (ao n) (cd n t)) (dm n t):=by
 obtain⟨y,hy,hym⟩:=fh hf ht;have f1:mB n t=y.ar:=by unfold mB;rw[hy];rfl
 have f2:cd n t=y.aX:=by unfold cd;rw[hy];rfl
 obtain⟨n0,n1⟩:=jJ hn;obtain⟨_,_,_,t4,t5⟩:=cT hf hn ht;rw[f1]at hl hu
 rw[f2];obtain⟨v,v1,v2,v3⟩:=hl;have hus:u<=cE n t:=by split at hu<;>omega
 obtain⟨i0,hi⟩:=mO hy;have hz:da n v (ZE (bd (ao n) y.ar=f))=ZA (if bd (ao n) y.ar=f then v else v+n.change):=by
  unfold da
  by_cases h:bd (ao n) y.ar=f
  ·rw[Yp h,if_pos h];rfl
  ·rw[Yz h,if_neg h,YD,aL YG]
 have Au:(if bd (ao n) y.ar=f then v else v+n.change)<=cE n ⟨t.bG,t.day⟩:=by
  show _<=cE n t
  split at hu<;>split<;>omega
 obtain⟨d,e1,e2,e3,e4⟩:=Zif hf hn (bG:=t.bG) (d0:=t.day) ht Au;obtain⟨_,q2,_⟩:=cT hf hn e4;have bO:t.bG=((t.bG.toNat:Nat):Int):=YG;have Zm0:AO n [] [] 0 f (bW n [] [] 0 f aO k) (bd (ao n) y.aX) (dm n ⟨t.bG,d⟩):=by
  refine⟨t.bG.toNat,y,d,v,_,hi,rfl,v1,YG,hz,?_,YG,?_⟩
  ·rw[<-bO];exact e1
  ·rw[<-bO];exact q2
 obtain⟨x,x1,x2,x3⟩:=(Ak hf hn (l:=[]) YJ (ah:=[]) YJ 0 f aO k).2 _ _ Zm0;refine⟨x,x1,x2,?_⟩;have g1:=(L2 hf hn ht hy).2;have g2:=(L2 hf hn e4 hy).2;simp only at g2
 omega
theorem OS{f aO:Int}:∀(aK:List aw) (p:ByteArray) (z u:Int) (k:Nat),iM n p z aK->vI (bW n [] [] 0 f aO k) (bd (ao n) p) u->(if bd (ao n) p=f then u else u+n.change)<=z->
 ∀t,aK.getLast?=ZA t->vI (bW n [] [] 0 f aO (k+aK.length)) (bd (ao n) (cd n t)) (dm n t)
 | [],p,z,u,k,_,_,_,t,ht=>by simp at ht
 |x::aK,p,z,u,k,hc,hl,hu,t,ht=>by
  obtain⟨c1,c2,c3,c4⟩:=hc;obtain⟨n0,n1⟩:=jJ hn;subst c2;have h1:=Zi3 hf hn (t:=x) c1 hl YG
  cases aK with
  |nil=>
   obtain rfl:x=t:=by simpa using ht
   exact h1
  |cons y aK=>
   rw[XD]at ht
   have:=OS (y::aK) (cd n x) (dm n x+n.change) (dm n x) (k+1) c4 h1 (by split<;>omega) t ht
   rw[show k+(x::y::aK).length=k+1+(y::aK).length by simp only[VL];omega]
   exact this
theorem UG{aO:Int}{aK:List aw}(Sb:0<=bd (ao n) ar)(hnd:(ar::aK.map (cd n)).Nodup)(hc:iM n ar aO aK):aK.length<=(ao n).length:=by
 have IV:∀p∈ar::aK.map (cd n),0<=bd (ao n) p:=λp hp=>by
  rcases VM.1 hp with rfl|hp
  ·exact Sb
  ·obtain⟨t,ht,rfl⟩:=V6.1 hp
   obtain⟨y,hy,hym⟩:=fh hf (rT hc t ht);have f2:cd n t=y.aX:=by unfold cd;rw[hy];rfl
   rw[f2];exact nP (ui hym).2
 have h2:((ar::aK.map (cd n)).map λp=>(bd (ao n) p).toNat).Nodup:=by
  unfold Xt at hnd⊢
  rw[WZ];refine hnd.imp_of_mem λ{a b} ha hb dX e=>dX ?_
  have h1:=IV a ha;have h2:=IV b hb;have he:bd (ao n) a=bd (ao n) b:=YG;have g1:=rI h1;have g2:=rI h2;rw[he,g2]at g1
  exact(VG g1).symm
 have:=EI (ao n).length _ h2 λx hx=>by
  obtain⟨p,hp,rfl⟩:=V6.1 hx;have:=IV p hp;have:=(mP (ao n) p).2;omega
 simp only[VX,VL]at this
 omega
theorem H4{l:List aj}(hl:l.length<=1048576)(hc:ah.length<=1048576){aO ab:Int}{aK:List aw}(h:bN n l ah ar aX aO ab=ZA (aK,ZC)):
 ∃e,vI (bW n [] [] 0 (bd (ao n) ar) aO (ao n).length) (bd (ao n) aX) e/\e<=100000:=by
 have hR:=tV hf hl hc h;obtain⟨q1,q2,q3,q4⟩:=hR.hC;have hlg:=uL hn;have hp:(ao n).length<=40:=by have:=e9 n;omega
 have bO:=(mP (ao n) ar).2;obtain⟨n0,n1⟩:=jJ hn;have Bq:aA (bW n [] [] 0 (bd (ao n) ar) aO 0) (bd (ao n) ar)=ZA (if 0 > aO then 0 else aO):=by
  unfold bW;rw[Mr hf YG _ ⟨q2,bO⟩];exact xi q2 (by rw[List.length_replicate];omega)
 have h0:vI (bW n [] [] 0 (bd (ao n) ar) aO 0) (bd (ao n) ar) (if 0 > aO then 0 else aO):=⟨_,Bq,by split<;>omega,Wp _⟩
 have uC:=hR.last
 cases hw:aK.getLast? with
 |none=>
  obtain rfl:aK=[]:=Yw.1 hw;obtain rfl:ar=aX:=by simpa using uC
  have:=Al hf hn (l:=[]) YJ (ah:=[]) YJ 0 aO (bd (ao n) ar) Bq (by split<;>omega) (ao n).length
  rw[VY]at this
  exact⟨_,this,by split<;>omega⟩
 |some t=>
  have Oh:=hR.chain;have Vo:=rT Oh t (List.mem_of_getLast? hw);obtain⟨_,_,_,_,t5⟩:=cT hf hn Vo;have Sd:cd n t=aX:=by
   cases aK with
   |nil=>simp at hw
   |cons x xs=>
    rw[Wh,XD,<-Wh,List.getLast?_map,hw]at uC
    exact VG uC
  have h1:=OS hf hn aK ar _ _ 0 Oh h0 (by rw[if_pos rfl];exact Wp _) t hw
  have PO:=UG hf hn q2 hR.nodup Oh;rw[VY,Sd]at h1
  obtain⟨v,v1,v2,v3⟩:=h1;obtain⟨v',w1,w2,w3⟩:=Al hf hn (l:=[]) YJ (ah:=[]) YJ 0 aO (bd (ao n) ar) v1 v2 ((ao n).length-aK.length);rw[show aK.length+((ao n).length-aK.length)=(ao n).length by omega]at w1
  exact⟨v',⟨v',w1,w2,Wp _⟩,YG⟩
theorem QQ{l:List aj}(hl:l.length<=1048576)(hc:ah.length<=1048576){aO ab ax:Int}(hs:1<=ax/\ax<=3){aK:List aw}(h:bN n l ah ar aX aO ab=ZA (aK,ZC)):
 ∃d,eQ n ax ar aX aO=ZA d/\0<=d/\d<=200000:=by
 have hR:=tV hf hl hc h;obtain⟨q1,q2,q3,q4⟩:=hR.hC;have yq:=H4 hf hn hl hc h;obtain⟨e,⟨v,v1,v2,v3⟩,he⟩:=yq;have:=Zeg (ax:=ax) v2 (show v<=100000 by omega)
 exact⟨_,Jx (Iw hf hn q2 q3 hR.Sd v1) v2 YG hs,YG,this.2⟩
end
end Go.Proofs.YtbalgkakkoocjaaGreat
namespace Go.Proofs.YtbalgkakkoocjaaGreat
set_option maxRecDepth 10000
open Go.RowKit Go.Lib Go.Sort
set_option maxRecDepth 100000
abbrev SW(w:World):Nat->Prop:=λb=>b<w.heap.size
theorem AJ{w w':World}{p:PV}{x:Value}(h:cf w (SW w) p x)(hu:Up w w'):cf w' (SW w') p x:=
 h.ext (λb hb=>V4 hb hu.size) (λb o hb=>hu.cell (p:=⟨b,o,ZB⟩) hb)
theorem cq.ZpT{P:Program}{α:Type}[eo α]{c:α->List PV}[hf:D6 c (id:α->α)]{f:FuncId}{args:List PV}{T:TypeId}{r:List α}(h:cq P f args [] (.ms 0) [ZA ⟨T,eo.k α,r.map c⟩]){w:World}(ht:Oo w (mz λ_=>ZB)){vs:Array Value}(hl:vs.size=args.length)(ha:∀(i:Nat) (p:PV),args[i]?=ZA p->∃x,vs[i]?=ZA x/\cN w (E1 (SW w) (λ_=>ZB) 0) p x):
 Calls P f vs w λe w'=>∃v,e=.returned v/\Own w' w.heap.size T v r/\Up w w':=by
 have ji:Ok w (mz λ_=>ZB) (E1 (λb=>b<w.heap.size) (λ_=>ZB) 0) w []:=
  ⟨mA.refl _ _,λb h=>h,λl B h=>YT,λl l' B B' h=>YT,λl h=>absurd h (Nat.not_lt_zero l),λl B h=>YT,λl mb h=>(by simp at h),λl B h=>YT,ht,λ_ _ h=>h.elim⟩
 refine(h (λb=>b<w.heap.size) (λ_=>ZB) w vs (λ_ _=>False) ji hl ha).mono ?_
 rintro e w' ⟨v,E',rfl,hk,_,_,_,hr⟩;refine⟨v,rfl,?_,⟨hk.up.os,hk.up.tape,hk.up.output,hk.up.size,λb hb=>hk.up.block b hb Ny⟩⟩
 obtain⟨B,hB,hb,rfl⟩:=hr.ln hk (l:=0) rfl;have J5:=hb.k;have hn:B.n=r.length:=by have:=hb.n;simpa using this
 have hT:=hb.T;simp only at J5 hT
 cases hz:B.z with
 |true=>
  have h0:r=[]:=by have:=hb.nil hz;simpa using this
  subst h0;have La:B.sv=.slice ZB 0 0:=by simp[cL.sv,hz]
  rw[La];exact World.ownsRow_nil _ _ _ _
 |false=>
  have La:B.sv=.slice (ZA ⟨B.b,0,ZB⟩) r.length B.c:=by simp[cL.sv,hz,hn]
  rw[La];obtain⟨cells,hc,gl,vO⟩:=hb.mem hz;have sA:=hk.own 0 B hB hz;have Sb:w.heap.size<=B.b:=by
   rcases sA.1 with h|h
   ·exact absurd h Ny
   ·exact h
  refine⟨by rw[ux],.inr ⟨B.b,B.c,cells,rfl,Sb,by rw[hc,hT];rfl,by rw[<-hn];exact hb.nc,hb.cm,by rw[gl,J5],?_⟩⟩
  apply Ya;intro t;have hkp:0<eo.k α:=eo.pos
  rcases Wg t (r.length*eo.k α)with hi|hi
  ·rw[List.getElem?_take_of_lt hi,Array.getElem?_toList]
   have lS:t / eo.k α<r.length:=by rw[Nat.div_lt_iff_lt_mul hkp];exact hi
   have hj:=Nat.mod_lt t hkp;have e0:t / eo.k α*eo.k α+t % eo.k α=t:=by rw[Nat.mul_comm];exact Nat.div_add_mod t _
   have xk:(c r[t / eo.k α]).length=eo.k α:=hf.len _;obtain⟨u,Se,S9⟩:=hf.aO r[t / eo.k α] (t % eo.k α) _ (VF (by rw[xk];exact hj))
   obtain⟨x,x1,_,x3⟩:=vO (t / eo.k α) (c r[t / eo.k α]) (t % eo.k α) (.v u) (by simp[lS]) (by rw[VF (by rw[xk];exact hj),S9])
   obtain⟨rfl,_⟩:=x3.cF;rw[J5,e0]at x1
   have SP:=ym (xs:=r) (i:=t / eo.k α) (x:=r[t / eo.k α]) (VF lS) Se;rw[e0]at SP
   rw[x1,SP]
  ·rw[Wz Zg,Wz (by rw[ux];omega)]
theorem ZmD:ElT prog 29 177 (eo.k aj) 32:=ElT.mk' (z:=.agg #[I 0,I 0,I 0,I 0]) Tryz.underlying29 YK rfl
section
variable {n:ak} (hf:cR n) {w:World} {O:Nat->Prop} (ht:Oo w O) {v0 v1:Value} (h0:cf w (SW w) (.sl (n.aB.map br)) v0) (h1:cf w (SW w) (.sl (n.off.map aI)) v1)
include hf ht h0 h1
theorem Zdv{W:World}(hu:Up w W){xs:List aj}(hx:xs.length<=1048576){lv:Value}(hl:cf W (SW W) (.sl (xs.map aC)) lv):
 Calls prog 186 #[.agg #[v0,v1,I n.change],lv] W λe w'=>e=.returned (.bool (cb n xs))/\Up W w':=by
 have o0:=h0.one YJ YJ;have o1:=h1.one YJ YJ;have hC:=CT.ok (P:=prog) (zt hf hx);simp only[CT.f,CT.args,CT.m0,CT.res,CT.mem]at hC
 refine cq.Zn0 hC (UF ht (O':=λ_=>False) ⟨hu.os,hu.tape,hu.output,hu.size,λb hb _=>hu.block b hb⟩ λb _ h=>h.elim) rfl λi p hp=>?_
 match i with
 |0=>
  obtain rfl:_=p:=VG hp;refine⟨_,rfl,.ag _ _ rfl (λj x hx=>?_) λj p x hp hx=>?_⟩
  ·match j with
   |0=>obtain rfl:_=x:=VG hx
       exact o0
   |1=>obtain rfl:_=x:=VG hx
       exact o1
   |2=>obtain rfl:_=x:=VG hx
       rfl
   |j+3=>simp at hx
  ·match j with
   |0=>obtain rfl:_=x:=VG hx
       obtain rfl:_=p:=VG hp;exact .c (AJ h0 hu)
   |1=>obtain rfl:_=x:=VG hx
       obtain rfl:_=p:=VG hp;exact .c (AJ h1 hu)
   |2=>obtain rfl:_=x:=VG hx
       obtain rfl:_=p:=VG hp;exact Ra _ rfl
   |j+3=>simp at hx
 |1=>
  obtain rfl:_=p:=VG hp;exact⟨_,rfl,.c hl⟩
 |i+2=>simp at hp
omit hf h0 h1 in
theorem U2{W:World}(hu:Up w W){xs:List aj}(hx:xs.length<=1048576){lv:Value}(hl:cf W (SW W) (.sl (xs.map aC)) lv):
 Calls prog 184 #[lv] W λe w'=>∃v,e=.returned v/\Own w' W.heap.size 177 v xs/\Up W w':=by
 have hm:fH xs=ZA xs:=by
  unfold fH;simp only[VO,CD hx (show 32<=1024 by omega),VE,Wu]
 have hC:=CT.ok (P:=prog) hm;simp only[CT.f,CT.args,CT.m0,CT.res,CT.mem]at hC
 refine cq.ZpT hC (UF ht (O':=λ_=>False) ⟨hu.os,hu.tape,hu.output,hu.size,λb hb _=>hu.block b hb⟩ λb _ h=>h.elim) rfl λi p hp=>?_
 match i with
 |0=>
  obtain rfl:_=p:=VG hp;exact⟨_,rfl,.c hl⟩
 |i+1=>simp at hp
end
theorem GM{w w':World}{b o:Nat}{v:Value}(h:w.cell? ⟨b,o,ZB⟩=ZA v)(hb:b<w.heap.size)(hu:Up w w'):w'.cell? ⟨b,o,ZB⟩=ZA v:=(hu.cell (p:=⟨b,o,ZB⟩) hb).trans h
theorem Zja{w W:World}{O:Nat->Prop}(h:Oo w O)(hu:Up w W){B:Nat}(hB:w.heap.size<=B):Oo W (λb=>B<=b):=by
 obtain⟨T,h1,h2⟩:=h;exact⟨T,λb hb=>⟨V4 (h1 b hb).1 hu.size,λh=>by have:=(h1 b hb).1;omega⟩,λw'' ZkV=>h2 w'' λb hb=>(ZkV b hb).trans (hu.block b (h1 b hb).1)⟩
theorem ZfI{w:World}{B Bx:Nat}{v v':Value}{xs:List aj}(h:Own w B 177 v xs)(hx:w.heap[Bx]?=ZA (.cells #[v'] 29 (0,0))):v.ownBlock≠ZA Bx:=by
 rcases h.2 with⟨hv,_⟩ |⟨g,cap,cur,hv,hB,hg,_⟩
 ·rw[hv];simp[Value.ownBlock]
 ·rw[hv]
  intro e;have:g=Bx:=by simpa[Value.ownBlock]using e
  subst this;rw[hg]at hx
  simp at hx
section
variable {n:ak} (hf:cR n) {w:World} {O:Nat->Prop} (ht:Oo w O) {v0 v1:Value} (h0:cf w (SW w) (.sl (n.aB.map br)) v0) (h1:cf w (SW w) (.sl (n.off.map aI)) v1)
 {l:List aj} (hl:l.length<=1048000) {lv:Value} (hlr:cf w (SW w) (.sl (l.map aC)) lv) (bo ab:Int) {aK:List aw} (PO:aK.length<=1048576) {A:Option Addr} {wn:Nat} (BU:Rd w w.heap.size A aK)
include hf ht h0 h1 hl hlr PO BU
theorem Zg3(Bt:¬(cb n l=ZC/\aK.length<=20)):
 Calls prog 202 #[.agg #[v0,v1,I n.change],lv,I bo,I ab,.slice A aK.length wn] w λe w'=>∃v,e=.returned (.tuple #[v,.bool ZD])/\Own w' w.heap.size 177 v l/\Up w w':=by
 have hA:=fun(W:World) (hu:Up w W)=>Zdv hf ht h0 h1 hu (xs:=l) YG (AJ hlr hu)
 have hC:=fun(W:World) (hu:Up w W)=>U2 ht hu (xs:=l) YG (AJ hlr hu)
 have HA:Hid _:=hA;have HC:Hid _:=hC;clear hA hC hf ht h0 h1 hlr BU
 by_cases hb:cb n l=ZC
 ·have h20:(20:Int)<(aK.length:Int):=by
   rcases Wg 20 aK.length with h|h
   ·omega
   ·exact absurd ⟨hb,h⟩ Bt
  have Hb:Hid (cb n l=ZC):=hb;clear Bt hb
  go_enter func202,ntmps202
  go_wp2_with (first
   |(go_at_call 186;refine(HA.out _ YH).mono ?_;rintro e w1 ⟨rfl,Se⟩;rw[Hb.out])
   |(go_at_call 184;refine(HC.out _ YH).mono ?_;rintro e w2 ⟨v2,rfl,IU,S9⟩))
  go_ret2
  exact⟨v2,rfl,IU.down YH,by(repeat(first|exact Up.rfl' _|(refine Up.al _ ?_) |(refine Up.dr _ ?_) |(refine Up.pE ?_) |(refine Up.sc ?_ YL _) |(refine Up.step YO ?_)))⟩
 ·have GQ:cb n l=false:=by simpa using hb
  have Hb:Hid (cb n l=ZD):=GQ;clear Bt hb GQ
  go_enter func202,ntmps202
  go_wp2_with (first
   |(go_at_call 186;refine(HA.out _ YH).mono ?_;rintro e w1 ⟨rfl,Se⟩;rw[Hb.out])
   |(go_at_call 184;refine(HC.out _ YH).mono ?_;rintro e w2 ⟨v2,rfl,IU,S9⟩))
  go_ret2
  exact⟨v2,rfl,IU.down YH,by(repeat(first|exact Up.rfl' _|(refine Up.al _ ?_) |(refine Up.dr _ ?_) |(refine Up.pE ?_) |(refine Up.sc ?_ YL _) |(refine Up.step YO ?_)))⟩
theorem Zdz(hb:cb n l=ZC)(h20:aK.length<=20):
 Calls prog 202 #[.agg #[v0,v1,I n.change],lv,I bo,I ab,.slice A aK.length wn] w λe w'=>∃v ys ok,e=.returned (.tuple #[v,.bool ok])/\Own w' w.heap.size 177 v ys/\Up w w'/\cg n l bo ab aK=ZA (ys,ok):=by
 have hlb:=(dy hb).2;have hA:=fun(W:World) (hu:Up w W) (xs:List aj) (hx:xs.length<=1048576) (lv:Value) (hl:cf W (SW W) (.sl (xs.map aC)) lv)=>Zdv hf ht h0 h1 hu (xs:=xs) hx hl
 have hC:=fun(W:World) (hu:Up w W)=>U2 ht hu (xs:=l) YG (AJ hlr hu)
 have HA:Hid _:=hA;have HC:Hid _:=hC;have HL:Hid (∀W,Up w W->cf W (SW W) (.sl (l.map aC)) lv):=λW hu=>AJ hlr hu
 have HW:Hid (Rd w w.heap.size A aK):=BU;have HF:Hid (cR n):=hf;have HT:Hid (Oo w O):=ht;have Hb:Hid (cb n l=ZC):=hb;have Zrn:¬(20:Int)<(aK.length:Int):=YG;clear hA hC hf ht h0 h1 hlr BU hb
 go_enter func202,ntmps202
 go_wp2_with (first
  |(go_at_call 186;refine(HA.out _ YH l YG lv (HL.out _ YH)).mono ?_;rintro e w1 ⟨rfl,Se⟩;rw[Hb.out])
  |(go_at_call 184;refine(HC.out _ YH).mono ?_;rintro e w2 ⟨v2,rfl,IU,S9⟩;obtain⟨A2,c2,rfl,Of,_⟩:=IU.form))
 have wJ:Up (w.alloc (.cells #[v0,v1,I n.change] 27)) w2:=by(repeat(first|exact Up.rfl' _|(refine Up.al _ ?_) |(refine Up.dr _ ?_) |(refine Up.pE ?_) |(refine Up.sc ?_ YL _) |(refine Up.step YO ?_)))
 have sA:Own w2 (w.heap.size+1) 177 (.slice A2 l.length c2) l:=by
  have:=IU.down (w0:=w.alloc (.cells #[v0,v1,I n.change] 27)) YH
  simpa using this
 have HUB:=Lib.hid wJ;have HO:=Lib.hid sA;clear IU Of sA
 go_loopw [30] (λvi wr=>∃(i:Nat) (v:Value),vi=ZF ZG i/\i<=aK.length/\Own wr (w.heap.size+1) 177 v (l++gz bo ab (aK.take i))/\wr.heap[w2.heap.size]?=ZA (.cells #[v] 29 (0,0))/\Up (w.alloc (.cells #[v0,v1,I n.change] 27)) wr) (λvi _=>aK.length-(intOf vi).toNat)
 case atStart=>
  refine⟨0,_,by go_num,YG,?_,heap_alloc_new _ _,Up.al _ HUB.out⟩
  simp only[List.take_zero,gz,List.map_nil,Wy];exact HO.out.up (Up.al _ (Up.rfl' _))
 case round=>
  obtain⟨i,v,rfl,hi,hv,hx,BU⟩:=hrel;obtain⟨A3,c3,rfl,hc3,hm3⟩:=hv.form;have D0:(l++gz bo ab (aK.take i)).length=l.length+i:=by simp[gz];omega
  rw[D0]at hv hx
  have hcx:wr.cell? ⟨w2.heap.size,0,ZB⟩=ZA (.slice A3 (l.length+i) c3):=by rw[cell_of_row wr _ 0 _ _ (0,0) hx];rfl
  have hz:w2.heap.size<wr.heap.size:=(VQ.1 hx).1;have hz1:wr.heap.size≠w2.heap.size:=YG;have hz2:w2.heap.size≠wr.heap.size:=YG;have HV:=Lib.hid hv;have HX:=Lib.hid hx;have UL:=Lib.hid BU;have HNL:=Lib.hid D0;clear hv hx BU;clear D0 hc3 hm3
  by_cases bO:i<aK.length
  ·obtain⟨b,off,rfl,hbb,Gf⟩:=(HW.out.up (Up.step (w.alloc (.cells #[v0,v1,I n.change] 27) |> λ_=>UL.out) (Up.al _ (Up.rfl' w)))).aO (VF bO)
   have d0:wr.cell? ⟨b,off+i*2,ZB⟩=ZA (I aK[i].bG):=Gf 0 _ rfl;have d1:wr.cell? ⟨b,off+i*2+1,ZB⟩=ZA (I aK[i].day):=Gf 1 _ rfl;clear Gf;have Znn:Rd ((wr.alloc (.cells #[I aK[i].bG,I aK[i].day] 46)).alloc (.cells #[I bo,I aK[i].bG,I aK[i].day,I ab] 177)) (wr.heap.size+2) (ZA ⟨wr.heap.size+1,0,ZB⟩) [(⟨bo,aK[i],ab⟩:aj)]:=by
    have e:(wr.alloc (.cells #[I aK[i].bG,I aK[i].day] 46)).heap.size=wr.heap.size+1:=by simp
    have h:=Rd.one (wr.alloc (.cells #[I aK[i].bG,I aK[i].day] 46)) 177 (⟨bo,aK[i],ab⟩:aj) (wr.heap.size+2) (by rw[e];omega)
    rw[e]at h
    exact h
   have HR1:=Lib.hid Znn;clear Znn;have hlen:=HNL.out;have uV:w.heap.size+1<=wr.heap.size:=by have:=UL.out.size;simpa using this
   go_wp2_with (at_builtin;refine kA ZmD rfl (.tmp 34) (.tmp 39) rfl (base:=w.heap.size+1) (ys:=l++gz bo ab (aK.take i)) (xs:=[(⟨bo,aK[i],ab⟩:aj)]) Zj (HV.out.up YH) 1 Zj rfl HR1.out YY (by unfold maxLen;simp only[VL,VO];omega) YR ?_;intro v' w3 ho3 hg3 _ hu3;refine Hid.out ?_)
   have hx3:w3.heap[w2.heap.size]?=ZA (.cells #[.slice A3 (l.length+i) c3] 29 (0,0)):=by
    rw[hg3.block _ YR (λe=>ZfI HV.out HX.out e.symm)]
    exact((Up.al _ (Up.al _ (Up.rfl' wr))).block _ hz).trans HX.out
   obtain⟨A4,c4,rfl,hc4,hm4⟩:=ho3.form;have hl4:(l++gz bo ab (aK.take i)++[(⟨bo,aK[i],ab⟩:aj)]).length=l.length+(i+1):=by simp[gz];omega
   rw[hl4]at ho3⊢
   clear hl4;have Vn:gz bo ab (aK.take (i+1))=gz bo ab (aK.take i)++[⟨bo,aK[i],ab⟩]:=by
    unfold gz;rw[WI bO,Yo];rfl
   have Zpi:w3.cell? ⟨w2.heap.size,0,ZB⟩=ZA (.slice A3 (l.length+i) c3):=by rw[cell_of_row w3 _ 0 _ _ (0,0) hx3];rfl
   have Zrq:w3.frozen? ⟨w2.heap.size,0,ZB⟩=false:=by simp[World.frozen?,hx3]
   have Zns:Up (w.alloc (.cells #[v0,v1,I n.change] 27)) w3:=hu3 _ YJ (Up.al _ (Up.al _ UL.out));have HX3:=Lib.hid hx3;have HO3:=Lib.hid ho3;have HN:=Lib.hid Vn;have HW3:=Lib.hid Zns;clear hx3 ho3 hg3 hu3 Vn Zns hc4 hm4 hlen;refine Lib.hid ?_
   go_wp2
   refine⟨⟨i+1,_,by go_num,YG,?_,heap_setCell_same w3 _ 0 _ _ _ HX3.out,Up.sc HW3.out (by have:=HUB.out.size;simp at this⊢;omega) _⟩,by simp[intOf];omega⟩
   rw[HN.out,<-Xe];exact HO3.out.grown (row:=ZA w2.heap.size) ⟨rfl,rfl,rfl,by simp,λk hk dX=>heap_setCell_other _ _ _ _ (λe=>dX (by rw[e]))⟩ (.inr (ZfI HO3.out HX3.out))
  ·have hie:i=aK.length:=YG
   subst hie;have xu:=Zi2 HV.out HX.out (by rw[HNL.out];omega) (Zja HT.out (Up.step UL.out (Up.al _ (Up.rfl' w))) YG) (λb h=>h)
   have Ev:¬(aK.length:Int)<(aK.length:Int):=YG
   go_wp2_with (go_at_call 275;refine xu.mono ?_;rintro e w4 ⟨rfl,ys,hp,hs,ho4,hu4⟩;refine Hid.out ?_)
   rw[WA]at hp
   have hyl:ys.length=l.length+aK.length:=by rw[hp.length_eq];simp[gz]
   have Bv:=xv HF.out hl bo ab hp hs;have ZbP:Up (w.alloc (.cells #[v0,v1,I n.change] 27)) w4:=by
    have h:=UL.out;exact⟨hu4.os.trans h.os,hu4.tape.trans h.tape,hu4.output.trans h.output,Wb h.size hu4.size,λb hb=>(hu4.block b (V4 hb h.size) (λhh=>by simp at hb;omega)).trans (h.block b hb)⟩
   have e0:w4.cell? ⟨w.heap.size,0,ZB⟩=ZA v0:=GM YJ YJ ZbP;have e1:w4.cell? ⟨w.heap.size,1,ZB⟩=ZA v1:=GM YJ YJ ZbP;have e2:w4.cell? ⟨w.heap.size,2,ZB⟩=ZA (I n.change):=GM YJ YJ ZbP;have ex:w4.heap[w2.heap.size]?=ZA (.cells #[.slice A3 (l.length+aK.length) c3] 29 (0,0)):=(hu4.block _ hz (λhh=>hh.2 rfl)).trans HX.out
   have exc:w4.cell? ⟨w2.heap.size,0,ZB⟩=ZA (.slice A3 (l.length+aK.length) c3):=by rw[cell_of_row w4 _ 0 _ _ (0,0) ex];rfl
   have hrp:cf w4 (SW w4) (.sl (ys.map aC)) (.slice A3 (l.length+aK.length) c3):=by
    rw[<-hyl]at ho4⊢
    obtain⟨A5,c5,e5,h5,h6⟩:=ho4.form;obtain⟨rfl,rfl⟩:A3=A5/\c3=c5:=by simpa using e5
    exact Zam (c:=aC) id (by rw[XO];exact ho4.rd) h5 h6
   have ZkU:Up w w4:=Up.step ZbP (Up.al _ (Up.rfl' w));have hA:=HA.out w4 ZkU ys YG _ hrp;have HSP:=Lib.hid Bv;have HO4:=Lib.hid ho4;have HUP:=Lib.hid ZbP;have ZjR:=Lib.hid ZkU;have HZ4:Hid (w2.heap.size<w4.heap.size):=V4 hz hu4.size;clear xu hp hs ho4 hu4 hyl Bv ZbP ex hrp ZkU;refine Lib.hid ?_
   cases hby:cb n ys with
   |true=>
    rw[hby]at hA
    have HBY:=Lib.hid hby;clear hby
    go_wp2_with (first
     |(go_at_call 186;refine hA.mono ?_;rintro e w5 ⟨rfl,hu5⟩;have Zrm:=GM exc HZ4.out hu5))
    go_ret2
    exact⟨_,ys,ZC,rfl,(HO4.out.more YG).up hu5,Up.step hu5 (Up.step HUP.out (Up.al _ (Up.rfl' w))),by rw[HSP.out,if_pos ⟨Hb.out,h20,HBY.out⟩]⟩
   |false=>
    rw[hby]at hA
    have HBY:=Lib.hid hby;clear hby
    go_wp2_with (first
     |(go_at_call 186;refine hA.mono ?_;rintro e w5 ⟨rfl,hu5⟩)
     |(go_at_call 184;refine(HC.out _ (Up.step hu5 ZjR.out)).mono ?_;rintro e w6 ⟨v6,rfl,ho6,hu6⟩))
    go_ret2
    exact⟨v6,l,ZD,rfl,ho6.down (Up.step hu5 ZjR.out),Up.step hu6 (Up.step hu5 ZjR.out),by rw[HSP.out,if_neg (λh=>by rw[HBY.out]at h;cases h.2.2)]⟩
end
end Go.Proofs.YtbalgkakkoocjaaGreat
namespace Go.Proofs.YtbalgkakkoocjaaGreat
set_option maxRecDepth 10000
open Go.RowKit Go.Lib
def Zkg(n:ak):Bool:=ZE (n.aB.length<=1048576)&&ZE (n.off.length<=1048576)&&n.aB.all λl=>ZE (l.ar.size<=AN)&&ZE (l.aX.size<=AN)
theorem IA{n:ak}:Zkg n=ZC↔cR n:=by
 unfold Zkg;simp only[VN,YE,VS];exact⟨λh=>⟨h.1.1,h.1.2,λl hl=>h.2 l hl⟩,λh=>⟨⟨h.aB,h.off⟩,λl hl=>h.bG l hl⟩⟩
def fk(n:ak)(l:List aj)(bo:Int)(ab:Int)(aK:List aw):Option ((List aj)×Bool):=
 if Zkg n=ZC/\l.length<=1048000/\aK.length<=1048576 then cg n l bo ab aK else ZB
theorem Zos{vs:Array Value}{x0 x1 x2 x3 x4:Value}(h:vs.size=5)(h0:vs[0]?=ZA x0)(h1:vs[1]?=ZA x1)(h2:vs[2]?=ZA x2)(h3:vs[3]?=ZA x3)(h4:vs[4]?=ZA x4):vs=#[x0,x1,x2,x3,x4]:=by
 apply Array.ext (by simp[h])
 intro i hi hj;have a0:=(VQ.1 h0).2;have a1:=(VQ.1 h1).2;have a2:=(VQ.1 h2).2;have a3:=(VQ.1 h3).2;have a4:=(VQ.1 h4).2
 match i,hi with
 |0,_=>simpa using a0
 |1,_=>simpa using a1
 |2,_=>simpa using a2
 |3,_=>simpa using a3
 |4,_=>simpa using a4
 |i+5,hi=>omega
theorem Gt(n:ak)(l:List aj)(bo:Int)(ab:Int)(aK:List aw){r:(List aj)×Bool}(H:fk n l bo ab aK=ZA r):cq prog 202 [.ag (bE n),.sl (l.map aC),vi bo,vi ab,.sl (aK.map aS)] [] (.tu [.ms 0,vb r.2]) [ZA ⟨.of 177,4,r.1.map aC⟩]:=by
 unfold fk at H
 split at H
 case isFalse=>cases H
 rename_i ji;obtain⟨hf,hln,hwn⟩:=ji;have hf:=IA.1 hf;intro S β w vs ω hk hl ha;obtain⟨x0,q0,r0⟩:=ha 0 _ rfl;obtain⟨x1,q1,r1⟩:=ha 1 _ rfl;obtain⟨x2,q2,r2⟩:=ha 2 _ rfl;obtain⟨x3,q3,r3⟩:=ha 3 _ rfl;obtain⟨x4,q4,r4⟩:=ha 4 _ rfl;obtain rfl:=Zos hl q0 q1 q2 q3 q4;obtain rfl:=Ue r2;obtain rfl:=Ue r3;obtain⟨us,rfl,hul,Se,hur⟩:=r0.pb;have ZkT:us.size=3:=hul;have z0:us[0]?=ZA us[0]:=VU YG;have z1:us[1]?=ZA us[1]:=VU YG;have z2:us[2]?=ZA us[2]:=VU YG;have hus:us=#[us[0],us[1],us[2]]:=Zmk ZkT z0 z1 z2;have w0:=(hur 0 (.sl (n.aB.map br)) _ rfl z0).xp;have w1:=(hur 1 (.sl (n.off.map aI)) _ rfl z1).xp;have w2:=Ue (hur 2 (vi n.change) _ rfl z2);have w3:=r1.xp;have w4:=r4.xp;have up:∀{p:PV} {x:Value},cf w S p x->cf w (SW w) p x:=λh=>h.ext (λb hb=>hk.sz b hb) λ_ _ _=>rfl
 obtain⟨A,wn,rfl,_,_,hrd⟩:=ZiL (id:aw->aw) (c:=aS) hk.sz w4;rw[XO]at hrd
 have Zng:Calls prog 202 #[.agg #[us[0],us[1],I n.change],x1,I bo,I ab,.slice A aK.length wn] w λe w'=>∃v ys ok,e=.returned (.tuple #[v,.bool ok])/\Own w' w.heap.size 177 v ys/\Up w w'/\cg n l bo ab aK=ZA (ys,ok):=by
  by_cases Bt:cb n l=ZC/\aK.length<=20
  ·exact Zdz hf hk.tab (up w0) (up w1) hln (up w3) bo ab hwn hrd Bt.1 Bt.2
  ·refine(Zg3 hf hk.tab (up w0) (up w1) hln (up w3) bo ab hwn hrd Bt).mono ?_
   rintro e w' ⟨v,rfl,ho,hu⟩;refine⟨v,l,ZD,rfl,ho,hu,?_⟩;unfold cg;rw[tF YG,VE,iB hf YG,VE]
   by_cases hb:cb n l=ZC
   ·rw[hb,Yp (show 20<(aK.length:Int)by
     rcases Wg 20 aK.length with h|h
     ·omega
     ·exact absurd ⟨hb,h⟩ Bt)];rfl
   ·have GQ:cb n l=false:=by simpa using hb
    rw[GQ];rfl
 rw[hus,w2];refine Zng.mono ?_;rintro e w' ⟨v,ys,ok,rfl,ho,hu,Bv⟩;rw[Bv]at H
 obtain rfl:=VG H;obtain⟨E',h1,h2,h3,h4,h5⟩:=EH (c:=aC) hk ho hu (λx=>⟨rfl,λj p hj=>by
  obtain⟨u,Se,S9⟩:=D6.aO (c:=aC) (g:=(id:aj->aj)) x j p hj;exact⟨u,Se,eo.one _ u (VI Se),λw E=>by rw[S9];exact Ra _ (eo.one _ u (VI Se))⟩⟩)
 refine⟨_,E',rfl,h1,h2,h3,h4,.tu _ _ rfl λj p x hp hx=>?_⟩
 match j with
 |0=>obtain rfl:_=p:=VG hp
     obtain rfl:_=x:=VG hx;exact h5
 |1=>obtain rfl:_=p:=VG hp
     obtain rfl:_=x:=VG hx;exact Ra _ rfl
 |j+2=>simp at hp
instance (n:ak)(l:List aj)(bo:Int)(ab:Int)(aK:List aw):CT prog (fk n l bo ab aK):=⟨202,[.ag (bE n),.sl (l.map aC),vi bo,vi ab,.sl (aK.map aS)],[],λr=>.tu [.ms 0,vb r.2],λr=>[ZA ⟨.of 177,4,r.1.map aC⟩],Gt n l bo ab aK⟩
end Go.Proofs.YtbalgkakkoocjaaGreat
namespace Go.Proofs.YtbalgkakkoocjaaGreat
set_option maxRecDepth 10000
open Go.RowKit
variable {aX ar p:ByteArray}{ah rest ts:List aw}{b:aj}{bs l l':List aj}{k:Nat}{α:Type}
def fc(w:az)(cz:ByteArray)(aX:ByteArray)(ax:Int)(ab:Int):Option (az×Int×Bool):=
 (dC w).bind λy1=>
 (gN w).bind λy2=>
 cond (!y2)
 (ZA (y1,0,ZD))
 (cond (ZE (30<=(w.ae.length:Int)))
 (ZA (y1,0,ZD))
 (cond (ZE (cz=aX))
 (ZA (y1,0,ZD))
 ((aZ ax 1 3).bind λy3=>
 cond (!y3)
 (ZA (y1,0,ZD))
 ((aZ ab 1 30000).bind λy4=>
 cond (!y4)
 (ZA (y1,0,ZD))
 ((iw w.aa w.aq w.ah cz aX (aH (w.now+1)) ab).bind λy5=>
 cond (!y5.2)
 (ZA (y1,0,ZD))
 ((fk w.aa w.aq (aH ((w.ae.length:Int)+1)) ab y5.1).bind λy6=>
 cond (!y6.2)
 (ZA (y1,0,ZD))
 ((eQ w.aa ax cz aX (aH (w.now+1))).bind λy7=>
 (eR y5.1).bind λy8=>
 (dg (bB ((y1.ae:List ay).length+([(⟨cz,aX,ax,ab,w.now,y7,y8,0,1,cz,0⟩:ay)]:List ay).length) 128)).bind λ_=>
 (vD (.un::vs cz::(U 3 (.be 0 0 0::(U 4 (.be 1 0 0::.un::.un::.be 2 0 0::vi (aH ((w.ae.length:Int)+1))::(U 102 [])))))) [ZA ⟨.of 33,10,[[.sl (w.aa.aB.map br),.sl (w.aa.off.map aI),vi w.aa.change,.sl (w.ae.map aY),.sl (w.aq.map aC),.sl (w.ah.map aS),vi w.now,.sl (w.aJ.map bt),.sl (w.skip.map aI),vi w.aT]]⟩,ZA ⟨.of 33,10,[[.v (.slice ZB 0 0),.v (.slice ZB 0 0),vi 0,.v (.slice ZB 0 0),.v (.slice ZB 0 0),.v (.slice ZB 0 0),vi 0,.v (.slice ZB 0 0),.v (.slice ZB 0 0),vi 0]]⟩,ZA ⟨.of 33,10,[[.ms 3,.ms 4,vi y1.aa.change,.ms 5,.ms 6,.ms 7,vi y1.now,.ms 8,.ms 9,vi y1.aT]]⟩,ZA ⟨.of 174,6,y1.aa.aB.map br⟩,ZA ⟨.of 3,1,y1.aa.off.map aI⟩,ZA ⟨⟨155,ZA 46⟩,11,((y1.ae:List ay)++[(⟨cz,aX,ax,ab,w.now,y7,y8,0,1,cz,0⟩:ay)]).map aY⟩,ZA ⟨.of 177,4,y6.1.map aC⟩,ZA ⟨.of 46,2,y1.ah.map aS⟩,ZA ⟨.of 181,6,y1.aJ.map bt⟩,ZA ⟨.of 3,1,y1.skip.map aI⟩]).bind λ_=>
 (nG [2,3,4,5,6,7,8,9]).bind λ_=>
 (eY (⟨y1.aa,((y1.ae:List ay)++[(⟨cz,aX,ax,ab,w.now,y7,y8,0,1,cz,0⟩:ay)]),y6.1,y1.ah,y1.now,y1.aJ,y1.skip,y1.aT⟩:az) (⟨(aH ((w.ae.length:Int)+1)),w.now,1,cz,(⟨0,0⟩:aw)⟩:bc)).bind λy9=>
 ZA (y9,(aH ((w.ae.length:Int)+1)),ZC))))))))
instance (w:az)(cz:ByteArray)(aX:ByteArray)(ax:Int)(ab:Int):CT prog (fc w cz aX ax ab):=⟨106,[.ag (fa w),vs cz,vs aX,vi ax,vi ab],[],λr=>.tu [.ag [.ms 0,.ms 1,vi r.1.aa.change,.ms 2,.ms 3,.ms 4,vi r.1.now,.ms 5,.ms 6,vi r.1.aT],vi r.2.1,vb r.2.2],λr=>[ZA ⟨.of 174,6,r.1.aa.aB.map br⟩,ZA ⟨.of 3,1,r.1.aa.off.map aI⟩,ZA ⟨⟨155,ZA 46⟩,11,r.1.ae.map aY⟩,ZA ⟨.of 177,4,r.1.aq.map aC⟩,ZA ⟨.of 46,2,r.1.ah.map aS⟩,ZA ⟨.of 181,6,r.1.aJ.map bt⟩,ZA ⟨.of 3,1,r.1.skip.map aI⟩],ck (fc.eq_1 ..) func106 ntmps106 results106⟩
def UM(w:az)(ar aX:ByteArray)(ax ab:Int):Prop:=
 30<=w.ae.length\/ar=aX\/¬(1<=ax/\ax<=3)\/¬(1<=ab/\ab<=30000)\/(∃x,bN w.aa w.aq w.ah ar aX (w.now+1) ab=ZA (x,ZD))\/
  ∃aK l,bN w.aa w.aq w.ah ar aX (w.now+1) ab=ZA (aK,ZC)/\cg w.aa w.aq ((w.ae.length:Int)+1) ab aK=ZA (l,ZD)
structure Zdl(w:az)(ar aX:ByteArray)(ax ab:Int)(r:az×Int×Bool)(aK:List aw)(ys:List aj)(ec:Int):Prop where
 jl:bN w.aa w.aq w.ah ar aX (w.now+1) ab=ZA (aK,ZC)
 book:cg w.aa w.aq ((w.ae.length:Int)+1) ab aK=ZA (ys,ZC)
 prom:eQ w.aa ax ar aX (w.now+1)=ZA ec
 res:r=(Cs w (pA w ar aX ax ab ec aK) ys,(w.ae.length:Int)+1,ZC)
 ne:¬ar=aX
 ok:tC (Cs w (pA w ar aX ax ab ec aK) ys)
theorem Zdo{w:az}(h:tC w)(ar aX:ByteArray)(ax ab:Int)(hpr:∀aK,bN w.aa w.aq w.ah ar aX (w.now+1) ab=ZA (aK,ZC)->1<=ax/\ax<=3->∃d,eQ w.aa ax ar aX (w.now+1)=ZA d/\0<=d/\d<=200000):
 ∃r,fc w ar aX ax ab=ZA r/\(r=(w,0,ZD)/\UM w ar aX ax ab\/∃aK ys ec,Zdl w ar aX ax ab r aK ys ec):=by
 have hf:=h.fit;obtain⟨p1,p2,p3,p4,p5,p6,p7⟩:=h.parts;have Df:aH (w.now+1)=w.now+1:=aL YG;have Fv:aH ((w.ae.length:Int)+1)=(w.ae.length:Int)+1:=aL YG;unfold fc;rw[CF hf,VE,vR hf,h.ok,VE,iu,Df,Fv];simp only[VK,YD,dG,VE]
 by_cases c1:30<=w.ae.length
 ·exact⟨_,by rw[Yp (show(30:Int)<=(w.ae.length:Int)by omega)];rfl,.inl ⟨rfl,.inl c1⟩⟩
 rw[Yz (show ¬(30:Int)<=(w.ae.length:Int)by omega),YD]
 by_cases c2:ar=aX
 ·exact⟨_,by rw[Yp c2];rfl,.inl ⟨rfl,.inr (.inl c2)⟩⟩
 rw[Yz c2,YD]
 by_cases c3:1<=ax/\ax<=3
 case neg=>
  refine⟨(w,0,ZD),?_,.inl ⟨rfl,.inr (.inr (.inl c3))⟩⟩;have:(ZE (1<=ax)&&ZE (ax<=3))=false:=by rw[<-XH];exact Yz c3
  rw[this];rfl
 rw[Yp c3.1,Yp c3.2]
 by_cases c4:1<=ab/\ab<=30000
 case neg=>
  refine⟨(w,0,ZD),?_,.inl ⟨rfl,.inr (.inr (.inr (.inl c4)))⟩⟩;have:(ZE (1<=ab)&&ZE (ab<=30000))=false:=by rw[<-XH];exact Yz c4
  rw[this];rfl
 rw[Yp c4.1,Yp c4.2];simp only[Xj,VK,YD];obtain⟨⟨aK,b⟩,e1,e2⟩:=ug hf.fv hf.aq hf.ah ar aX (w.now+1) ab;rw[e1,VE]
 cases b with
 |false=>exact⟨(w,0,ZD),rfl,.inl ⟨rfl,.inr (.inr (.inr (.inr (.inl ⟨aK,e2⟩))))⟩⟩
 |true=>
 have hR:=tV hf.fv hf.aq hf.ah e2;have hlen:=hR.len;simp only[VK,YD];have D0:(gz ((w.ae.length:Int)+1) ab aK).length=aK.length:=by unfold gz;rw[VX]
 obtain⟨d,d1,d2⟩:=N1 (w.aq++gz ((w.ae.length:Int)+1) ab aK) (by rw[VV,D0];omega)
 have Kb:fk w.aa w.aq ((w.ae.length:Int)+1) ab aK=cg w.aa w.aq ((w.ae.length:Int)+1) ab aK:=by
  unfold fk;rw[if_pos ⟨IA.2 hf.fv,YG,YG⟩]
 have Bv:=xv hf.fv (show w.aq.length<=1048000 by omega) ((w.ae.length:Int)+1) ab d1 d2
 rw[Kb]
 by_cases hbd:cb w.aa d=ZC
 case neg=>
  rw[if_neg (λhx=>hbd hx.2.2)]at Bv
  refine⟨(w,0,ZD),?_,.inl ⟨rfl,.inr (.inr (.inr (.inr (.inr ⟨aK,w.aq,e2,Bv⟩))))⟩⟩;rw[Bv];rfl
 rw[if_pos ⟨hR.hC.1,hlen,hbd⟩]at Bv
 obtain⟨ec,q1,q2,q3⟩:=hpr aK e2 c3;have My:=ZjV h YG c2 c3 c4 ⟨q2,q3⟩ hR d1 hbd;have ha:dg (bB (w.ae.length+([pA w ar aX ax ab ec aK]:List ay).length) 128)=ZA ():=eK YY YG;have hct:eR aK=ZA aK:=wR YG;have hsi:=NW (w:=⟨w.aa,w.ae++[pA w ar aX ax ab ec aK],d,w.ah,w.now,w.aJ,w.skip,w.aT⟩) ⟨by simp only;omega,p4,by simp only;omega⟩ ⟨(w.ae.length:Int)+1,w.now,1,ar,⟨0,0⟩⟩
 refine⟨(Cs w (pA w ar aX ax ab ec aK) d,(w.ae.length:Int)+1,ZC),?_,.inr ⟨aK,d,ec,e2,Bv,q1,rfl,c2,My⟩⟩;rw[Bv];simp only[VE,VK,YD,vD,q1,hct,nG];unfold pA at ha hsi⊢
 rw[ha];simp only[VE];rw[hsi];rfl
theorem xS{α:Type}[DecidableEq α]:∀{xs ys:List α},xs.Nodup->(∀x∈xs,x∈ys)->xs.length<=ys.length
 | [],ys,_,_=>Nat.zero_le _
 |x::xs,ys,hn,hs=>by
  obtain⟨h1,h2⟩:=Yk.1 hn;have hx:=hs x YJ;have:=xS (ys:=ys.erase x) h2 λy hy=>(List.mem_erase_of_ne (λe:y=x=>h1 (e▸hy))).2 (hs y (by simp[hy]))
  rw[List.length_erase_of_mem hx]at this
  have:=List.length_pos_of_mem hx;simp only[VL];omega
theorem ZaF{α:Type}(f:α->Nat):∀{l:List α} {i:Nat} {o:α} (x:α),l[i]?=ZA o->((l.set i x).map f).sum+f o=(l.map f).sum+f x
 | [],_,_,_,h=>by simp at h
 |a::l,0,o,x,h=>by
  obtain rfl:a=o:=by simpa using h
  simp only[List.set_cons_zero,Wh,WB];omega
 |a::l,i+1,o,x,h=>by
  have:=ZaF f x (l:=l) (i:=i) (o:=o) Zl;simp only[List.set_cons_succ,Wh,WB];omega
theorem L3:∀(os:List ay) (a:Nat),(∀o∈os,o.aK.length<=1048576)->a+1048576*os.length<=1099511627776->os.foldl (λa (o:ay)=>aH (a+(o.aK.length:Int))) (a:Int)=((a+(os.map λo=>o.aK.length).sum:Nat):Int)
 | [],a,_,_=>by simp
 |o::os,a,h,hb=>by
  have h1:=h o YJ;simp only[VL]at hb
  rw[Wj,aL YG,show((a:Int)+(o.aK.length:Int))=((a+o.aK.length:Nat):Int)by omega,L3 os _ (λx hx=>h x (by simp[hx])) YG]
  simp only[Wh,WB];omega
/-! Zrg in two parts. -/
section
variable {n:ak}
def SI(n:ak)(p:ByteArray)(ts:List aw):ByteArray:=ts.foldl (λ_ t=>cd n t) p
def Zbv(n:ak)(a:Int)(ts:List aw):Int:=ts.foldl (λ_ t=>dm n t+n.change) a
theorem Eh:∀(xs:List aw) {ys:List aw} {p:ByteArray} {a:Int},iM n p a (xs++ys)↔iM n p a xs/\iM n (SI n p xs) (Zbv n a xs) ys
 | [],ys,p,a=>by simp[iM,SI,Zbv]
 |x::xs,ys,p,a=>by
  have:=Eh xs (ys:=ys) (p:=cd n x) (a:=dm n x+n.change);simp only[W7,iM,SI,Zbv,Wj]at this⊢
  rw[this];constructor
  ·rintro⟨h1,h2,h3,h4,h5⟩;exact⟨⟨h1,h2,h3,h4⟩,h5⟩
  ·rintro⟨⟨h1,h2,h3,h4⟩,h5⟩;exact⟨h1,h2,h3,h4,h5⟩
theorem Mj{a b:Int}(h:iM n p a ts)(IJ:b<=a):iM n p b ts:=by
 cases ts with
 |nil=>trivial
 |cons t ts=>exact⟨h.1,h.2.1,Int.le_trans IJ h.2.2.1,h.2.2.2⟩
variable (hf:cR n) (hn:ba n=ZA ZC)
include hf hn
theorem Ii:∀{ts:List aw} {p:ByteArray} {a:Int},iM n p a ts->∀t∈ts,a<=cE n t
 |x::ts,p,a,h,t,ht=>by
  rcases VM.1 ht with rfl|ht
  ·exact h.2.2.1
  ·obtain⟨t1,t2,t3,t4,t5⟩:=cT hf hn h.1
   obtain⟨c0,c1⟩:=jJ hn;have:=Ii h.2.2.2 t ht;have:=h.2.2.1;omega
theorem Ij:∀{ts:List aw} {p:ByteArray} {a:Int},iM n p a ts->ts.Pairwise λx y=>cE n x<cE n y
 | [],_,_,_=>Xx
 |x::ts,p,a,h=>by
  obtain⟨t1,t2,t3,t4,t5⟩:=cT hf hn h.1;obtain⟨c0,c1⟩:=jJ hn;refine W9.2 ⟨λy hy=>?_,Ij h.2.2.2⟩
  have:=Ii hf hn h.2.2.2 y hy;omega
theorem zk{a:Int}(h:iM n p a ts):ts.Nodup:=by
 unfold Xt;exact(Ij hf hn h).imp λ{a b} bO e=>by rw[e]at bO;omega
theorem ZfM(hp:0<=bd (ao n) p)(h:∀t∈ts,fw n t=ZC):0<=bd (ao n) (SI n p ts):=by
 induction ts generalizing p with
 |nil=>exact hp
 |cons t ts ih=>
  obtain⟨y,hy,hym⟩:=fh hf (h t YJ);have e:cd n t=y.aX:=by unfold cd;rw[hy];rfl
  have:=ih (p:=cd n t) (by rw[e];exact nP (ui hym).2) λx hx=>h x (by simp[hx])
  exact this
end
theorem Zk0{l:List ByteArray}(h:0<=bd l p):p∈l:=by
 unfold bd at h
 cases hx:l.findIdx? λy=>ZE (y=p)with
 |none=>rw[hx]at h;simp at h
 |some k=>
  obtain⟨h1,h2,_⟩:=List.findIdx?_eq_some_iff_getElem.1 hx;exact YA h2▸Wd h1
theorem xB{n:ak}{p:ByteArray}:∀{ts:List aw} {t:aw},ts.getLast?=ZA t->SI n p ts=cd n t
 | [],_,h=>by simp at h
 | [x],t,h=>by obtain rfl:x=t:=by simpa using h
               rfl
 |x::y::ts,t,h=>by
  have:=xB (n:=n) (p:=cd n x) (ts:=y::ts) (t:=t) Zl;exact this
theorem KU{n:ak}{a:Int}:∀{ts:List aw} {t:aw},ts.getLast?=ZA t->Zbv n a ts=dm n t+n.change
 | [],_,h=>by simp at h
 | [x],t,h=>by obtain rfl:x=t:=by simpa using h
               rfl
 |x::y::ts,t,h=>by
  have:=KU (n:=n) (a:=dm n x+n.change) (ts:=y::ts) (t:=t) Zl;exact this
theorem getLast_take{l:List α}(h0:0<k)(h1:k<=l.length):(l.take k).getLast?=l[k-1]?:=by
 rw[Xz,V3,Nat.min_eq_left h1,WT,if_pos YG]
/-! Zdb of Zrd ZA are dropped. -/
def pF(id:Int)(rest:List aw)(bs:List aj):List aj:=bs.filter λb=>!(ZE (b.bo=id)&&cD rest b.aV)
theorem jo{l:List aw}{t:aw}:cD l t=ZC↔t∈l:=by
 unfold cD;rw[WL];exact⟨λ⟨x,h1,h2⟩=>YA h2▸h1,λh=>⟨t,h,Yp rfl⟩⟩
theorem Lo{id:Int}:b∈pF id rest bs↔b∈bs/\¬(b.bo=id/\b.aV∈rest):=by
 unfold pF;rw[Xk];simp only[V7,Xd,YE,not_and];refine and_congr_right λ_=>⟨λh h1 h2=>?_,λh h1=>?_⟩
 ·have:=h h1;rw[jo.2 h2]at this;cases this
 ·cases hc:cD rest b.aV with
  |false=>rfl
  |true=>exact absurd (jo.1 hc) (h h1)
theorem Zbu(id:Int)(bs:List aj):pF id [] bs=bs:=by
 unfold pF;exact List.filter_eq_self.2 λb _=>by simp[cD]
theorem ZbZ(h:l'.Sublist l)(hw:∀b∈l,1<=b.ab/\b.ab<=1000000)(t:aw):uX l' t<=uX l t:=by
 induction h with
 |slnil=>exact Wp _
 |cons a h ih=>
  have:=ih λb hb=>hw b (by simp[hb])
  have:=hw a YJ;unfold uX at *
  simp only[Wh,WB]
  split<;>omega
 |cons_cons a h ih=>
  have:=ih λb hb=>hw b (by simp[hb])
  unfold uX at *
  simp only[Wh,WB];omega
theorem Ee{n:ak}(hf:cR n)(hb:cb n l=ZC)(hs:l'.Sublist l):cb n l'=true:=by
 obtain⟨hn,hl⟩:=dy hb;have AY:=hs.length_le;have hw:∀b∈l,1<=b.ab/\b.ab<=1000000:=λb hm=>by
  obtain⟨i,hi,rfl⟩:=V2 hm;have h1:=(CA hb hi).1;unfold UX at h1
  rw[VF hi]at h1
  simp only[VN,YE]at h1
  exact h1.1.2
 have hp:l'.Pairwise λa b=>qt a b=true:=by
  refine Xi hs ?_;exact Wm.2 λi j hi hj C9=>vJ hb j i hj C9
 unfold cb;rw[hn];simp only[Ww,WN,VN,YE];refine⟨YG,VS.2 λi hi=>?_⟩
 have lS:i<l'.length:=List.mem_range.1 hi;obtain⟨j,hj,hje⟩:=V2 (hs.subset (Wd lS));obtain⟨b1,b2⟩:=CA hb hj;unfold UX at b1
 unfold bk2 at b2
 rw[VF hj,hje]at b1 b2
 simp only[VN]at b1⊢
 constructor
 ·unfold UX
  rw[VF lS];simp only[VN];refine⟨b1.1,?_⟩
  cases i with
  |zero=>rfl
  |succ i=>
   have yT:i<l'.length:=YG;have:=Wm.1 hp i (i+1) yT lS YG;rw[show i+1-1=i by omega,VF yT]
   simp only[this,Bool.or_true]
 ·unfold bk2
  rw[VF lS];have hw':∀b∈l',1<=b.ab/\b.ab<=1000000:=λb hb=>hw b (hs.subset hb)
  simp only[Zfh (show l.length<=1000 by omega) hw]at b2
  simp only[Zfh (show l'.length<=1000 by omega) hw']
  cases hg:aA n.aB l'[i].aV.bG with
  |none=>rw[hg]at b2;cases b2
  |some g=>
   rw[hg]at b2
   simp only[V7,YF]at b2⊢
   have:=ZbZ hs hw l'[i].aV;omega
theorem xz(id:Int)(rest:List aw)(bs:List aj):(pF id rest bs).Sublist bs:=List.filter_sublist
theorem OJ{n:ak}(hb:cb n l=ZC):l.Nodup:=by
 unfold Xt;refine Wm.2 λi j hi hj C9 e=>?_
 have:=vJ hb j i hj C9;rw[HK (by rw[e]) (by rw[e])]at this
 cases this
theorem Zbt{n:ak}(hb:cb n l=ZC){id wt:Int}(hr:rest.Nodup)(hm:∀t∈rest,(⟨id,t,wt⟩:aj)∈l):(pF id rest l).length+rest.length=l.length:=by
 have hu:=H6 hb;have e:=List.length_eq_countP_add_countP (p:=λb:aj=>ZE (b.bo=id)&&cD rest b.aV) (l:=l)
 have e2:l.countP (λb=>ZE ¬(ZE (b.bo=id)&&cD rest b.aV)=ZC)=(pF id rest l).length:=by
  rw[Yl];unfold pF
  congr 2
  funext b
  cases ZE (b.bo=id)&&cD rest b.aV<;>rfl
 have e3:l.countP (λb:aj=>ZE (b.bo=id)&&cD rest b.aV)=rest.length:=by
  rw[Yl];refine Nat.le_antisymm ?_ ?_
  ·have el:((l.filter λb=>ZE (b.bo=id)&&cD rest b.aV).map λb:aj=>b.aV).length=(l.filter λb=>ZE (b.bo=id)&&cD rest b.aV).length:=VX ..
   rw[<-el];refine xS ?_ λt ht=>?_
   ·unfold Xt
    rw[WZ];refine(Xi List.filter_sublist (OJ hb)).imp_of_mem λ{a b} ha GQ dX e=>dX ?_
    have ha:=Xk.1 ha;have GQ:=Xk.1 GQ;simp only[VN,YE]at ha GQ
    exact hu a ha.1 b GQ.1 (ha.2.1.trans GQ.2.1.symm) e
   ·obtain⟨b,uQ,rfl⟩:=V6.1 ht
    have:=(Xk.1 uQ).2;simp only[VN]at this
    exact jo.1 this.2
  ·have el:(rest.map λt=>(⟨id,t,wt⟩:aj)).length=rest.length:=VX ..
   rw[<-el];refine xS ?_ λb uQ=>?_
   ·unfold Xt
    rw[WZ];exact hr.imp λ{a b} dX e=>dX (by simpa using e)
   ·obtain⟨t,ht,rfl⟩:=V6.1 uQ
    refine Xk.2 ⟨hm t ht,?_⟩;simp only[decide_true,WN];exact jo.2 ht
 rw[e3]at e
 have e':l.length=rest.length+l.countP (λb=>ZE ¬(ZE (b.bo=id)&&cD rest b.aV)=ZC):=e
 rw[e2]at e'
 omega
def jv(w:ak)(o:ay):Option ByteArray:=
 cond (ZE (o.state=2))
 ((aA o.aK o.aN).bind λy1=>
 (aA w.aB y1.bG).bind λy2=>
 ZA y2.aX)
 (ZA o.place)
instance (w:ak)(o:ay):CT prog (jv w o):=⟨279,[.ag [.sl (w.aB.map br),.sl (w.off.map aI),vi w.change,.un,.un,.un,.un,.un,.un,.un],.ag (aY o)],[],λr=>vs r,λr=>[],cw (jv.eq_1 ..) func279 ntmps279 results279⟩
def ig(w:az)(id:Int)(y2:Int)(s0:Int×(List aj)):Option ((Int×(List aj))⊕(List aj)):=
 cond (ZE (s0.1<(w.aq.length:Int)))
 ((aA w.aq s0.1).bind λy3=>
 cond (!decide (y3.bo=id))
 ((dg (bB ((s0.2:List aj).length+([y3]:List aj).length) 32)).bind λ_=>
 ZA (.inl ((aH (s0.1+1)),((s0.2:List aj)++[y3]))))
 ((A9 w.ae (aH (id-1))).bind λy4=>
 (dg (iC y2 (y4.aK.length:Int) y4.aK.length)).bind λ_=>
 (eF (cZ y4.aK y2 (y4.aK.length:Int)) y3.aV).bind λy5=>
 cond (!y5)
 ((dg (bB ((s0.2:List aj).length+([y3]:List aj).length) 32)).bind λ_=>
 ZA (.inl ((aH (s0.1+1)),((s0.2:List aj)++[y3]))))
 (ZA (.inl ((aH (s0.1+1)),s0.2)))))
 (ZA (.inr s0.2))
instance (w:az)(id:Int)(y2:Int):bj (ig w id y2):=⟨λs0=>(.be 0 0 0::vi id::.un::.un::.be 3 (V0 (aH (id-1))) 0::vi y2::.ms 8::(U 22 (.ms 4::vi (w.aq.length:Int)::vi s0.1::(U 132 [])))),λs0=>[ZA ⟨.of 33,10,[[.ms 1,.ms 2,vi w.aa.change,.ms 3,.ms 4,.ms 5,vi w.now,.ms 6,.ms 7,vi w.aT]]⟩,ZA ⟨.of 174,6,w.aa.aB.map br⟩,ZA ⟨.of 3,1,w.aa.off.map aI⟩,ZA ⟨⟨155,ZA 46⟩,11,w.ae.map aY⟩,ZA ⟨.of 177,4,w.aq.map aC⟩,ZA ⟨.of 46,2,w.ah.map aS⟩,ZA ⟨.of 181,6,w.aJ.map bt⟩,ZA ⟨.of 3,1,w.skip.map aI⟩,ZA ⟨.of 177,4,s0.2.map aC⟩]⟩
def eT(w:az)(id:Int):Option az:=
 (aA w.ae (aH (id-1))).bind λy1=>
 (gG y1).bind λy2=>
 (aD (ig w id y2) NN (0,([]:List aj))).bind (λo0=>
 (A9 w.ae (aH (id-1))).bind λy6=>
 (dg (iC 0 y2 y6.aK.length)).bind λ_=>
 (eR (cZ y6.aK 0 y2)).bind λy7=>
 (A9 w.ae (aH (id-1))).bind λy8=>
 cond (ZE (0<y2))
 ((aA y7 (aH (y2-1))).bind λy9=>
 (cY w.aa y9).bind λeE=>
 (A9 w.ae (aH (id-1))).bind λoq=>
 (jv w.aa (⟨y8.ar,y8.aX,y8.ax,y8.ab,y8.aO,y8.ec,y7,y8.aN,y8.state,y8.place,y8.bK⟩:ay)).bind λsj=>
 (A9 w.ae (aH (id-1))).bind λre=>
 (iw w.aa o0 w.ah sj y8.aX (if(aH (eE+w.aa.change)) > (aH (w.now+1))then(aH (eE+w.aa.change))else(aH (w.now+1))) y8.ab).bind λpx=>
 cond (!px.2)
 (ZA (⟨w.aa,(w.ae.set (V0 (aH (id-1))) (⟨y8.ar,y8.aX,y8.ax,y8.ab,y8.aO,y8.ec,y7,y8.aN,y8.state,y8.place,y8.bK⟩:ay)),o0,w.ah,w.now,w.aJ,w.skip,w.aT⟩:az))
 ((A9 w.ae (aH (id-1))).bind λtl=>
 (fk w.aa o0 id y8.ab px.1).bind λsB=>
 cond sB.2
 ((A9 w.ae (aH (id-1))).bind λxr=>
 (dg (bB ((y7:List aw).length+(px.1:List aw).length) 16)).bind λ_=>
 ZA (⟨w.aa,(w.ae.set (V0 (aH (id-1))) (⟨y8.ar,y8.aX,y8.ax,y8.ab,y8.aO,y8.ec,((y7:List aw)++px.1),y8.aN,y8.state,y8.place,y8.bK⟩:ay)),sB.1,w.ah,w.now,w.aJ,w.skip,w.aT⟩:az))
 (ZA (⟨w.aa,(w.ae.set (V0 (aH (id-1))) (⟨y8.ar,y8.aX,y8.ax,y8.ab,y8.aO,y8.ec,y7,y8.aN,y8.state,y8.place,y8.bK⟩:ay)),o0,w.ah,w.now,w.aJ,w.skip,w.aT⟩:az))))
 ((jv w.aa (⟨y8.ar,y8.aX,y8.ax,y8.ab,y8.aO,y8.ec,y7,y8.aN,y8.state,y8.place,y8.bK⟩:ay)).bind λF1=>
 (A9 w.ae (aH (id-1))).bind λJ2=>
 (iw w.aa o0 w.ah F1 y8.aX (aH (w.now+1)) y8.ab).bind λy20=>
 cond (!y20.2)
 (ZA (⟨w.aa,(w.ae.set (V0 (aH (id-1))) (⟨y8.ar,y8.aX,y8.ax,y8.ab,y8.aO,y8.ec,y7,y8.aN,y8.state,y8.place,y8.bK⟩:ay)),o0,w.ah,w.now,w.aJ,w.skip,w.aT⟩:az))
 ((A9 w.ae (aH (id-1))).bind λy21=>
 (fk w.aa o0 id y8.ab y20.1).bind λUI=>
 cond UI.2
 ((A9 w.ae (aH (id-1))).bind λy23=>
 (dg (bB ((y7:List aw).length+(y20.1:List aw).length) 16)).bind λ_=>
 ZA (⟨w.aa,(w.ae.set (V0 (aH (id-1))) (⟨y8.ar,y8.aX,y8.ax,y8.ab,y8.aO,y8.ec,((y7:List aw)++y20.1),y8.aN,y8.state,y8.place,y8.bK⟩:ay)),UI.1,w.ah,w.now,w.aJ,w.skip,w.aT⟩:az))
 (ZA (⟨w.aa,(w.ae.set (V0 (aH (id-1))) (⟨y8.ar,y8.aX,y8.ax,y8.ab,y8.aO,y8.ec,y7,y8.aN,y8.state,y8.place,y8.bK⟩:ay)),o0,w.ah,w.now,w.aJ,w.skip,w.aT⟩:az)))))
instance (w:az)(id:Int):CT prog (eT w id):=⟨212,[.be 0 0 0,vi id],[ZA ⟨.of 33,10,[[.ms 1,.ms 2,vi w.aa.change,.ms 3,.ms 4,.ms 5,vi w.now,.ms 6,.ms 7,vi w.aT]]⟩,ZA ⟨.of 174,6,w.aa.aB.map br⟩,ZA ⟨.of 3,1,w.aa.off.map aI⟩,ZA ⟨⟨155,ZA 46⟩,11,w.ae.map aY⟩,ZA ⟨.of 177,4,w.aq.map aC⟩,ZA ⟨.of 46,2,w.ah.map aS⟩,ZA ⟨.of 181,6,w.aJ.map bt⟩,ZA ⟨.of 3,1,w.skip.map aI⟩],λr=>.tu [],λr=>[ZA ⟨.of 33,10,[[.ms 1,.ms 2,vi r.aa.change,.ms 3,.ms 8,.ms 5,vi r.now,.ms 6,.ms 7,vi r.aT]]⟩,ZA ⟨.of 174,6,r.aa.aB.map br⟩,ZA ⟨.of 3,1,r.aa.off.map aI⟩,ZA ⟨⟨155,ZA 46⟩,11,r.ae.map aY⟩,ZB,ZA ⟨.of 46,2,r.ah.map aS⟩,ZA ⟨.of 181,6,r.aJ.map bt⟩,ZA ⟨.of 3,1,r.skip.map aI⟩,ZA ⟨.of 177,4,r.aq.map aC⟩],ck (eT.eq_1 ..) func212 ntmps212 results212⟩
def fJ(n:ak)(o:ay):ByteArray:=if o.state=2 then((o.aK[o.aN.toNat]?).map (cd n)).getD ⟨#[]⟩else o.place
def bS(o:ay):List aw:=o.aK.take (bl o).toNat
def lG(o:ay):List aw:=o.aK.drop (bl o).toNat
def atR(n:ak)(now:Int)(o:ay):Int:=match(bS o).getLast? with
 |some t=>if dm n t+n.change > now+1 then dm n t+n.change else now+1
 |none=>now+1
def fX(w:az)(i:Nat)(o:ay):List aj:=pF ((i+1:Nat):Int) (lG o) w.aq
def eM(o:ay)(ts:List aw):ay:=⟨o.ar,o.aX,o.ax,o.ab,o.aO,o.ec,ts,o.aN,o.state,o.place,o.bK⟩
def zI(w:az)(i:Nat)(o:ay)(ts:List aw)(bs:List aj):az:=⟨w.aa,w.ae.set i (eM o ts),bs,w.ah,w.now,w.aJ,w.skip,w.aT⟩
def Zdf(w:az)(i:Nat)(o:ay):Prop:=(∃x,bN w.aa (fX w i o) w.ah (fJ w.aa o) o.aX (atR w.aa w.now o) o.ab=ZA (x,ZD))\/
 ∃aK,bN w.aa (fX w i o) w.ah (fJ w.aa o) o.aX (atR w.aa w.now o) o.ab=ZA (aK,ZC)/\cg w.aa (fX w i o) ((i+1:Nat):Int) o.ab aK=ZA (fX w i o,ZD)
structure Zde(w:az)(i:Nat)(o:ay)(aK:List aw)(bs:List aj):Prop where
 jl:bN w.aa (fX w i o) w.ah (fJ w.aa o) o.aX (atR w.aa w.now o) o.ab=ZA (aK,ZC)
 book:cg w.aa (fX w i o) ((i+1:Nat):Int) o.ab aK=ZA (bs,ZC)
 RS:ZgN w.aa (fX w i o) w.ah o.ab (fJ w.aa o) o.aX (atR w.aa w.now o) aK
 perm:bs.Perm (fX w i o++gz ((i+1:Nat):Int) o.ab aK)
 my:cb w.aa bs=ZC
def yd(w:az)(i:Nat)(o:ay)(w':az):Prop:=(Zdf w i o/\w'=zI w i o (bS o) (fX w i o))\/∃aK bs,Zde w i o aK bs/\w'=zI w i o (bS o++aK) bs
section
variable {w:az} {i:Nat} {o:ay}
theorem ZbX(hb:w.aq.length<=1000)(ho:aA w.ae (i:Int)=ZA o)(hl:o.aK.length<=1048576)(hi:i<=1000){k:Int}(hk:0<=k/\k<=o.aK.length):
 aD (ig w ((i+1:Nat):Int) k) NN (0,[])=ZA (pF ((i+1:Nat):Int) (o.aK.drop k.toNat) w.aq):=by
 have hid:aH (((i+1:Nat):Int)-1)=(i:Int):=by rw[aL YG];omega
 have Ez:cZ o.aK k (o.aK.length:Int)=o.aK.drop k.toNat:=by
  unfold cZ;rw[Xa (by rw[WH];omega)]
 have D2:dg (iC k (o.aK.length:Int) o.aK.length)=ZA ():=pD (by unfold iC;exact Yp ⟨hk.1,hk.2,Wp _⟩)
 refine oz (body:=ig w ((i+1:Nat):Int) k) (λj:Nat=>((j:Int),pF ((i+1:Nat):Int) (o.aK.drop k.toNat) (w.aq.take j))) (n:=w.aq.length) (λj hj=>?_) ?_ NN YI
 ·have hg:aA w.aq (j:Int)=ZA w.aq[j]:=by rw[aQ];exact VF hj
  have hw:aH ((j:Int)+1)=((j+1:Nat):Int):=bI hj YG;have SP:(pF ((i+1:Nat):Int) (o.aK.drop k.toNat) (w.aq.take j)).length<=1000:=Wb (List.length_filter_le _ _) Zg;have ha:dg (bB ((pF ((i+1:Nat):Int) (o.aK.drop k.toNat) (w.aq.take j)).length+([w.aq[j]]:List aj).length) 32)=ZA ():=eK YY YG;have hs:pF ((i+1:Nat):Int) (o.aK.drop k.toNat) (w.aq.take (j+1))=pF ((i+1:Nat):Int) (o.aK.drop k.toNat) (w.aq.take j)++(if(ZE (w.aq[j].bo=((i+1:Nat):Int))&&cD (o.aK.drop k.toNat) w.aq[j].aV)=ZC then []else [w.aq[j]]):=by
   unfold pF;rw[WI hj,List.filter_append];simp only[List.filter_cons,List.filter_nil]
   cases ZE (w.aq[j].bo=((i+1:Nat):Int))&&cD (o.aK.drop k.toNat) w.aq[j].aV<;>rfl
  unfold ig;simp only[Yp (show(j:Int)<w.aq.length by omega),YC,hg,VE,hw,ha]
  rw[hs]
  by_cases h:w.aq[j].bo=((i+1:Nat):Int)
  ·rw[Yp h]
   simp only[VK,YD,A9,hid,ho,VE,D2,Ez,gh (show(o.aK.drop k.toNat).length<=1048576 by rw[WH];omega),WN]
   have e:((o.aK.drop k.toNat).any λy=>ZE (y=w.aq[j].aV))=cD (o.aK.drop k.toNat) w.aq[j].aV:=rfl
   rw[e]
   cases cD (o.aK.drop k.toNat) w.aq[j].aV with
   |true=>simp
   |false=>rfl
  ·rw[Yz h];rfl
 ·unfold ig
  simp[WA]
variable (hf:wH w) (hn:ba w.aa=ZA ZC) (hb:cb w.aa w.aq=ZC) (IS:0<=w.now/\w.now<=100000) (hi:i<=1000)
 (ho:w.ae[i]?=ZA o) (hg:0<=o.aN/\o.aN<=o.aK.length) (h2:o.state=2->o.aN<o.aK.length) (ht:∀t∈o.aK,fw w.aa t=ZC) (PO:o.aK.length<=1000)
include hf hn hb IS hi ho hg h2 ht PO
theorem ZiO:∃w',eT w ((i+1:Nat):Int)=ZA w'/\yd w i o w':=by
 have hl:=hf.aK o (VI ho);obtain⟨_,CX⟩:=dy hb;obtain⟨c0,c1⟩:=jJ hn;have hoi:aA w.ae (i:Int)=ZA o:=by rw[aQ];exact ho
 have hid:aH (((i+1:Nat):Int)-1)=(i:Int):=by rw[aL YG];omega
 have hk:0<=bl o/\bl o<=o.aK.length:=by
  unfold bl
  by_cases h:o.state=2
  ·rw[if_pos h];have:=h2 h;omega
  ·rw[if_neg h];exact hg
 have K7:gG o=ZA (bl o):=by
  rw[(wQ hg hl).2.2,if_neg YG]
 have hkl:(bS o).length=(bl o).toNat:=by unfold bS;rw[V3];omega
 have Ez:cZ o.aK 0 (bl o)=bS o:=by unfold cZ bS;simp
 have D2:dg (iC 0 (bl o) o.aK.length)=ZA ():=pD (by unfold iC;exact Yp ⟨Wp _,hk.1,hk.2⟩)
 have hct:eR (bS o)=ZA (bS o):=wR YG;have Df:aH (w.now+1)=w.now+1:=aL YG;have AY:(fX w i o).length<=120:=Wb (xz _ _ _).length_le CX;have vE:=Ee hf.fv hb (xz ((i+1:Nat):Int) (lG o) w.aq);have Fq:jv w.aa (eM o (bS o))=ZA (fJ w.aa o):=by
  have e0:jv w.aa (eM o (bS o))=cond (ZE (o.state=2)) ((aA (bS o) o.aN).bind λy1=>(aA w.aa.aB y1.bG).bind λy2=>ZA y2.aX) (ZA o.place):=rfl
  rw[e0];unfold fJ
  by_cases h:o.state=2
  ·have h3:=h2 h
   have GS:o.aN.toNat<o.aK.length:=YG;have e1:aA (bS o) o.aN=ZA o.aK[o.aN.toNat]:=by
    unfold aA bS bl;rw[if_pos hg.1,if_pos h,WT,if_pos YG];exact VF GS
   obtain⟨y,hy,_⟩:=fh hf.fv (ht _ (Wd GS));rw[Yp h,YC,e1,VE,hy,VE,if_pos h,VF GS,Wo,Ww];unfold cd;rw[hy];rfl
  ·rw[Yz h,YD,if_neg h]
 obtain⟨⟨aK,b⟩,e1,e2⟩:=ug hf.fv (l:=fX w i o) YG hf.ah (fJ w.aa o) o.aX (atR w.aa w.now o) o.ab
 -- RT follows when the aK was looked for
 have tail:∀a,a=atR w.aa w.now o->∃w',((iw w.aa (fX w i o) w.ah (fJ w.aa o) o.aX a o.ab).bind λpx=>
  cond (!px.2) (ZA (zI w i o (bS o) (fX w i o)))
  ((A9 w.ae (aH (((i+1:Nat):Int)-1))).bind λtl=>
  (fk w.aa (fX w i o) ((i+1:Nat):Int) o.ab px.1).bind λsB=>
  cond sB.2
  ((A9 w.ae (aH (((i+1:Nat):Int)-1))).bind λxr=>
  (dg (bB (((bS o):List aw).length+(px.1:List aw).length) 16)).bind λ_=>
  ZA (zI w i o (bS o++px.1) sB.1))
  (ZA (zI w i o (bS o) (fX w i o)))))=ZA w'/\yd w i o w':=by
  rintro a rfl;rw[e1,VE]
  cases b with
  |false=>exact⟨_,rfl,.inl ⟨.inl ⟨aK,e2⟩,rfl⟩⟩
  |true=>
  have hR:=tV hf.fv (show(fX w i o).length<=1048576 by omega) hf.ah e2
  have hlen:=hR.len;have D0:(gz ((i+1:Nat):Int) o.ab aK).length=aK.length:=by unfold gz;rw[VX]
  obtain⟨d,d1,d2⟩:=N1 (fX w i o++gz ((i+1:Nat):Int) o.ab aK) (by rw[VV,D0];omega)
  have Kb:fk w.aa (fX w i o) ((i+1:Nat):Int) o.ab aK=cg w.aa (fX w i o) ((i+1:Nat):Int) o.ab aK:=by
   unfold fk;rw[if_pos ⟨IA.2 hf.fv,YG,YG⟩]
  have Bv:=xv hf.fv (show(fX w i o).length<=1048000 by omega) ((i+1:Nat):Int) o.ab d1 d2
  simp only[VK,YD,A9,hid,hoi,VE];rw[Kb]
  by_cases hbd:cb w.aa d=ZC
  ·rw[if_pos ⟨vE,hlen,hbd⟩]at Bv
   have ha:dg (bB ((bS o).length+aK.length) 16)=ZA ():=eK YG YG;exact⟨_,by rw[Bv];simp only[VE,YC,ha],.inr ⟨aK,d,⟨e2,Bv,hR,d1,hbd⟩,rfl⟩⟩
  ·rw[if_neg (λhx=>hbd hx.2.2)]at Bv
   exact⟨_,by rw[Bv];rfl,.inl ⟨.inr ⟨aK,e2,Bv⟩,rfl⟩⟩
 unfold eT;simp only[A9,hid,hoi,VE,K7,ZbX (show w.aq.length<=1000 by omega) hoi hl hi hk,D2,Ez,hct]
 have hdl:pF ((i+1:Nat):Int) (List.drop (bl o).toNat o.aK) w.aq=fX w i o:=rfl;rw[hdl]
 by_cases h0:0<bl o
 ·have hkt:(bl o).toNat-1<o.aK.length:=YG
  have uC:(bS o).getLast?=ZA o.aK[(bl o).toNat-1]:=by
   unfold bS;rw[getLast_take YG YG];exact VF hkt
  have hgk:aA (bS o) (aH (bl o-1))=ZA o.aK[(bl o).toNat-1]:=by
   rw[aL YG];unfold aA bS;rw[if_pos YG,WT,if_pos YG,show(bl o-1).toNat=(bl o).toNat-1 by omega]
   exact VF hkt
  obtain⟨t1,t2,t3,t4,t5⟩:=cT hf.fv hn (ht _ (Wd hkt));have he:cY w.aa o.aK[(bl o).toNat-1]=ZA (dm w.aa o.aK[(bl o).toNat-1]):=by rw[vh];exact t2
  have hwe:aH (dm w.aa o.aK[(bl o).toNat-1]+w.aa.change)=dm w.aa o.aK[(bl o).toNat-1]+w.aa.change:=aL YG;have Zev:(if dm w.aa o.aK[(bl o).toNat-1]+w.aa.change > w.now+1 then dm w.aa o.aK[(bl o).toNat-1]+w.aa.change else w.now+1)=atR w.aa w.now o:=by
   unfold atR;rw[uC]
  rw[Yp h0,YC,hgk];simp only[VE,he,Df,hwe];have Zky:jv w.aa ⟨o.ar,o.aX,o.ax,o.ab,o.aO,o.ec,bS o,o.aN,o.state,o.place,o.bK⟩=ZA (fJ w.aa o):=Fq;rw[Zky,VE];obtain⟨w',q1,q2⟩:=tail _ Zev;refine⟨w',?_,q2⟩;rw[<-q1];simp only[A9,hid,hoi,VE,zI,eM,We]
 ·have uC:(bS o).getLast?=none:=by
   unfold bS;rw[show(bl o).toNat=0 by omega];rfl
  have Zev:w.now+1=atR w.aa w.now o:=by unfold atR;rw[uC]
  rw[Yz h0,YD];have Zky:jv w.aa ⟨o.ar,o.aX,o.ax,o.ab,o.aO,o.ec,bS o,o.aN,o.state,o.place,o.bK⟩=ZA (fJ w.aa o):=Fq;rw[Zky,VE,Df];obtain⟨w',q1,q2⟩:=tail _ Zev;refine⟨w',?_,q2⟩;rw[<-q1];simp only[A9,hid,hoi,VE,zI,eM,We]
end
def zM(n:ak)(bs:List aj)(cl:List aw)(now:Int)(i:Nat)(o:ay):Bool:=jd ⟨n,[],bs,cl,now,[],[],0⟩ i o
theorem Zcn(w:az)(i:Nat)(o:ay):jd w i o=zM w.aa w.aq w.ah w.now i o:=rfl
structure yX(w:az)(c:Nat->List aw):Prop where
 fit:wH w
 my:cb w.aa w.aq=ZC
 now:0<=w.now/\w.now<=100000
 Qx:w.ae.length<=30
 ord:∀(i:Nat) (o:ay),w.ae[i]?=ZA o->zM w.aa w.aq (c i) w.now i o=ZC
 sum:(w.ae.map λo=>o.aK.length).sum=w.aq.length
 cl:∀i,(c i).length<=1048576
theorem Zfd{α:Type}(f:α->Nat):∀{l:List α} {x:α},x∈l->f x<=(l.map f).sum
 |a::l,x,h=>by
  simp only[Wh,WB]
  rcases VM.1 h with rfl|h
  ·omega
  ·have:=Zfd f h;omega
theorem ZaP{w:az}(hf:wH w)(ho:w.ae.length<=1000):E6 w=((w.ae.map λo=>o.aK.length).sum:Nat):=by
 have:=L3 w.ae 0 hf.aK YG;rw[VY]at this
 exact this
structure Hr(w:az):Prop where
 ah:w.ah.length<=20
 aJ:w.aJ.length<=200
 skip:w.skip.length<=50
 aT:w.aJ.length<=w.aT/\w.aT<=1000000000
 cl:allI (vf w) 0 w.ah=ZC
 sc:allI (By w) 0 w.aJ=ZC
theorem F0{w:az}(h:tC w):yX w (λ_=>w.ah)/\Hr w:=by
 obtain⟨p1,p2,p3,p4,p5,p6,p7⟩:=h.parts;have hv:=h.ok;unfold gf at hv
 simp only[VN,V7,YE,YF]at hv
 obtain⟨⟨⟨⟨⟨⟨⟨⟨⟨⟨h1,h2⟩,h3⟩,h4⟩,h5⟩,h6⟩,h7⟩,h8⟩,h9⟩,Ge⟩,K0⟩:=hv;refine⟨⟨h.fit,h1,p1,p2,λi o ho=>?_,?_,λ_=>h.fit.ah⟩,⟨p3,p4,p5,p6,h8,h9⟩⟩
 ·rw[<-Zcn];exact sw h.ok ho
 ·have:=ZaP h.fit YG
  rw[this]at K0
  omega
theorem RX{w:az}(h:yX w (λ_=>w.ah))(k:Hr w):tC w:=by
 refine⟨h.fit,?_⟩;have:=h.Qx;have:=k.ah;have:=k.aJ;have:=k.skip;unfold gf;simp only[VN,V7,YE,YF];refine⟨⟨⟨⟨⟨⟨⟨⟨⟨⟨h.my,h.now⟩,YG⟩,YG⟩,YG⟩,YG⟩,k.aT⟩,k.cl⟩,k.sc⟩,?_⟩,?_⟩
 ·refine cJ.2 λi o ho=>?_
  rw[VY];exact h.ord i o ho
 ·rw[ZaP h.fit YG,h.sum]
structure Zop(n:ak)(bs:List aj)(cl:List aw)(now:Int)(i:Nat)(o:ay):Prop where
 ok:L8 ⟨n,[],bs,cl,now,[],[],0⟩ i o
 chain:iM n o.ar (o.aO+1) o.aK
 st:wN n o now
section
variable {w:az} {c:Nat->List aw} (h:yX w c) {i:Nat} {o:ay} (ho:w.ae[i]?=ZA o)
include h ho
theorem xU:o.aK.length<=120:=by
 have:=Zfd (λo:ay=>o.aK.length) (VI ho)
 have:=(dy h.my).2;have:=h.sum;omega
theorem j2:Zop w.aa w.aq (c i) w.now i o:=by
 have hn:=(dy h.my).1;have hl:=xU h ho;have hO:=Qy (w:=⟨w.aa,[],w.aq,c i,w.now,[],[],0⟩) ⟨h.fit.fv,by simp,h.fit.aq,h.cl i,by simp,by simp,by simp⟩ (i:=i) (o:=o) YG (h.ord i o ho)
 have hw:aH (o.aO+1)=o.aO+1:=by
  have h1:0<=o.aO:=hO.aO.1;have h2:o.aO<=w.now:=hO.aO.2;have:=h.now;rw[aL YG]
 have hc:=FA h.fit.fv hn YG hO.Zjz;rw[hw]at hc
 exact⟨hO,hc,(xY h.fit.fv hn hO.aN YG hO.aV w.now).1 hO.st⟩
theorem oa:0<=bl o/\bl o<=o.aK.length/\(bS o).length=(bl o).toNat/\o.aN<=bl o:=by
 have hO:=(j2 h ho).ok;obtain⟨g0,g1⟩:=hO.aN;have hk:0<=bl o/\bl o<=o.aK.length/\o.aN<=bl o:=by
  unfold bl
  by_cases hs:o.state=2
  ·rw[if_pos hs]
   rcases hO.cases with c1|c1|c1
   ·have:=c1.1;omega
   ·have:=c1.2;omega
   ·have:=c1.1;omega
  ·rw[if_neg hs];omega
 refine⟨hk.1,hk.2.1,?_,hk.2.2⟩;unfold bS;rw[V3];omega
theorem vY:o.aK=bS o++lG o:=(Xs _ _).symm
theorem P9{j:Nat}(hj:j<(bS o).length):(bS o)[j]?=o.aK[j]?:=by
 have:=(oa h ho).2.2.1;unfold bS;rw[WT,if_pos YG]
theorem KV(hs:¬o.state=3):SI w.aa o.ar (bS o)=fJ w.aa o:=by
 have hP:=j2 h ho;obtain⟨k0,k1,k2,k3⟩:=oa h ho;obtain⟨g0,g1⟩:=hP.ok.aN;unfold fJ
 rcases hP.st.cases with⟨s1,s2,s3,s4,s5⟩ |⟨s1,s2,s3,t,t1,t2,t3⟩ |s
 ·rw[if_neg YG,s2]
  unfold tw;have CZ:bl o=o.aN:=by unfold bl;rw[if_neg YG]
  by_cases hg:0<o.aN
  ·have bO:(o.aN-1).toNat<o.aK.length:=YG
   rw[if_pos hg,VF bO];refine xB ?_;unfold bS;rw[CZ,getLast_take YG YG,show o.aN.toNat-1=(o.aN-1).toNat by omega,VF bO]
  ·rw[if_neg hg]
   unfold bS;rw[CZ,show o.aN.toNat=0 by omega];rfl
 ·rw[if_pos s1,t1]
  refine xB ?_;have CZ:bl o=o.aN+1:=by unfold bl;rw[if_pos s1]
  have bO:=(VH.1 t1).1;unfold bS;rw[CZ,getLast_take YG YG,show(o.aN+1).toNat-1=o.aN.toNat by omega,t1]
 ·exact absurd s.1 hs
theorem Va:Zbv w.aa (o.aO+1) (bS o)<=atR w.aa w.now o/\w.now+1<=atR w.aa w.now o/\0<=atR w.aa w.now o:=by
 have hP:=j2 h ho;have IS:=h.now;have h2:o.aO<=w.now:=hP.ok.aO.2;unfold atR
 cases hl:(bS o).getLast? with
 |none=>
  rw[Yw]at hl
  rw[hl];refine⟨?_,?_,?_⟩<;>simp only[Zbv,List.foldl_nil]<;>omega
 |some t=>
  rw[KU hl];simp only
  split<;>omega
theorem Ls{more:List aw}(hs:¬o.state=3)(dX:¬fJ w.aa o=o.aX)
 (uQ:∀t∈bS o,iD bs ((i+1:Nat):Int) t o.ab=ZC) (xj:∀t∈more,iD bs ((i+1:Nat):Int) t o.ab=ZC)
 (hc:iM w.aa (fJ w.aa o) (atR w.aa w.now o) more) (hl:more.length<=20) (PG:more=[]\/(fJ w.aa o::more.map (cd w.aa)).Nodup/\(fJ w.aa o::more.map (cd w.aa)).getLast?=ZA o.aX)
 (Znl:more.any (cD w.ah)=ZD):zM w.aa bs w.ah w.now i (eM o (bS o++more))=true:=by
 have hP:=j2 h ho;have hn:=(dy h.my).1;have hlen:=xU h ho;obtain⟨k0,k1,k2,k3⟩:=oa h ho;obtain⟨g0,g1⟩:=hP.ok.aN;have IS:=h.now;obtain⟨a1,a2,a3⟩:=Va h ho;have hep:=KV h ho hs;have hv:=h.ord i o ho;unfold zM jd at hv⊢
 simp only[VN,V7,YE,YF]at hv⊢
 obtain⟨⟨⟨⟨⟨⟨⟨⟨⟨⟨⟨h1,h2⟩,h3⟩,h4⟩,h5⟩,h6⟩,h7⟩,h8⟩,h9⟩,Ge⟩,K0⟩,K1⟩:=hv;have Oh:iM w.aa o.ar (o.aO+1) (bS o++more):=by
  have:=hP.chain;rw[vY h ho]at this
  refine(Eh _).2 ⟨((Eh _).1 this).1,?_⟩;rw[hep];exact Mj hc a1
 have Vo:=rT Oh;have IN:∀(j:Nat),j<(bS o).length->(bS o++more)[j]?=o.aK[j]?:=λj hj=>by
  rw[Wi hj];exact P9 h ho hj
 refine⟨⟨⟨⟨⟨⟨⟨⟨⟨⟨⟨h1,h2⟩,h3⟩,h4⟩,h5⟩,h6⟩,h7⟩,?_⟩,?_⟩,?_⟩,?_⟩,?_⟩
 ·simp only[eM,VV];omega
 ·refine cJ.2 λj t hj=>?_
  have yr:(bS o++more)[j]?=ZA t:=hj;have htm:=VI yr;unfold ya;simp only[VN,V7,Xd,YE,YF,VY];refine⟨⟨Vo t htm,?_⟩,λhe hj1=>?_⟩
  ·rcases WD.1 htm with hm|hm
   ·exact uQ t hm
   ·exact xj t hm
  ·have Znb:j+1<(bS o++more).length:=hj1
   have he':cd w.aa t=o.aX:=he;rw[VV]at Znb
   by_cases hjk:j<(bS o).length
   ·rw[IN j hjk]at yr
    have:=cJ.1 h9 j t yr;unfold ya at this
    simp only[VN,V7,Xd,YE,YF,VY]at this
    have Bt:=this.2 he';have MM:=(VH.1 yr).1;refine dX ?_;rw[<-hep,<-he'];refine xB ?_;unfold bS;rw[getLast_take YG YG,show(bl o).toNat-1=j by omega,yr]
   ·rw[V9 YG]at yr
    rcases PG with rfl|⟨hnd,hla⟩
    ·simp at yr
    rw[Xz,VL,VX,Xp]at hla
    have q1:(fJ w.aa o::more.map (cd w.aa))[j-(bS o).length+1]?=ZA o.aX:=by rw[List.getElem?_cons_succ,List.getElem?_map,yr,Wo,he']
    have q2:=Wm.1 hnd (j-(bS o).length+1) more.length YR YJ YG;exact q2 ((VH.1 q1).2.trans (VH.1 hla).2.symm)
 ·have hw:aH (o.aO+1)=o.aO+1:=by
   have q1:0<=o.aO:=h6.1;have q2:o.aO<=w.now:=h6.2;rw[aL YG]
  show(eC w.aa (bS o++more) o.ar (SI w.aa o.ar (bS o++more)) (aH (o.aO+1))).getD ZD=ZC;have hl2:(bS o++more).length<=1048576:=by rw[VV];omega
  rw[hw,Fi h.fit.fv hn hl2 YG (ZfM h.fit.fv hn YG Vo) Oh rfl];rfl
 ·have hS:wN w.aa (eM o (bS o++more)) w.now:=by
   refine⟨λt hg ht=>?_,?_⟩
   ·have hg':0<o.aN:=hg
    have Lb:(bS o++more)[(o.aN-1).toNat]?=ZA t:=ht;rw[IN _ YG]at Lb
    exact hP.st.NL t hg' Lb
   ·have PH:tw w.aa (eM o (bS o++more))=tw w.aa o:=by
     unfold tw
     by_cases hg:0<o.aN
     ·rw[if_pos hg,if_pos (show 0<(eM o (bS o++more)).aN from hg)]
      show(((bS o++more)[(o.aN-1).toNat]?).map (cd w.aa)).getD ⟨#[]⟩=_;rw[IN _ YG]
     ·rw[if_neg hg,if_neg (show ¬0<(eM o (bS o++more)).aN from hg)];rfl
    rcases hP.st.cases with⟨s1,s2,s3,s4,s5⟩ |⟨s1,s2,s3,t,t1,t2,t3⟩ |s
    ·refine .inl ⟨s1,by rw[PH];exact s2,by rw[PH];exact s3,s4,λt ht=>?_⟩
     have Lb:(bS o++more)[o.aN.toNat]?=ZA t:=ht;have CZ:bl o=o.aN:=by unfold bl;rw[if_neg YG]
     rw[V9 YG,show o.aN.toNat-(bS o).length=0 by omega]at Lb
     cases more with
     |nil=>simp at Lb
     |cons x xs=>
      obtain rfl:x=t:=by simpa using Lb
      have:=hc.2.2.1;omega
    ·have CZ:bl o=o.aN+1:=by unfold bl;rw[if_pos s1]
     refine .inr (.inl ⟨s1,s2,s3,t,?_,t2,t3⟩);show(bS o++more)[o.aN.toNat]?=ZA t;rw[IN _ YG];exact t1
    ·exact absurd s.1 hs
  show(bV w.aa (eM o (bS o++more)) w.now).getD ZD=ZC;rw[(xY h.fit.fv hn (o:=eM o (bS o++more)) ⟨g0,by simp only[eM,VV];omega⟩ (by simp only[eM,VV];omega) Vo w.now).2 hS];rfl
 ·have hd:((eM o (bS o++more)).aK.drop (bl (eM o (bS o++more))).toNat)=more:=by
   show(bS o++more).drop (bl o).toNat=more;rw[<-k2,List.drop_left]
  rw[hd];exact Znl
theorem zw{t:aw}(ht:t∈o.aK):(⟨((i+1:Nat):Int),t,o.ab⟩:aj)∈w.aq:=by
 obtain⟨j,hj,rfl⟩:=V2 ht;have:=cJ.1 (j2 h ho).ok.aK j _ (VF hj);unfold ya at this
 simp only[VN]at this
 have:=this.1.2;unfold iD at this
 obtain⟨x,h1,h2⟩:=WL.1 this;rw[<-YA h2];exact h1
theorem Ll{t:aw}(ht:t∈bS o):(⟨((i+1:Nat):Int),t,o.ab⟩:aj)∈fX w i o:=by
 have hP:=j2 h ho;have hn:=(dy h.my).1;have hnd:=zk h.fit.fv hn hP.chain;rw[vY h ho]at hnd
 have hw:t∈o.aK:=by rw[vY h ho];exact WO _ ht
 exact Lo.2 ⟨zw h ho hw,λhx=>(XX.1 hnd).2.2 t ht t hx.2 rfl⟩
theorem Zfe:(fX w i o).length+(lG o).length=w.aq.length:=by
 have hP:=j2 h ho;have hn:=(dy h.my).1;have hnd:=zk h.fit.fv hn hP.chain;rw[vY h ho]at hnd
 exact Zbt h.my (XX.1 hnd).2.1 λt ht=>zw h ho (by rw[vY h ho];exact Xr _ ht)
theorem Qp{more:List aw}(hb:cb w.aa bs=ZC)(hl:bs.length=(fX w i o).length+more.length)(As:∀b∈fX w i o,b∈bs)
 (hO:zM w.aa bs w.ah w.now i (eM o (bS o++more))=ZC) (hm:more.length<=20):yX (zI w i o (bS o++more) bs) (λj=>if j=i then w.ah else c j):=by
 have hlen:=xU h ho;obtain⟨k0,k1,k2,k3⟩:=oa h ho;have CX:=(dy hb).2;have wI:=(VH.1 ho).1;have PO:(bS o).length+(lG o).length=o.aK.length:=by
  have:=congrArg List.length (vY h ho);rw[VV]at this;omega
 refine⟨⟨h.fit.fv,?_,?_,h.fit.ah,h.fit.aJ,h.fit.skip,λx hx=>?_⟩,hb,h.now,?_,λj x hx=>?_,?_,λj=>?_⟩
 ·simp only[zI,Ws];exact h.fit.ae
 ·simp only[zI];omega
 ·rcases List.mem_or_eq_of_mem_set hx with hx|rfl
  ·exact h.fit.aK x hx
  ·simp only[eM,VV];omega
 ·simp only[zI,Ws];exact h.Qx
 ·have vQ:(w.ae.set i (eM o (bS o++more)))[j]?=ZA x:=hx
  show zM w.aa bs (if j=i then w.ah else c j) w.now j x=ZC
  by_cases Cl:j=i
  ·subst Cl
   rw[Wa wI]at vQ
   obtain rfl:=VG vQ;rw[if_pos rfl];exact hO
  ·rw[if_neg Cl]
   rw[Wk (λe=>Cl e.symm)]at vQ
   have hv:=h.ord j x vQ;unfold zM jd at hv⊢
   simp only[VN,V7,YE,YF]at hv⊢
   obtain⟨⟨⟨⟨⟨⟨⟨⟨⟨⟨⟨h1,h2⟩,h3⟩,h4⟩,h5⟩,h6⟩,h7⟩,h8⟩,h9⟩,Ge⟩,K0⟩,K1⟩:=hv;refine⟨⟨⟨⟨⟨⟨⟨⟨⟨⟨⟨h1,h2⟩,h3⟩,h4⟩,h5⟩,h6⟩,h7⟩,h8⟩,?_⟩,Ge⟩,K0⟩,K1⟩;refine cJ.2 λa t ha=>?_
   have:=cJ.1 h9 a t ha;unfold ya at this⊢
   simp only[VN]at this⊢
   refine⟨⟨this.1.1,?_⟩,this.2⟩;have Kb:=this.1.2;unfold iD at Kb⊢
   obtain⟨y,y1,y2⟩:=WL.1 Kb;obtain rfl:=YA y2;exact WL.2 ⟨_,As _ (Lo.2 ⟨y1,λe=>Cl (by have:=e.1;simp only at this;omega)⟩),y2⟩
 ·have:=ZaF (λo:ay=>o.aK.length) (eM o (bS o++more)) ho
  have e:(eM o (bS o++more)).aK.length=(bS o).length+more.length:=VV;simp only[e]at this
  have hs:=h.sum;have AY:=Zfe h ho;show((w.ae.set i (eM o (bS o++more))).map λo=>o.aK.length).sum=bs.length
  omega
 ·show(if j=i then w.ah else c j).length<=1048576
  split
  ·exact h.fit.ah
  ·exact h.cl j
theorem Ud(hs:¬o.state=3)(dX:¬fJ w.aa o=o.aX):∃w',eT w ((i+1:Nat):Int)=ZA w'/\yd w i o w'/\yX w' (λj=>if j=i then w.ah else c j):=by
 have hP:=j2 h ho;have hn:=(dy h.my).1;have hlen:=xU h ho;have wI:=(VH.1 ho).1;have hol:=h.Qx;obtain⟨w',e,hR⟩:=ZiO h.fit hn h.my h.now YG ho hP.ok.aN (λh2=>by
  rcases hP.ok.cases with c1|c1|c1
  ·have:=c1.1;omega
  ·exact c1.2
  ·have:=c1.1;omega) hP.ok.aV YG
 refine⟨w',e,hR,?_⟩
 rcases hR with⟨_,rfl⟩ |⟨aK,bs,hN,rfl⟩
 ·have hO:=Ls h ho (more:=[]) (bs:=fX w i o) hs dX (λt ht=>?_) YJ trivial YJ (.inl rfl) rfl
  ·have:=Qp h ho (more:=[]) (bs:=fX w i o) (Ee h.fit.fv h.my (xz _ _ _)) YJ (λb hb=>hb) hO YJ
   rw[Wy]at this
   exact this
  ·unfold iD
   exact WL.2 ⟨_,Ll h ho ht,Yp rfl⟩
 ·obtain⟨a1,a2,a3⟩:=Va h ho
  have Fq:(if 0 > atR w.aa w.now o then 0 else atR w.aa w.now o)=atR w.aa w.now o:=if_neg YG
  have Oh:=hN.RS.chain;rw[Fq]at Oh
  have IV:=hN.perm.length_eq;have D0:(gz ((i+1:Nat):Int) o.ab aK).length=aK.length:=by unfold gz;rw[VX]
  rw[VV,D0]at IV
  have hO:=Ls h ho (more:=aK) (bs:=bs) hs dX (λt ht=>?_) (λt ht=>?_) Oh hN.RS.len (.inr ⟨hN.RS.nodup,hN.RS.last⟩) ?_
  ·exact Qp h ho hN.my IV (λb hb=>hN.perm.mem_iff.2 (WO _ hb)) hO hN.RS.len
  ·unfold iD
   exact WL.2 ⟨_,hN.perm.mem_iff.2 (WO _ (Ll h ho ht)),Yp rfl⟩
  ·unfold iD
   refine WL.2 ⟨⟨((i+1:Nat):Int),t,o.ab⟩,hN.perm.mem_iff.2 (Xr _ ?_),Yp rfl⟩;unfold gz;exact List.mem_map_of_mem ht
  ·refine XB.2 λt ht=>?_
   have:=(hN.RS.found t ht).1;rw[iv,gh h.fit.ah]at this
   have:=VG this;show ¬cD w.ah t=ZC;unfold cD;rw[this];simp
end
/-! The aq are ZqM of the ways. -/
def D9:Nat->List ay->List aj
 |_,[]=>[]
 |i,o::os=>gz ((i+1:Nat):Int) o.ab o.aK++D9 (i+1) os
theorem Ox:∀(os:List ay) (i:Nat),(D9 i os).length=(os.map λo=>o.aK.length).sum
 | [],_=>rfl
 |o::os,i=>by
  unfold D9 gz;rw[VV,VX,Ox os,Wh,WB]
theorem Cu{b:aj}:∀{os:List ay} {i:Nat},b∈D9 i os↔∃(j:Nat) (o:ay) (t:aw),os[j]?=ZA o/\t∈o.aK/\b=⟨((i+j+1:Nat):Int),t,o.ab⟩
 | [],i=>by simp[D9]
 |o::os,i=>by
  unfold D9 gz;rw[WD,Cu (os:=os) (i:=i+1),V6];constructor
  ·rintro(⟨t,h1,h2⟩ |⟨j,o',t,h1,h2,h3⟩)
   ·exact⟨0,o,t,rfl,h1,h2.symm⟩
   ·exact⟨j+1,o',t,by simpa using h1,h2,by rw[h3,show i+1+j+1=i+(j+1)+1 by omega]⟩
  ·rintro⟨j,o',t,h1,h2,h3⟩
   cases j with
   |zero=>
    obtain rfl:o=o':=by simpa using h1
    exact .inl ⟨t,h2,h3.symm⟩
   |succ j=>exact .inr ⟨j,o',t,by simpa using h1,h2,by rw[h3,show i+1+j+1=i+(j+1)+1 by omega]⟩
theorem Hx:∀{os:List ay} {i:Nat},(∀o∈os,o.aK.Nodup)->(D9 i os).Nodup
 | [],i,_=>List.nodup_nil
 |o::os,i,h=>by
  unfold D9;refine XX.2 ⟨?_,Hx λx hx=>h x (by simp[hx]),λa ha b hb e=>?_⟩
  ·unfold gz Xt
   rw[WZ];exact(h o YJ).imp λ{a b} dX e=>dX (by simpa using e)
  ·obtain⟨j,o',t,_,_,h3⟩:=Cu.1 hb
   unfold gz at ha
   obtain⟨t',_,rfl⟩:=V6.1 ha;rw[h3]at e
   have:=congrArg aj.bo e;simp only at this
   omega
theorem St{w:az}{c:Nat->List aw}(h:yX w c)(hb:b∈w.aq):∃(j:Nat) (o:ay) (t:aw),w.ae[j]?=ZA o/\t∈o.aK/\b=⟨((j+1:Nat):Int),t,o.ab⟩:=by
 have hn:=(dy h.my).1;have hnd:(D9 0 w.ae).Nodup:=Hx λo ho=>by
  obtain⟨i,hi,rfl⟩:=V2 ho;exact zk h.fit.fv hn (j2 h (VF hi)).chain
 have Ez:∀x∈D9 0 w.ae,x∈w.aq:=λx hx=>by
  obtain⟨j,o,t,h1,h2,rfl⟩:=Cu.1 hx;rw[VY];exact zw h h1 h2
 have hlen:(D9 0 w.ae).length=w.aq.length:=by rw[Ox,h.sum]
 have As:b∈D9 0 w.ae:=Classical.byContradiction λhx=>by
  have:=xS (xs:=b::D9 0 w.ae) (ys:=w.aq) (Yk.2 ⟨hx,hnd⟩) λx hm=>by
   rcases VM.1 hm with rfl|hm
   ·exact hb
   ·exact Ez x hm
  simp only[VL]at this
  omega
 obtain⟨j,o,t,h1,h2,h3⟩:=Cu.1 As;rw[VY]at h3
 exact⟨j,o,t,h1,h2,h3⟩
theorem Ug{w:az}{c:Nat->List aw}(h:yX w c){i:Nat}{o:ay}(ho:w.ae[i]?=ZA o)(hr:¬lG o=[]):¬o.state=3/\¬fJ w.aa o=o.aX:=by
 have hP:=j2 h ho;obtain⟨k0,k1,k2,k3⟩:=oa h ho;have bO:bl o<o.aK.length:=by
  rcases Int.lt_or_le (bl o) o.aK.length with hx|hx
  ·exact hx
  ·exact absurd (XG YG) hr
 have hs:¬o.state=3:=λhs=>by
  rcases hP.ok.cases with⟨c1,_⟩ |⟨c1,_⟩ |⟨c1,c2,_⟩
  ·omega
  ·omega
  ·have:bl o=o.aN:=by unfold bl;rw[if_neg YG]
   omega
 refine⟨hs,λhe=>?_⟩
 rw[<-KV h ho hs]at he
 by_cases h0:0<bl o
 ·have hkt:(bl o).toNat-1<o.aK.length:=YG
  have uC:(bS o).getLast?=ZA o.aK[(bl o).toNat-1]:=by
   unfold bS;rw[getLast_take YG YG];exact VF hkt
  rw[xB uC]at he
  have:=cJ.1 hP.ok.aK _ _ (VF hkt);unfold ya at this
  simp only[VN,V7,Xd,YE,YF,VY]at this
  exact this.2 he YG
 ·have:bS o=[]:=by unfold bS;rw[show(bl o).toNat=0 by omega];rfl
  rw[this]at he
  exact hP.ok.Zkh he
structure sD(w w':az):Prop where
 aa:w'.aa=w.aa
 now:w'.now=w.now
 ah:w'.ah=w.ah
 aJ:w'.aJ=w.aJ
 skip:w'.skip=w.skip
 aT:w'.aT=w.aT
 len:w'.ae.length=w.ae.length
theorem sD.refl(w:az):sD w w:=⟨rfl,rfl,rfl,rfl,rfl,rfl,rfl⟩
theorem sD.trans{a b c:az}(h:sD a b)(k:sD b c):sD a c:=⟨k.1.trans h.1,k.2.trans h.2,k.3.trans h.3,k.4.trans h.4,k.5.trans h.5,k.6.trans h.6,k.7.trans h.7⟩
theorem sD.new(w:az)(i:Nat)(o:ay)(ts:List aw)(bs:List aj):sD w (zI w i o ts bs):=⟨rfl,rfl,rfl,rfl,rfl,rfl,by simp only[zI,Ws]⟩
theorem Zjh{n:ak}(hf:cR n){ab aO:Int}{aK:List aw}(h:ZgN n l ah ab ar aX aO aK):aK.length<=(ao n).length-1:=by
 have:=xS (xs:=ar::aK.map (cd n)) (ys:=ao n) h.nodup λp hp=>by
  rcases VM.1 hp with rfl|hp
  ·exact Zk0 h.hC.2.1
  ·obtain⟨t,ht,rfl⟩:=V6.1 hp
   obtain⟨y,hy,hym⟩:=fh hf (rT h.chain t ht);have f2:cd n t=y.aX:=by unfold cd;rw[hy];rfl
   rw[f2];exact(ui hym).2
 simp only[VL,VX]at this
 omega
def ye(n:ak)(o o':ay):Prop:=o'=o\/∃more,more.length<=(ao n).length-1/\o'=eM o (bS o++more)
theorem Q6{w w':az}(hf:cR w.aa){i:Nat}{o:ay}(hR:yd w i o w')(ho:w.ae[i]?=ZA o):sD w w'/\(∃o',w'.ae[i]?=ZA o'/\ye w.aa o o')/\∀j,¬j=i->w'.ae[j]?=w.ae[j]?:=by
 have wI:=(VH.1 ho).1
 rcases hR with⟨_,rfl⟩ |⟨aK,bs,hN,rfl⟩
 ·refine⟨sD.new _ _ _ _ _,⟨eM o (bS o),?_,.inr ⟨[],by simp,by rw[Wy]⟩⟩,λj hj=>?_⟩
  ·show(w.ae.set i _)[i]?=_
   rw[Wa wI]
  ·show(w.ae.set i _)[j]?=_
   rw[Wk (λe=>hj e.symm)]
 ·refine⟨sD.new _ _ _ _ _,⟨_,?_,.inr ⟨aK,Zjh hf hN.RS,rfl⟩⟩,λj hj=>?_⟩
  ·show(w.ae.set i _)[i]?=_
   rw[Wa wI]
  ·show(w.ae.set i _)[j]?=_
   rw[Wk (λe=>hj e.symm)]
def qK(w:az):Int×Int×Int×(List bM)×(List Int)×(List ay)×(List aj)×(List aw)×(List bc)×(List Int):=(w.aa.change,w.now,w.aT,w.aa.aB,w.aa.off,w.ae,w.aq,w.ah,w.aJ,w.skip)
theorem j9{α β:Type}{x:Option α}{f:α->Option β}{r:β}:x.bind f=ZA r↔∃a,x=ZA a/\f a=ZA r:=by
 cases x<;>simp
theorem Sx{b:Bool}{x y:α}{P:α->Prop}(h:b=ZC->P x)(k:b=ZD->P y):P (cond b x y):=by
 cases b with
 |true=>exact h rfl
 |false=>exact k rfl
theorem ZcS{n:ak}{aO ab:Int}{x:List aw}(h:bN n l ah ar aX aO ab=ZA (x,ZD)):x=[]:=by
 unfold bN at h
 obtain⟨y1,_,h⟩:=j9.1 h;obtain⟨y2,_,h⟩:=j9.1 h;obtain⟨y3,_,h⟩:=j9.1 h;obtain⟨y4,_,h⟩:=j9.1 h
 revert h
 have nil:(ZA (([]:List aw),ZD))=ZA (x,ZD)->x=[]:=λe=>by
  have:=congrArg XP (VG e);exact this.symm
 refine Sx (P:=λz=>z=ZA (x,ZD)->x=[]) (λ_=>nil) λ_=>Sx (P:=λz=>z=ZA (x,ZD)->x=[]) (λ_=>nil) λ_ h=>?_
 obtain⟨y5,_,h⟩:=j9.1 h
 revert h
 refine Sx (P:=λz=>z=ZA (x,ZD)->x=[]) (λ_=>nil) λ_ h=>?_
 obtain⟨y6,_,h⟩:=j9.1 h;obtain⟨o0,_,h⟩:=j9.1 h;obtain⟨o1,_,h⟩:=j9.1 h;have:=congrArg XQ (VG h)
 cases this
section
variable {w:az} {c:Nat->List aw} (h:yX w c) {i:Nat} {o:ay} (ho:w.ae[i]?=ZA o)
include h ho
theorem NK{a b:Nat}{s t:aw}(IJ:a<b)(ha:o.aK[a]?=ZA s)(hb:o.aK[b]?=ZA t):dm w.aa s<=cE w.aa t/\cE w.aa s<dm w.aa s:=by
 have hn:=(dy h.my).1;have hO:=j2 h ho;obtain⟨c0,c1⟩:=jJ hn;have hs:=hO.ok.aV s (VI ha);obtain⟨t1,t2,t3,t4,t5⟩:=cT h.fit.fv hn hs;refine⟨?_,YG⟩;have hal:=(VH.1 ha).1;have CX:=(VH.1 hb).1;have h1:o.aK[a+1]?=ZA o.aK[a+1]:=VF YG;have hn1:=((Ih hO.chain ha).2 _ h1).1
 by_cases uQ:b=a+1
 ·subst uQ
  rw[hb]at h1
  rw[<-VG h1]at hn1
  omega
 ·have bO:=Ij h.fit.fv hn hO.chain
  have:=Wm.1 bO (a+1) b YG CX YG;rw[(VH.1 hb).2]at this
  omega
theorem MZ{t:aw}(ht:t∈bS o):cE w.aa t<=w.now:=by
 have hO:=j2 h ho;obtain⟨k0,k1,k2,k3⟩:=oa h ho;obtain⟨g0,g1⟩:=hO.ok.aN;obtain⟨a,ha,hae⟩:=V2 ht;have hao:o.aK[a]?=ZA t:=by rw[<-P9 h ho ha,<-hae];exact VF ha
 have NL:0<o.aN->a<=(o.aN-1).toNat->cE w.aa t<=w.now:=λhg hle=>by
  have xH:(o.aN-1).toNat<o.aK.length:=YG;have hp:=hO.st.NL _ hg (VF xH)
  by_cases J3:a=(o.aN-1).toNat
  ·subst J3
   rw[VF xH]at hao
   rw[VG hao]at hp
   have hn:=(dy h.my).1;obtain⟨t1,t2,t3,t4,t5⟩:=cT h.fit.fv hn (hO.ok.aV t (by rw[<-VG hao];exact Wd xH))
   omega
  ·have:=NK h ho (a:=a) (b:=(o.aN-1).toNat) YG hao (VF xH)
   have hn:=(dy h.my).1;obtain⟨t1,t2,t3,t4,t5⟩:=cT h.fit.fv hn (hO.ok.aV _ (Wd xH));omega
 rcases hO.st.cases with⟨s1,s2,s3,s4,s5⟩ |⟨s1,s2,s3,t2,u1,u2,u3⟩ |⟨s1,s2,s3,s4,s5,s6⟩
 ·have CZ:bl o=o.aN:=by unfold bl;rw[if_neg YG]
  exact NL YG YG
 ·have CZ:bl o=o.aN+1:=by unfold bl;rw[if_pos s1]
  by_cases J3:a=o.aN.toNat
  ·subst J3
   rw[u1]at hao
   rw[VG hao]at u2
   exact u2
  ·exact NL YG YG
 ·have CZ:bl o=o.aN:=by unfold bl;rw[if_neg YG]
  exact NL YG YG
theorem Uf{t:aw}(ht:t∈lG o):w.now<cE w.aa t:=by
 have hO:=j2 h ho;obtain⟨k0,k1,k2,k3⟩:=oa h ho;obtain⟨g0,g1⟩:=hO.ok.aN;obtain⟨a,ha,hae⟩:=V2 ht;have hao:o.aK[(bl o).toNat+a]?=ZA t:=by
  have:=VF ha;rw[hae]at this
  unfold lG at this
  rw[List.getElem?_drop]at this
  exact this
 have hal:=(VH.1 hao).1
 rcases hO.st.cases with⟨s1,s2,s3,s4,s5⟩ |⟨s1,s2,s3,t2,u1,u2,u3⟩ |⟨s1,s2,s3,s4,s5,s6⟩
 ·have CZ:bl o=o.aN:=by unfold bl;rw[if_neg YG]
  have xH:o.aN.toNat<o.aK.length:=YG;have h5:=s5 _ (VF xH)
  by_cases h0:a=0
  ·subst h0
   rw[CZ,Nat.add_zero,VF xH]at hao
   rw[<-VG hao];exact h5
  ·have:=NK h ho (a:=o.aN.toNat) YG (VF xH) hao
   omega
 ·have CZ:bl o=o.aN+1:=by unfold bl;rw[if_pos s1]
  have:=NK h ho (a:=o.aN.toNat) YG u1 hao;omega
 ·have CZ:bl o=o.aN:=by unfold bl;rw[if_neg YG]
  omega
theorem Zef:lO w.aa w.aq ((i+1:Nat):Int) (w.now+1)=ZA (fX w i o):=by
 have hn:=(dy h.my).1;have CX:=(dy h.my).2;have hO:=j2 h ho;unfold lO;rw[iB h.fit.fv h.fit.aq,h.my,VE];have e:aD (iX w.aa w.aq ((i+1:Nat):Int) (w.now+1) ZC) NN (0,[])=ZA (fX w i o):=by
  refine oz (body:=iX w.aa w.aq ((i+1:Nat):Int) (w.now+1) ZC) (λj:Nat=>((j:Int),pF ((i+1:Nat):Int) (lG o) (w.aq.take j))) (n:=w.aq.length) (λj hj=>?_) ?_ NN YI
  ·have hg:aA w.aq (j:Int)=ZA w.aq[j]:=by rw[aQ];exact VF hj
   have hw:aH ((j:Int)+1)=((j+1:Nat):Int):=bI hj YG;have SP:(pF ((i+1:Nat):Int) (lG o) (w.aq.take j)).length<=1000:=Wb (List.length_filter_le _ _) Zg;have ha:dg (bB ((pF ((i+1:Nat):Int) (lG o) (w.aq.take j)).length+([w.aq[j]]:List aj).length) 32)=ZA ():=eK YY YG;have hs:pF ((i+1:Nat):Int) (lG o) (w.aq.take (j+1))=pF ((i+1:Nat):Int) (lG o) (w.aq.take j)++(if(ZE (w.aq[j].bo=((i+1:Nat):Int))&&cD (lG o) w.aq[j].aV)=ZC then []else [w.aq[j]]):=by
    unfold pF;rw[WI hj,List.filter_append];simp only[List.filter_cons,List.filter_nil]
    cases ZE (w.aq[j].bo=((i+1:Nat):Int))&&cD (lG o) w.aq[j].aV<;>rfl
   obtain⟨t1,t2,t3,t4,t5⟩:=cT h.fit.fv hn (Ss h.fit.fv h.my (Wd hj));unfold iX;simp only[Yp (show(j:Int)<w.aq.length by omega),YC,YD,VK,hg,VE,hw,ha,t1]
   rw[hs]
   by_cases hth:w.aq[j].bo=((i+1:Nat):Int)
   ·rw[Yp hth]
    simp only[VK,YD,WN];obtain⟨j',o',t',q1,q2,q3⟩:=St h (Wd hj);have hjj:j'=i:=by
     have:=congrArg aj.bo q3;rw[hth]at this
     simp only at this
     omega
    subst hjj;rw[ho]at q1
    obtain rfl:=VG q1;have Vo:w.aq[j].aV=t':=congrArg aj.aV q3;rw[Vo];rw[vY h ho]at q2
    cases hc:cD (lG o) t' with
    |true=>
     have:=Uf h ho (jo.1 hc);rw[Yz YG,if_pos rfl,Wy];rfl
    |false=>
     rcases WD.1 q2 with q2|q2
     ·have:=MZ h ho q2
      rw[Yp YG,if_neg YJ];rfl
     ·rw[jo.2 q2]at hc;cases hc
   ·rw[Yz hth];rfl
  ·unfold iX fX
   simp[WA]
 rw[e];rfl
theorem ZgU(hs:¬o.state=3):∃w',ew w (i:Int)=ZA w'/\yd w i o w':=by
 have hn:=(dy h.my).1;have CX:=(dy h.my).2;have hO:=j2 h ho;have hlen:=xU h ho;obtain⟨k0,k1,k2,k3⟩:=oa h ho;obtain⟨g0,g1⟩:=hO.ok.aN;obtain⟨c0,c1⟩:=jJ hn;have wI:=(VH.1 ho).1;have hol:=h.Qx;have IS:=h.now;have hoi:aA w.ae (i:Int)=ZA o:=by rw[aQ];exact ho
 have K7:eW o=ZA (bl o):=(wQ hO.ok.aN YG).1;have Ez:cZ o.aK 0 (bl o)=bS o:=by unfold cZ bS;simp
 have D2:dg (iC 0 (bl o) o.aK.length)=ZA ():=pD (by unfold iC;exact Yp ⟨Wp _,k0,k1⟩)
 have Df:aH (w.now+1)=w.now+1:=aL YG;have Sf:aH ((i:Int)+1)=((i+1:Nat):Int):=by rw[aL YG];omega
 have AY:(fX w i o).length<=120:=Wb (xz _ _ _).length_le CX;have vE:=Ee h.fit.fv h.my (xz ((i+1:Nat):Int) (lG o) w.aq);have hkl:(bS o).length<=120:=by rw[k2];omega
 have PH:eH w.aa o=ZA (fJ w.aa o):=by
  unfold eH fJ
  rcases hO.st.cases with⟨s1,_⟩ |⟨s1,s2,s3,t2,u1,u2,u3⟩ |⟨s1,_⟩
  ·rw[Yz YG,if_neg YG];rfl
  ·have hg:aA o.aK o.aN=ZA t2:=by unfold aA;rw[if_pos g0];exact u1
   obtain⟨y,hy,_⟩:=fh h.fit.fv (hO.ok.aV t2 (VI u1));rw[Yp s1,if_pos s1,YC,hg,u1,VE,hy,VE,Wo,Ww];unfold cd;rw[hy];rfl
  ·exact absurd s1 hs
 have ha0:dg (bB ((([]:List aw)).length+(bS o).length) 16)=ZA ():=eK (by simp only[VO];omega) YG
 obtain⟨⟨aK,b⟩,_,e2⟩:=ug h.fit.fv (l:=fX w i o) YG h.fit.ah (fJ w.aa o) o.aX (atR w.aa w.now o) o.ab;have tail:∀a,a=atR w.aa w.now o->∃w',((bN w.aa (fX w i o) w.ah (fJ w.aa o) o.aX a o.ab).bind λy8=>
  (cg w.aa (fX w i o) ((i+1:Nat):Int) o.ab y8.1).bind λy9=>
  cond y9.2
  ((dg (bB ((([]++bS o):List aw).length+(y8.1:List aw).length) 16)).bind λ_=>
  ZA (zI w i o (bS o++y8.1) y9.1))
  (ZA (zI w i o (bS o) (fX w i o))))=ZA w'/\yd w i o w':=by
  rintro a rfl;rw[e2,VE]
  cases b with
  |false=>
   obtain rfl:=ZcS e2;have Bv:=xv h.fit.fv (show(fX w i o).length<=1048000 by omega) ((i+1:Nat):Int) o.ab (aK:=[]) (d:=fX w i o) (by simp[gz]) (OI vE)
   rw[if_pos ⟨vE,by simp,vE⟩]at Bv
   have ha:dg (bB ((([]++bS o):List aw).length+([]:List aw).length) 16)=ZA ():=eK (by simp only[Wu,VO];omega) YG
   exact⟨_,by rw[Bv];simp only[VE,YC,ha,Wy],.inl ⟨.inl ⟨[],e2⟩,rfl⟩⟩
  |true=>
  have hR:=tV h.fit.fv (show(fX w i o).length<=1048576 by omega) h.fit.ah e2
  have PO:=hR.len;have D0:(gz ((i+1:Nat):Int) o.ab aK).length=aK.length:=by unfold gz;rw[VX]
  obtain⟨d,d1,d2⟩:=N1 (fX w i o++gz ((i+1:Nat):Int) o.ab aK) (by rw[VV,D0];omega)
  have Bv:=xv h.fit.fv (show(fX w i o).length<=1048000 by omega) ((i+1:Nat):Int) o.ab d1 d2
  by_cases hbd:cb w.aa d=ZC
  ·rw[if_pos ⟨vE,PO,hbd⟩]at Bv
   have ha:dg (bB ((([]++bS o):List aw).length+aK.length) 16)=ZA ():=eK (by simp only[Wu];omega) YG
   exact⟨_,by rw[Bv];simp only[VE,YC,ha],.inr ⟨aK,d,⟨e2,Bv,hR,d1,hbd⟩,rfl⟩⟩
  ·rw[if_neg (λhx=>hbd hx.2.2)]at Bv
   exact⟨_,by rw[Bv];rfl,.inl ⟨.inr ⟨aK,e2,Bv⟩,rfl⟩⟩
 unfold ew;rw[hoi,VE,K7,VE]
 by_cases h0:0<bl o
 ·have hkt:(bl o).toNat-1<o.aK.length:=YG
  have uC:(bS o).getLast?=ZA o.aK[(bl o).toNat-1]:=by
   unfold bS;rw[getLast_take YG YG];exact VF hkt
  have hgk:aA o.aK (aH (bl o-1))=ZA o.aK[(bl o).toNat-1]:=by
   rw[aL YG];unfold aA;rw[if_pos YG,show(bl o-1).toNat=(bl o).toNat-1 by omega]
   exact VF hkt
  obtain⟨t1,t2,t3,t4,t5⟩:=cT h.fit.fv hn (hO.ok.aV _ (Wd hkt));have hwe:aH (dm w.aa o.aK[(bl o).toNat-1]+w.aa.change)=dm w.aa o.aK[(bl o).toNat-1]+w.aa.change:=aL YG;have ZkI:mv (w.now+1) (dm w.aa o.aK[(bl o).toNat-1]+w.aa.change)=ZA (atR w.aa w.now o):=by
   unfold mv atR;rw[uC];simp only
   by_cases hm:w.now+1<dm w.aa o.aK[(bl o).toNat-1]+w.aa.change
   ·rw[Yp hm,if_pos hm];rfl
   ·rw[Yz hm,if_neg hm];rfl
  rw[Yp h0,YC,hgk];simp only[VE,t2,Df,hwe,ZkI,Sf,Zef h ho,PH,D2,Ez,ha0,hoi];obtain⟨w',q1,q2⟩:=tail _ rfl;refine⟨w',?_,q2⟩;rw[<-q1];simp only[zI,eM,We,Wu]
 ·have uC:(bS o).getLast?=none:=by
   unfold bS;rw[show(bl o).toNat=0 by omega];rfl
  have Zev:w.now+1=atR w.aa w.now o:=by unfold atR;rw[uC]
  rw[Yz h0,YD];simp only[VE,Df,Sf,Zef h ho,PH,D2,Ez,ha0,hoi];obtain⟨w',q1,q2⟩:=tail _ Zev;refine⟨w',?_,q2⟩;rw[<-q1];simp only[zI,eM,We,Wu]
omit h ho in
theorem ZcO{a b:az}(h1:yd w i o a)(h2:yd w i o b):a=b:=by
 have no:∀{aK bs},Zdf w i o->Zde w i o aK bs->False:=λ{aK bs} hx hy=>by
  rcases hx with⟨x,hx⟩ |⟨x,hx,hb⟩
  ·rw[hy.jl]at hx
   have:=congrArg XQ (VG hx);cases this
  ·rw[hy.jl]at hx
   have hxx:aK=x:=congrArg XP (VG hx);rw[<-hxx,hy.book]at hb
   have:=congrArg XQ (VG hb);cases this
 rcases h1 with⟨n1,rfl⟩ |⟨w1,b1,n1,rfl⟩<;>rcases h2 with⟨n2,rfl⟩ |⟨w2,b2,n2,rfl⟩
 ·rfl
 ·exact(no n1 n2).elim
 ·exact(no n2 n1).elim
 ·have e:=n2.jl
  rw[n1.jl]at e
  have hw:w1=w2:=congrArg XP (VG e);subst hw;have e2:=n2.book;rw[n1.book]at e2
  have hb:b1=b2:=congrArg XP (VG e2);subst hb;rfl
theorem Hw(hs:¬o.state=3)(dX:¬fJ w.aa o=o.aX):∃w',ew w (i:Int)=ZA w'/\eT w ((i+1:Nat):Int)=ZA w'/\yd w i o w'/\yX w' (λj=>if j=i then w.ah else c j):=by
 obtain⟨a,a1,a2,a3⟩:=Ud h ho hs dX;obtain⟨b,b1,b2⟩:=ZgU h ho hs;obtain rfl:=ZcO b2 a2;exact⟨b,b1,a1,a2,a3⟩
end
section
variable {n:ak} (hf:cR n) (hn:ba n=ZA ZC)
include hf hn
theorem Zle{bG z:Int}{y:bM}(hy:aA n.aB bG=ZA y):rv n bG z=cC n [] [] bG z 0:=by
 have hlo:=(DC hf hn y (vN hy)).jl;have hw:aH (y.jl-0)=y.jl:=by rw[aL YG];omega
 have hb:qG n bG z=cH n [] [] bG z 0:=by
  funext s
  unfold qG cH
  cases ZE (s<=60)with
  |false=>rfl
  |true=>
  cases cy n bG s with
  |none=>rfl
  |some b=>
  cases b with
  |false=>rfl
  |true=>
  simp only[YC,VE]
  cases bw n ⟨bG,s⟩with
  |none=>rfl
  |some v=>
  simp only[VE]
  cases ZE (z<=v)with
  |false=>rfl
  |true=>
  have hc:dw [] (⟨bG,s⟩:aw)=ZA false:=by rw[iv,gh YJ];rfl
  simp only[YC,hc,VE,Wl,hy,I8,hw,Yp hlo.1]
 unfold rv cC;rw[hb]
theorem ZiV(gF:List Int)(f:Int):qh n (ao n) gF f=dI n [] [] 0 (ao n) gF f:=by
 have hb:pv n (ao n) gF f=ek n [] [] 0 (ao n) gF f:=by
  funext s
  unfold pv ek
  cases ZE (s.1<(n.aB.length:Int))with
  |false=>simp only[YD]
  |true=>
  simp only[YC]
  cases hy:aA n.aB s.1 with
  |none=>simp only[Option.bind_none]
  |some y=>simp only[VE,Zle hf hn hy]
 unfold qh dI;rw[hb]
theorem Sq{aO:Int}(Sb:0<=bd (ao n) ar)(Fq:aO<=100000)(hk:k<=(ao n).length):jZ n ar aO (k:Int)=ZA (bW n [] [] 0 (bd (ao n) ar) aO k):=by
 have hp:=TO hf;obtain⟨r0,e0,_⟩:=Ek hf (bd (ao n) ar) aO;have h0:bW n [] [] 0 (bd (ao n) ar) aO 0=r0:=by unfold bW;rw[e0];rfl
 unfold jZ;rw[(dF hf).2];simp only[VE,qL hf,hn,VK,YD,Yz (show ¬bd (ao n) ar<0 by omega),Yz (show ¬100000<aO by omega),Yz (show ¬(k:Int)<0 by omega),e0]
 have e:aD (fC n (k:Int) (ao n) (bd (ao n) ar)) NN (0,bW n [] [] 0 (bd (ao n) ar) aO 0)=ZA (bW n [] [] 0 (bd (ao n) ar) aO k):=by
  refine oz (body:=fC n (k:Int) (ao n) (bd (ao n) ar)) (λi:Nat=>((i:Int),bW n [] [] 0 (bd (ao n) ar) aO i)) (n:=k) (o:=bW n [] [] 0 (bd (ao n) ar) aO k) (λi hi=>?_) ?_ NN YI
  ·unfold fC
   rw[Yp (show(i:Int)<(k:Int)by omega),Yp (show(i:Int)<((ao n).length:Int)by omega),YC,YC,ZiV hf hn,(vB hf (l:=[]) YJ (ah:=[]) YJ 0 _ aO i).1,VE,aL YG]
   rfl
  ·unfold fC
   simp
 rw[<-h0,e];rfl
theorem SG{aO:Int}(Sb:0<=bd (ao n) ar)(Fq:aO<=100000)(Sd:0<=bd (ao n) aX){e:Int}(he:aA (bW n [] [] 0 (bd (ao n) ar) aO (ao n).length) (bd (ao n) aX)=ZA e):jE n ar aX aO=ZA e:=by
 have bO:=(mP (ao n) aX).2;have CX:=ot hf (l:=[]) YJ (ah:=[]) YJ 0 (bd (ao n) ar) aO (ao n).length;unfold jE;rw[(dF hf).2];simp only[VE,qL hf,Sq hf hn Sb Fq (VJ _),Yz (show ¬bd (ao n) aX<0 by omega),Yz (show ¬(((bW n [] [] 0 (bd (ao n) ar) aO (ao n).length).length:Int)=0)by rw[CX];omega),YD,he]
omit hf hn in
theorem NR{ax e aO:Int}(he:jE n ar aX aO=ZA e)(h0:0<=e)(h1:e<=100000)(hs:1<=ax/\ax<=3):kx n ax ar aX aO=ZA (Pf e ax):=by
 unfold kx;rw[he];simp only[VE,dG];have d1:e.tdiv 1440=e / 1440:=Yu h0;have d2:e.tmod 1440=e % 1440:=Yv h0;have hb:0<=e / 1440/\e / 1440<=69:=YG;have BU:IntKind.i64.wrap (e / 1440)=e / 1440:=aL YG;have hk:∃k:Int,0<=k/\k<=4/\aH (aH (ax-1)*aH (ax-1))=k/\k=(if ax=1 then 0 else if ax=2 then 1 else 4):=by
  rcases(show ax=1\/ax=2\/ax=3 by omega)with rfl|rfl|rfl
  ·exact⟨0,YG,YG,by decide,by simp⟩
  ·exact⟨1,YG,YG,by decide,by simp⟩
  ·exact⟨4,YG,YG,by decide,by simp⟩
 obtain⟨k,k0,k1,k2,k3⟩:=hk;rw[d1,d2,BU,Yp hs.1,Yp hs.2,Yz (show ¬e<0 by omega),k2]
 simp only[YD,Xj,VK];unfold Pf;rw[<-k3]
 by_cases hd:1080<e % 1440
 ·rw[Yp hd,if_pos hd,YC]
  rw[aL (n:=e / 1440+1) YG,aL (n:=e / 1440+1+k) YG,aL (n:=(e / 1440+1+k)*1440) YG,aL YG]
 ·rw[Yz hd,if_neg hd,YD]
  rw[aL (n:=e / 1440+k) YG,aL (n:=(e / 1440+k)*1440) YG,aL YG,Int.add_zero]
theorem DH(hl:l.length<=1048576)(hc:ah.length<=1048576){aO ab ax:Int}(hs:1<=ax/\ax<=3){aK:List aw}(h:bN n l ah ar aX aO ab=ZA (aK,ZC)):
 ∃d,eQ n ax ar aX aO=ZA d/\kx n ax ar aX aO=ZA d/\0<=d/\d<=200000:=by
 obtain⟨d,d1,d2,d3⟩:=QQ hf hn hl hc hs h;have hR:=tV hf hl hc h;obtain⟨q1,q2,q3,q4⟩:=hR.hC;have bO:=(mP (ao n) aX).2;have CX:=ot hf (l:=[]) YJ (ah:=[]) YJ 0 (bd (ao n) ar) aO (ao n).length;obtain⟨e,he,_⟩:=nQ (xs:=bW n [] [] 0 (bd (ao n) ar) aO (ao n).length) (i:=bd (ao n) aX) ⟨hR.Sd,by rw[CX];exact bO⟩
 have e1:=Iw hf hn q2 q3 hR.Sd he;have e2:=SG hf hn q2 q3 hR.Sd he;have gD:0<=e/\e<=100000:=by
  unfold eQ at d1
  rw[e1,VE]at d1
  obtain⟨v,hv,h0⟩:∃v,vI (bW n [] [] 0 (bd (ao n) ar) aO (ao n).length) (bd (ao n) aX) v/\v<=100000:=H4 hf hn hl hc h;obtain⟨v',v1,v2,v3⟩:=hv;rw[he]at v1
  obtain rfl:=VG v1;exact⟨v2,YG⟩
 refine⟨Pf e ax,Jx e1 gD.1 gD.2 hs,NR e2 gD.1 gD.2 hs,?_⟩;have:=Zeg (ax:=ax) gD.1 gD.2;omega
end
theorem Ot{w:az}(h:tC w)(ar aX:ByteArray)(ax ab:Int):
 ∃r,fc w ar aX ax ab=ZA r/\fo w ar aX ax ab=ZA r/\(r=(w,0,ZD)/\UM w ar aX ax ab\/∃aK ys ec,Zdl w ar aX ax ab r aK ys ec):=by
 have hf:=h.fit;obtain⟨p1,p2,p3,p4,p5,p6,p7⟩:=h.parts;obtain⟨r,e,hr⟩:=Zdo h ar aX ax ab λaK hw hs=>by
  obtain⟨d,d1,_,d2,d3⟩:=DH hf.fv h.fv hf.aq hf.ah hs hw;exact⟨d,d1,d2,d3⟩
 refine⟨r,e,?_,hr⟩;have Df:aH (w.now+1)=w.now+1:=aL YG;have Fv:aH ((w.ae.length:Int)+1)=(w.ae.length:Int)+1:=aL YG;have start:∀X,(∀(q:Option (az×Int×Bool)),q=ZA r->True)->X=ZA r->X=ZA r:=λ_ _ e=>e
 unfold fo;rw[CG hf,VE,tY hf,h.ok,VE,Df,Fv];simp only[VK,YD,dG,VE]
 -- RT follows where all is Zst but the aK
 obtain⟨⟨aK,b⟩,e1,e2⟩:=ug hf.fv hf.aq hf.ah ar aX (w.now+1) ab;have hbt:=Zdy hf.fv (show w.aq.length<=1048000 by omega) ((w.ae.length:Int)+1) ab aK
 obtain⟨y6,e6,_⟩:=hbt;rw[e2];simp only[VE];rw[e6];simp only[VE]
 rcases hr with⟨rfl,hR⟩ |⟨Zqv,ys,ec,hT⟩
 ·by_cases c1:30<=w.ae.length
  ·rw[Yp (show(30:Int)<=(w.ae.length:Int)by omega)];rfl
  rw[Yz (show ¬(30:Int)<=(w.ae.length:Int)by omega),YD]
  by_cases c2:ar=aX
  ·rw[Yp c2];rfl
  rw[Yz c2,YD]
  by_cases c3:1<=ax/\ax<=3
  case neg=>
   have:(ZE (1<=ax)&&ZE (ax<=3))=false:=by rw[<-XH];exact Yz c3
   rw[this];rfl
  rw[Yp c3.1,Yp c3.2]
  by_cases c4:1<=ab/\ab<=30000
  case neg=>
   have:(ZE (1<=ab)&&ZE (ab<=30000))=false:=by rw[<-XH];exact Yz c4
   rw[this];rfl
  rw[Yp c4.1,Yp c4.2];simp only[Xj,VK,YD]
  rcases hR with hx|hx|hx|hx|⟨x,hx⟩ |⟨wy,l,hx,hy⟩
  ·exact absurd hx c1
  ·exact absurd hx c2
  ·exact absurd c3 hx
  ·exact absurd c4 hx
  ·rw[e2]at hx
   have hb:b=false:=congrArg XQ (VG hx);rw[hb];rfl
  ·rw[e2]at hx
   have hb:aK=wy:=congrArg XP (VG hx);rw[<-hb,e6]at hy
   have xj:y6.2=false:=congrArg XQ (VG hy);rw[xj]
   cases b<;>rfl
 ·have hrm:=hT.jl
  rw[e2]at hrm
  have hb:b=true:=congrArg XQ (VG hrm);have BS:aK=Zqv:=congrArg XP (VG hrm);subst BS;subst hb;have Kb:=hT.book;rw[e6]at Kb
  obtain rfl:=VG Kb;have ji:=hT.ok;obtain⟨k1,k2,_⟩:=ji.parts;have k2':(w.ae++[pA w ar aX ax ab ec aK]).length<=30:=k2;rw[VV]at k2'
  simp only[VL,VO]at k2'
  have hv:=sw ji.ok (i:=w.ae.length) (o:=pA w ar aX ax ab ec aK) (by
   show(w.ae++[pA w ar aX ax ab ec aK])[w.ae.length]?=_;rw[V9 (VJ _),Nat.sub_self];rfl)
  unfold jd at hv
  simp only[VN,V7,YE,YF]at hv
  have c3:1<=ax/\ax<=3:=hv.1.1.1.1.1.1.1.1.2;have c4:1<=ab/\ab<=30000:=hv.1.1.1.1.1.1.1.2;obtain⟨d,d1,d2,_⟩:=DH hf.fv h.fv hf.aq hf.ah c3 hT.jl;have hpr:=hT.prom;rw[d1]at hpr
  obtain rfl:=VG hpr;have hR:=tV hf.fv hf.aq hf.ah hT.jl;have hlen:=hR.len;have ha:dg (bB (w.ae.length+([pA w ar aX ax ab d aK]:List ay).length) 128)=ZA ():=eK YY YG;have hsi:=NY (w:=⟨w.aa,w.ae++[pA w ar aX ax ab d aK],ys,w.ah,w.now,w.aJ,w.skip,w.aT⟩) ⟨by simp only;omega,p4,by simp only;omega⟩ ⟨(w.ae.length:Int)+1,w.now,1,ar,⟨0,0⟩⟩
  rw[Yz (show ¬(30:Int)<=(w.ae.length:Int)by omega),YD,Yz hT.ne,YD,Yp c3.1,Yp c3.2,Yp c4.1,Yp c4.2]
  simp only[Xj,VK,YD,d2,VE,vD,nG];unfold pA at ha hsi
  rw[ha];simp only[VE];rw[hsi,hT.res];rfl
def fe(t:aw)(y1:az)(s0:Int×Int×Int×Int×(List bM)×(List Int)×(List ay)×(List aj)×(List aw)×(List bc)×(List Int)):Option ((Int×Int×Int×Int×(List bM)×(List Int)×(List ay)×(List aj)×(List aw)×(List bc)×(List Int))⊕(Int×Int×Int×(List bM)×(List Int)×(List ay)×(List aj)×(List aw)×(List bc)×(List Int))):=
 cond (ZE (s0.1<(y1.ae.length:Int)))
 ((aA s0.2.2.2.2.2.2.1 s0.1).bind λy6=>
 (gG y6).bind λy7=>
 (dg (iC y7 (y6.aK.length:Int) y6.aK.length)).bind λ_=>
 (eF (cZ y6.aK y7 (y6.aK.length:Int)) t).bind λy8=>
 cond y8
 ((nG [2,3,4,5,6,7,8,9]).bind λ_=>
 (eT (⟨(⟨s0.2.2.2.2.1,s0.2.2.2.2.2.1,s0.2.1⟩:ak),s0.2.2.2.2.2.2.1,s0.2.2.2.2.2.2.2.1,s0.2.2.2.2.2.2.2.2.1,s0.2.2.1,s0.2.2.2.2.2.2.2.2.2.1,s0.2.2.2.2.2.2.2.2.2.2,s0.2.2.2.1⟩:az) (aH (s0.1+1))).bind λy9=>
 ZA (.inl ((aH (s0.1+1)),y9.aa.change,y9.now,y9.aT,y9.aa.aB,y9.aa.off,y9.ae,y9.aq,y9.ah,y9.aJ,y9.skip)))
 (ZA (.inl ((aH (s0.1+1)),s0.2.1,s0.2.2.1,s0.2.2.2.1,s0.2.2.2.2.1,s0.2.2.2.2.2.1,s0.2.2.2.2.2.2.1,s0.2.2.2.2.2.2.2.1,s0.2.2.2.2.2.2.2.2.1,s0.2.2.2.2.2.2.2.2.2.1,s0.2.2.2.2.2.2.2.2.2.2))))
 (ZA (.inr (s0.2.1,s0.2.2.1,s0.2.2.2.1,s0.2.2.2.2.1,s0.2.2.2.2.2.1,s0.2.2.2.2.2.2.1,s0.2.2.2.2.2.2.2.1,s0.2.2.2.2.2.2.2.2.1,s0.2.2.2.2.2.2.2.2.2.1,s0.2.2.2.2.2.2.2.2.2.2)))
instance (t:aw)(y1:az):bj (fe t y1):=⟨λs0=>(U 3 (.be 0 0 0::.be 1 0 0::.un::.be 2 0 0::(U 44 (vi (y1.ae.length:Int)::vi s0.1::(U 19 []))))),λs0=>[ZA ⟨.of 46,2,[[vi t.bG,vi t.day]]⟩,ZA ⟨.of 33,10,[[.v (.slice ZB 0 0),.v (.slice ZB 0 0),vi 0,.v (.slice ZB 0 0),.v (.slice ZB 0 0),.v (.slice ZB 0 0),vi 0,.v (.slice ZB 0 0),.v (.slice ZB 0 0),vi 0]]⟩,ZA ⟨.of 33,10,[[.ms 3,.ms 4,vi s0.2.1,.ms 5,.ms 6,.ms 7,vi s0.2.2.1,.ms 8,.ms 9,vi s0.2.2.2.1]]⟩,ZA ⟨.of 174,6,s0.2.2.2.2.1.map br⟩,ZA ⟨.of 3,1,s0.2.2.2.2.2.1.map aI⟩,ZA ⟨⟨155,ZA 46⟩,11,s0.2.2.2.2.2.2.1.map aY⟩,ZA ⟨.of 177,4,s0.2.2.2.2.2.2.2.1.map aC⟩,ZA ⟨.of 46,2,s0.2.2.2.2.2.2.2.2.1.map aS⟩,ZA ⟨.of 181,6,s0.2.2.2.2.2.2.2.2.2.1.map bt⟩,ZA ⟨.of 3,1,s0.2.2.2.2.2.2.2.2.2.2.map aI⟩]⟩
def kP(w:az)(t:aw):Option (az×Bool):=
 (dC w).bind λy1=>
 (gN w).bind λy2=>
 cond (!y2)
 (ZA (y1,ZD))
 ((dK w.aa t).bind λy3=>
 cond (!y3)
 (ZA (y1,ZD))
 ((de w.aa t).bind λy4=>
 cond (ZE (y4<=w.now))
 (ZA (y1,ZD))
 ((eF w.ah t).bind λy5=>
 cond y5
 (ZA (y1,ZD))
 (cond (ZE (20<=(w.ah.length:Int)))
 (ZA (y1,ZD))
 ((dg (bB ((y1.ah:List aw).length+([t]:List aw).length) 16)).bind λ_=>
 (aD (fe t y1) NN (0,y1.aa.change,y1.now,y1.aT,y1.aa.aB,y1.aa.off,y1.ae,y1.aq,((y1.ah:List aw)++[t]),y1.aJ,y1.skip)).bind (λo0=>
 ZA ((⟨(⟨o0.2.2.2.1,o0.2.2.2.2.1,o0.1⟩:ak),o0.2.2.2.2.2.1,o0.2.2.2.2.2.2.1,o0.2.2.2.2.2.2.2.1,o0.2.1,o0.2.2.2.2.2.2.2.2.1,o0.2.2.2.2.2.2.2.2.2,o0.2.2.1⟩:az),ZC)))))))
instance (w:az)(t:aw):CT prog (kP w t):=⟨111,[.ag (fa w),.ag (aS t)],[],λr=>.tu [.ag [.ms 0,.ms 1,vi r.1.aa.change,.ms 2,.ms 3,.ms 4,vi r.1.now,.ms 5,.ms 6,vi r.1.aT],vb r.2],λr=>[ZA ⟨.of 174,6,r.1.aa.aB.map br⟩,ZA ⟨.of 3,1,r.1.aa.off.map aI⟩,ZA ⟨⟨155,ZA 46⟩,11,r.1.ae.map aY⟩,ZA ⟨.of 177,4,r.1.aq.map aC⟩,ZA ⟨.of 46,2,r.1.ah.map aS⟩,ZA ⟨.of 181,6,r.1.aJ.map bt⟩,ZA ⟨.of 3,1,r.1.skip.map aI⟩],ck (kP.eq_1 ..) func111 ntmps111 results111⟩
theorem Zfk{σ σ' ο ο':Type}{b:σ->Option (σ⊕ο)}{b':σ'->Option (σ'⊕ο')}(I:Nat->σ->σ'->Prop){P:ο->ο'->Prop}
 (h:∀k s s',I k s s'->(∃t t' k',b s=ZA (.inl t)/\b' s'=ZA (.inl t')/\k'<k/\I k' t t')\/∃o o',b s=ZA (.inr o)/\b' s'=ZA (.inr o')/\P o o'):
 ∀(N k:Nat) (s:σ) (s':σ'),I k s s'->k<N->∃o o',aD b N s=ZA o/\aD b' N s'=ZA o'/\P o o'
 |0,k,s,s',_,hN=>YG
 |N+1,k,s,s',hI,hN=>by
  simp only[aD]
  rcases h k s s' hI with⟨t,t',k',e,e',hk,hI'⟩ |⟨o,o',e,e',hP⟩
  ·rw[e,e']
   exact Zfk I h N k' t t' hI' YG
  ·rw[e,e']
   exact⟨o,o',rfl,rfl,hP⟩
structure Shut(w:az)(t:aw)(x:az):Prop where
 aV:fw w.aa t=ZC
 ZqK:w.now<cE w.aa t
 new:¬t∈w.ah
 few:w.ah.length<20
 ok:tC x
 same:sD ⟨w.aa,w.ae,w.aq,w.ah++[t],w.now,w.aJ,w.skip,w.aT⟩ x
 ord:∀(i:Nat) (o:ay),w.ae[i]?=ZA o->∃o',x.ae[i]?=ZA o'/\(¬t∈lG o->o'=o)/\ye w.aa o o'
theorem ZcW{w:az}(h:tC w)(t:aw):∃r,kP w t=ZA r/\eh w t=ZA r/\(r=(w,ZD)\/∃x,r=(x,ZC)/\Shut w t x):=by
 have hf:=h.fit;obtain⟨p1,p2,p3,p4,p5,p6,p7⟩:=h.parts;obtain⟨hP,hRs⟩:=F0 h;unfold kP eh;rw[CF hf,CG hf,VE,VE,vR hf,tY hf,h.ok,VE,VE,(tI hf.fv t).1,Dl hf.fv h.fv,VE,VE];simp only[VK,YD]
 cases yU:fw w.aa t with
 |false=>exact⟨_,rfl,rfl,.inl rfl⟩
 |true=>
 obtain⟨t1,t2,t3,t4,t5⟩:=cT hf.fv h.fv yU;have xu:de w.aa t=ZA (cE w.aa t):=by rw[su];exact t1
 rw[xu,t1,VE,VE];simp only[VK,YD]
 by_cases c1:cE w.aa t<=w.now
 ·exact⟨_,by rw[Yp c1];rfl,by rw[Yp c1];rfl,.inl rfl⟩
 rw[Yz c1,YD,YD,iv,gh hf.ah,VE,VE];have hcb:(w.ah.any λy=>ZE (y=t))=cD w.ah t:=rfl
 rw[hcb]
 cases xk:cD w.ah t with
 |true=>exact⟨_,rfl,rfl,.inl rfl⟩
 |false=>
 simp only[YD]
 by_cases c2:(20:Int)<=(w.ah.length:Int)
 ·exact⟨_,by rw[Yp c2];rfl,by rw[Yp c2];rfl,.inl rfl⟩
 have ha:dg (bB (w.ah.length+([t]:List aw).length) 16)=ZA ():=eK YY YG;rw[Yz c2,YD,YD,ha,VE,VE]
 let w1:az:=⟨w.aa,w.ae,w.aq,w.ah++[t],w.now,w.aJ,w.skip,w.aT⟩
 have hf1:wH w1:=⟨hf.fv,hf.ae,hf.aq,by simp only[w1,VV,VL,VO];omega,hf.aJ,hf.skip,hf.aK⟩
 have xt:¬t∈w.ah:=λhm=>by rw[jo.2 hm]at xk;cases xk
 have key:∃r r',aD (fe t w) NN (0,qK w1)=ZA r/\aD (fq t) NN (0,qK w1)=ZA r'/\r'=r/\∃u,r=qK u/\sD w1 u/\yX u (λj=>if j<w.ae.length then u.ah else w.ah)/\∀(i:Nat) (o:ay),w.ae[i]?=ZA o->∃o',u.ae[i]?=ZA o'/\(¬t∈lG o->o'=o)/\ye w.aa o o':=by
  refine Zfk (fun(k:Nat) (s s':Int×Int×Int×Int×(List bM)×(List Int)×(List ay)×(List aj)×(List aw)×(List bc)×(List Int))=>s'=s/\∃(i:Nat) (u:az),s=((i:Int),qK u)/\i+k=w.ae.length/\sD w1 u/\yX u (λj=>if j<i then u.ah else w.ah)/\
   (∀(j:Nat) (o:ay),w.ae[j]?=ZA o->∃o',u.ae[j]?=ZA o'/\(¬t∈lG o->o'=o)/\ye w.aa o o')/\∀j,i<=j->u.ae[j]?=w.ae[j]?) (λk s s' hs=>?_) NN w.ae.length _ _ ⟨rfl,0,w1,rfl,YG,sD.refl _,⟨hf1,hP.my,hP.now,hP.Qx,λi o ho=>hP.ord i o ho,hP.sum,λi=>by simp;omega⟩,λj o ho=>⟨o,ho,λ_=>rfl,Or.inl rfl⟩,λj _=>rfl⟩ YI
  obtain⟨rfl,i,u,rfl,hk,hS,hU,hold,yM⟩:=hs;have hul:u.ae.length=w.ae.length:=hS.len
  by_cases bO:i<w.ae.length
  ·have hd1:ZE ((i:Int)<(w.ae.length:Int))=true:=Yp YG
   have hd2:ZE ((i:Int)<(u.ae.length:Int))=true:=Yp YG;have Sf:aH ((i:Int)+1)=((i+1:Nat):Int):=by rw[aL YG];omega
   have Bs:=VF bO;have MU:u.ae[i]?=ZA w.ae[i]:=by rw[yM i (VJ _)];exact Bs
   have hg:aA u.ae (i:Int)=ZA w.ae[i]:=by rw[aQ];exact MU
   have hO:=j2 hU MU;have hlen:=xU hU MU;obtain⟨k0,k1,k2,k3⟩:=oa hU MU;have Zex:eW w.ae[i]=ZA (bl w.ae[i]):=(wQ hO.ok.aN YG).1;have K7:gG w.ae[i]=ZA (bl w.ae[i]):=by
    rw[(wQ hO.ok.aN YG).2.2,if_neg YG]
   have D2:dg (iC (bl w.ae[i]) (w.ae[i].aK.length:Int) w.ae[i].aK.length)=ZA ():=pD (by unfold iC;exact Yp ⟨k0,k1,Wp _⟩)
   have Ez:cZ w.ae[i].aK (bl w.ae[i]) (w.ae[i].aK.length:Int)=lG w.ae[i]:=by
    unfold cZ lG;rw[Xa (by rw[WH];omega)]
   have hrl:(lG w.ae[i]).length<=1048576:=by unfold lG;rw[WH];omega
   have hcr:((lG w.ae[i]).any λy=>ZE (y=t))=cD (lG w.ae[i]) t:=rfl
   cases hc:cD (lG w.ae[i]) t
   rotate_left
   ·have hm:=jo.1 hc
    obtain⟨r1,r2⟩:=Ug hU MU (λe=>by rw[e]at hm;cases hm)
    obtain⟨u',e2,e,hR,hU'⟩:=Hw hU MU r1 r2;obtain⟨s1,⟨o',o1,o2⟩,s3⟩:=Q6 hU.fit.fv hR MU;rw[hS.aa]at o2
    have e':eT ⟨⟨u.aa.aB,u.aa.off,u.aa.change⟩,u.ae,u.aq,u.ah,u.now,u.aJ,u.skip,u.aT⟩ ((i+1:Nat):Int)=ZA u':=e;have CM:ew ⟨⟨u.aa.aB,u.aa.off,u.aa.change⟩,u.ae,u.aq,u.ah,u.now,u.aJ,u.skip,u.aT⟩ (i:Int)=ZA u':=e2;refine .inl ⟨(((i+1:Nat):Int),qK u'),_,k-1,?_,?_,YG,rfl,i+1,u',rfl,YG,hS.trans s1,?_,λj o ho=>?_,λj hj=>?_⟩
    ·unfold fe
     simp only[qK,hd1,YC,hg,VE,K7,D2,Ez,gh hrl,Sf,hcr,hc,nG,e']
    ·unfold fq
     show cond (ZE ((i:Int)<(u.ae.length:Int))) _ _=_;rw[hd2];simp only[qK,YC,hg,VE,Zex,D2,Ez,iv,gh hrl,Sf,hcr,hc,nG,CM]
    ·have ef:(λj=>if j=i then u.ah else if j<i then u.ah else w.ah)=λj=>if j<i+1 then u'.ah else w.ah:=by
      funext j
      rw[s1.ah]
      by_cases hj:j=i
      ·rw[if_pos hj,if_pos YG]
      ·rw[if_neg hj]
       by_cases hj2:j<i
       ·rw[if_pos hj2,if_pos YG]
       ·rw[if_neg hj2,if_neg YG]
     rw[<-ef];exact hU'
    ·by_cases hj:j=i
     ·subst hj
      rw[Bs]at ho
      obtain rfl:=VG ho;exact⟨o',o1,λhx=>absurd hm hx,o2⟩
     ·rw[s3 j hj];exact hold j o ho
    ·rw[s3 j YG];exact yM j YG
   ·refine .inl ⟨(((i+1:Nat):Int),qK u),_,k-1,?_,?_,YG,rfl,i+1,u,rfl,YG,hS,⟨hU.fit,hU.my,hU.now,hU.Qx,λj o ho=>?_,hU.sum,λj=>?_⟩,hold,λj hj=>yM j YG⟩
    ·unfold fe
     simp only[qK,hd1,YC,YD,hg,VE,K7,D2,Ez,gh hrl,Sf,hcr,hc]
    ·unfold fq
     show cond (ZE ((i:Int)<(u.ae.length:Int))) _ _=_;rw[hd2];simp only[qK,YC,YD,hg,VE,Zex,D2,Ez,iv,gh hrl,Sf,hcr,hc]
    ·by_cases hj:j=i
     ·subst hj
      rw[MU]at ho
      obtain rfl:=VG ho;have hv:=hU.ord j _ MU;rw[if_neg (Nat.lt_irrefl j)]at hv
      rw[if_pos (Nat.lt_succ_self j)];unfold zM jd at hv⊢
      simp only[VN,V7]at hv⊢
      refine⟨hv.1,?_⟩;have K1:=hv.2;rw[hS.ah];refine XB.2 λy hy hyc=>?_
      have:=XB.1 K1 y hy;have ZpD:=jo.1 hyc
      rcases WD.1 ZpD with hx|hx
      ·exact this (jo.2 hx)
      ·obtain rfl:=V8.1 hx
       have:cD (lG w.ae[j]) y=true:=jo.2 hy;rw[this]at hc;cases hc
     ·have hv:=hU.ord j o ho
      by_cases hj2:j<i
      ·rw[if_pos hj2]at hv
       rw[if_pos YG];exact hv
      ·rw[if_neg hj2]at hv
       rw[if_neg YG];exact hv
    ·show(if j<i+1 then u.ah else w.ah).length<=1048576
     split
     ·exact hU.fit.ah
     ·exact hf.ah
  ·have hd1:ZE ((i:Int)<(w.ae.length:Int))=false:=Yz YG
   have hd2:ZE ((i:Int)<(u.ae.length:Int))=false:=Yz YG;refine .inr ⟨qK u,_,?_,?_,rfl,u,rfl,hS,?_,hold⟩
   ·unfold fe
    simp only[qK,hd1,YD]
   ·unfold fq
    show cond (ZE ((i:Int)<(u.ae.length:Int))) _ _=_;rw[hd2];simp only[qK,YD]
   refine⟨hU.fit,hU.my,hU.now,hU.Qx,λj o ho=>?_,hU.sum,λj=>?_⟩
   ·have hj:=(VH.1 ho).1
    have hv:=hU.ord j o ho;rw[if_pos YG]at hv
    rw[if_pos YG];exact hv
   ·show(if j<w.ae.length then u.ah else w.ah).length<=1048576
    split
    ·exact hU.fit.ah
    ·exact hf.ah
 obtain⟨r,_,e,e2,rfl,u,rfl,hS,hU,hold⟩:=key;have e':aD (fe t w) NN (0,w.aa.change,w.now,w.aT,w.aa.aB,w.aa.off,w.ae,w.aq,w.ah++[t],w.aJ,w.skip)=ZA (qK u):=e;have CM:aD (fq t) NN (0,w.aa.change,w.now,w.aT,w.aa.aB,w.aa.off,w.ae,w.aq,w.ah++[t],w.aJ,w.skip)=ZA (qK u):=e2;rw[e',CM,VE];refine⟨(u,ZC),rfl,rfl,.inr ⟨u,rfl,yU,YG,xt,YG,?_,hS,hold⟩⟩;refine RX ⟨hU.fit,hU.my,hU.now,hU.Qx,λj o ho=>?_,hU.sum,λ_=>hU.fit.ah⟩ ⟨?_,by rw[hS.aJ];exact hRs.aJ,by rw[hS.skip];exact hRs.skip,by rw[hS.aJ,hS.aT];exact hRs.aT,?_,?_⟩
 ·have hj:=(VH.1 ho).1
  have hv:=hU.ord j o ho;rw[if_pos (by rw[<-hS.len];exact hj)]at hv
  exact hv
 ·rw[hS.ah];simp only[w1,VV,VL,VO];omega
 ·refine cJ.2 λj x hx=>?_
  unfold vf;rw[hS.ah,hS.aa]at *
  have vQ:(w.ah++[t])[j]?=ZA x:=hx;rw[VY];show(fw w.aa x&&!cD ((w.ah++[t]).take j) x)=ZC
  by_cases hj:j<w.ah.length
  ·rw[Wi hj]at vQ
   have:=cJ.1 hRs.cl j x vQ;unfold vf at this
   rw[VY]at this
   rw[List.take_append_of_le_length YG];exact this
  ·rw[V9 YG]at vQ
   have hj0:j-w.ah.length=0:=by
    have:=(VH.1 vQ).1;simp only[VL,VO]at this;omega
   rw[hj0]at vQ
   obtain rfl:t=x:=by simpa using vQ
   rw[show j=w.ah.length by omega,List.take_left,xk,yU];rfl
 ·refine cJ.2 λj x hx=>?_
  rw[hS.aJ]at hx
  have:=cJ.1 hRs.sc j x hx;unfold By at this⊢
  rw[hS.aa,hS.now];exact this
def lY(w:az)(s0:Int×(List Int)):Option ((Int×(List Int))⊕(List Int)):=
 cond (ZE (s0.1<(w.ae.length:Int)))
 ((aA w.ae s0.1).bind λy2=>
 (fL w y2).bind λy3=>
 cond y3
 ((dg (bB ((s0.2:List Int).length+([(aH (s0.1+1))]:List Int).length) 8)).bind λ_=>
 ZA (.inl ((aH (s0.1+1)),((s0.2:List Int)++[(aH (s0.1+1))]))))
 (ZA (.inl ((aH (s0.1+1)),s0.2))))
 (ZA (.inr s0.2))
instance (w:az):bj (lY w):=⟨λs0=>(.un::.be 0 0 0::.un::.ms 1::(U 8 (.sl (w.ae.map aY)::vi (w.ae.length:Int)::vi s0.1::(U 14 [])))),λs0=>[ZA ⟨.of 33,10,[[.sl (w.aa.aB.map br),.sl (w.aa.off.map aI),vi w.aa.change,.sl (w.ae.map aY),.sl (w.aq.map aC),.sl (w.ah.map aS),vi w.now,.sl (w.aJ.map bt),.sl (w.skip.map aI),vi w.aT]]⟩,ZA ⟨.of 3,1,s0.2.map aI⟩]⟩
def lX(w:az):Option (List Int):=
 (gN w).bind λy1=>
 cond (!y1)
 (ZA ([]:List Int))
 ((aD (lY w) NN (0,([]:List Int))).bind (λo0=>
 ZA o0))
instance (w:az):CT prog (lX w):=⟨213,[.ag (fa w)],[],λr=>.ms 0,λr=>[ZA ⟨.of 3,1,r.map aI⟩],cw (lX.eq_1 ..) func213 ntmps213 results213⟩
def qM(p:ay->Bool):Nat->List ay->List Int
 |_,[]=>[]
 |i,o::os=>(if p o=ZC then [((i+1:Nat):Int)]else [])++qM p (i+1) os
theorem xW(p:ay->Bool):∀(os:List ay) (i:Nat),(qM p i os).length=os.countP p
 | [],_=>rfl
 |o::os,i=>by
  unfold qM;rw[VV,xW p os,Yd]
  cases p o<;>simp<;>omega
theorem AH{p:ay->Bool}{x:Int}:∀{os:List ay} {i:Nat},x∈qM p i os↔∃(j:Nat) (o:ay),os[j]?=ZA o/\p o=ZC/\x=((i+j+1:Nat):Int)
 | [],i=>by simp[qM]
 |o::os,i=>by
  unfold qM;rw[WD,AH (os:=os) (i:=i+1)];constructor
  ·rintro(h|⟨j,o',h1,h2,h3⟩)
   ·cases hp:p o with
    |false=>rw[hp]at h;simp at h
    |true=>rw[hp,if_pos rfl]at h;exact⟨0,o,rfl,hp,by rw[V8.1 h]⟩
   ·exact⟨j+1,o',by simpa using h1,h2,by rw[h3,show i+1+j+1=i+(j+1)+1 by omega]⟩
  ·rintro⟨j,o',h1,h2,h3⟩
   cases j with
   |zero=>
    obtain rfl:o=o':=by simpa using h1
    exact .inl (by rw[h2,if_pos rfl,h3];simp)
   |succ j=>exact .inr ⟨j,o',by simpa using h1,h2,by rw[h3,show i+1+j+1=i+(j+1)+1 by omega]⟩
theorem Jr(p:ay->Bool):∀(os:List ay) (o:ay) (i:Nat),qM p i (os++[o])=qM p i os++(if p o=ZC then [((i+os.length+1:Nat):Int)]else [])
 | [],o,i=>by simp[qM]
 |x::os,o,i=>by
  simp only[W7,qM,Jr p os o (i+1),Xe,VL];rw[show i+1+os.length+1=i+(os.length+1)+1 by omega]
theorem OW{w:az}(hl:w.ae.length<=1048576){body:Int×List Int->Option ((Int×List Int)⊕List Int)}{p:ay->Bool}
 (h1:∀(i:Nat) (out:List Int) (o:ay),w.ae[i]?=ZA o->out.length<=i->body ((i:Int),out)=ZA (.inl (((i+1:Nat):Int),out++(if p o=ZC then [((i+1:Nat):Int)]else []))))
 (h2:∀out,body ((w.ae.length:Int),out)=ZA (.inr out)):aD body NN (0,([]:List Int))=ZA (qM p 0 w.ae):=by
 refine oz (body:=body) (λi:Nat=>((i:Int),qM p 0 (w.ae.take i))) (n:=w.ae.length) (λi hi=>?_) (by simp only[WA];exact h2 _) NN YI
 have ho:=VF hi;have IV:(qM p 0 (w.ae.take i)).length<=i:=by
  rw[xW];exact Wb XJ Zg
 rw[h1 i _ _ ho IV,WI hi,Jr,V3,Nat.min_eq_left YG,VY]
theorem UU{n:Nat}(h:n<=1048576):dg (bB (n+1) 8)=ZA ():=pD (by unfold bB;rw[YE];omega)
def dO(n:ak)(o:ay):Bool:=!decide (o.state=3)&&ZE (bl o=o.aK.length)&&!decide (fJ n o=o.aX)
section
variable {w:az} (h:tC w)
include h
theorem JR{i:Nat}{o:ay}(ho:w.ae[i]?=ZA o):fL w o=ZA (dO w.aa o):=by
 have ji:=oU h.fit h.ok ho;have hl:=h.fit.aK o (VI ho);obtain⟨_,_,c3⟩:=wQ ji.aN hl;have Ev:=ji.aN;unfold fL dO
 rcases ji.cases with⟨k1,k2⟩ |⟨k1,k2⟩ |⟨k1,k2,k3⟩
 ·have CZ:bl o=o.aN:=by unfold bl;rw[if_neg YG]
  have hp:nI w o=ZA (fJ w.aa o):=by
   unfold nI fJ;rw[Yz (show ¬o.state=2 by omega),if_neg (show ¬o.state=2 by omega)];rfl
  rw[c3,CZ,if_neg (show ¬(o.aK.length:Int)<o.aN by omega),hp,Yz (show ¬o.state=3 by omega)]
  simp only[VE]
  cases ZE (o.aN=(o.aK.length:Int))<;>rfl
 ·have CZ:bl o=o.aN+1:=by unfold bl;rw[if_pos k1]
  obtain⟨t,htg,yU⟩:=JZ h.fit h.ok ho ji.aN.1 k2;obtain⟨y,hy,_⟩:=fh h.fit.fv yU;have hp:nI w o=ZA (fJ w.aa o):=by
   unfold nI fJ;rw[Yp k1,if_pos k1,htg,(mO htg).2];simp only[YC,VE,hy,Wo,Ww];unfold cd;rw[hy];rfl
  rw[c3,CZ,if_neg (show ¬(o.aK.length:Int)<o.aN+1 by omega),hp,Yz (show ¬o.state=3 by omega)]
  simp only[VE]
  cases ZE (o.aN+1=(o.aK.length:Int))<;>rfl
 ·rw[Yp k1];rfl
theorem N3:lX w=ZA (qM (dO w.aa) 0 w.ae):=by
 have hor:=h.fit.ae;unfold lX;rw[vR h.fit,h.ok,VE];simp only[VK,YD];rw[OW hor (p:=dO w.aa) (λi out o ho hlen=>?_) (λout=>by unfold lY;simp)]
 ·rfl
 ·have bO:=(VH.1 ho).1
  have hg:aA w.ae (i:Int)=ZA o:=by rw[aQ];exact ho
  have hi:aH ((i:Int)+1)=((i+1:Nat):Int):=bI bO YG;unfold lY;simp only[Yp (show(i:Int)<w.ae.length by omega),YC,hg,VE,hi,JR h ho,VL,VO,UU (show out.length<=1048576 by omega)]
  cases dO w.aa o<;>simp
end
def dM(y2:(List Int))(s0:Int×Int×Int×Int×Int×(List bM)×(List Int)×(List ay)×(List aj)×(List aw)×(List bc)×(List Int)):Option ((Int×Int×Int×Int×Int×(List bM)×(List Int)×(List ay)×(List aj)×(List aw)×(List bc)×(List Int))⊕(Int×Int×Int×Int×(List bM)×(List Int)×(List ay)×(List aj)×(List aw)×(List bc)×(List Int))):=
 cond (ZE (s0.2.1<(y2.length:Int)))
 ((aA y2 s0.2.1).bind λy3=>
 (nG [1,2,3,4,5,6,7,8]).bind λ_=>
 (eT (⟨(⟨s0.2.2.2.2.2.1,s0.2.2.2.2.2.2.1,s0.2.2.1⟩:ak),s0.2.2.2.2.2.2.2.1,s0.2.2.2.2.2.2.2.2.1,s0.2.2.2.2.2.2.2.2.2.1,s0.2.2.2.1,s0.2.2.2.2.2.2.2.2.2.2.1,s0.2.2.2.2.2.2.2.2.2.2.2,s0.2.2.2.2.1⟩:az) y3).bind λy4=>
 (aA y4.ae (aH (y3-1))).bind λy5=>
 (fL y4 y5).bind λy6=>
 cond (!y6)
 (ZA (.inl ((aH (s0.1+1)),(aH (s0.2.1+1)),y4.aa.change,y4.now,y4.aT,y4.aa.aB,y4.aa.off,y4.ae,y4.aq,y4.ah,y4.aJ,y4.skip)))
 (ZA (.inl (s0.1,(aH (s0.2.1+1)),y4.aa.change,y4.now,y4.aT,y4.aa.aB,y4.aa.off,y4.ae,y4.aq,y4.ah,y4.aJ,y4.skip))))
 (ZA (.inr (s0.1,s0.2.2.1,s0.2.2.2.1,s0.2.2.2.2.1,s0.2.2.2.2.2.1,s0.2.2.2.2.2.2.1,s0.2.2.2.2.2.2.2.1,s0.2.2.2.2.2.2.2.2.1,s0.2.2.2.2.2.2.2.2.2.1,s0.2.2.2.2.2.2.2.2.2.2.1,s0.2.2.2.2.2.2.2.2.2.2.2)))
instance (y2:(List Int)):bj (dM y2):=⟨λs0=>(.un::.un::.be 0 0 0::.un::.be 1 0 0::vi s0.1::(U 5 (.ms 9::vi (y2.length:Int)::vi s0.2.1::(U 19 [])))),λs0=>[ZA ⟨.of 33,10,[[.v (.slice ZB 0 0),.v (.slice ZB 0 0),vi 0,.v (.slice ZB 0 0),.v (.slice ZB 0 0),.v (.slice ZB 0 0),vi 0,.v (.slice ZB 0 0),.v (.slice ZB 0 0),vi 0]]⟩,ZA ⟨.of 33,10,[[.ms 2,.ms 3,vi s0.2.2.1,.ms 4,.ms 5,.ms 6,vi s0.2.2.2.1,.ms 7,.ms 8,vi s0.2.2.2.2.1]]⟩,ZA ⟨.of 174,6,s0.2.2.2.2.2.1.map br⟩,ZA ⟨.of 3,1,s0.2.2.2.2.2.2.1.map aI⟩,ZA ⟨⟨155,ZA 46⟩,11,s0.2.2.2.2.2.2.2.1.map aY⟩,ZA ⟨.of 177,4,s0.2.2.2.2.2.2.2.2.1.map aC⟩,ZA ⟨.of 46,2,s0.2.2.2.2.2.2.2.2.2.1.map aS⟩,ZA ⟨.of 181,6,s0.2.2.2.2.2.2.2.2.2.2.1.map bt⟩,ZA ⟨.of 3,1,s0.2.2.2.2.2.2.2.2.2.2.2.map aI⟩,ZA ⟨.of 3,1,y2.map aI⟩]⟩
def iF(w:az):Option (az×Int):=
 (dC w).bind λy1=>
 (lX w).bind λy2=>
 (aD (dM y2) NN (0,0,y1.aa.change,y1.now,y1.aT,y1.aa.aB,y1.aa.off,y1.ae,y1.aq,y1.ah,y1.aJ,y1.skip)).bind (λo0=>
 ZA ((⟨(⟨o0.2.2.2.2.1,o0.2.2.2.2.2.1,o0.2.1⟩:ak),o0.2.2.2.2.2.2.1,o0.2.2.2.2.2.2.2.1,o0.2.2.2.2.2.2.2.2.1,o0.2.2.1,o0.2.2.2.2.2.2.2.2.2.1,o0.2.2.2.2.2.2.2.2.2.2,o0.2.2.2.1⟩:az),o0.1))
instance (w:az):CT prog (iF w):=⟨112,[.ag (fa w)],[],λr=>.tu [.ag [.ms 0,.ms 1,vi r.1.aa.change,.ms 2,.ms 3,.ms 4,vi r.1.now,.ms 5,.ms 6,vi r.1.aT],vi r.2],λr=>[ZA ⟨.of 174,6,r.1.aa.aB.map br⟩,ZA ⟨.of 3,1,r.1.aa.off.map aI⟩,ZA ⟨⟨155,ZA 46⟩,11,r.1.ae.map aY⟩,ZA ⟨.of 177,4,r.1.aq.map aC⟩,ZA ⟨.of 46,2,r.1.ah.map aS⟩,ZA ⟨.of 181,6,r.1.aJ.map bt⟩,ZA ⟨.of 3,1,r.1.skip.map aI⟩],ck (iF.eq_1 ..) func112 ntmps112 results112⟩
theorem countP_set{α:Type}(p:α->Bool):∀{l:List α} {i:Nat} {o:α} (x:α),l[i]?=ZA o->(l.set i x).countP p+(if p o=ZC then 1 else 0)=l.countP p+(if p x=ZC then 1 else 0)
 | [],_,_,_,h=>by simp at h
 |a::l,0,o,x,h=>by
  obtain rfl:a=o:=by simpa using h
  simp only[List.set_cons_zero,Yd];omega
 |a::l,i+1,o,x,h=>by
  have:=countP_set p x (l:=l) (i:=i) (o:=o) Zl;simp only[List.set_cons_succ,Yd];omega
theorem QL(p:ay->Bool):∀(os:List ay) (i:Nat),(qM p i os).Pairwise (· < ·)
 | [],_=>Xx
 |o::os,i=>by
  unfold qM;refine List.pairwise_append.2 ⟨by cases p o<;>simp,QL p os (i+1),λa ha b hb=>?_⟩
  obtain⟨j,o',_,_,rfl⟩:=AH.1 hb
  cases hp:p o with
  |false=>rw[hp]at ha;simp at ha
  |true=>
   rw[hp,if_pos rfl]at ha
   obtain rfl:=V8.1 ha;omega
theorem Hr.same{w w':az}(h:Hr w)(k:sD w w'):Hr w':=by
 refine⟨by rw[k.ah];exact h.ah,by rw[k.aJ];exact h.aJ,by rw[k.skip];exact h.skip,by rw[k.aJ,k.aT];exact h.aT,?_,?_⟩
 ·have:=h.cl
  unfold vf at this⊢
  rw[k.ah,k.aa];exact this
 ·have:=h.sc
  unfold By at this⊢
  rw[k.aJ,k.aa,k.now];exact this
def Zdg(n:ak)(ah:List aw)(now:Int)(bs:List aj)(i:Nat)(o:ay):Prop:=(∃x,bN n bs ah (fJ n o) o.aX (atR n now o) o.ab=ZA (x,ZD))\/
 ∃aK,bN n bs ah (fJ n o) o.aX (atR n now o) o.ab=ZA (aK,ZC)/\cg n bs ((i+1:Nat):Int) o.ab aK=ZA (bs,ZD)
structure L9(w x:az)(n:Nat):Prop where
 ok:tC x
 same:sD w x
 num:n+x.ae.countP (dO w.aa)=w.ae.countP (dO w.aa)
 ord:∀(i:Nat) (o:ay),w.ae[i]?=ZA o->∃o',x.ae[i]?=ZA o'/\ye w.aa o o'/\(o'=o\/dO w.aa o=ZC/\dO w.aa o'=ZD)
 ZB:∀(i:Nat) (o:ay),w.ae[i]?=ZA o->x.ae[i]?=ZA o->dO w.aa o=ZC->∃bs,(∀b∈bs,b∈x.aq)/\cb w.aa bs=ZC/\Zdg w.aa w.ah w.now bs i o
theorem N2{n:ak}{o:ay}(h:dO n o=ZC):¬o.state=3/\bl o=o.aK.length/\¬fJ n o=o.aX/\lG o=[]/\bS o=o.aK:=by
 unfold dO at h
 simp only[VN,V7,YE,YF]at h
 refine⟨h.1.1,h.1.2,h.2,?_,?_⟩
 ·unfold lG
  exact XG YG
 ·unfold bS
  exact Xa YG
theorem zW{w:az}(h:tC w):hZ w=ZA (qM (dO w.aa) 0 w.ae):=by
 have hor:=h.fit.ae;unfold hZ;rw[tY h.fit,h.ok,VE];simp only[VK,YD];rw[OW hor (p:=dO w.aa) (λi out o ho hlen=>?_) (λout=>by unfold mf;simp)]
 ·rfl
 ·have bO:=(VH.1 ho).1
  have hi:aH ((i:Int)+1)=((i+1:Nat):Int):=bI bO YG;obtain⟨b,b1,b2,_⟩:=Rv h.fit h.ok ho;rw[JR h ho]at b1
  have hb:jb w (i:Int)=ZA (dO w.aa o):=by rw[b2,VG b1]
  unfold mf;simp only[Yp (show(i:Int)<w.ae.length by omega),YC,hi,hb,VE,VL,VO,UU (show out.length<=1048576 by omega)]
  cases dO w.aa o<;>simp
theorem Uh{w:az}(h:tC w):∃(x:az) (n:Nat),iF w=ZA (x,(n:Int))/\et w=ZA (x,(n:Int))/\L9 w x n:=by
 have hf:=h.fit;obtain⟨p1,p2,p3,p4,p5,p6,p7⟩:=h.parts
 let ids:=qM (dO w.aa) 0 w.ae
 have Zrs:ids.length<=30:=by
  show(qM _ 0 w.ae).length<=30;rw[xW];exact Wb XJ p2
 have hpw:ids.Pairwise (· < ·):=QL _ _ _
 unfold iF et;rw[CF hf,CG hf,VE,VE,N3 h,zW h,VE,VE];have key:∃r r',aD (dM ids) NN (0,0,qK w)=ZA r/\aD (dY ids) NN (0,qK w)=ZA r'/\∃(u:az) (m:Nat),r=((m:Int),qK u)/\r'=qK u/\L9 w u m:=by
  refine Zfk (fun(k:Nat) (s:Int×Int×Int×Int×Int×(List bM)×(List Int)×(List ay)×(List aj)×(List aw)×(List bc)×(List Int)) (s':Int×Int×Int×Int×(List bM)×(List Int)×(List ay)×(List aj)×(List aw)×(List bc)×(List Int))=>
   ∃(a:Nat) (u:az) (m:Nat),s=((m:Int),(a:Int),qK u)/\s'=((a:Int),qK u)/\a+k=ids.length/\tC u/\sD w u/\m<=a/\m+u.ae.countP (dO w.aa)=w.ae.countP (dO w.aa)/\
   (∀(i:Nat) (o:ay),w.ae[i]?=ZA o->∃o',u.ae[i]?=ZA o'/\ye w.aa o o'/\(o'=o\/dO w.aa o=ZC/\dO w.aa o'=ZD))/\
   (∀(i:Nat) (o:ay),w.ae[i]?=ZA o->(∀b,b<a->¬ids[b]?=ZA ((i+1:Nat):Int))->u.ae[i]?=ZA o)/\
   (∀(i:Nat) (o:ay),w.ae[i]?=ZA o->u.ae[i]?=ZA o->dO w.aa o=ZC->(∃b,b<a/\ids[b]?=ZA ((i+1:Nat):Int))->∃bs,(∀b∈bs,b∈u.aq)/\cb w.aa bs=ZC/\Zdg w.aa w.ah w.now bs i o)) (λk s s' hs=>?_) NN ids.length _ _
   ⟨0,w,0,rfl,rfl,YG,h,sD.refl w,VJ _,VY _,λi o ho=>⟨o,ho,Or.inl rfl,.inl rfl⟩,λi o ho _=>ho,λi o _ _ _ hb=>by obtain⟨b,hb,_⟩:=hb;omega⟩ YI
  obtain⟨a,u,m,rfl,rfl,hk,hu,hS,hma,Znk,hold,yM,zr⟩:=hs;have hd0:∀b,ZE ((a:Int)<(ids.length:Int))=b->ZE ((a:Int)<(ids.length:Int))=b:=λ_ e=>e
  by_cases bO:a<ids.length
  ·have hd:ZE ((a:Int)<(ids.length:Int))=true:=Yp YG
   have hwa:aH ((a:Int)+1)=((a+1:Nat):Int):=by rw[aL YG];omega
   have hwm:aH ((m:Int)+1)=((m+1:Nat):Int):=by rw[aL YG];omega
   have hia:ids[a]?=ZA ids[a]:=VF bO;have hga:aA ids (a:Int)=ZA ids[a]:=by rw[aQ];exact hia
   obtain⟨i,o,Bs,xu,hx⟩:=AH.1 (Wd bO);rw[VY]at hx
   have vQ:ids[a]=((i+1:Nat):Int):=hx;have Zrr:i<30:=by have:=(VH.1 Bs).1;omega
   have MU:u.ae[i]?=ZA o:=yM i o Bs λb hb e=>by
    have CX:b<ids.length:=YG;rw[VF CX]at e
    have:=Wm.1 hpw b a CX bO hb;rw[VG e,vQ]at this
    omega
   obtain⟨hU,hRs⟩:=F0 hu;obtain⟨r1,r2,r3,r4,r5⟩:=N2 xu;have yt:u.aa=w.aa:=hS.aa;obtain⟨u',e2,e,hR,hU'⟩:=Hw hU MU r1 (by rw[yt];exact r3)
   obtain⟨s1,⟨o',o1,o2⟩,s3⟩:=Q6 hU.fit.fv hR MU;rw[yt]at o2
   have rh:tC u':=by
    refine RX ?_ (hRs.same s1);have ef:(λj=>if j=i then u.ah else u.ah)=λ_:Nat=>u'.ah:=by
     funext j;rw[s1.ah];split<;>rfl
    rw[<-ef];exact hU'
   have ZeH:fX u i o=u.aq:=by unfold fX;rw[r4];exact Zbu _ _
   have La:=JR rh o1;have Zni:u'.aa=w.aa:=s1.aa.trans yt;rw[Zni]at La
   have Sf:aH (((i+1:Nat):Int)-1)=(i:Int):=by rw[aL YG];omega
   have hgo:aA u'.ae (i:Int)=ZA o':=by rw[aQ];exact o1
   have e':eT ⟨⟨u.aa.aB,u.aa.off,u.aa.change⟩,u.ae,u.aq,u.ah,u.now,u.aJ,u.skip,u.aT⟩ ((i+1:Nat):Int)=ZA u':=e;have CM:ew ⟨⟨u.aa.aB,u.aa.off,u.aa.change⟩,u.ae,u.aq,u.ah,u.now,u.aJ,u.skip,u.aT⟩ (i:Int)=ZA u':=e2;have Bv:dY ids ((a:Int),qK u)=ZA (.inl (((a+1:Nat):Int),qK u')):=by
    unfold dY;simp only[qK,hd,YC,hga,VE,nG,vQ,Sf,CM,hwa]
   have him:∀v,dO w.aa o'=v->dM ids ((m:Int),(a:Int),qK u)=ZA (.inl ((((if v=ZC then m else m+1):Nat):Int),((a+1:Nat):Int),qK u')):=λv hv=>by
    unfold dM;simp only[qK,hd,YC,hga,VE,nG,vQ,Sf,e',hgo,hwa];rw[La,hv,VE]
    cases v with
    |true=>rfl
    |false=>rw[hwm];rfl
   rcases hR with⟨Bt,EB⟩ |⟨aK,bs,hN,EB⟩
   · -- nothing is found: all stays
    have huu:u'=u:=by
     have Dc:u.ae.set i o=u.ae:=by
      refine Ya λj=>?_
      by_cases hj:i=j
      ·subst hj
       rw[Wa (VH.1 MU).1,MU]
      ·rw[Wk hj]
     rw[EB,ZeH,r5];show(⟨u.aa,u.ae.set i o,u.aq,u.ah,u.now,u.aJ,u.skip,u.aT⟩:az)=u;rw[Dc]
    rw[huu]at o1 Bv him
    rw[MU]at o1
    obtain rfl:=VG o1;refine .inl ⟨_,_,k-1,him _ xu,Bv,YG,a+1,u,m,by rw[if_pos rfl],rfl,YG,hu,hS,YG,Znk,hold,λj x hj hb=>yM j x hj λb hba=>hb b YG,λj x hj hux hsx hb=>?_⟩
    obtain⟨b,uQ,xj⟩:=hb
    by_cases hba:b<a
    ·exact zr j x hj hux hsx ⟨b,hba,xj⟩
    ·have hbe:b=a:=YG
     subst hbe;rw[hia,vQ]at xj
     have Cl:j=i:=by have:=VG xj;omega
     subst Cl;rw[Bs]at hj
     obtain rfl:=VG hj;refine⟨u.aq,λb hb=>hb,by rw[<-yt];exact hU.my,?_⟩
     have ZeL:=Bt;unfold Zdf at ZeL
     rw[ZeH,yt,hS.ah,hS.now]at ZeL
     exact ZeL
   · -- a aK is found
    have ZpC:¬aK=[]:=λhw=>by
     have hl:=hN.RS.last;rw[hw]at hl
     have PJ:(ZA (fJ u.aa o):Option ByteArray)=ZA o.aX:=hl;rw[yt]at PJ
     exact r3 (VG PJ)
    have Ol:o'=eM o (bS o++aK):=by
     rw[EB]at o1
     have:(u.ae.set i (eM o (bS o++aK)))[i]?=ZA o':=o1;rw[Wa (VH.1 MU).1]at this
     exact(VG this).symm
    have MK:dO w.aa o'=false:=by
     have CZ:bl o'=bl o:=by rw[Ol];rfl
     have PO:0<aK.length:=by cases aK with
      |nil=>exact absurd rfl ZpC
      |cons a b=>simp
     have hol:o'.aK.length=o.aK.length+aK.length:=by
      rw[Ol];show(bS o++aK).length=_;rw[VV,r5]
     unfold dO;rw[Yz (show ¬bl o'=(o'.aK.length:Int)by omega)];simp
    have Kb:u'.aq=bs:=by rw[EB];rfl
    have As:∀b∈u.aq,b∈u'.aq:=λb hb=>by
     rw[Kb];exact hN.perm.mem_iff.2 (WO _ (by rw[ZeH];exact hb))
    have Zm3:=countP_set (dO w.aa) (eM o (bS o++aK)) MU;rw[<-Ol,xu,MK]at Zm3
    have hou:u'.ae=u.ae.set i o':=by rw[EB,Ol];rfl
    simp only[if_true,Bool.false_eq_true,if_false]at Zm3
    refine .inl ⟨_,_,k-1,him _ MK,Bv,YG,a+1,u',m+1,by simp,rfl,YG,rh,hS.trans s1,YG,by rw[hou];omega,λj x hj=>?_,λj x hj hb=>?_,λj x hj hux hsx hb=>?_⟩
    ·by_cases Cl:j=i
     ·subst Cl
      rw[Bs]at hj
      obtain rfl:=VG hj;exact⟨o',o1,o2,.inr ⟨xu,MK⟩⟩
     ·rw[s3 j Cl];exact hold j x hj
    ·have Cl:¬j=i:=λe=>hb a YG (by rw[hia,vQ,e])
     rw[s3 j Cl];exact yM j x hj λb hba=>hb b YG
    ·have Cl:¬j=i:=λe=>by
      subst e;rw[o1]at hux
      rw[<-VG hux,MK]at hsx
      cases hsx
     rw[s3 j Cl]at hux
     obtain⟨b,uQ,xj⟩:=hb;have hba:b<a:=by
      rcases Wg b a with hx1|hx1
      ·exact hx1
      ·have hbe:b=a:=YG
       subst hbe;rw[hia,vQ]at xj
       exact absurd (by have:=VG xj;omega) Cl
     obtain⟨bs',q1,q2,q3⟩:=zr j x hj hux hsx ⟨b,hba,xj⟩;exact⟨bs',λb hb=>As b (q1 b hb),q2,q3⟩
  ·have hd:ZE ((a:Int)<(ids.length:Int))=false:=Yz YG
   refine .inr ⟨((m:Int),qK u),qK u,?_,?_,u,m,rfl,rfl,hu,hS,Znk,hold,λi o ho MU xu=>zr i o ho MU xu ?_⟩
   ·unfold dM
    simp only[qK,hd,YD]
   ·unfold dY
    simp only[qK,hd,YD]
   ·have hm:((0+i+1:Nat):Int)∈ids:=AH.2 ⟨i,o,ho,xu,rfl⟩
    rw[VY]at hm
    obtain⟨b,hb,hbe⟩:=V2 hm;exact⟨b,YG,by rw[VF hb,hbe]⟩
 obtain⟨r,r',e,e2,u,m,rfl,rfl,hR⟩:=key;have e':aD (dM (qM (dO w.aa) 0 w.ae)) NN (0,0,w.aa.change,w.now,w.aT,w.aa.aB,w.aa.off,w.ae,w.aq,w.ah,w.aJ,w.skip)=ZA ((m:Int),qK u):=e;have CM:aD (dY (qM (dO w.aa) 0 w.ae)) NN (0,w.aa.change,w.now,w.aT,w.aa.aB,w.aa.off,w.ae,w.aq,w.ah,w.aJ,w.skip)=ZA (qK u):=e2;rw[e',CM];refine⟨u,m,rfl,?_,hR⟩;have hsu:=zW hR.ok;have Zpz:hZ ⟨⟨u.aa.aB,u.aa.off,u.aa.change⟩,u.ae,u.aq,u.ah,u.now,u.aJ,u.skip,u.aT⟩=ZA (qM (dO u.aa) 0 u.ae):=hsu;simp only[qK,VE,Zpz];have hn:=hR.num;have MO:dO u.aa=dO w.aa:=by rw[hR.same.aa]
 rw[xW,xW,MO];have hc:w.ae.countP (dO w.aa)<=30:=Wb XJ p2;rw[aL YG,show((w.ae.countP (dO w.aa):Nat):Int)-((u.ae.countP (dO w.aa):Nat):Int)=(m:Int)by omega]
def oF(o:ZI)(p:aM):Option (Int×ZI):=
 (mT o.aP o.aR p).bind λy1=>
 cond (!y1.2)
 (ZA (2,o))
 (cond (ZE (y1.1=0))
 (ZA (2,o))
 ((AX 8 []).bind λ_=>
 (fc o.world p.ar p.label.aX p.label.ax p.ab).bind λy2=>
 cond (!y2.2.2)
 (ZA (3,o))
 ((kH o.lines y2.2.1 y1.1 o.world.now).bind λy3=>
 cond (!decide (y3.2=0))
 (ZA (4,o))
 ((fm p).bind λy4=>
 (dg (bB ((o.aG:List aM).length+([y4]:List aM).length) 88)).bind λ_=>
 ZA (0,(⟨y2.1,o.aP,o.aR,o.aF,((o.aG:List aM)++[y4]),y3.1,o.aE⟩:ZI))))))
instance (o:ZI)(p:aM):CT prog (oF o p):=⟨32,[.be 0 0 0,.ag (bq p)],[ZA ⟨.of 40,16,[[.ms 1,.ms 2,vi o.world.aa.change,.ms 3,.ms 4,.ms 5,vi o.world.now,.ms 6,.ms 7,vi o.world.aT,.ms 8,.ms 9,.ms 10,.ms 11,.ms 12,.ms 13]]⟩,ZA ⟨.of 174,6,o.world.aa.aB.map br⟩,ZA ⟨.of 3,1,o.world.aa.off.map aI⟩,ZA ⟨⟨155,ZA 46⟩,11,o.world.ae.map aY⟩,ZA ⟨.of 177,4,o.world.aq.map aC⟩,ZA ⟨.of 46,2,o.world.ah.map aS⟩,ZA ⟨.of 181,6,o.world.aJ.map bt⟩,ZA ⟨.of 3,1,o.world.skip.map aI⟩,ZA ⟨.of 104,2,o.aP.map b6⟩,ZA ⟨.of 107,4,o.aR.map b9⟩,ZA ⟨.of 3,1,o.aF.map aI⟩,ZA ⟨⟨44,ZA 3⟩,7,o.aG.map bq⟩,ZA ⟨.of 111,4,o.lines.map bD⟩,ZA ⟨⟨48,ZA 3⟩,13,o.aE.map ZK⟩],λr=>vi r.1,λr=>[ZA ⟨.of 40,16,[[.ms 14,.ms 15,vi r.2.world.aa.change,.ms 16,.ms 17,.ms 18,vi r.2.world.now,.ms 19,.ms 20,vi r.2.world.aT,.ms 8,.ms 9,.ms 10,.ms 21,.ms 22,.ms 13]]⟩,ZB,ZB,ZB,ZB,ZB,ZB,ZB,ZA ⟨.of 104,2,r.2.aP.map b6⟩,ZA ⟨.of 107,4,r.2.aR.map b9⟩,ZA ⟨.of 3,1,r.2.aF.map aI⟩,ZB,ZB,ZA ⟨⟨48,ZA 3⟩,13,r.2.aE.map ZK⟩,ZA ⟨.of 174,6,r.2.world.aa.aB.map br⟩,ZA ⟨.of 3,1,r.2.world.aa.off.map aI⟩,ZA ⟨⟨155,ZA 46⟩,11,r.2.world.ae.map aY⟩,ZA ⟨.of 177,4,r.2.world.aq.map aC⟩,ZA ⟨.of 46,2,r.2.world.ah.map aS⟩,ZA ⟨.of 181,6,r.2.world.aJ.map bt⟩,ZA ⟨.of 3,1,r.2.world.skip.map aI⟩,ZA ⟨⟨44,ZA 3⟩,7,r.2.aG.map bq⟩,ZA ⟨.of 111,4,r.2.lines.map bD⟩],ck (oF.eq_1 ..) func32 ntmps32 results32⟩
def ko(o:ZI)(a:ZJ):Option (Int×ZI):=
 cond (ZE ((o.world.ae.length:Int)<a.order))
 (ZA (4,o))
 ((aA o.world.ae (aH (a.order-1))).bind λy1=>
 (oB o.lines a.order a.bh o.world.now).bind λy2=>
 cond (ZE (a.kind=6))
 (cond (!decide (y1.state=3))
 (ZA (4,o))
 ((kL o.lines a.order y1.ec y1.bK o.aF o.world.now).bind λy3=>
 cond (!decide (y3.2=0))
 (ZA (4,o))
 (ZA (0,(⟨o.world,o.aP,o.aR,o.aF,o.aG,y3.1,o.aE⟩:ZI)))))
 (cond (!decide (y2.2=0))
 (ZA (4,o))
 (ZA (0,(⟨o.world,o.aP,o.aR,o.aF,o.aG,y2.1,o.aE⟩:ZI)))))
instance (o:ZI)(a:ZJ):CT prog (ko o a):=⟨33,[.be 0 0 0,.ag (ZK a)],[ZA ⟨.of 40,16,[[.ms 1,.ms 2,vi o.world.aa.change,.ms 3,.ms 4,.ms 5,vi o.world.now,.ms 6,.ms 7,vi o.world.aT,.ms 8,.ms 9,.ms 10,.ms 11,.ms 12,.ms 13]]⟩,ZA ⟨.of 174,6,o.world.aa.aB.map br⟩,ZA ⟨.of 3,1,o.world.aa.off.map aI⟩,ZA ⟨⟨155,ZA 46⟩,11,o.world.ae.map aY⟩,ZA ⟨.of 177,4,o.world.aq.map aC⟩,ZA ⟨.of 46,2,o.world.ah.map aS⟩,ZA ⟨.of 181,6,o.world.aJ.map bt⟩,ZA ⟨.of 3,1,o.world.skip.map aI⟩,ZA ⟨.of 104,2,o.aP.map b6⟩,ZA ⟨.of 107,4,o.aR.map b9⟩,ZA ⟨.of 3,1,o.aF.map aI⟩,ZA ⟨⟨44,ZA 3⟩,7,o.aG.map bq⟩,ZA ⟨.of 111,4,o.lines.map bD⟩,ZA ⟨⟨48,ZA 3⟩,13,o.aE.map ZK⟩],λr=>vi r.1,λr=>[ZA ⟨.of 40,16,[[.ms 1,.ms 2,vi r.2.world.aa.change,.ms 3,.ms 4,.ms 5,vi r.2.world.now,.ms 6,.ms 7,vi r.2.world.aT,.ms 8,.ms 9,.ms 10,.ms 11,.ms 14,.ms 13]]⟩,ZA ⟨.of 174,6,r.2.world.aa.aB.map br⟩,ZA ⟨.of 3,1,r.2.world.aa.off.map aI⟩,ZA ⟨⟨155,ZA 46⟩,11,r.2.world.ae.map aY⟩,ZA ⟨.of 177,4,r.2.world.aq.map aC⟩,ZA ⟨.of 46,2,r.2.world.ah.map aS⟩,ZA ⟨.of 181,6,r.2.world.aJ.map bt⟩,ZA ⟨.of 3,1,r.2.world.skip.map aI⟩,ZA ⟨.of 104,2,r.2.aP.map b6⟩,ZA ⟨.of 107,4,r.2.aR.map b9⟩,ZA ⟨.of 3,1,r.2.aF.map aI⟩,ZA ⟨⟨44,ZA 3⟩,7,r.2.aG.map bq⟩,ZB,ZA ⟨⟨48,ZA 3⟩,13,r.2.aE.map ZK⟩,ZA ⟨.of 111,4,r.2.lines.map bD⟩],ck (ko.eq_1 ..) func33 ntmps33 results33⟩
def lJ(o:ZI)(a:ZJ):Option (Int×ZI):=
 cond (ZE (a.kind=3))
 (cond (ZE (a.bn<=o.world.now))
 (ZA (6,o))
 ((AX 8 []).bind λ_=>
 (jO o.world a.bn).bind λy1=>
 ZA (0,(⟨y1,o.aP,o.aR,o.aF,o.aG,o.lines,o.aE⟩:ZI))))
 (cond (ZE (a.kind=4))
 ((AX 8 []).bind λ_=>
 (kP o.world a.aV).bind λy2=>
 cond (!y2.2)
 (ZA (6,o))
 (ZA (0,(⟨y2.1,o.aP,o.aR,o.aF,o.aG,o.lines,o.aE⟩:ZI))))
 (cond (ZE (a.kind=5))
 ((iF o.world).bind λy3=>
 cond (ZE (y3.2=0))
 (ZA (6,o))
 (ZA (0,(⟨y3.1,o.aP,o.aR,o.aF,o.aG,o.lines,o.aE⟩:ZI))))
 (ZA (0,o))))
instance (o:ZI)(a:ZJ):CT prog (lJ o a):=⟨34,[.be 0 0 0,.ag (ZK a)],[ZA ⟨.of 40,16,[[.ms 1,.ms 2,vi o.world.aa.change,.ms 3,.ms 4,.ms 5,vi o.world.now,.ms 6,.ms 7,vi o.world.aT,.ms 8,.ms 9,.ms 10,.ms 11,.ms 12,.ms 13]]⟩,ZA ⟨.of 174,6,o.world.aa.aB.map br⟩,ZA ⟨.of 3,1,o.world.aa.off.map aI⟩,ZA ⟨⟨155,ZA 46⟩,11,o.world.ae.map aY⟩,ZA ⟨.of 177,4,o.world.aq.map aC⟩,ZA ⟨.of 46,2,o.world.ah.map aS⟩,ZA ⟨.of 181,6,o.world.aJ.map bt⟩,ZA ⟨.of 3,1,o.world.skip.map aI⟩,ZA ⟨.of 104,2,o.aP.map b6⟩,ZA ⟨.of 107,4,o.aR.map b9⟩,ZA ⟨.of 3,1,o.aF.map aI⟩,ZA ⟨⟨44,ZA 3⟩,7,o.aG.map bq⟩,ZA ⟨.of 111,4,o.lines.map bD⟩,ZA ⟨⟨48,ZA 3⟩,13,o.aE.map ZK⟩],λr=>vi r.1,λr=>[ZA ⟨.of 40,16,[[.ms 14,.ms 15,vi r.2.world.aa.change,.ms 16,.ms 17,.ms 18,vi r.2.world.now,.ms 19,.ms 20,vi r.2.world.aT,.ms 8,.ms 9,.ms 10,.ms 11,.ms 12,.ms 13]]⟩,ZB,ZB,ZB,ZB,ZB,ZB,ZB,ZA ⟨.of 104,2,r.2.aP.map b6⟩,ZA ⟨.of 107,4,r.2.aR.map b9⟩,ZA ⟨.of 3,1,r.2.aF.map aI⟩,ZA ⟨⟨44,ZA 3⟩,7,r.2.aG.map bq⟩,ZA ⟨.of 111,4,r.2.lines.map bD⟩,ZA ⟨⟨48,ZA 3⟩,13,r.2.aE.map ZK⟩,ZA ⟨.of 174,6,r.2.world.aa.aB.map br⟩,ZA ⟨.of 3,1,r.2.world.aa.off.map aI⟩,ZA ⟨⟨155,ZA 46⟩,11,r.2.world.ae.map aY⟩,ZA ⟨.of 177,4,r.2.world.aq.map aC⟩,ZA ⟨.of 46,2,r.2.world.ah.map aS⟩,ZA ⟨.of 181,6,r.2.world.aJ.map bt⟩,ZA ⟨.of 3,1,r.2.world.skip.map aI⟩],ck (lJ.eq_1 ..) func34 ntmps34 results34⟩
def gr(o:ZI)(y1:az)(y2:(List aU))(s0:Int×(List aM)):Option ((Int×(List aM))⊕(List aM)):=
 cond (ZE (s0.1<(o.aG.length:Int)))
 ((aA o.aG s0.1).bind λy3=>
 (fm y3).bind λy4=>
 (dg (bB ((s0.2:List aM).length+([y4]:List aM).length) 88)).bind λ_=>
 ZA (.inl ((aH (s0.1+1)),((s0.2:List aM)++[y4]))))
 (ZA (.inr s0.2))
instance (o:ZI)(y1:az)(y2:(List aU)):bj (gr o y1 y2):=⟨λs0=>(.un::.be 0 0 0::.be 1 0 0::.be 2 0 0::(U 24 (.sl (o.aG.map bq)::vi (o.aG.length:Int)::vi s0.1::(U 27 [])))),λs0=>[ZA ⟨.of 40,16,[[.sl (o.world.aa.aB.map br),.sl (o.world.aa.off.map aI),vi o.world.aa.change,.sl (o.world.ae.map aY),.sl (o.world.aq.map aC),.sl (o.world.ah.map aS),vi o.world.now,.sl (o.world.aJ.map bt),.sl (o.world.skip.map aI),vi o.world.aT,.sl (o.aP.map b6),.sl (o.aR.map b9),.sl (o.aF.map aI),.sl (o.aG.map bq),.sl (o.lines.map bD),.sl (o.aE.map ZK)]]⟩,ZA ⟨.of 40,16,[[.v (.slice ZB 0 0),.v (.slice ZB 0 0),vi 0,.v (.slice ZB 0 0),.v (.slice ZB 0 0),.v (.slice ZB 0 0),vi 0,.v (.slice ZB 0 0),.v (.slice ZB 0 0),vi 0,.v (.slice ZB 0 0),.v (.slice ZB 0 0),.v (.slice ZB 0 0),.v (.slice ZB 0 0),.v (.slice ZB 0 0),.v (.slice ZB 0 0)]]⟩,ZA ⟨.of 40,16,[[.ms 3,.ms 4,vi y1.aa.change,.ms 5,.ms 6,.ms 7,vi y1.now,.ms 8,.ms 9,vi y1.aT,.ms 10,.ms 11,.ms 12,.ms 13,.ms 14,.v (.slice ZB 0 0)]]⟩,ZA ⟨.of 174,6,y1.aa.aB.map br⟩,ZA ⟨.of 3,1,y1.aa.off.map aI⟩,ZA ⟨⟨155,ZA 46⟩,11,y1.ae.map aY⟩,ZA ⟨.of 177,4,y1.aq.map aC⟩,ZA ⟨.of 46,2,y1.ah.map aS⟩,ZA ⟨.of 181,6,y1.aJ.map bt⟩,ZA ⟨.of 3,1,y1.skip.map aI⟩,ZA ⟨.of 104,2,((([]:List bF):List bF)++o.aP).map b6⟩,ZA ⟨.of 107,4,((([]:List bH):List bH)++o.aR).map b9⟩,ZA ⟨.of 3,1,((([]:List Int):List Int)++o.aF).map aI⟩,ZA ⟨⟨44,ZA 3⟩,7,s0.2.map bq⟩,ZA ⟨.of 111,4,y2.map bD⟩]⟩
def gu(o:ZI)(y1:az)(y2:(List aU))(o0:(List aM))(s1:Int×(List ZJ)):Option ((Int×(List ZJ))⊕(List ZJ)):=
 cond (ZE (s1.1<(o.aE.length:Int)))
 ((aA o.aE s1.1).bind λy5=>
 (ee y5).bind λy6=>
 (dg (bB ((s1.2:List ZJ).length+([y6]:List ZJ).length) 136)).bind λ_=>
 ZA (.inl ((aH (s1.1+1)),((s1.2:List ZJ)++[y6]))))
 (ZA (.inr s1.2))
instance (o:ZI)(y1:az)(y2:(List aU))(o0:(List aM)):bj (gu o y1 y2 o0):=⟨λs1=>(.un::.un::.be 0 0 0::.be 1 0 0::(U 39 (.sl (o.aE.map ZK)::vi (o.aE.length:Int)::vi s1.1::(U 12 [])))),λs1=>[ZA ⟨.of 40,16,[[.v (.slice ZB 0 0),.v (.slice ZB 0 0),vi 0,.v (.slice ZB 0 0),.v (.slice ZB 0 0),.v (.slice ZB 0 0),vi 0,.v (.slice ZB 0 0),.v (.slice ZB 0 0),vi 0,.v (.slice ZB 0 0),.v (.slice ZB 0 0),.v (.slice ZB 0 0),.v (.slice ZB 0 0),.v (.slice ZB 0 0),.v (.slice ZB 0 0)]]⟩,ZA ⟨.of 40,16,[[.ms 2,.ms 3,vi y1.aa.change,.ms 4,.ms 5,.ms 6,vi y1.now,.ms 7,.ms 8,vi y1.aT,.ms 9,.ms 10,.ms 11,.ms 12,.ms 13,.ms 14]]⟩,ZA ⟨.of 174,6,y1.aa.aB.map br⟩,ZA ⟨.of 3,1,y1.aa.off.map aI⟩,ZA ⟨⟨155,ZA 46⟩,11,y1.ae.map aY⟩,ZA ⟨.of 177,4,y1.aq.map aC⟩,ZA ⟨.of 46,2,y1.ah.map aS⟩,ZA ⟨.of 181,6,y1.aJ.map bt⟩,ZA ⟨.of 3,1,y1.skip.map aI⟩,ZA ⟨.of 104,2,((([]:List bF):List bF)++o.aP).map b6⟩,ZA ⟨.of 107,4,((([]:List bH):List bH)++o.aR).map b9⟩,ZA ⟨.of 3,1,((([]:List Int):List Int)++o.aF).map aI⟩,ZA ⟨⟨44,ZA 3⟩,7,o0.map bq⟩,ZA ⟨.of 111,4,y2.map bD⟩,ZA ⟨⟨48,ZA 3⟩,13,s1.2.map ZK⟩]⟩
def cP(o:ZI):Option ZI:=
 (AX 8 []).bind λ_=>
 (dC o.world).bind λy1=>
 (dg (bB ((([]:List bF):List bF).length+(o.aP:List bF).length) 32)).bind λ_=>
 (dg (bB ((([]:List bH):List bH).length+(o.aR:List bH).length) 32)).bind λ_=>
 (dg (bB ((([]:List Int):List Int).length+(o.aF:List Int).length) 8)).bind λ_=>
 (bL o.lines).bind λy2=>
 (aD (gr o y1 y2) NN (0,[])).bind (λo0=>
 (aD (gu o y1 y2 o0) NN (0,[])).bind (λo1=>
 ZA (⟨y1,((([]:List bF):List bF)++o.aP),((([]:List bH):List bH)++o.aR),((([]:List Int):List Int)++o.aF),o0,y2,o1⟩:ZI)))
instance (o:ZI):CT prog (cP o):=⟨29,[.ag (ZM o)],[],λr=>.ag [.ms 0,.ms 1,vi r.world.aa.change,.ms 2,.ms 3,.ms 4,vi r.world.now,.ms 5,.ms 6,vi r.world.aT,.ms 7,.ms 8,.ms 9,.ms 10,.ms 11,.ms 12],λr=>[ZA ⟨.of 174,6,r.world.aa.aB.map br⟩,ZA ⟨.of 3,1,r.world.aa.off.map aI⟩,ZA ⟨⟨155,ZA 46⟩,11,r.world.ae.map aY⟩,ZA ⟨.of 177,4,r.world.aq.map aC⟩,ZA ⟨.of 46,2,r.world.ah.map aS⟩,ZA ⟨.of 181,6,r.world.aJ.map bt⟩,ZA ⟨.of 3,1,r.world.skip.map aI⟩,ZA ⟨.of 104,2,r.aP.map b6⟩,ZA ⟨.of 107,4,r.aR.map b9⟩,ZA ⟨.of 3,1,r.aF.map aI⟩,ZA ⟨⟨44,ZA 3⟩,7,r.aG.map bq⟩,ZA ⟨.of 111,4,r.lines.map bD⟩,ZA ⟨⟨48,ZA 3⟩,13,r.aE.map ZK⟩],ck (cP.eq_1 ..) func29 ntmps29 results29⟩
end Go.Proofs.YtbalgkakkoocjaaGreat
