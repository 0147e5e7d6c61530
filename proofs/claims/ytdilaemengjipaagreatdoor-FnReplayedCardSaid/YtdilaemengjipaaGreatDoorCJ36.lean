/- A part of the proof of the statement in the last file of this claim: texts on the language of the program and on its functions. No condition. -/
import Derived.Test.YtdilaemengjipaaGreatDoorCJ34
import Derived.Test.YtdilaemengjipaaGreatDoorCJ35
import Derived.Test.YtdilaemengjipaaGreatDoorCJ32
import Derived.Test.YtdilaemengjipaaGreatDoorCJ1
set_option linter.unusedVariables false
set_option linter.unusedSimpArgs false
set_option linter.unusedSectionVars false
open Option renaming some->YW,none->YX
open Bool renaming true->YY,false->YZ
open Decidable renaming decide->Y0
namespace Go.Proofs.YtdilaemengjipaaGreatDoor
open List renaming mem_cons->V5,Nodup->XL,pairwise_map->W9,length_cons->V0,length_append->VZ,mem_of_getElem?->VW,pairwise_iff_getElem->Wy,length_nil->V1,mem_map->WI,mem_filter->Xl,getElem_of_mem->Wf,getElem_mem->Wp,getElem?_eq_getElem->VV,countP_eq_length_filter->X0,length_map->Wj
open Option renaming bind_some->VT,getD_some->Xj
open Bool renaming not_true->V3,and_self->Yf,and_eq_true->Wd,not_eq_true'->WW,and_eq_false_imp->XA
open _root_.Int renaming le_refl->WR,toNat_natCast->WN
open Nat renaming zero_add->Wc,le_trans->Wr
open List.Pairwise renaming nil->XH,sublist->Xg
set_option maxRecDepth 10000
open Go.RowKit
variable {aY ar p:ByteArray}{ae rest ts:List av}{id th wt:Int}
structure UU(n:ah)(l:List aq)(ae:List av)(ab:Int)(ar aY:ByteArray)(aQ:Int)(aK:List av):Prop where
 hC:cu n l=YY/\0<=bf (ak n) ar/\aQ<=100000/\1<=ab
 KQ:0<=bf (ak n) aY
 len:aK.length<=20
 ia:∃e,aB (cf n l ae ab (bf (ak n) ar) aQ (ak n).length) (bf (ak n) aY)=YW e/\0<=e/\e<=100000/\(aK=[]/\e=(if 0 > aQ then 0 else aQ)\/∃t,aK.getLast?=YW t/\dP n t=e)
 nodup:(ar::aK.map (cq n)).Nodup
 last:(ar::aK.map (cq n)).getLast?=YW aY
 chain:iV n ar (if 0 > aQ then 0 else aQ) aK
 found:∀t∈aK,dB ae t=YW YZ/\∃y q,aB n.aA t.bH=YW y/\dO l t=YW q/\ab<=aM (y.jk-q)
theorem qa{n:ah}:∀{ts:List av} {p:ByteArray} {a:Int},iV n p a ts->∀t∈ts,gy n t=YY
 |x::ts,p,a,h,t,ht=>by
  rcases V5.1 ht with rfl|ht
  ·exact h.1
  ·exact qa h.2.2.2 t ht
section
variable {n:ah} (hf:cU n)
include hf
theorem VG{l:List aq}(hl:l.length<=1048576){aQ ab:Int}(hC:¬(cu n l=YY/\0<=bf (ak n) ar/\aQ<=100000/\1<=ab))(k:Int):df n l ae ar aQ ab k=YW []:=by
 unfold df;rw[(dH hf).2];simp only[VT,ph hf,iJ hf hl]
 grind
theorem ZbQ{aQ:Int}{aK:List av}(hn:aW n=YW YY)(hnd:(ar::aK.map (cq n)).Nodup)(hc:iV n ar aQ aK):aK.length<=20:=by
 have hlg:=rM hn;have hb:∀t∈aK,0<=t.bH/\t.bH.toNat<n.aA.length:=λt ht=>by
  obtain⟨y,hy,_⟩:=fp hf (qa hc t ht);obtain⟨a,b⟩:=nY hy
  grind
 have h1:=(List.nodup_cons.1 hnd).2;unfold XL at h1
 rw[W9]at h1
 have h2:(aK.map λt=>t.bH.toNat).Nodup:=by
  unfold XL;rw[W9];refine h1.imp_of_mem λ{a b} ha Ga h e=>h ?_
  have e1:a.bH=b.bH:=by grind
  unfold cq;rw[e1]
 have:=zU n.aA.length _ h2 λx hx=>by
  grind
 grind
theorem qj{l:List aq}(hl:l.length<=1048576)(hc:ae.length<=1048576){aQ ab:Int}{aK:List av}(h:bS n l ae ar aY aQ ab=YW (aK,YY)):UU n l ae ab ar aY aQ aK:=by
 unfold bS at h
 rw[(dH hf).2]at h
 simp only[VT,ph hf]at h
 by_cases hC:cu n l=YY/\0<=bf (ak n) ar/\aQ<=100000/\1<=ab
 case neg=>
  rw[VG hf hl hC]at h
  grind
 have hn:=(dQ hC.1).1;have hlg:=rM hn;have hp:(ak n).length<=40:=by have:=fv n;omega
 have zI:=nI hf hl hc ab (bf (ak n) ar) aQ;have htl:=(nk (ak n) aY).2;rw[qh hf hl hc ab aQ hC (Nat.le_refl _)]at h
 simp only[VT]at h
 by_cases ht:bf (ak n) aY<0
 ·grind
 obtain⟨e,he,_⟩:=mj (xs:=cf n l ae ab (bf (ak n) ar) aQ (ak n).length) (i:=bf (ak n) aY) ⟨Yn,by grind⟩
 simp only[Yg ht,Yg (show ¬(((cf n l ae ab (bf (ak n) ar) aQ (ak n).length).length:Int)=0)by grind),he]at h
 by_cases hd:e<0
 ·grind
 obtain⟨k,q1,q2,q3,q4,q5⟩:=CA hf hl hc ab aQ hp hC ⟨Yn,htl⟩ he;obtain⟨w,p1,p2⟩:=ZaZ hf hn hl hc ab aQ hC k aY e [] Yn q2 Yn q3 Yr NN Ys;rw[List.append_nil]at p1
 simp only[Yg hd,q4,VT,p1]at h
 obtain⟨rfl,_⟩:=h;have po:=Za0 hf hn hl hc ab aQ hC.2.1 hC.2.2.1 p2;exact⟨hC,Yn,ZbQ hf hn po.nodup po.chain,⟨e,he,po.time.1,po.time.2,po.ends⟩,po.nodup,po.last,po.chain,po.found⟩
theorem Au(hn:aW n=YW YY){aK:List av}(hl:aK.length<=1048576){a b:ByteArray}{t:Int}(ha:0<=bf (ak n) a)(hb:0<=bf (ak n) b)(hc:iV n a t aK)(he:aK.foldl (λ_ t=>cq n t) a=b):eW n aK a b t=YW true:=by
 obtain⟨ch0,ch1⟩:=kW hn;have key:∀(d i:Nat) (p:ByteArray) (u:Int),i+d=aK.length->iV n p u (aK.drop i)->∀N,d<N->aE (dA n aK b) N (p,u,(i:Int))=YW (.inl ((aK.drop i).foldl (λ_ t=>cq n t) p)):=by
  intro d
  induction d with
  |zero=>
   intro i p u hi h N hN;rw[List.drop_of_length_le Yn];unfold aE dA
   grind
  |succ d ih=>
   intro i p u hi h N hN;obtain⟨N,rfl⟩:∃M,N=M+1:=⟨N-1,Yn⟩;have bX:i<aK.length:=Yn;have hg:aB aK (i:Int)=YW aK[i]:=by rw[aP];simp
   have hw:aM ((i:Int)+1)=((i+1:Nat):Int):=bG bX Yn;rw[List.drop_eq_getElem_cons bX]at h⊢
   obtain⟨c1,c2,c3,c4⟩:=h;obtain⟨y,hy,_⟩:=fp hf c1;obtain⟨t1,t2,t3,t4,t5⟩:=cY hf hn c1;have f1:mv n aK[i]=y.ar:=by unfold mv;grind
   have f2:cq n aK[i]=y.aY:=by unfold cq;grind
   have hwe:aM (dP n aK[i]+n.change)=dP n aK[i]+n.change:=aR Yn;have I4:dA n aK b (p,u,(i:Int))=YW (.inl (cq n aK[i],dP n aK[i]+n.change,((i+1:Nat):Int))):=by
    unfold dA;simp only[Ya (show(i:Int)<aK.length by omega),Yj,hg,VT,yu hf hn,c1,V3,Yk,hy,t1,t2,Ya (show y.ar=p by grind),Yg (show ¬cS n aK[i]<u by omega),hwe,hw,f2]
   unfold aE
   grind
 have hk:=key aK.length 0 a t Yn Yr NN Ys;have xL:=fv n;have I0:=hf.aA;unfold eW;rw[(dH hf).2];simp only[VT,o4 (show(ak n).length<=4194304 by omega)]
 grind
end
theorem CE{α β:Type}(f:α->β):∀(l:List α) (a b:β),(a::l.map f).getLast?=YW b->l.foldl (λ_ x=>f x) a=b
 | [],a,b,h=>by grind
 |x::l,a,b,h=>by
  exact CE f l (f x) b h
theorem G9:∀(l:List aq),l.length<=1048575->∃d:List aq,d.Perm l/\d.Pairwise QX
 | [],_=>⟨[],.nil,.nil⟩
 |x::l,h=>by
  rw[V0]at h
  obtain⟨d,h1,h2⟩:=G9 l Yn;have:=h1.length_eq;obtain⟨r,_,_,h3,h4⟩:=M3 (l:=d) Yn x h2
  grind
def nW(w:ax)(ar aY:ByteArray)(aw ab eJ:Int)(aK:List av):az:=⟨ar,aY,aw,ab,w.now,eJ,aK,0,1,ar,0⟩
def zl(w:ax)(o:az)(ys:List aq):ax:=gD ⟨w.aa,w.aj++[o],ys,w.ae,w.now,w.aN,w.skip,w.bg⟩ ⟨(w.aj.length:Int)+1,w.now,1,o.ar,⟨0,0⟩⟩
theorem H5{l l':List aq}(h:∀b∈l,b∈l'){t:av}(hb:j3 l th t wt=YY):j3 l' th t wt=true:=by
 unfold j3 at *
 grind
theorem O5(os:List az)(o:az):(os++[o]).foldl (λa (o:az)=>aM (a+(o.aK.length:Int))) 0=aM (os.foldl (λa (o:az)=>aM (a+(o.aK.length:Int))) 0+(o.aK.length:Int)):=by
 simp
section
variable {w:ax} (h:qw w)
include h
theorem Ui(h1:1<=th/\th<=9999)(hp:0<=bf (ak w.aa) p):cH w.aa ⟨th,w.now,1,p,⟨0,0⟩⟩=YW true:=by
 have CP:=h.parts.1;have xL:=fv w.aa;have I0:=h.fit.fC.aA;unfold cH;rw[h.fC];simp only[VT,cN,V3,Yk,Ya h1.1,Ya h1.2,Ya CP.1,Ya CP.2,Yf,(dH h.fit.fC).2,o4 (show(ak w.aa).length<=4194304 by omega),decide_true,Yj,Ya hp]
theorem Zct(ZiR:w.aj.length<30)(gZ:¬ar=aY){aw ab eJ:Int}(hs:1<=aw/\aw<=3)(hw:1<=ab/\ab<=30000)(VR:0<=eJ/\eJ<=200000){aK:List av}(hR:UU w.aa w.au w.ae ab ar aY (w.now+1) aK)
 {ys:List aq} (hp:ys.Perm (w.au++gX ((w.aj.length:Int)+1) ab aK)) (hb:cu w.aa ys=YY):qw (zl w (nW w ar aY aw ab eJ aK) ys):=by
 obtain⟨p1,p2,p3,p4,p5,p6,p7⟩:=h.parts;have hlen:=hR.len;have hyl:=hp.length_eq;rw[VZ]at hyl
 have BD:(gX ((w.aj.length:Int)+1) ab aK).length=aK.length:=by unfold gX;simp
 have hv:=h.ok;have zd:(if 0 > w.now+1 then 0 else w.now+1)=w.now+1:=if_neg Yn
 have Ea:=hR.chain;rw[zd]at Ea
 have Zb6:=qa Ea;have Ge:∀b∈w.au,b∈ys:=λb hb=>hp.mem_iff.2 (List.mem_append_left _ hb)
 have wT:=CE (cq w.aa) aK ar aY hR.last;have Ee:=E3 (n:=w.aa) (aQ:=w.now) (skip:=w.skip) (p:=(w.aN,w.bg)) (s:=⟨(w.aj.length:Int)+1,w.now,1,ar,⟨0,0⟩⟩) ⟨λs hs=>D2 h.fit h.ok hs,p4,p6⟩ ⟨Ui h Yn hR.hC.2.1,WR _⟩
 have Zdc:j9 (zl w (nW w ar aY aw ab eJ aK) ys) w.aj.length (nW w ar aY aw ab eJ aK)=true:=by
  have zJ:bd (nW w ar aY aw ab eJ aK)=0:=by rfl
  have u0:cd w.aa (nW w ar aY aw ab eJ aK) w.now=YW true:=by
   refine(ug h.fit.fC h.fC ⟨WR _,by simp only[nW];omega⟩ (by simp only[nW];omega) Zb6 w.now).2 ⟨λt h0=>by simp[nW]at h0,.inl ⟨rfl,?_,?_,rfl,λt ht=>?_⟩⟩
   ·rfl
   ·unfold qS nW;grind
   ·have Hq:aK[0]?=YW t:=ht
    cases aK with
    |nil=>grind
    |cons x xs=>
     obtain rfl:x=t:=by grind
     have:=Ea.2.2.1;omega
  unfold j9;simp only[Wd,WW,Yl,Ym];have hid:¬bf (ak w.aa) ar<0:=by have:=hR.hC.2.1;omega
  have Zhe:¬bf (ak w.aa) aY<0:=by have:=hR.KQ;omega
  have zi:aM (w.now+1)=w.now+1:=aR Yn;refine⟨⟨⟨⟨⟨⟨⟨⟨⟨⟨⟨hid,Zhe⟩,gZ⟩,hs⟩,hw⟩,p1.1,WR _⟩,VR⟩,WR _,by simp only[nW];omega⟩,?_⟩,?_⟩,?_⟩,?_⟩
  ·refine cP.2 λj t hj=>?_
   have CM:aK[j]?=YW t:=hj;have htm:=VW CM;unfold uk;simp only[Wd,WW,XA,Yl,Ym,Wc];refine⟨⟨Zb6 t htm,?_⟩,λhe hj1=>?_⟩
   ·unfold j3
    refine List.any_eq_true.2 ⟨⟨(w.aj.length:Int)+1,t,ab⟩,hp.mem_iff.2 (List.mem_append_right _ ?_),Ya ?_⟩
    ·unfold gX;grind
    rfl
   ·have Zfb:j+1<aK.length:=hj1
    have he':cq w.aa t=aY:=he;have hnd:=hR.nodup;have QV:=hR.last;rw[List.getLast?_eq_getElem?,V0]at QV
    have h1:(ar::aK.map (cq w.aa))[j+1]?=YW aY:=by grind
    have h2:=Wy.1 hnd (j+1) aK.length Yr Yq Yn
    grind
  ·have IW:A1 w.aa (nW w ar aY aw ab eJ aK)=aY:=wT
   show(eW w.aa aK ar (A1 w.aa (nW w ar aY aw ab eJ aK)) (aM (w.now+1))).getD YZ=YY;rw[IW,zi,Au h.fit.fC h.fC Yn hR.hC.2.1 hR.KQ Ea wT];rfl
  ·show(cd w.aa (nW w ar aY aw ab eJ aK) w.now).getD YZ=YY
   grind
  ·rw[zJ]
   refine List.any_eq_false.2 λt ht=>?_
   have htm:t∈aK:=List.mem_of_mem_drop ht;have:=(hR.found t htm).1;rw[kh,jE h.fit.ae]at this
   have:=Option.some.inj this;show ¬dF w.ae t=YY;unfold dF
   grind
 have hold:∀(i:Nat) (o:az),w.aj[i]?=YW o->j9 (zl w (nW w ar aY aw ab eJ aK) ys) i o=true:=λi o hi=>by
  have hv:=qn h.ok hi;unfold j9 at hv⊢
  simp at hv⊢
  obtain⟨⟨⟨⟨⟨⟨⟨⟨⟨⟨⟨h1,h2⟩,h3⟩,h4⟩,h5⟩,h6⟩,h7⟩,h8⟩,h9⟩,zG⟩,EL⟩,UL⟩:=hv;refine⟨⟨⟨⟨⟨⟨⟨⟨⟨⟨⟨h1,h2⟩,h3⟩,h4⟩,h5⟩,h6⟩,h7⟩,h8⟩,?_⟩,zG⟩,EL⟩,UL⟩;refine cP.2 λj t hj=>?_
  have:=cP.1 h9 j t hj;unfold uk at this⊢
  simp at this⊢
  exact⟨⟨this.1.1,H5 Ge this.1.2⟩,this.2⟩
 refine⟨⟨h.fit.fC,?_,?_,h.fit.ae,?_,h.fit.skip,λo ho=>?_⟩,?_⟩
 ·simp only[zl,gD,VZ,V0,V1];omega
 ·simp only[zl,gD];omega
 ·have:=Ee.len;simp only[zl,gD,nW];omega
 ·have zg:o∈w.aj++[nW w ar aY aw ab eJ aK]:=ho
  rcases List.mem_append.1 zg with ho|ho
  ·exact h.fit.aK o ho
  ·obtain rfl:=List.mem_singleton.1 ho;simp only[nW];omega
 ·unfold fB at hv⊢
  simp at hv⊢
  obtain⟨⟨⟨⟨⟨⟨⟨⟨⟨⟨h1,h2⟩,h3⟩,h4⟩,h5⟩,h6⟩,h7⟩,h8⟩,h9⟩,zG⟩,EL⟩:=hv;have hl:=Ee.len;have hmd:=Ee.bg;refine⟨⟨⟨⟨⟨⟨⟨⟨⟨⟨hb,h2⟩,?_⟩,h4⟩,?_⟩,h6⟩,?_⟩,h8⟩,?_⟩,?_⟩,?_⟩
  ·simp only[zl,gD,VZ,V0,V1];omega
  ·simp only[zl,gD,nW];omega
  ·simp only[zl,gD,nW];omega
  ·refine cP.2 λj s hj=>?_
   obtain⟨a,b⟩:=Ee.A9 s (VW hj);show((cH w.aa s).getD YZ&&!decide (w.now<s.aQ))=YY
   grind
  ·refine cP.2 λj o hj=>?_
   rw[Wc];have CM:(w.aj++[nW w ar aY aw ab eJ aK])[j]?=YW o:=hj
   grind
  ·have Zg0:w.aj.foldl (λa (o:az)=>aM (a+(o.aK.length:Int))) 0=(w.au.length:Int):=EL
   show(w.aj++[nW w ar aY aw ab eJ aK]).foldl (λa (o:az)=>aM (a+(o.aK.length:Int))) 0=(ys.length:Int)
   rw[O5,Zg0];show aM ((w.au.length:Int)+(aK.length:Int))=_;rw[aR Yn];omega
end
def Iw(e aw:Int):Int:=(e / 1440+(if 1080<e % 1440 then 1 else 0)+(if aw=1 then 0 else if aw=2 then 1 else 4))*1440+1080
theorem Dw{n:ah}{aw e aQ:Int}(he:jF n ar aY aQ=YW e)(h0:0<=e)(h1:e<=100000)(hs:1<=aw/\aw<=3):fX n aw ar aY aQ=YW (Iw e aw):=by
 unfold fX;rw[he,gY];simp only[VT,cN];have d1:e.tdiv 1440=e / 1440:=Int.tdiv_eq_ediv_of_nonneg h0;have d2:e.tmod 1440=e % 1440:=Int.tmod_eq_emod_of_nonneg h0;have hb:0<=e / 1440/\e / 1440<=69:=Yn;have Hr:IntKind.i64.wrap (e / 1440)=e / 1440:=aR Yn;have hk:∃k:Int,0<=k/\k<=4/\aB ([0,1,4]:List Int) (aM (aw-1))=YW k/\k=(if aw=1 then 0 else if aw=2 then 1 else 4):=by
  rw[aR Yn]
  rcases(show aw=1\/aw=2\/aw=3 by omega)with rfl|rfl|rfl
  ·exact⟨0,Yn,Yn,rfl,by simp⟩
  ·exact⟨1,Yn,Yn,rfl,by simp⟩
  ·exact⟨4,Yn,Yn,rfl,by simp⟩
 obtain⟨k,k0,k1,k2,k3⟩:=hk;rw[d1,d2,Hr,Ya hs.1,Ya hs.2,Yg (show ¬e=-1 by omega),k2]
 simp only[Yk,Yf,V3,VT];unfold Iw;rw[<-k3]
 by_cases hd:1080<e % 1440
 ·rw[Ya hd,if_pos hd,Yj]
  rw[aR (n:=e / 1440+1) Yn,aR (n:=e / 1440+1+k) Yn,aR (n:=(e / 1440+1+k)*1440) Yn,aR Yn]
 ·rw[Yg hd,if_neg hd,Yk]
  rw[aR (n:=e / 1440+k) Yn,aR (n:=(e / 1440+k)*1440) Yn,aR Yn,Int.add_zero]
theorem R2{e aw:Int}(h0:0<=e)(h1:e<=100000):e<=Iw e aw/\Iw e aw<=200000:=by
 unfold Iw;omega
section
variable {n:ah} (hf:cU n) (hn:aW n=YW YY) (hr:∀l∈n.aA,1<=l.jk)
include hf hn hr
end
section
variable {n:ah} (hf:cU n) (hn:aW n=YW YY)
include hf hn
theorem Tm(bH aQ:Int):nO bH aQ n=iH bH aQ n [] [] 0:=by
 have hb:qI n bH aQ=gM bH aQ n [] [] 0:=by
  funext s
  unfold qI gM;rw[(rC hf bH s).1]
  cases hd:Y0 (s<=60)with
  |false=>rfl
  |true=>
  cases hx:cJ n bH s with
  |none=>rfl
  |some b=>
  cases b with
  |false=>rfl
  |true=>
  obtain⟨y,hy⟩:=vQ hf hx;have Ss:=(yF hf hn y (sE hy)).jk;have hw:aM (y.jk-0)=y.jk:=by rw[aR Yn];omega
  have ht:fb [] (⟨bH,s⟩:av)=YW false:=by rfl
  have hL:kj [] (⟨bH,s⟩:av)=YW 0:=by rfl
  grind
 unfold nO iH tg;rw[hb]
 cases(aE (gM bH aQ n [] [] 0) NN 0).bind (bh (λo0=>YW ((⟨0,0⟩:av),YZ)) λr=>YW r)with
 |none=>rfl
 |some r=>rfl
theorem FR(ar:ByteArray)(aQ aA:Int):jY n n ar aQ aA=ep n n [] [] 0 ar aQ aA:=by
 have xJ:∀aA y1 y2 s1,j7 n n aA y1 y2 s1=dp n n [] [] 0 aA y1 y2 s1:=λaA y1 y2 s1=>by
  unfold j7 dp;simp only[Tm hf hn]
 have qZ:∀aA y1 y2,j6 n n aA y1 y2=dn n n [] [] 0 aA y1 y2:=λaA y1 y2=>by
  unfold j6 dn
  grind
 have Pe:∀y1 y2,nz n n aQ aA y1 y2=eR n n [] [] 0 aQ aA y1 y2:=λy1 y2=>rfl
 unfold jY ep
 grind
theorem Cx{aQ:Int}(Ly:0<=bf (ak n) ar)(zd:aQ<=100000)(KQ:0<=bf (ak n) aY){e:Int}(he:aB (cf n [] [] 0 (bf (ak n) ar) aQ (ak n).length) (bf (ak n) aY)=YW e):jF n ar aY aQ=YW e:=by
 have hlg:=rM hn;have hp:(ak n).length<=40:=by have:=fv n;omega
 have xL:=(nk (ak n) aY).2;have zI:=nI hf (l:=[]) Yq (ae:=[]) Yq 0 (bf (ak n) ar) aQ (ak n).length;have hav:=Ca hf (l:=[]) Yq (ae:=[]) Yq 0 Ly zd Yn (ak n).length Yn;have SF:bU (ak n) aY=YW (bf (ak n) aY):=by exact ph hf aY
 have hi:fg n=YW true:=by rw[(j4 hf).1];omega
 unfold jF mw rA;rw[(dH hf).1,(dH hf).2,hi];simp only[VT,V3,Yk,FR hf hn,hav,SF,Yg (show ¬bf (ak n) aY<0 by omega),Yg (show ¬(((cf n [] [] 0 (bf (ak n) ar) aQ (ak n).length).length:Int)=0)by omega),he]
theorem FE{t:av}(ht:gy n t=YY){y:bP}(hy:aB n.aA t.bH=YW y):cS n t=t.day*1440+y.start/\dP n t=t.day*1440+y.start+y.nd:=by
 obtain⟨d0,d1⟩:=DX ht;have hl:=yF hf hn y (sE hy);obtain⟨a0,a1⟩:=hl.start;obtain⟨b0,b1⟩:=hl.nd;have e1:bt n t=YW (t.day*1440+y.start):=by
  unfold bt;rw[hy];simp;rw[aR (n:=t.day*1440) Yn,aR Yn]
 have e2:bm n t=YW (t.day*1440+y.start+y.nd):=by
  unfold bm;rw[e1,hy];simp;rw[aR Yn]
 exact⟨by unfold cS;grind,by unfold dP;grind⟩
theorem ZaJ{bH d0 z:Int}(ht:gy n ⟨bH,d0⟩=YY)(hz:z<=cS n ⟨bH,d0⟩):∃d,cO n [] [] bH z 0=YW d/\0<=d/\d<=d0/\gy n ⟨bH,d⟩=true:=by
 obtain⟨d1,d2⟩:=DX ht;simp only at d1 d2
 obtain⟨y,hy,hym⟩:=fp hf ht;have Ss:=(yF hf hn y hym).jk;have hc:dB []=λ_=>YW false:=by
  rfl
 have hw:aM (y.jk-0)=y.jk:=by rw[aR Yn];omega
 have I4:∀s:Int,0<=s->s<=60->cQ n [] [] bH z 0 s=YW (if gy n ⟨bH,s⟩=YY/\z<=cS n ⟨bH,s⟩then .inr (.inr s)else .inl (s+1)):=λs s0 s1=>by
  have hws:aM (s+1)=s+1:=aR Yn;have hr:=uO hf ⟨bH,s⟩;unfold cQ;rw[Ya s1,hr,hws]
  cases hb:gy n ⟨bH,s⟩with
  |false=>simp
  |true=>
  obtain⟨t1,_⟩:=cY hf hn hb;simp only[Ju]
  grind
 have key:∀(k:Nat) (s:Int),0<=s->s+(k:Int)=d0->∀N,k<N->∃d,aE (cQ n [] [] bH z 0) N s=YW (.inr d)/\s<=d/\d<=d0/\gy n ⟨bH,d⟩=true:=by
  intro k
  induction k with
  |zero=>
   intro s s0 hs N hN;obtain rfl:s=d0:=Yn;refine⟨s,?_,WR _,WR _,ht⟩;unfold aE
   grind
  |succ k ih=>
   intro s s0 hs N hN;obtain⟨N,rfl⟩:∃M,N=M+1:=⟨N-1,Yn⟩;unfold aE;rw[I4 s s0 Yn]
   by_cases h:gy n ⟨bH,s⟩=YY/\z<=cS n ⟨bH,s⟩
   ·grind
   ·obtain⟨d,e1,e2,e3,e4⟩:=ih (s+1) Yn Yn N Yn
    grind
 obtain⟨d,e1,e2,e3,e4⟩:=key d0.toNat 0 Yn Yn NN Ys;unfold cO
 grind
theorem ZbC{f aQ:Int}{k:Nat}{u:Int}{t:av}(ht:gy n t=YY)(hl:sA (cf n [] [] 0 f aQ k) (bf (ak n) (mv n t)) u)(hu:(if bf (ak n) (mv n t)=f then u else u+n.change)<=cS n t):
 sA (cf n [] [] 0 f aQ (k+1)) (bf (ak n) (cq n t)) (dP n t):=by
 obtain⟨y,hy,hym⟩:=fp hf ht;have f1:mv n t=y.ar:=by unfold mv;grind
 have f2:cq n t=y.aY:=by unfold cq;grind
 obtain⟨n0,n1⟩:=kW hn;obtain⟨_,_,_,t4,t5⟩:=cY hf hn ht;rw[f1]at hl hu
 rw[f2];obtain⟨v,v1,v2,v3⟩:=hl;obtain⟨i0,hi⟩:=nY hy;have hz:dm n v (Y0 (bf (ak n) y.ar=f))=YW (if bf (ak n) y.ar=f then v else v+n.change):=by
  unfold dm
  by_cases h:bf (ak n) y.ar=f
  ·grind
  ·rw[Yg h,if_neg h,Yk,aR Yn]
 have zj:(if bf (ak n) y.ar=f then v else v+n.change)<=cS n ⟨t.bH,t.day⟩:=by
  show _<=cS n t;omega
 obtain⟨d,e1,e2,e3,e4⟩:=ZaJ hf hn (bH:=t.bH) (d0:=t.day) ht zj;obtain⟨_,q2,_⟩:=cY hf hn e4;have ZeZ:wK n [] [] 0 f (cf n [] [] 0 f aQ k) (bf (ak n) y.aY) (dP n ⟨t.bH,d⟩):=by
  refine⟨t.bH.toNat,y,d,v,_,hi,rfl,v1,Yn,hz,?_,Yn,?_⟩
  all_goals grind
 obtain⟨x,x1,x2,x3⟩:=(we hf hn (l:=[]) Yq (ae:=[]) Yq 0 f aQ k).2 _ _ ZeZ;refine⟨x,x1,x2,?_⟩;have g1:=(FE hf hn ht hy).2;have g2:=(FE hf hn e4 hy).2
 grind
theorem H9{f aQ:Int}:∀(aK:List av) (p:ByteArray) (z u:Int) (k:Nat),iV n p z aK->sA (cf n [] [] 0 f aQ k) (bf (ak n) p) u->(if bf (ak n) p=f then u else u+n.change)<=z->
 ∀t,aK.getLast?=YW t->sA (cf n [] [] 0 f aQ (k+aK.length)) (bf (ak n) (cq n t)) (dP n t)
 | [],p,z,u,k,_,_,_,t,ht=>by grind
 |x::aK,p,z,u,k,hc,hl,hu,t,ht=>by
  obtain⟨c1,c2,c3,c4⟩:=hc;obtain⟨n0,n1⟩:=kW hn;subst c2;have h1:=ZbC hf hn (t:=x) c1 hl Yn
  cases aK with
  |nil=>
   grind
  |cons y aK=>
   have:=H9 (y::aK) (cq n x) (dP n x+n.change) (dP n x) (k+1) c4 h1 Yn t ht
   grind
theorem MS{aQ:Int}{aK:List av}(Ly:0<=bf (ak n) ar)(hnd:(ar::aK.map (cq n)).Nodup)(hc:iV n ar aQ aK):aK.length<=(ak n).length:=by
 have xL:∀p∈ar::aK.map (cq n),0<=bf (ak n) p:=λp hp=>by
  rcases V5.1 hp with rfl|hp
  ·omega
  ·obtain⟨t,ht,rfl⟩:=WI.1 hp
   obtain⟨y,hy,hym⟩:=fp hf (qa hc t ht);have f2:cq n t=y.aY:=by unfold cq;grind
   rw[f2];exact nn (qD hym).2
 have h2:((ar::aK.map (cq n)).map λp=>(bf (ak n) p).toNat).Nodup:=by
  unfold XL at hnd⊢
  rw[W9];refine hnd.imp_of_mem λ{a b} ha hb gZ e=>gZ ?_
  have h1:=xL a ha;have h2:=xL b hb;have g1:=pP h1;have g2:=pP h2
  grind
 have:=zU (ak n).length _ h2 λx hx=>by
  obtain⟨p,hp,rfl⟩:=WI.1 hx;have:=xL p hp;have:=(nk (ak n) p).2;omega
 grind
theorem Cg{l:List aq}(hl:l.length<=1048576)(hc:ae.length<=1048576){aQ ab:Int}{aK:List av}(h:bS n l ae ar aY aQ ab=YW (aK,YY)):
 ∃e,sA (cf n [] [] 0 (bf (ak n) ar) aQ (ak n).length) (bf (ak n) aY) e/\e<=100000:=by
 have hR:=qj hf hl hc h;obtain⟨q1,q2,q3,q4⟩:=hR.hC;have hlg:=rM hn;have hp:(ak n).length<=40:=by have:=fv n;omega
 have bX:=(nk (ak n) ar).2;have Pe:aB (cf n [] [] 0 (bf (ak n) ar) aQ 0) (bf (ak n) ar)=YW (if 0 > aQ then 0 else aQ):=by
  unfold cf;rw[F4 hf Yn _ ⟨q2,bX⟩];exact tq q2 Yr
 have h0:sA (cf n [] [] 0 (bf (ak n) ar) aQ 0) (bf (ak n) ar) (if 0 > aQ then 0 else aQ):=⟨_,Pe,Yn,WR _⟩
 have wT:=hR.last
 cases hw:aK.getLast? with
 |none=>
  obtain rfl:ar=aY:=by grind
  have:=wg hf hn (l:=[]) Yq (ae:=[]) Yq 0 aQ (bf (ak n) ar) Pe Yn (ak n).length
  grind
 |some t=>
  have Ea:=hR.chain;have Ny:=qa Ea t (List.mem_of_getLast? hw);obtain⟨_,_,_,_,t5⟩:=cY hf hn Ny;have KQ:cq n t=aY:=by
   grind
  have h1:=H9 hf hn aK ar _ _ 0 Ea h0 Yn t hw;have UQ:=MS hf hn q2 hR.nodup Ea;rw[Wc,KQ]at h1
  obtain⟨v,v1,v2,v3⟩:=h1;obtain⟨v',w1,w2,w3⟩:=wg hf hn (l:=[]) Yq (ae:=[]) Yq 0 aQ (bf (ak n) ar) v1 v2 ((ak n).length-aK.length);rw[show aK.length+((ak n).length-aK.length)=(ak n).length by omega]at w1
  exact⟨v',⟨v',w1,w2,WR _⟩,Yn⟩
theorem J1{l:List aq}(hl:l.length<=1048576)(hc:ae.length<=1048576){aQ ab aw:Int}(hs:1<=aw/\aw<=3){aK:List av}(h:bS n l ae ar aY aQ ab=YW (aK,YY)):
 ∃d,fX n aw ar aY aQ=YW d/\0<=d/\d<=200000:=by
 have hR:=qj hf hl hc h;obtain⟨q1,q2,q3,q4⟩:=hR.hC;have r9:=Cg hf hn hl hc h;obtain⟨e,⟨v,v1,v2,v3⟩,he⟩:=r9;have:=R2 (aw:=aw) v2 (show v<=100000 by omega)
 exact⟨_,Dw (Cx hf hn q2 q3 hR.KQ v1) v2 Yn hs,Yn,this.2⟩
end
def MW(w:ax)(ar aY:ByteArray)(aw ab:Int):Prop:=
 30<=w.aj.length\/ar=aY\/¬(1<=aw/\aw<=3)\/¬(1<=ab/\ab<=30000)\/(∃x,bS w.aa w.au w.ae ar aY (w.now+1) ab=YW (x,YZ))\/
  ∃aK l,bS w.aa w.au w.ae ar aY (w.now+1) ab=YW (aK,YY)/\cx w.aa w.au ((w.aj.length:Int)+1) ab aK=YW (l,YZ)
structure Re(w:ax)(ar aY:ByteArray)(aw ab:Int)(r:ax×Int×Bool)(aK:List av)(ys:List aq)(eJ:Int):Prop where
 jk:bS w.aa w.au w.ae ar aY (w.now+1) ab=YW (aK,YY)
 book:cx w.aa w.au ((w.aj.length:Int)+1) ab aK=YW (ys,YY)
 prom:fX w.aa aw ar aY (w.now+1)=YW eJ
 res:r=(zl w (nW w ar aY aw ab eJ aK) ys,(w.aj.length:Int)+1,YY)
 ne:¬ar=aY
 ok:qw (zl w (nW w ar aY aw ab eJ aK) ys)
theorem Rg{w:ax}(h:qw w)(ar aY:ByteArray)(aw ab:Int)(hpr:∀aK,bS w.aa w.au w.ae ar aY (w.now+1) ab=YW (aK,YY)->1<=aw/\aw<=3->∃d,fX w.aa aw ar aY (w.now+1)=YW d/\0<=d/\d<=200000):
 ∃r,fx w ar aY aw ab=YW r/\(r=(w,0,YZ)/\MW w ar aY aw ab\/∃aK ys eJ,Re w ar aY aw ab r aK ys eJ):=by
 have hf:=h.fit;obtain⟨p1,p2,p3,p4,p5,p6,p7⟩:=h.parts;have zi:aM (w.now+1)=w.now+1:=aR Yn;have Bd:aM ((w.aj.length:Int)+1)=(w.aj.length:Int)+1:=aR Yn;unfold fx;rw[ya hf,VT,sG hf,h.ok,VT,gY,zi,Bd];simp only[V3,Yk,cN,VT]
 by_cases c1:30<=w.aj.length
 ·exact⟨_,by grind,.inl ⟨rfl,.inl c1⟩⟩
 rw[Yg (show ¬(30:Int)<=(w.aj.length:Int)by omega),Yk]
 by_cases c2:ar=aY
 ·exact⟨_,by simp_all,.inl ⟨rfl,.inr (.inl c2)⟩⟩
 rw[Yg c2,Yk]
 by_cases c3:1<=aw/\aw<=3
 case neg=>
  refine⟨(w,0,YZ),?_,.inl ⟨rfl,.inr (.inr (.inl c3))⟩⟩
  grind
 rw[Ya c3.1,Ya c3.2]
 by_cases c4:1<=ab/\ab<=30000
 case neg=>
  refine⟨(w,0,YZ),?_,.inl ⟨rfl,.inr (.inr (.inr (.inl c4)))⟩⟩
  grind
 rw[Ya c4.1,Ya c4.2];simp only[Yf,V3,Yk];obtain⟨⟨aK,b⟩,e1,e2⟩:=ru hf.fC hf.au hf.ae ar aY (w.now+1) ab;rw[e1,VT]
 cases b with
 |false=>exact⟨(w,0,YZ),rfl,.inl ⟨rfl,.inr (.inr (.inr (.inr (.inl ⟨aK,e2⟩))))⟩⟩
 |true=>
 have hR:=qj hf.fC hf.au hf.ae e2;have hlen:=hR.len;simp only[V3,Yk];have BD:(gX ((w.aj.length:Int)+1) ab aK).length=aK.length:=by unfold gX;simp
 obtain⟨d,d1,d2⟩:=G9 (w.au++gX ((w.aj.length:Int)+1) ab aK) Yr;have xK:fL w.aa w.au ((w.aj.length:Int)+1) ab aK=cx w.aa w.au ((w.aj.length:Int)+1) ab aK:=by
  unfold fL;rw[if_pos ⟨CB.2 hf.fC,Yn,Yn⟩]
 have AF:=tF hf.fC (show w.au.length<=1048000 by omega) ((w.aj.length:Int)+1) ab d1 d2
 rw[xK]
 by_cases Se:cu w.aa d=YY
 case neg=>
  rw[if_neg (λhx=>Se hx.2.2)]at AF
  refine⟨(w,0,YZ),?_,.inl ⟨rfl,.inr (.inr (.inr (.inr (.inr ⟨aK,w.au,e2,AF⟩))))⟩⟩
  simp_all
 rw[if_pos ⟨hR.hC.1,hlen,Se⟩]at AF
 obtain⟨eJ,q1,q2,q3⟩:=hpr aK e2 c3;have zH:=Zct h Yn c2 c3 c4 ⟨q2,q3⟩ hR d1 Se;have ha:cr (bn (w.aj.length+([nW w ar aY aw ab eJ aK]:List az).length) 128)=YW ():=ff Yr Yn;have hct:fh aK=YW aK:=s9 Yn;have hsi:=G0 (w:=⟨w.aa,w.aj++[nW w ar aY aw ab eJ aK],d,w.ae,w.now,w.aN,w.skip,w.bg⟩) ⟨by grind,p4,by grind⟩ ⟨(w.aj.length:Int)+1,w.now,1,ar,⟨0,0⟩⟩
 refine⟨(zl w (nW w ar aY aw ab eJ aK) d,(w.aj.length:Int)+1,YY),?_,.inr ⟨aK,d,eJ,e2,AF,q1,rfl,c2,zH⟩⟩;rw[AF];simp only[VT,V3,Yk,A8,q1,hct,bq];unfold nW at ha hsi⊢
 rw[ha];simp only[VT];rw[hsi];rfl
theorem sw{α:Type}[DecidableEq α]:∀{xs ys:List α},xs.Nodup->(∀x∈xs,x∈ys)->xs.length<=ys.length
 | [],ys,_,_=>Nat.zero_le _
 |x::xs,ys,hn,hs=>by
  obtain⟨h1,h2⟩:=List.nodup_cons.1 hn;have:=sw (ys:=ys.erase x) h2 λy hy=>(List.mem_erase_of_ne (λe:y=x=>h1 (e▸hy))).2 (hs y Yr)
  grind
theorem Og{α:Type}(f:α->Nat):∀{l:List α} {i:Nat} {o:α} (x:α),l[i]?=YW o->((l.set i x).map f).sum+f o=(l.map f).sum+f x
 | [],_,_,_,h=>by grind
 |a::l,0,o,x,h=>by
  grind
 |a::l,i+1,o,x,h=>by
  have:=Og f x (l:=l) (i:=i) (o:=o) Yr
  grind
theorem FF:∀(os:List az) (a:Nat),(∀o∈os,o.aK.length<=1048576)->a+1048576*os.length<=1099511627776->os.foldl (λa (o:az)=>aM (a+(o.aK.length:Int))) (a:Int)=((a+(os.map λo=>o.aK.length).sum:Nat):Int)
 | [],a,_,_=>by simp
 |o::os,a,h,hb=>by
  have h1:=h o Yq;simp at hb
  rw[List.foldl_cons,aR Yn,show((a:Int)+(o.aK.length:Int))=((a+o.aK.length:Nat):Int)by omega,FF os _ (λx hx=>h x Yr) Yn]
  grind
/-! Ziv in two parts. -/
section
variable {n:ah}
def Lr(n:ah)(p:ByteArray)(ts:List av):ByteArray:=ts.foldl (λ_ t=>cq n t) p
def O1(n:ah)(a:Int)(ts:List av):Int:=ts.foldl (λ_ t=>dP n t+n.change) a
theorem zx:∀(xs:List av) {ys:List av} {p:ByteArray} {a:Int},iV n p a (xs++ys)↔iV n p a xs/\iV n (Lr n p xs) (O1 n a xs) ys
 | [],ys,p,a=>by simp[iV,Lr,O1]
 |x::xs,ys,p,a=>by
  have:=zx xs (ys:=ys) (p:=cq n x) (a:=dP n x+n.change);simp only[List.cons_append,iV,Lr,O1]at this⊢
  grind
theorem FW{a b:Int}(h:iV n p a ts)(CK:b<=a):iV n p b ts:=by
 cases ts with
 |nil=>trivial
 |cons t ts=>exact⟨h.1,h.2.1,Int.le_trans CK h.2.2.1,h.2.2.2⟩
variable (hf:cU n) (hn:aW n=YW YY)
include hf hn
theorem Cn:∀{ts:List av} {p:ByteArray} {a:Int},iV n p a ts->∀t∈ts,a<=cS n t
 |x::ts,p,a,h,t,ht=>by
  rcases V5.1 ht with rfl|ht
  ·exact h.2.2.1
  ·obtain⟨t1,t2,t3,t4,t5⟩:=cY hf hn h.1
   obtain⟨c0,c1⟩:=kW hn;have:=Cn h.2.2.2 t ht;have:=h.2.2.1;omega
theorem Co:∀{ts:List av} {p:ByteArray} {a:Int},iV n p a ts->ts.Pairwise λx y=>cS n x<cS n y
 | [],_,_,_=>XH
 |x::ts,p,a,h=>by
  obtain⟨t1,t2,t3,t4,t5⟩:=cY hf hn h.1;obtain⟨c0,c1⟩:=kW hn;refine List.pairwise_cons.2 ⟨λy hy=>?_,Co h.2.2.2⟩
  have:=Cn hf hn h.2.2.2 y hy;omega
theorem vn{a:Int}(h:iV n p a ts):ts.Nodup:=by
 exact(Co hf hn h).imp λ{a b} bX e=>by grind
theorem Tx(hp:0<=bf (ak n) p)(h:∀t∈ts,gy n t=YY):0<=bf (ak n) (Lr n p ts):=by
 induction ts generalizing p with
 |nil=>exact hp
 |cons t ts ih=>
  obtain⟨y,hy,hym⟩:=fp hf (h t Yq);have e:cq n t=y.aY:=by unfold cq;grind
  have:=ih (p:=cq n t) (by rw[e];exact nn (qD hym).2) λx hx=>h x Yr
  exact this
end
theorem Zdh{l:List ByteArray}(h:0<=bf l p):p∈l:=by
 unfold bf at h
 cases hx:l.findIdx? λy=>Y0 (y=p)with
 |none=>grind
 |some k=>
  obtain⟨h1,h2,_⟩:=List.findIdx?_eq_some_iff_getElem.1 hx
  grind
theorem tL{n:ah}{p:ByteArray}:∀{ts:List av} {t:av},ts.getLast?=YW t->Lr n p ts=cq n t
 | [],_,h=>by grind
 | [x],t,h=>by obtain rfl:x=t:=by grind
               rfl
 |x::y::ts,t,h=>by
  have:=tL (n:=n) (p:=cq n x) (ts:=y::ts) (t:=t) Yr;exact this
theorem EH{n:ah}{a:Int}:∀{ts:List av} {t:av},ts.getLast?=YW t->O1 n a ts=dP n t+n.change
 | [],_,h=>by grind
 | [x],t,h=>by obtain rfl:x=t:=by grind
               rfl
 |x::y::ts,t,h=>by
  have:=EH (n:=n) (a:=dP n x+n.change) (ts:=y::ts) (t:=t) Yr;exact this
/-! Q1 of Zis YW are dropped. -/
def pg(id:Int)(rest:List av)(bs:List aq):List aq:=bs.filter λb=>!(Y0 (b.bz=id)&&dF rest b.bk)
theorem kb{l:List av}{t:av}:dF l t=YY↔t∈l:=by
 unfold dF;simp
theorem E0{bs:List aq}{b:aq}:b∈pg id rest bs↔b∈bs/\¬(b.bz=id/\b.bk∈rest):=by
 unfold pg;rw[Xl];simp only[WW,XA,Yl,not_and];refine and_congr_right λ_=>⟨λh h1 h2=>?_,λh h1=>?_⟩
 ·have:=h h1;rw[kb.2 h2]at this;grind
 ·cases hc:dF rest b.bk with
  |false=>rfl
  |true=>exact absurd (kb.1 hc) (h h1)
theorem O0(id:Int)(bs:List aq):pg id [] bs=bs:=by
 exact List.filter_eq_self.2 λb _=>by simp[dF]
theorem PE{l l':List aq}(h:l'.Sublist l)(hw:∀b∈l,1<=b.ab/\b.ab<=1000000)(t:av):rW l' t<=rW l t:=by
 induction h with
 |slnil=>omega
 |cons a h ih=>
  have:=ih λb hb=>hw b Yr
  unfold rW at *
  grind
 |cons_cons a h ih=>
  have:=ih λb hb=>hw b Yr
  unfold rW at *
  grind
theorem zt{n:ah}(hf:cU n){l l':List aq}(hb:cu n l=YY)(hs:l'.Sublist l):cu n l'=true:=by
 obtain⟨hn,hl⟩:=dQ hb;have I0:=hs.length_le;have hw:∀b∈l,1<=b.ab/\b.ab<=1000000:=λb hm=>by
  obtain⟨i,hi,rfl⟩:=Wf hm;have h1:=(xY hb hi).1;unfold M7 at h1
  grind
 have hp:l'.Pairwise λa b=>pA a b=true:=by
  refine Xg hs ?_;exact Wy.2 λi j hi hj zf=>sB hb j i hj zf
 unfold cu;rw[hn];simp only[Xj,Bool.true_and,Wd,Yl];refine⟨Yn,List.all_eq_true.2 λi hi=>?_⟩
 have nj:i<l'.length:=List.mem_range.1 hi;obtain⟨j,hj,hje⟩:=Wf (hs.subset (Wp nj));obtain⟨b1,b2⟩:=xY hb hj;unfold M7 at b1
 unfold Vd at b2
 rw[VV hj,hje]at b1 b2
 simp only[Wd]at b1⊢
 constructor
 ·unfold M7
  rw[VV nj];simp only[Wd];refine⟨b1.1,?_⟩
  cases i with
  |zero=>rfl
  |succ i=>
   have hi2:i<l'.length:=Yn;have:=Wy.1 hp i (i+1) hi2 nj Yn
   grind
 ·unfold Vd
  rw[VV nj];have hw':∀b∈l',1<=b.ab/\b.ab<=1000000:=λb hb=>hw b (hs.subset hb)
  simp only[S9 (show l.length<=1000 by omega) hw]at b2
  simp only[S9 (show l'.length<=1000 by omega) hw']
  cases hg:aB n.aA l'[i].bk.bH with
  |none=>grind
  |some g=>
   rw[hg]at b2
   simp at b2⊢
   have:=PE hs hw l'[i].bk;omega
theorem tJ(id:Int)(rest:List av)(bs:List aq):(pg id rest bs).Sublist bs:=List.filter_sublist
theorem H7{n:ah}{l:List aq}(hb:cu n l=YY):l.Nodup:=by
 refine Wy.2 λi j hi hj zf e=>?_
 have:=sB hb j i hj zf;rw[Cc (by rw[e]) (by rw[e])]at this
 grind
theorem OZ{n:ah}{l:List aq}(hb:cu n l=YY)(hr:rest.Nodup)(hm:∀t∈rest,(⟨id,t,wt⟩:aq)∈l):(pg id rest l).length+rest.length=l.length:=by
 have hu:=Ci hb;have e:=List.length_eq_countP_add_countP (p:=λb:aq=>Y0 (b.bz=id)&&dF rest b.bk) (l:=l)
 have e2:l.countP (λb=>Y0 ¬(Y0 (b.bz=id)&&dF rest b.bk)=YY)=(pg id rest l).length:=by
  rw[X0];unfold pg;simp
 have e3:l.countP (λb:aq=>Y0 (b.bz=id)&&dF rest b.bk)=rest.length:=by
  rw[X0];refine Nat.le_antisymm ?_ ?_
  ·have el:((l.filter λb=>Y0 (b.bz=id)&&dF rest b.bk).map λb:aq=>b.bk).length=(l.filter λb=>Y0 (b.bz=id)&&dF rest b.bk).length:=Wj ..
   rw[<-el];refine sw ?_ λt ht=>?_
   ·unfold XL
    rw[W9];refine(Xg List.filter_sublist (H7 hb)).imp_of_mem λ{a b} ha Ga gZ e=>gZ ?_
    have Ga:=Xl.1 Ga;simp at ha Ga
    exact hu a ha.1 b Ga.1 (ha.2.1.trans Ga.2.1.symm) e
   ·obtain⟨b,qZ,rfl⟩:=WI.1 ht
    have:=(Xl.1 qZ).2;simp at this
    exact kb.1 this.2
  ·have el:(rest.map λt=>(⟨id,t,wt⟩:aq)).length=rest.length:=Wj ..
   rw[<-el];refine sw ?_ λb qZ=>?_
   ·grind
   ·obtain⟨t,ht,rfl⟩:=WI.1 qZ
    refine Xl.2 ⟨hm t ht,?_⟩;simp;exact kb.2 ht
 omega
def gC(n:ah)(o:az):ByteArray:=if o.state=2 then((o.aK[o.aO.toNat]?).map (cq n)).getD ⟨#[]⟩else o.place
def cg(o:az):List av:=o.aK.take (bd o).toNat
def mh(o:az):List av:=o.aK.drop (bd o).toNat
def atR(n:ah)(now:Int)(o:az):Int:=match(cg o).getLast? with
 |some t=>if dP n t+n.change > now+1 then dP n t+n.change else now+1
 |none=>now+1
def gI(w:ax)(i:Nat)(o:az):List aq:=pg ((i+1:Nat):Int) (mh o) w.au
def gh(o:az)(ts:List av):az:=⟨o.ar,o.aY,o.aw,o.ab,o.aQ,o.eJ,ts,o.aO,o.state,o.place,o.bQ⟩
def xr(w:ax)(i:Nat)(o:az)(ts:List av)(bs:List aq):ax:=⟨w.aa,w.aj.set i (gh o ts),bs,w.ae,w.now,w.aN,w.skip,w.bg⟩
def Q8(w:ax)(i:Nat)(o:az):Prop:=(∃x,bS w.aa (gI w i o) w.ae (gC w.aa o) o.aY (atR w.aa w.now o) o.ab=YW (x,YZ))\/
 ∃aK,bS w.aa (gI w i o) w.ae (gC w.aa o) o.aY (atR w.aa w.now o) o.ab=YW (aK,YY)/\cx w.aa (gI w i o) ((i+1:Nat):Int) o.ab aK=YW (gI w i o,YZ)
structure Q7(w:ax)(i:Nat)(o:az)(aK:List av)(bs:List aq):Prop where
 jk:bS w.aa (gI w i o) w.ae (gC w.aa o) o.aY (atR w.aa w.now o) o.ab=YW (aK,YY)
 book:cx w.aa (gI w i o) ((i+1:Nat):Int) o.ab aK=YW (bs,YY)
 KH:UU w.aa (gI w i o) w.ae o.ab (gC w.aa o) o.aY (atR w.aa w.now o) aK
 perm:bs.Perm (gI w i o++gX ((i+1:Nat):Int) o.ab aK)
 mq:cu w.aa bs=YY
def ur(w:ax)(i:Nat)(o:az)(w':ax):Prop:=(Q8 w i o/\w'=xr w i o (cg o) (gI w i o))\/∃aK bs,Q7 w i o aK bs/\w'=xr w i o (cg o++aK) bs
section
variable {w:ax} {i:Nat} {o:az}
theorem PB(hb:w.au.length<=1000)(ho:aB w.aj (i:Int)=YW o)(hl:o.aK.length<=1048576)(hi:i<=1000){k:Int}(hk:0<=k/\k<=o.aK.length):
 aE (iC w ((i+1:Nat):Int) k) NN (0,[])=YW (pg ((i+1:Nat):Int) (o.aK.drop k.toNat) w.au):=by
 have hid:aM (((i+1:Nat):Int)-1)=(i:Int):=by rw[aR Yn];omega
 have sT:cM o.aK k (o.aK.length:Int)=o.aK.drop k.toNat:=by
  unfold cM;rw[List.take_of_length_le Yq]
 have vA:cr (fJ k (o.aK.length:Int) o.aK.length)=YW ():=ku YM;refine mD (body:=iC w ((i+1:Nat):Int) k) (λj:Nat=>((j:Int),pg ((i+1:Nat):Int) (o.aK.drop k.toNat) (w.au.take j))) (n:=w.au.length) (λj hj=>?_) ?_ NN Ys
 ·have hg:aB w.au (j:Int)=YW w.au[j]:=by rw[aP];simp
  have hw:aM ((j:Int)+1)=((j+1:Nat):Int):=bG hj Yn;have Lx:(pg ((i+1:Nat):Int) (o.aK.drop k.toNat) (w.au.take j)).length<=1000:=Wr (List.length_filter_le _ _) Yr;have ha:cr (bn ((pg ((i+1:Nat):Int) (o.aK.drop k.toNat) (w.au.take j)).length+([w.au[j]]:List aq).length) 32)=YW ():=ff Yr Yn;have hs:pg ((i+1:Nat):Int) (o.aK.drop k.toNat) (w.au.take (j+1))=pg ((i+1:Nat):Int) (o.aK.drop k.toNat) (w.au.take j)++(if(Y0 (w.au[j].bz=((i+1:Nat):Int))&&dF (o.aK.drop k.toNat) w.au[j].bk)=YY then []else [w.au[j]]):=by
   unfold pg;rw[List.take_succ_eq_append_getElem hj]
   grind
  unfold iC;rw[hs]
  by_cases h:w.au[j].bz=((i+1:Nat):Int)
  ·simp only[wQ,hid,ho,VT,sT,jE (show(o.aK.drop k.toNat).length<=1048576 by grind)]
   have e:((o.aK.drop k.toNat).any λy=>Y0 (y=w.au[j].bk))=dF (o.aK.drop k.toNat) w.au[j].bk:=rfl
   grind
  grind
 ·unfold iC
  simp
variable (hf:rF w) (hn:aW w.aa=YW YY) (hb:cu w.aa w.au=YY) (CP:0<=w.now/\w.now<=100000) (hi:i<=1000)
 (ho:w.aj[i]?=YW o) (hg:0<=o.aO/\o.aO<=o.aK.length) (h2:o.state=2->o.aO<o.aK.length) (ht:∀t∈o.aK,gy w.aa t=YY) (UQ:o.aK.length<=1000)
include hf hn hb CP hi ho hg h2 ht UQ
theorem Zbd:∃w',fm w ((i+1:Nat):Int)=YW w'/\ur w i o w':=by
 have hl:=hf.aK o (VW ho);obtain⟨_,zI⟩:=dQ hb;obtain⟨c0,c1⟩:=kW hn;have hoi:aB w.aj (i:Int)=YW o:=by rw[aP];omega
 have hid:aM (((i+1:Nat):Int)-1)=(i:Int):=by rw[aR Yn];omega
 have hk:0<=bd o/\bd o<=o.aK.length:=by
  unfold bd;omega
 have EN:ic o=YW (bd o):=by
  rw[(s8 hg hl).2.2,if_neg Yn]
 have hkl:(cg o).length=(bd o).toNat:=by unfold cg;grind
 have sT:cM o.aK 0 (bd o)=cg o:=by rfl
 have vA:cr (fJ 0 (bd o) o.aK.length)=YW ():=ku YM;have hct:fh (cg o)=YW (cg o):=s9 Yn;have zi:aM (w.now+1)=w.now+1:=aR Yn;have I0:(gI w i o).length<=120:=Wr (tJ _ _ _).length_le zI;have sR:=zt hf.fC hb (tJ ((i+1:Nat):Int) (mh o) w.au);have zd:jB w.aa (gh o (cg o))=YW (gC w.aa o):=by
  have e0:jB w.aa (gh o (cg o))=cond (Y0 (o.state=2)) ((aB (cg o) o.aO).bind λy1=>(aB w.aa.aA y1.bH).bind λy2=>YW y2.aY) (YW o.place):=rfl
  rw[e0];unfold gC
  by_cases h:o.state=2
  ·have Ba:o.aO.toNat<o.aK.length:=Yn
   have e1:aB (cg o) o.aO=YW o.aK[o.aO.toNat]:=by
    unfold aB cg bd
    grind
   obtain⟨y,hy,_⟩:=fp hf.fC (ht _ (Wp Ba));unfold cq
   grind
  grind
 obtain⟨⟨aK,b⟩,e1,e2⟩:=ru hf.fC (l:=gI w i o) Yn hf.ae (gC w.aa o) o.aY (atR w.aa w.now o) o.ab
 -- MT follows when the aK was looked for
 have tail:∀a,a=atR w.aa w.now o->∃w',((iG w.aa (gI w i o) w.ae (gC w.aa o) o.aY a o.ab).bind λnF=>
  cond (!nF.2) (YW (xr w i o (cg o) (gI w i o)))
  ((wQ w.aj (aM (((i+1:Nat):Int)-1))).bind λpZ=>
  (fL w.aa (gI w i o) ((i+1:Nat):Int) o.ab nF.1).bind λod=>
  cond od.2
  ((wQ w.aj (aM (((i+1:Nat):Int)-1))).bind λrP=>
  (cr (bn (((cg o):List av).length+(nF.1:List av).length) 16)).bind λ_=>
  YW (xr w i o (cg o++nF.1) od.1))
  (YW (xr w i o (cg o) (gI w i o)))))=YW w'/\ur w i o w':=by
  rintro a rfl;rw[e1]
  cases b with
  |false=>exact⟨_,rfl,.inl ⟨.inl ⟨aK,e2⟩,rfl⟩⟩
  |true=>
  have hR:=qj hf.fC (show(gI w i o).length<=1048576 by omega) hf.ae e2
  have hlen:=hR.len;have BD:(gX ((i+1:Nat):Int) o.ab aK).length=aK.length:=by unfold gX;simp
  obtain⟨d,d1,d2⟩:=G9 (gI w i o++gX ((i+1:Nat):Int) o.ab aK) Yr;have xK:fL w.aa (gI w i o) ((i+1:Nat):Int) o.ab aK=cx w.aa (gI w i o) ((i+1:Nat):Int) o.ab aK:=by
   unfold fL;rw[if_pos ⟨CB.2 hf.fC,Yn,Yn⟩]
  have AF:=tF hf.fC (show(gI w i o).length<=1048000 by omega) ((i+1:Nat):Int) o.ab d1 d2
  simp only[wQ]
  by_cases Se:cu w.aa d=YY
  ·rw[if_pos ⟨sR,hlen,Se⟩]at AF
   have ha:cr (bn ((cg o).length+aK.length) 16)=YW ():=ff Yn Yn;exact⟨_,by grind,.inr ⟨aK,d,⟨e2,AF,hR,d1,Se⟩,rfl⟩⟩
  ·rw[if_neg (λhx=>Se hx.2.2)]at AF
   exact⟨_,by grind,.inl ⟨.inr ⟨aK,e2,AF⟩,rfl⟩⟩
 unfold fm;simp only[wQ,hid,hoi,VT,EN,PB (show w.au.length<=1000 by omega) hoi hl hi hk,vA,sT,hct]
 have hdl:pg ((i+1:Nat):Int) (List.drop (bd o).toNat o.aK) w.au=gI w i o:=rfl;rw[hdl]
 by_cases h0:0<bd o
 ·have hkt:(bd o).toNat-1<o.aK.length:=Yn
  have wT:(cg o).getLast?=YW o.aK[(bd o).toNat-1]:=by
   unfold cg
   grind
  have hgk:aB (cg o) (aM (bd o-1))=YW o.aK[(bd o).toNat-1]:=by
   rw[aR Yn];unfold aB cg;rw[if_pos Yn,List.getElem?_take,if_pos Yn];simp
  obtain⟨t1,t2,t3,t4,t5⟩:=cY hf.fC hn (ht _ (Wp hkt));have he:di w.aa o.aK[(bd o).toNat-1]=YW (dP w.aa o.aK[(bd o).toNat-1]):=by rw[r8];omega
  have hwe:aM (dP w.aa o.aK[(bd o).toNat-1]+w.aa.change)=dP w.aa o.aK[(bd o).toNat-1]+w.aa.change:=aR Yn;have Sd:(if dP w.aa o.aK[(bd o).toNat-1]+w.aa.change > w.now+1 then dP w.aa o.aK[(bd o).toNat-1]+w.aa.change else w.now+1)=atR w.aa w.now o:=by
   unfold atR;grind
  rw[Ya h0,Yj,hgk];simp only[VT,he,zi,hwe];have Zc4:jB w.aa ⟨o.ar,o.aY,o.aw,o.ab,o.aQ,o.eJ,cg o,o.aO,o.state,o.place,o.bQ⟩=YW (gC w.aa o):=zd;rw[Zc4];obtain⟨w',q1,q2⟩:=tail _ Sd;refine⟨w',?_,q2⟩;rw[<-q1];simp only[wQ,hid,hoi,VT,xr,gh,WN]
 ·have Sd:w.now+1=atR w.aa w.now o:=by unfold atR;grind
  rw[Yg h0,Yk];have Zc4:jB w.aa ⟨o.ar,o.aY,o.aw,o.ab,o.aQ,o.eJ,cg o,o.aO,o.state,o.place,o.bQ⟩=YW (gC w.aa o):=zd;rw[Zc4,zi];obtain⟨w',q1,q2⟩:=tail _ Sd;refine⟨w',?_,q2⟩;rw[<-q1];simp only[wQ,hid,hoi,VT,xr,gh,WN]
end
end Go.Proofs.YtdilaemengjipaaGreatDoor
