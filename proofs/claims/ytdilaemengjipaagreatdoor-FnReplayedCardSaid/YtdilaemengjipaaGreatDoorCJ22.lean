/- A part of the proof of the statement in the last file of this claim: texts on the language of the program and on its functions. No condition. -/
import Derived.Test.YtdilaemengjipaaGreatDoorCJ15
import Derived.Test.YtdilaemengjipaaGreatDoorCJ4
import Derived.Test.YtdilaemengjipaaGreatDoorCJ8
import Derived.Test.YtdilaemengjipaaGreatDoorCJ18
import Derived.Test.YtdilaemengjipaaGreatDoorCJ11
import Derived.Shelf.GgSortMore.Stable
import Derived.Test.YtdilaemengjipaaGreatDoorCJ1
set_option linter.unusedVariables false
set_option linter.unusedSimpArgs false
set_option linter.unusedSectionVars false
open Go.Value renaming int->Y1
open Go.IntKind renaming i64->Y2
open Go renaming undef->Y3
open Option renaming some->YW,none->YX
open Bool renaming true->YY,false->YZ
open Decidable renaming decide->Y0
open Go.Proofs.Tryz
set_option maxHeartbeats 40000000
namespace Go.Proofs.YtdilaemengjipaaGreatDoor
open Nat renaming le_refl->VY,lt_or_ge->Wv,mul_le_mul_right->Wa,add_mul->Xk,lt_trichotomy->WL,lt_of_lt_of_le->WJ,zero_add->Wc
open Option.some renaming inj->VX
open List renaming getElem?_map->Wk,ext_getElem?->XR,getElem?_eq_none->Xf
set_option maxRecDepth 10000
open Go.RowKit Go.Lib Go.Sort
set_option maxRecDepth 100000
variable {O:Nat->Prop}{W w w0:World}{v:Value}
section
variable {α:Type} [Inhabited α] {lt:α->α->Bool}
def MI(lt:α->α->Bool)(bs n q:Nat)(d:Array α):Prop:=(∀p,p<q->SortedIn lt (p*(2*bs)) (p*(2*bs)+2*bs) d)/\∀p,2*q<=p->SortedIn lt (p*bs) (min (p*bs+bs) n) d
theorem ZhJ(q bs:Nat):(2*q)*bs=q*(2*bs):=by grind
theorem MI.zero{bs n:Nat}{d:Array α}(h:Rb lt bs n d):MI lt bs n 0 d:=⟨λp hp=>Yn,λp _=>h p⟩
theorem MI.left{bs n q A:Nat}{d:Array α}(h:MI lt bs n q d)(hA:A=q*(2*bs))(hn:A+bs<=n):SortedIn lt A (A+bs) d:=by
 have:=h.2 (2*q) (VY _)
 grind
theorem MI.right{bs n q A:Nat}{d:Array α}(h:MI lt bs n q d)(hA:A=q*(2*bs)):SortedIn lt (A+bs) (min (A+2*bs) n) d:=by
 have:=h.2 (2*q+1) Yn
 grind
theorem MI.last{bs n q A:Nat}{d:Array α}(h:MI lt bs n q d)(hA:A=q*(2*bs))(hn:n<=A+bs):SortedIn lt A n d:=by
 have:=h.2 (2*q) (VY _)
 grind
theorem MI.step{bs n q A:Nat}{d e:Array α}(h:MI lt bs n q d)(hA:A=q*(2*bs))(hp:PermIn A (A+2*bs) d e)(hs:SortedIn lt A (A+2*bs) e):MI lt bs n (q+1) e:=by
 refine⟨λp hpq=>?_,λp hpq=>?_⟩
 ·rcases Wv p q with h1|h1
  ·have h2:(p+1)*(2*bs)<=q*(2*bs):=Wa _ h1
   rw[Xk]at h2
   exact xH (h.1 p h1) λk _ hk=>hp.2.1 k (.inl Yn)
  grind
 ·have h2:(2*(q+1))*bs<=p*bs:=Wa _ hpq
  rw[ZhJ,Xk]at h2
  exact xH (h.2 p Yn) λk hk _=>hp.2.1 k (.inr Yn)
theorem MI.fin{bs n q A:Nat}{d e:Array α}(h:MI lt bs n q d)(hA:A=q*(2*bs))(hn:n<A+2*bs)(hp:PermIn A n d e)(hs:SortedIn lt A n e):Rb lt (2*bs) n e:=by
 intro p
 rcases WL p q with h1|h1|h1
 ·have h2:(p+1)*(2*bs)<=q*(2*bs):=Wa _ h1
  rw[Xk]at h2
  exact xH (wH (h.1 p h1) (VY _) (Nat.min_le_left _ _)) λk _ hk=>hp.2.1 k (.inl Yn)
 ·grind
 ·have h2:(q+1)*(2*bs)<=p*(2*bs):=Wa _ h1
  rw[Xk]at h2
  exact N9 Yn
def BI(lt:α->α->Bool)(q:Nat)(d:Array α):Prop:=∀p,p<q->SortedIn lt (p*20) (p*20+20) d
theorem BI.step{q:Nat}{d e:Array α}(h:BI lt q d)(hp:PermIn (q*20) (q*20+20) d e)(hs:SortedIn lt (q*20) (q*20+20) e):BI lt (q+1) e:=λp hpq=>by
 by_cases h1:p=q
 ·grind
 ·exact xH (h p Yn) λk _ hk=>hp.2.1 k (.inl Yn)
theorem BI.fin{q n:Nat}{d e:Array α}(h:BI lt q d)(hn:n<q*20+20)(hp:PermIn (q*20) n d e)(hs:SortedIn lt (q*20) n e):Rb lt 20 n e:=λp=>by
 rcases WL p q with h1|h1|h1
 ·exact xH (wH (h p h1) (VY _) (Nat.min_le_left _ _)) λk _ hk=>hp.2.1 k (.inl Yn)
 ·grind
 ·exact N9 Yn
variable {enc:α->List Value} {k:Nat} {g:Nat} {T:TypeId} {cs:Nat}
variable (hk:∀x,(enc x).length=k) (f:Nat) (lb:Array Value) (sf:Nat) (sb:Array Value) (n:Nat) (hn:n<1152921504606846976) (pB:SwapSwapsK prog sf sb enc k g 0 n)
include hk hn pB
theorem Ur(hO:SWO lt)(eg:∀args w,(callFunc f args).run prog w=.ok (.enter f args) w){d:Array α}(hd:d.size=n)(h0:SU enc k g T cs W d W)(hL:sW f lb enc k lt g T cs n W):
 Calls prog 253 #[LS f lb sf sb,Y1 Y2 n] W λe w'=>e=.returned (.tuple #[])/\∃e,SU enc k g T cs W e w'/\PermIn 0 n d e/\SortedIn lt 0 n e:=by
 have hB:SU enc k g T cs W d (W.alloc (sh f lb sf sb)):=h0.more (Up.al _ (Up.rfl' W));have HL:Hid (∀d' W',SU enc k g T cs (W.alloc (sh f lb sf sb)) d' W'->sW f lb enc k lt g T cs n W'):=λd' W' h'=>hL.on (hB.trans h')
 have HB:Hid (SU enc k g T cs W d (W.alloc (sh f lb sf sb))):=hB;have hI:=fun(d':Array α) (W':World) (xg:d'.size=n) (h':SU enc k g T cs W' d' W') (hL':sW f lb enc k lt g T cs n W') (a b:Nat) (CK:a<=b) (hb:b<=n)=>Ps hk f lb sf sb n hn pB eg xg h' hL' a b CK hb
 have hM:=fun(d':Array α) (W':World) (xg:d'.size=n) (h':SU enc k g T cs W' d' W') (hL':sW f lb enc k lt g T cs n W') (a m b:Nat)=>ZdT hk f lb sf sb n hn pB hO eg (b-a) d' W' xg h' hL' a m b (VY _)
 have HI:Hid _:=hI;have HM:Hid _:=hM;have hg:=h0.lt;clear h0 hL hI hM
 go_enter func253,ntmps253
 go_wp2
 go_loopw [5,6] (λv5 v6 wr=>∃(q:Nat) (dk:Array α),v5=Y1 Y2 ((q:Int)*20)/\v6=Y1 Y2 ((q:Int)*20+20)/\q*20<=n/\PermIn 0 n d dk/\BI lt q dk/\SU enc k g T cs (W.alloc (sh f lb sf sb)) dk wr) (λv5 v6 _=>n-(intOf v5).toNat)
 case atStart=>exact⟨0,d,by rfl,by rfl,Yn,permIn_refl _ _ _,λp hp=>Yn,hB.self⟩
 case round=>
  obtain⟨q,dk,rfl,rfl,hq,hP,hBI,hS⟩:=hrel;have c0:wr.cell? ⟨W.heap.size,0,YX⟩=YW (.func (.func f) #[] lb):=by rw[hS.AP Yq Yn];simp
  have c1:wr.cell? ⟨W.heap.size,1,YX⟩=YW (.func (.func sf) #[] sb):=by rw[hS.AP Yq Yn];simp
  have hds:dk.size=n:=hP.1.trans hd;have HS:Hid (SU enc k g T cs (W.alloc (sh f lb sf sb)) dk wr):=hS;have HP:Hid (PermIn 0 n d dk):=hP;have HBI:Hid (BI lt q dk):=hBI;clear hS hB hP hBI
  by_cases hle:q*20+20<=n
  ·have hc:=HI.out dk wr hds HS.out.self (HL.out dk wr HS.out) (q*20) (q*20+20) Yn hle
   rw[show((q*20:Nat):Int)=(q:Int)*20 by omega,show((q*20+20:Nat):Int)=(q:Int)*20+20 by omega]at hc
   go_wp2_with (go_at_call 320;refine hc.mono ?_;rintro e w' ⟨rfl,hE⟩)
   have x:=insertionSort_holds hO dk (q*20) (q*20+20) Yn Yn;exact⟨⟨q+1,_,by grind,by grind,Yn,permIn_trans _ _ _ _ _ HP.out (permIn_mono _ _ _ _ _ _ Yn Yn Yn x.1),HBI.out.step x.1 x.2,HS.out.trans hE⟩,by simp[intOf];omega⟩
  ·have Zfe:¬(q:Int)*20+20<=(n:Int):=Yn
   have hc:=HI.out dk wr hds HS.out.self (HL.out dk wr HS.out) (q*20) n hq (VY _);rw[show((q*20:Nat):Int)=(q:Int)*20 by omega]at hc
   go_wp2_with (go_at_call 320;refine hc.mono ?_;rintro e w' ⟨rfl,hE⟩)
   have x:=insertionSort_holds hO dk (q*20) n Yn Yn;have hR0:=HBI.out.fin Yn x.1 x.2;have hP0:=permIn_trans _ _ _ _ _ HP.out (permIn_mono _ _ _ _ _ _ Yn (VY _) Yn x.1);have hS0:=HS.out.trans hE;clear x c0 c1
   go_loopw [4,5,6,7] (λv4 v5 v6 v7 wr=>∃(bs:Nat) (dk:Array α),v4=Y1 Y2 (bs:Int)/\1<=bs/\bs<=2*n+20/\PermIn 0 n d dk/\Rb lt bs n dk/\SU enc k g T cs (W.alloc (sh f lb sf sb)) dk wr) (λv4 _ _ _ _=>n-(intOf v4).toNat)
   case atStart=>grind
   case round=>
    obtain⟨bs,dk2,rfl,qZ,xJ,hP2,hR2,IQ⟩:=hrel;have HP2:Hid (PermIn 0 n d dk2):=hP2;have HR2:Hid (Rb lt bs n dk2):=hR2;have KM:Hid (SU enc k g T cs (W.alloc (sh f lb sf sb)) dk2 wr):=IQ;clear hP2 hR2 IQ hP0 hR0 hS0 hE Zfe hle hc HS HP HBI hq
    by_cases bX:bs<n
    ·go_wp2
     go_loopw [5,6] (λv5 v6 wr=>∃(A:Nat) (dk:Array α),v5=Y1 Y2 (A:Int)/\v6=Y1 Y2 ((A:Int)+2*(bs:Int))/\A<=n/\PermIn 0 n d dk/\(∃q,A=q*(2*bs)/\MI lt bs n q dk)/\SU enc k g T cs (W.alloc (sh f lb sf sb)) dk wr) (λv5 v6 _=>n-(intOf v5).toNat)
     case atStart=>exact⟨0,dk2,by rfl,by go_num,Yn,HP2.out,⟨0,Yn,MI.zero HR2.out⟩,KM.out⟩
     case round=>
      obtain⟨A,VA,rfl,rfl,hA,hP3,hM3,hS3⟩:=hrel;have c0:wr.cell? ⟨W.heap.size,0,YX⟩=YW (.func (.func f) #[] lb):=by rw[hS3.AP Yq Yn];simp
      have c1:wr.cell? ⟨W.heap.size,1,YX⟩=YW (.func (.func sf) #[] sb):=by rw[hS3.AP Yq Yn];simp
      have Ze7:VA.size=n:=hP3.1.trans hd;have HP3:Hid (PermIn 0 n d VA):=hP3;have HM3:Hid (∃q,A=q*(2*bs)/\MI lt bs n q VA):=hM3;have HS3:Hid (SU enc k g T cs (W.alloc (sh f lb sf sb)) VA wr):=hS3;clear hP3 hM3 hS3
      by_cases hle:A+2*bs<=n
      ·have hc:=HM.out VA wr Ze7 HS3.out.self (HL.out VA wr HS3.out) A (A+bs) (A+2*bs) Yn Yn hle (by obtain⟨q,h1,h2⟩:=HM3.out;exact h2.left h1 Yn) (by obtain⟨q,h1,h2⟩:=HM3.out;have:=h2.right h1;simp_all)
       rw[show((A+bs:Nat):Int)=(A:Int)+(bs:Int)by omega,show((A+2*bs:Nat):Int)=(A:Int)+2*(bs:Int)by omega]at hc
       go_wp2_with (go_at_call 321;refine hc.mono ?_;rintro e w' ⟨rfl,hE⟩)
       obtain⟨e,KO,Hn,Nr⟩:=hE;exact⟨⟨A+2*bs,e,by rfl,by rfl,hle,permIn_trans _ _ _ _ _ HP3.out (permIn_mono _ _ _ _ _ _ Yn hle Yn Hn),(by obtain⟨q,h1,h2⟩:=HM3.out;exact⟨q+1,by grind,h2.step h1 Hn Nr⟩),HS3.out.trans KO⟩,by simp[intOf];omega⟩
      ·have Zfe:¬(A:Int)+2*(bs:Int)<=(n:Int):=Yn
       by_cases hm:A+bs<n
       ·have hmz:(A:Int)+(bs:Int)<(n:Int):=Yn
        have hc:=HM.out VA wr Ze7 HS3.out.self (HL.out VA wr HS3.out) A (A+bs) n Yn Yn (VY _) (by obtain⟨q,h1,h2⟩:=HM3.out;exact h2.left h1 Yn) (by obtain⟨q,h1,h2⟩:=HM3.out;have:=h2.right h1;grind)
        rw[show((A+bs:Nat):Int)=(A:Int)+(bs:Int)by omega]at hc
        go_wp2_with (go_at_call 321;refine hc.mono ?_;rintro e w' ⟨rfl,hE⟩)
        obtain⟨e,KO,Hn,Nr⟩:=hE;exact⟨⟨2*bs,e,by grind,Yn,Yn,permIn_trans _ _ _ _ _ HP3.out (permIn_mono _ _ _ _ _ _ Yn (VY _) Yn Hn),(by obtain⟨q,h1,h2⟩:=HM3.out;exact h2.fin h1 Yn Hn Nr),HS3.out.trans KO⟩,by simp[intOf];omega⟩
       ·have hmz:¬(A:Int)+(bs:Int)<(n:Int):=Yn
        go_wp2
        exact⟨⟨2*bs,VA,by grind,Yn,Yn,HP3.out,(by obtain⟨q,h1,h2⟩:=HM3.out;exact h2.fin h1 Yn (permIn_refl _ _ _) (h2.last h1 Yn)),HS3.out⟩,by simp[intOf];omega⟩
    ·have ze:¬(bs:Int)<(n:Int):=Yn
     go_wp2
     go_end0
     refine⟨rfl,dk2,HB.out.trans KM.out,HP2.out,?_⟩;have:=HR2.out 0
     simp_all
end
instance :eZ aq where
 cells x:=[I x.bz,I x.bk.bH,I x.bk.day,I x.ab]
 k:=4
 len _:=rfl
 pos:=by decide
 one:=by simp[Value.oneCell',I]
instance :eZ av where
 cells x:=[I x.bH,I x.day]
 k:=2
 len _:=rfl
 pos:=by decide
 one:=by simp[Value.oneCell',I]
instance :zk aC (id:aq->aq):=⟨λx=>rfl,λx j p h=>by
 match j with
 |0=>obtain rfl:_=p:=VX h
     exact⟨_,rfl,rfl⟩
 |1=>obtain rfl:_=p:=VX h
     exact⟨_,rfl,rfl⟩
 |2=>obtain rfl:_=p:=VX h
     exact⟨_,rfl,rfl⟩
 |3=>obtain rfl:_=p:=VX h
     exact⟨_,rfl,rfl⟩
 |j+4=>simp[aC]at h⟩
instance :zk aU (id:av->av):=⟨λx=>rfl,λx j p h=>by
 match j with
 |0=>obtain rfl:_=p:=VX h
     exact⟨_,rfl,rfl⟩
 |1=>obtain rfl:_=p:=VX h
     exact⟨_,rfl,rfl⟩
 |j+2=>simp[aU]at h⟩
instance :Inhabited aq:=⟨⟨0,⟨0,0⟩,0⟩⟩
theorem Bs(a b:aq):pA a b=YY↔a.bk.day<b.bk.day\/(a.bk.day=b.bk.day/\(a.bk.bH<b.bk.bH\/(a.bk.bH=b.bk.bH/\a.bz<b.bz))):=by
 unfold pA
 grind
theorem Bt(a b:aq):pA a b=YZ↔¬(a.bk.day<b.bk.day\/(a.bk.day=b.bk.day/\(a.bk.bH<b.bk.bH\/(a.bk.bH=b.bk.bH/\a.bz<b.bz)))):=by
 rw[<-Bs];simp
theorem BM:SWO pA:=⟨λx=>(Bt _ _).2 Yn,λx y z h1 h2=>(Bs _ _).2 (by have:=(Bs _ _).1 h1;have:=(Bs _ _).1 h2;omega),λx y z h1 h2=>(Bt _ _).2 (by have:=(Bt _ _).1 h1;have:=(Bt _ _).1 h2;omega)⟩
theorem L0{b:Nat}:¬nC (λ_=>YX) b:=by rintro⟨l,B,h,_⟩;cases h
theorem fa.Zf5{P:Program}{f:FuncId}{args:List PV}{val:Value}(h:fa P f args [] (.v val) [])(ht:Es w (nC λ_=>YX)){vs:Array Value}(hl:vs.size=args.length)(ha:∀(i:Nat) (p:PV),args[i]?=YW p->∃x,vs[i]?=YW x/\dG w (E1 (λb=>b<w.heap.size) (λ_=>YX) 0) p x):
 Calls P f vs w λe w'=>e=.returned val/\Up w w':=by
 have hok:Ok w (nC λ_=>YX) (E1 (λb=>b<w.heap.size) (λ_=>YX) 0) w []:=
  ⟨Et.refl _ _,λb h=>h,λl B h=>YA,λl l' B B' h=>YA,λl h=>absurd h (Nat.not_lt_zero l),λl B h=>YA,λl mb h=>Yr,λl B h=>YA,ht,λ_ _ h=>h.elim⟩
 refine(h (λb=>b<w.heap.size) (λ_=>YX) w vs (λ_ _=>False) hok hl ha).mono ?_
 rintro e w' ⟨v,E',rfl,hk,_,_,_,hr⟩;obtain⟨rfl,_⟩:=hr.iz;exact⟨rfl,hk.up.os,hk.up.tape,hk.up.output,hk.up.size,λb hb=>hk.up.block b hb L0⟩
theorem MR{w w':World}{O O':Nat->Prop}(h:Es w O)(hu:Et O' w w')(hO:∀b,b<w.heap.size->O' b->O b):Es w' (nC λ_=>YX):=by
 obtain⟨T,h1,h2⟩:=h;exact⟨T,λb hb=>⟨WJ (h1 b hb).1 hu.size,L0⟩,λw'' Zdf=>h2 w'' λb hb=>(Zdf b hb).trans (hu.block b (h1 b hb).1 λh=>(h1 b hb).2 (hO b (h1 b hb).1 h))⟩
theorem N0{α β:Type}[eZ β]{c:α->List PV}(g:α->β)[hf:zk c g]{A:Option Addr}{n:Nat}{xs:List α}(h:Rd w w.heap.size A (xs.map g))(hn:xs.length<=n)(hm:n<=maxLen):eI w (λb=>b<w.heap.size) (.sl (xs.map c)) (.slice A xs.length n):=by
 by_cases h0:xs=[]
 ·subst h0;exact .nil _ _
 obtain⟨b,off,rfl,hb,hc⟩:=h Yv;have hlen:(xs.map c).length=xs.length:=by simp
 have key:∀(i:Nat) (cs:List PV) (j:Nat) (p:PV),(xs.map c)[i]?=YW cs->cs[j]?=YW p->∃u,w.cell? ⟨b,off+i*eZ.k β+j,YX⟩=YW u/\u.oneCell'=YY/\p=.v u:=by
  intro i cs j p hi hj;rw[Wk]at hi
  obtain⟨x,hx,rfl⟩:=Option.map_eq_some_iff.1 hi;obtain⟨u,hu,hp⟩:=hf.aQ x j p hj;have Lx:=uz (xs:=xs.map g) (i:=i) (x:=g x) Yr hu;exact⟨u,by grind,eZ.one _ u (List.mem_of_getElem? hu),hp⟩
 rw[<-hlen];exact .sl _ b off (eZ.k β) n (λi j=>(w.cell? ⟨b,off+i*eZ.k β+j,YX⟩).getD .nilIface) hb eZ.pos Yn hm
  (λi cs hi=>by
   rw[Wk]at hi
   obtain⟨x,_,rfl⟩:=Option.map_eq_some_iff.1 hi;exact hf.len x)
  (λi cs j p hi hj=>by grind)
  (λi cs j p hi hj=>by grind)
  (λi cs j p hi hj=>by obtain⟨u,x1,x2,rfl⟩:=key i cs j p hi hj;rw[x1];exact .v u x2)
section
variable {β:Type} [eZ β] [Inhabited β]
theorem CC(d:Array β):(flatK eZ.cells (eZ.k β) d).toList=flat d.toList:=by
 apply XR;intro t;have hk:0<eZ.k β:=eZ.pos
 rcases Wv t (d.size*eZ.k β)with h|h
 ·have h1:t<(flatK eZ.cells (eZ.k β) d).size:=by simp_all
  have hi:t / eZ.k β<d.size:=by rw[Nat.div_lt_iff_lt_mul hk];exact h
  have hj:=Nat.mod_lt t hk;have e0:t / eZ.k β*eZ.k β+t % eZ.k β=t:=by rw[Nat.mul_comm];exact Nat.div_add_mod t _
  have hc:(eZ.cells d[t / eZ.k β]!)[t % eZ.k β]?=YW ((eZ.cells d[t / eZ.k β]!)[t % eZ.k β]'(by rw[eZ.len];omega)):=List.getElem?_eq_getElem _
  have hf:=uz (xs:=d.toList) (i:=t / eZ.k β) (x:=d[t / eZ.k β]!) Yr hc;rw[Array.getElem?_toList,Array.getElem?_eq_getElem h1,<-getElem!_pos,get_flatK _ _ _ _ h]
  grind
 ·rw[Xf Yv,Xf (by rw[qA];exact h)]
theorem Zdz{B E:Nat}{xs:List β}(h:Own w B E v xs)(h2:0<xs.length):
 ∃g c,v=.slice (YW ⟨g,0,YX⟩) xs.length c/\B<=g/\xs.length<=c/\c<=maxLen/\SU (eZ.cells (α:=β)) (eZ.k β) g E (c*eZ.k β) w xs.toArray w:=by
 rcases h.2 with⟨_,h0⟩ |⟨g,cap,cur,hv,hB,hg,xi,KP,so,ht⟩
 ·omega
 refine⟨g,cap,hv,hB,xi,KP,Et.refl _ _,?_,cur,hg,so⟩;intro t htl;have Lx:(flatK (eZ.cells (α:=β)) (eZ.k β) xs.toArray).toList=flat xs:=by rw[CC]
 refine⟨?_,by simp[World.frozen?,hg]⟩
 rw[Wc,cell_of_row w g t cur E (0,0) hg];have h3:(flat xs)[t]?=YW (id (flatK (eZ.cells (α:=β)) (eZ.k β) xs.toArray)[t]!):=by
  grind
 grind
theorem Uu{B E g c:Nat}{d:Array β}(h:SU (eZ.cells (α:=β)) (eZ.k β) g E (c*eZ.k β) w0 d W)(hB:B<=g)(hn:d.size<=c)(hm:c<=maxLen):Own W B E (.slice (YW ⟨g,0,YX⟩) d.size c) d.toList:=by
 obtain⟨cur,hg,so⟩:=h.row;refine⟨by rw[qA],.inr ⟨g,c,cur,by rfl,hB,hg,Yn,hm,so,?_⟩⟩
 rw[<-CC];apply XR;intro t;rw[List.getElem?_take]
 split
 ·have h1:t<(flatK (eZ.cells (α:=β)) (eZ.k β) d).size:=by simp_all
  have hh:=(h.hold t h1).1;rw[Wc,cell_of_row W g t cur E (0,0) hg]at hh
  grind
 simp_all
end
theorem Kb{E:Env}(x:Value)(h:x.oneCell'=YY):dG w E (.v x) x:=.c (.v x h)
theorem ZaB{g c n Bx:Nat}(hx:w0.cell? ⟨Bx,0,YX⟩=YW (.slice (YW ⟨g,0,YX⟩) n c))(hBx:Bx<w0.heap.size)(gZ:Bx≠g)(xi:n<=c)(hm:c<=maxLen)(ht:Es w0 O)(hO:O g):
 sW 201 #[.pointer (YW ⟨Bx,0,YX⟩)] (eZ.cells (α:=aq)) 4 pA g 147 (c*4) n w0:=by
 intro d W hS hd i j hi hj;have hn:d.toList.length=n:=Yn;have gi:aB d.toList (i:Int)=YW d[i]!:=by rw[aP,getElem!_pos d i Yn];simp
 have gj:aB d.toList (j:Int)=YW d[j]!:=by rw[aP,getElem!_pos d j Yn];simp
 obtain⟨v,hv,hvb⟩:=EB d[i]! d[j]!;have H:o6 (i:Int) (j:Int) d.toList=YW (pA d[i]! d[j]!):=by
  unfold o6
  grind
 have hC:=CT.ok (P:=prog) H;simp only[CT.args]at hC
 have yl:W.cell? ⟨Bx,0,YX⟩=YW (.slice (YW ⟨g,0,YX⟩) n c):=(hS.AP hBx gZ).trans hx;have UN:Rd W W.heap.size (YW ⟨g,0,YX⟩) (d.toList.map id):=by
  have:=(Uu (B:=g) hS (VY _) Yn hm).rd
  simp_all
 have hrs:=N0 (c:=aC) (id:aq->aq) UN (n:=c) Yn hm;rw[hn]at hrs
 refine(fa.Zf5 hC (w:=W) (MR ht hS.up λb _ h=>h▸hO) rfl λidx p hp=>?_).mono ?_
 ·match idx with
  |0=>obtain rfl:_=p:=VX hp
      exact⟨_,rfl,Kb _ rfl⟩
  |1=>obtain rfl:_=p:=VX hp
      exact⟨_,rfl,Kb _ rfl⟩
  |2=>obtain rfl:_=p:=VX hp
      refine⟨_,rfl,.c (.rp _ Bx 0 (λ_=>.slice (YW ⟨g,0,YX⟩) n c) (WJ hBx hS.up.size) (λj p hp=>?_) (λj p hp=>rfl) λj p hp=>?_)⟩
      ·grind
      ·match j with
       |0=>obtain rfl:_=p:=VX hp
           exact hrs
       |j+1=>grind
  |idx+3=>grind
 simp
noncomputable def bkT:TypeInfo:=(prog.info? 29).get Yp
noncomputable def Ve:TypeInfo:=(prog.info? 147).get Yp
theorem bkK(n:Nat)(h2:2<=n):Lib.swapperK n Ve 25=9:=by
 have a:Ve.hasPointers=false:=by rfl
 have b:Ve.bytes=32:=by rfl
 have c:(n==0)=false:=by grind
 have d:(n==1)=false:=by grind
 simp[Lib.swapperK,a,b,c,d]
theorem VM(w:World)(os:Array Obj):Up w (grow w os):=⟨rfl,rfl,rfl,by simp,λb hb=>heap_grow_old w os hb⟩
theorem ZbB{B Bx:Nat}{xs:List aq}(ho:Own w B 147 v xs)(hx:w.heap[Bx]?=YW (.cells #[v] 29 (0,0)))(hn:xs.length<=1048576)(ht:Es w O)(hO:∀b,B<=b->O b):
 Calls prog 200 #[.iface 29 v,.func (.func 201) #[] #[.pointer (YW ⟨Bx,0,YX⟩)]] w λe w'=>e=.returned (.tuple #[])/\∃ys,ys.Perm xs/\ys.Pairwise (λa b=>pA b a=YZ)/\Own w' B 147 v ys/\Et (λb=>B<=b/\b≠Bx) w w':=by
 by_cases h2:2<=xs.length
 case neg=>
  obtain⟨A,c,rfl,_,_⟩:=ho.form;have hR:=Tryz.Gm;have key : ∀ f, prog.funcs.findIdx? (·.name == "internal/reflectlite" ++ ".Swapper$" ++ toString (Lib.swapperK xs.length Ve 25)) = YW f -> Calls prog 200 #[.iface 29 (.slice A xs.length c), .func (.func 201) #[] #[.pointer (YW ⟨Bx, 0, YX⟩)]] w λe w' => e = .returned (.tuple #[]) /\ ∃ os, w' = grow w os := λf hf =>
   Any.sort_SliceStable_tiny Tryz.Gm 29 147 bkT Ve Yp Yp Yp Yp 25 (λ_=>by kernel_rfl) A xs.length c Yn f hf _ _ _ w
  have ZhG : ∃ f, prog.funcs.findIdx? (·.name == "internal/reflectlite" ++ ".Swapper$" ++ toString (Lib.swapperK xs.length Ve 25)) = YW f := by
   rcases Wv 0 xs.length with h|h
   ·rw[show xs.length=1 by omega]
    exact⟨312,by kernel_rfl⟩
   ·rw[show xs.length=0 by omega]
    exact⟨311,by kernel_rfl⟩
  obtain⟨f,hf⟩:=ZhG;refine(key f hf).mono ?_;rintro e w' ⟨rfl,os,rfl⟩;have hu:=VM w os;refine⟨rfl,xs,List.Perm.refl _,?_,ho.up hu,⟨hu.os,hu.tape,hu.output,hu.size,λb hb _=>hu.block b hb⟩⟩
  match xs,h2 with
  | [],_=>simp
  | [x],_=>simp
  |x::y::l,h2=>grind
 case pos=>
  obtain⟨g,c,rfl,hB,xi,KP,hS⟩:=Zdz ho Yn;have ZiS:=hS.row;have gZ:Bx≠g:=by
   grind
  have hBx:Bx<w.heap.size:=(Array.getElem?_eq_some_iff.1 hx).1;have yl:w.cell? ⟨Bx,0,YX⟩=YW (.slice (YW ⟨g,0,YX⟩) xs.length c):=by rw[cell_of_row w Bx 0 _ _ (0,0) hx];rfl
  have hlen:xs.length<1152921504606846976:=Yn;have nK:sliceBound prog 147 Ve 25 (YW ⟨g,0,YX⟩) xs.length c=#[.slice (YW ⟨g,0,YX⟩) xs.length c,typeHandle prog 147]:=by
   unfold sliceBound;rw[if_neg (swapperK_gt _ _ _ h2)]
  have UO:SwapSwapsK prog 319 #[.slice (YW ⟨g,0,YX⟩) xs.length c,typeHandle prog 147] (eZ.cells (α:=aq)) 4 g 0 xs.length:=
   swapSwapsK_of_literal YZ 319 (λargs W=>run_callFunc_extern func319 Yp Yp Yp (e:=Extern.ReflectliteSwapper.swap YZ) Yp args W) 147 Ve Yp (eZ.cells (α:=aq)) 4 (λ_=>rfl) Yp (λ_=>by kernel_rfl) eZ.one g 0 xs.length c
  have tQ:=ZaB (n:=xs.length) yl hBx gZ xi KP ht (hO g hB);refine Any.sort_SliceStable_of_stable Tryz.Gm 29 147 bkT Ve Yp Yp Yp Yp 25 (λ_=>by kernel_rfl) (YW ⟨g,0,YX⟩) xs.length c Yn 319 (by rw[bkK _ h2];kernel_rfl) (.func 201) #[] #[.pointer (YW ⟨Bx,0,YX⟩)] w (λw'=>∃ys,ys.Perm xs/\ys.Pairwise (λa b=>pA b a=YZ)/\Own w' B 147 (.slice (YW ⟨g,0,YX⟩) xs.length c) ys/\Et (λb=>B<=b/\b≠Bx) w w') ?_
  rw[nK];have hu:Up w (stableWorld prog Tryz.vJ 29 (YW ⟨g,0,YX⟩) xs.length c w):=by unfold stableWorld;exact Up.al _ (Up.al _ (Up.rfl' w))
  generalize stableWorld prog Tryz.vJ 29 (YW ⟨g,0,YX⟩) xs.length c w=w1 at hu⊢
  have hS1:=hS.more hu;have u0:=Ur (enc:=eZ.cells (α:=aq)) (k:=4) (λ_=>rfl) 201 #[.pointer (YW ⟨Bx,0,YX⟩)] 319 #[.slice (YW ⟨g,0,YX⟩) xs.length c,typeHandle prog 147] xs.length hlen UO BM (enters_of func201 Yp rfl) (d:=xs.toArray) Yq hS1.self (tQ.on hS1)
  refine u0.mono ?_;rintro e w' ⟨rfl,e,KO,Hn,Nr⟩;have hE:=hS1.trans KO;have uV:e.size=xs.length:=by rw[Hn.1];simp
  have oC:=Uu (B:=B) (c:=c) hE hB Yn KP;rw[uV]at oC
  refine⟨rfl,e.toList,?_,?_,oC,⟨hE.up.os,hE.up.tape,hE.up.output,hE.up.size,λb hb hn=>hE.up.block b hb λh=>hn ⟨h▸hB,λh'=>gZ (h'▸h.symm▸rfl)⟩⟩⟩
  ·have hp:=Hn.2.2
   rw[<-uV]at hp
   rw[Array.extract_size]at hp
   simp_all
  ·rw[List.pairwise_iff_getElem]
   intro i j hi hj zf;have:=Nr i j Yn zf Yv
   grind
end Go.Proofs.YtdilaemengjipaaGreatDoor
