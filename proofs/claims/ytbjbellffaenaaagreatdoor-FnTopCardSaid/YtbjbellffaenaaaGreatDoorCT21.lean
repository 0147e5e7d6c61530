/- A part of the proof of this claim's last theorem. No condition. -/
import Derived.Test.YtbjbellffaenaaaGreatDoorCT13
import Derived.Test.YtbjbellffaenaaaGreatDoorCT14
import Derived.Test.YtbjbellffaenaaaGreatDoorCT15
import Derived.Test.YtbjbellffaenaaaGreatDoorCT11
import Derived.Test.YtbjbellffaenaaaGreatDoorCT16
set_option linter.all false
set_option maxRecDepth 100000
open Go.Value renaming int->Zh
open Go.IntKind renaming i64->Zi
open Go renaming undef->Zj
open Option renaming some->D,none->L
open Bool renaming true->Ze,false->Zf
open Decidable renaming decide->Zg
open List renaming length->K
open Option renaming bind->Y
open _root_ renaming Array->J,List->C,Nat->F,Option->R,cond->V
open Go.Proofs.YtbjbellffaenaaaGreatDoor renaming Bx->M,YA->G,YC->S,vi->Z
open Go.Proofs.Tryz
set_option maxHeartbeats 40000000
open Nat renaming le_refl->VW,lt_or_ge->Wu,mul_le_mul_right->Wb,add_mul->Xq,lt_trichotomy->WQ,lt_of_lt_of_le->Wn,zero_add->Wa
open Option.some renaming inj->X
open List renaming getElem?_map->Wp,ext_getElem?->XZ,getElem?_eq_none->Xl,pairwise_iff_getElem->Wr
open Option renaming map_eq_some_iff->Wc,bind_some->VR
open _root_.Array renaming getElem?_toList->WU,getElem?_eq_getElem->V4,getElem?_eq_some_iff->V6,length_toList->W7
namespace Go.Proofs.YtbjbellffaenaaaGreatDoor
open Go.RowKit
def lG(qy:Int)(fc:Int)(bK:Int)(aU:C Int):R Int:=
 Y (fH aU) λy1=>
 V (!y1)
 (D 0)
 (Y (bh qy 0 100000) λy2=>
 V (!y2)
 (D 0)
 (Y (bh fc 0 200000) λy3=>
 V (!y3)
 (D 0)
 (Y (bh bK 0 200000) λy4=>
 V (!y4)
 (D 0)
 (V (Zg (bK<=fc))
 (D 0)
 ((jn 4 6 (
 V (Zg ((K aU:Int)<=(IntKind.i64.wrap (Int.tdiv (aJ ((aJ (bK-fc))-1)) 1440))))
 (D (.inl (aJ ((K aU:Int)-1))))
 (D (.inl (IntKind.i64.wrap (Int.tdiv (aJ ((aJ (bK-fc))-1)) 1440)))):R (Int⊕Empty)) (λz5=>(Z qy::.un::.un::.sl (aU.map aW)::(U 5 (Z z5::(U 42 []))))) (λz5=>[])).bind (bj (λz5=>
 Y (az aU z5) λy6=>
 D (IntKind.i64.wrap (Int.tdiv (aJ (qy*y6)) 100))) (λr=>r.elim)))))))
instance (qy:Int)(fc:Int)(bK:Int)(aU:C Int):CT prog (lG qy fc bK aU):=⟨260,[Z qy,Z fc,Z bK,.sl (aU.map aW)],[],λr=>Z r,λr=>[],cw (lG.eq_1 ..) func260 ntmps260 results260⟩
end Go.Proofs.YtbjbellffaenaaaGreatDoor
namespace Go.Proofs.YtbjbellffaenaaaGreatDoor
open Go.RowKit Go.Lib Go.Sort
variable {O:F->Prop}{W w0:World}{v:Value}
section
variable {α:Type} [Inhabited α] {lt:α->α->Bool}
def MI(lt:α->α->Bool)(bs n q:F)(d:J α):Prop:=(∀p,p<q->SortedIn lt (p*(2*bs)) (p*(2*bs)+2*bs) d)/\∀p,2*q<=p->SortedIn lt (p*bs) (min (p*bs+bs) n) d
theorem ZmW(q bs:F):(2*q)*bs=q*(2*bs):=by grind
theorem MI.zero{bs n:F}{d:J α}(h:Zaq lt bs n d):MI lt bs n 0 d:=⟨λp hp=>G,λp _=>h p⟩
theorem MI.left{bs n q A:F}{d:J α}(h:MI lt bs n q d)(hA:A=q*(2*bs))(hn:A+bs<=n):SortedIn lt A (A+bs) d:=by
 have:=h.2 (2*q) (VW _)
 grind
theorem MI.right{bs n q A:F}{d:J α}(h:MI lt bs n q d)(hA:A=q*(2*bs)):SortedIn lt (A+bs) (min (A+2*bs) n) d:=by
 have:=h.2 (2*q+1) G
 grind
theorem MI.last{bs n q A:F}{d:J α}(h:MI lt bs n q d)(hA:A=q*(2*bs))(hn:n<=A+bs):SortedIn lt A n d:=by
 have:=h.2 (2*q) (VW _)
 grind
theorem MI.step{bs n q A:F}{d e:J α}(h:MI lt bs n q d)(hA:A=q*(2*bs))(hp:PermIn A (A+2*bs) d e)(hs:SortedIn lt A (A+2*bs) e):MI lt bs n (q+1) e:=by
 refine⟨λp hpq=>?_,λp hpq=>?_⟩
 ·rcases Wu p q with h1|h1
  ·have h2:(p+1)*(2*bs)<=q*(2*bs):=Wb _ h1
   rw[Xq]at h2
   exact AV (h.1 p h1) λk _ hk=>hp.2.1 k (.inl G)
  grind
 ·have h2:(2*(q+1))*bs<=p*bs:=Wb _ hpq
  rw[ZmW,Xq]at h2
  exact AV (h.2 p G) λk hk _=>hp.2.1 k (.inr G)
theorem MI.fin{bs n q A:F}{d e:J α}(h:MI lt bs n q d)(hA:A=q*(2*bs))(hn:n<A+2*bs)(hp:PermIn A n d e)(hs:SortedIn lt A n e):Zaq lt (2*bs) n e:=by
 intro p
 rcases WQ p q with h1|h1|h1
 ·have h2:(p+1)*(2*bs)<=q*(2*bs):=Wb _ h1
  rw[Xq]at h2
  exact AV (zD (h.1 p h1) (VW _) (Nat.min_le_left _ _)) λk _ hk=>hp.2.1 k (.inl G)
 ·grind
 ·have h2:(q+1)*(2*bs)<=p*(2*bs):=Wb _ h1
  rw[Xq]at h2
  exact S8 G
def BI(lt:α->α->Bool)(q:F)(d:J α):Prop:=∀p,p<q->SortedIn lt (p*20) (p*20+20) d
theorem BI.step{q:F}{d e:J α}(h:BI lt q d)(hp:PermIn (q*20) (q*20+20) d e)(hs:SortedIn lt (q*20) (q*20+20) e):BI lt (q+1) e:=λp hpq=>by
 by_cases h1:p=q
 ·grind
 ·exact AV (h p G) λk _ hk=>hp.2.1 k (.inl G)
theorem BI.fin{q n:F}{d e:J α}(h:BI lt q d)(hn:n<q*20+20)(hp:PermIn (q*20) n d e)(hs:SortedIn lt (q*20) n e):Zaq lt 20 n e:=λp=>by
 rcases WQ p q with h1|h1|h1
 ·exact AV (zD (h p h1) (VW _) (Nat.min_le_left _ _)) λk _ hk=>hp.2.1 k (.inl G)
 ·grind
 ·exact S8 G
variable {enc:α->C Value} {k:F} {g:F} {T:TypeId} {cs:F}
variable (hk:∀x,(enc x).length=k) (f:F) (lb:J Value) (sf:F) (sb:J Value) (n:F) (hn:n<1152921504606846976) (rG:SwapSwapsK prog sf sb enc k g 0 n)
include hk hn rG
theorem O5(hO:SWO lt)(eg:∀args w,(callFunc f args).run prog w=.ok (.enter f args) w){d:J α}(hd:d.size=n)(h0:SU enc k g T cs W d W)(hL:uZ f lb enc k lt g T cs n W):
 Calls prog 287 #[LS f lb sf sb,Zh Zi n] W λe w'=>e=.returned (.tuple #[])/\∃e,SU enc k g T cs W e w'/\PermIn 0 n d e/\SortedIn lt 0 n e:=by
 have hB:SU enc k g T cs W d (W.alloc (uL f lb sf sb)):=h0.more (Up.al _ (Up.rfl' W));have HL:Hid (∀d' W',SU enc k g T cs (W.alloc (uL f lb sf sb)) d' W'->uZ f lb enc k lt g T cs n W'):=λd' W' h'=>hL.on (hB.trans h')
 have HB:Hid (SU enc k g T cs W d (W.alloc (uL f lb sf sb))):=hB;have hI:=fun(d':J α) (W':World) (Cy:d'.size=n) (h':SU enc k g T cs W' d' W') (hL':uZ f lb enc k lt g T cs n W') (a b:F) (C2:a<=b) (hb:b<=n)=>Uv hk f lb sf sb n hn rG eg Cy h' hL' a b C2 hb
 have hM:=fun(d':J α) (W':World) (Cy:d'.size=n) (h':SU enc k g T cs W' d' W') (hL':uZ f lb enc k lt g T cs n W') (a m b:F)=>ZiU hk f lb sf sb n hn rG hO eg (b-a) d' W' Cy h' hL' a m b (VW _)
 have HI:Hid _:=hI;have HM:Hid _:=hM;have hg:=h0.lt;clear h0 hL hI hM
 go_enter func287,ntmps287
 go_wp2
 go_loopw [5,6] (λv5 v6 wr=>∃(q:F) (dk:J α),v5=Zh Zi ((q:Int)*20)/\v6=Zh Zi ((q:Int)*20+20)/\q*20<=n/\PermIn 0 n d dk/\BI lt q dk/\SU enc k g T cs (W.alloc (uL f lb sf sb)) dk wr) (λv5 v6 _=>n-(intOf v5).toNat)
 case atStart=>exact⟨0,d,by rfl,by rfl,G,permIn_refl _ _ _,λp hp=>G,hB.self⟩
 case round=>
  obtain⟨q,dk,rfl,rfl,hq,hP,hBI,hS⟩:=hrel;have c0:wr.cell? ⟨W.heap.size,0,L⟩=D (.func (.func f) #[] lb):=by rw[hS.Dr YE G];simp
  have c1:wr.cell? ⟨W.heap.size,1,L⟩=D (.func (.func sf) #[] sb):=by rw[hS.Dr YE G];simp
  have hds:dk.size=n:=hP.1.trans hd;have HS:Hid (SU enc k g T cs (W.alloc (uL f lb sf sb)) dk wr):=hS;have HP:Hid (PermIn 0 n d dk):=hP;have HBI:Hid (BI lt q dk):=hBI;clear hS hB hP hBI
  by_cases hle:q*20+20<=n
  ·have hc:=HI.out dk wr hds HS.out.self (HL.out dk wr HS.out) (q*20) (q*20+20) G hle
   rw[show((q*20:F):Int)=(q:Int)*20 by omega,show((q*20+20:F):Int)=(q:Int)*20+20 by omega]at hc
   go_wp2_with (go_at_call 337;refine hc.mono ?_;rintro e w' ⟨rfl,hE⟩)
   have x:=insertionSort_holds hO dk (q*20) (q*20+20) G G;exact⟨⟨q+1,_,by grind,by grind,G,permIn_trans _ _ _ _ _ HP.out (permIn_mono _ _ _ _ _ _ G G G x.1),HBI.out.step x.1 x.2,HS.out.trans hE⟩,by simp[intOf];omega⟩
  ·have Zke:¬(q:Int)*20+20<=(n:Int):=G
   have hc:=HI.out dk wr hds HS.out.self (HL.out dk wr HS.out) (q*20) n hq (VW _);rw[show((q*20:F):Int)=(q:Int)*20 by omega]at hc
   go_wp2_with (go_at_call 337;refine hc.mono ?_;rintro e w' ⟨rfl,hE⟩)
   have x:=insertionSort_holds hO dk (q*20) n G G;have hR0:=HBI.out.fin G x.1 x.2;have hP0:=permIn_trans _ _ _ _ _ HP.out (permIn_mono _ _ _ _ _ _ G (VW _) G x.1);have hS0:=HS.out.trans hE;clear x c0 c1
   go_loopw [4,5,6,7] (λv4 v5 v6 v7 wr=>∃(bs:F) (dk:J α),v4=Zh Zi (bs:Int)/\1<=bs/\bs<=2*n+20/\PermIn 0 n d dk/\Zaq lt bs n dk/\SU enc k g T cs (W.alloc (uL f lb sf sb)) dk wr) (λv4 _ _ _ _=>n-(intOf v4).toNat)
   case atStart=>grind
   case round=>
    obtain⟨bs,dk2,rfl,qV,yb,hP2,hR2,LJ⟩:=hrel;have HP2:Hid (PermIn 0 n d dk2):=hP2;have HR2:Hid (Zaq lt bs n dk2):=hR2;have Pu:Hid (SU enc k g T cs (W.alloc (uL f lb sf sb)) dk2 wr):=LJ;clear hP2 hR2 LJ hP0 hR0 hS0 hE Zke hle hc HS HP HBI hq
    by_cases bD:bs<n
    ·go_wp2
     go_loopw [5,6] (λv5 v6 wr=>∃(A:F) (dk:J α),v5=Zh Zi (A:Int)/\v6=Zh Zi ((A:Int)+2*(bs:Int))/\A<=n/\PermIn 0 n d dk/\(∃q,A=q*(2*bs)/\MI lt bs n q dk)/\SU enc k g T cs (W.alloc (uL f lb sf sb)) dk wr) (λv5 v6 _=>n-(intOf v5).toNat)
     case atStart=>exact⟨0,dk2,by rfl,by go_num,G,HP2.out,⟨0,G,MI.zero HR2.out⟩,Pu.out⟩
     case round=>
      obtain⟨A,dk3,rfl,rfl,hA,hP3,hM3,hS3⟩:=hrel;have c0:wr.cell? ⟨W.heap.size,0,L⟩=D (.func (.func f) #[] lb):=by rw[hS3.Dr YE G];simp
      have c1:wr.cell? ⟨W.heap.size,1,L⟩=D (.func (.func sf) #[] sb):=by rw[hS3.Dr YE G];simp
      have Zj6:dk3.size=n:=hP3.1.trans hd;have HP3:Hid (PermIn 0 n d dk3):=hP3;have HM3:Hid (∃q,A=q*(2*bs)/\MI lt bs n q dk3):=hM3;have HS3:Hid (SU enc k g T cs (W.alloc (uL f lb sf sb)) dk3 wr):=hS3;clear hP3 hM3 hS3
      by_cases hle:A+2*bs<=n
      ·have hc:=HM.out dk3 wr Zj6 HS3.out.self (HL.out dk3 wr HS3.out) A (A+bs) (A+2*bs) G G hle (by obtain⟨q,h1,h2⟩:=HM3.out;exact h2.left h1 G) (by obtain⟨q,h1,h2⟩:=HM3.out;have:=h2.right h1;simp_all)
       rw[show((A+bs:F):Int)=(A:Int)+(bs:Int)by omega,show((A+2*bs:F):Int)=(A:Int)+2*(bs:Int)by omega]at hc
       go_wp2_with (go_at_call 338;refine hc.mono ?_;rintro e w' ⟨rfl,hE⟩)
       obtain⟨e,LI,H4,Pv⟩:=hE;exact⟨⟨A+2*bs,e,by rfl,by rfl,hle,permIn_trans _ _ _ _ _ HP3.out (permIn_mono _ _ _ _ _ _ G hle G H4),(by obtain⟨q,h1,h2⟩:=HM3.out;exact⟨q+1,by grind,h2.step h1 H4 Pv⟩),HS3.out.trans LI⟩,by simp[intOf];omega⟩
      ·have Zke:¬(A:Int)+2*(bs:Int)<=(n:Int):=G
       by_cases hm:A+bs<n
       ·have hmz:(A:Int)+(bs:Int)<(n:Int):=G
        have hc:=HM.out dk3 wr Zj6 HS3.out.self (HL.out dk3 wr HS3.out) A (A+bs) n G G (VW _) (by obtain⟨q,h1,h2⟩:=HM3.out;exact h2.left h1 G) (by obtain⟨q,h1,h2⟩:=HM3.out;have:=h2.right h1;grind)
        rw[show((A+bs:F):Int)=(A:Int)+(bs:Int)by omega]at hc
        go_wp2_with (go_at_call 338;refine hc.mono ?_;rintro e w' ⟨rfl,hE⟩)
        obtain⟨e,LI,H4,Pv⟩:=hE;exact⟨⟨2*bs,e,by grind,G,G,permIn_trans _ _ _ _ _ HP3.out (permIn_mono _ _ _ _ _ _ G (VW _) G H4),(by obtain⟨q,h1,h2⟩:=HM3.out;exact h2.fin h1 G H4 Pv),HS3.out.trans LI⟩,by simp[intOf];omega⟩
       ·have hmz:¬(A:Int)+(bs:Int)<(n:Int):=G
        go_wp2
        exact⟨⟨2*bs,dk3,by grind,G,G,HP3.out,(by obtain⟨q,h1,h2⟩:=HM3.out;exact h2.fin h1 G (permIn_refl _ _ _) (h2.last h1 G)),HS3.out⟩,by simp[intOf];omega⟩
    ·have Cz:¬(bs:Int)<(n:Int):=G
     go_wp2
     go_end0
     refine⟨rfl,dk2,HB.out.trans Pu.out,HP2.out,?_⟩;have:=HR2.out 0
     simp_all
end
instance :eZ aq where
 cells x:=[I x.aR,I x.aN.bq,I x.aN.day,I x.ah]
 k:=4
 len _:=rfl
 pos:=by decide
 one:=by simp[Value.oneCell',I]
instance :eZ au where
 cells x:=[I x.bq,I x.day]
 k:=2
 len _:=rfl
 pos:=by decide
 one:=by simp[Value.oneCell',I]
instance :we aG (id:aq->aq):=⟨λx=>rfl,λx j p h=>by
 match j with
 |0=>obtain rfl:_=p:=X h
     exact⟨_,rfl,rfl⟩
 |1=>obtain rfl:_=p:=X h
     exact⟨_,rfl,rfl⟩
 |2=>obtain rfl:_=p:=X h
     exact⟨_,rfl,rfl⟩
 |3=>obtain rfl:_=p:=X h
     exact⟨_,rfl,rfl⟩
 |j+4=>simp[aG]at h⟩
instance :we bg (id:au->au):=⟨λx=>rfl,λx j p h=>by
 match j with
 |0=>obtain rfl:_=p:=X h
     exact⟨_,rfl,rfl⟩
 |1=>obtain rfl:_=p:=X h
     exact⟨_,rfl,rfl⟩
 |j+2=>simp[bg]at h⟩
instance :Inhabited aq:=⟨⟨0,⟨0,0⟩,0⟩⟩
theorem EN(a b:aq):rE a b=Ze↔a.aN.day<b.aN.day\/(a.aN.day=b.aN.day/\(a.aN.bq<b.aN.bq\/(a.aN.bq=b.aN.bq/\a.aR<b.aR))):=by
 unfold rE
 grind
theorem EO(a b:aq):rE a b=Zf↔¬(a.aN.day<b.aN.day\/(a.aN.day=b.aN.day/\(a.aN.bq<b.aN.bq\/(a.aN.bq=b.aN.bq/\a.aR<b.aR)))):=by
 rw[<-EN];simp
theorem Fe:SWO rE:=⟨λx=>(EO _ _).2 G,λx y z h1 h2=>(EN _ _).2 (by have:=(EN _ _).1 h1;have:=(EN _ _).1 h2;omega),λx y z h1 h2=>(EO _ _).2 (by have:=(EO _ _).1 h1;have:=(EO _ _).1 h2;omega)⟩
theorem QL{b:F}:¬oW (λ_=>L) b:=by rintro⟨l,B,h,_⟩;cases h
theorem eh.Zac{P:Program}{f:FuncId}{args:C PV}{val:Value}(h:eh P f args [] (.v val) []){w:World}(ht:DM w (oW λ_=>L)){vs:J Value}(hl:vs.size=K args)(ha:∀(i:F) (p:PV),args[i]?=D p->∃x,vs[i]?=D x/\eC w (E1 (λb=>b<w.heap.size) (λ_=>L) 0) p x):
 Calls P f vs w λe w'=>e=.returned val/\Up w w':=by
 have hok:Ok w (oW λ_=>L) (E1 (λb=>b<w.heap.size) (λ_=>L) 0) w []:=
  ⟨Fs.refl _ _,λb h=>h,λl B h=>YM,λl l' B B' h=>YM,λl h=>absurd h (Nat.not_lt_zero l),λl B h=>YM,λl mb h=>YD,λl B h=>YM,ht,λ_ _ h=>h.elim⟩
 refine(h (λb=>b<w.heap.size) (λ_=>L) w vs (λ_ _=>False) hok hl ha).mono ?_
 rintro e w' ⟨v,E',rfl,hk,_,_,_,hr⟩;obtain⟨rfl,_⟩:=hr.jw;exact⟨rfl,hk.up.os,hk.up.tape,hk.up.output,hk.up.size,λb hb=>hk.up.block b hb QL⟩
theorem AW{w w':World}{O O':F->Prop}(h:DM w O)(hu:Fs O' w w')(hO:∀b,b<w.heap.size->O' b->O b):DM w' (oW λ_=>L):=by
 obtain⟨T,h1,h2⟩:=h;exact⟨T,λb hb=>⟨Wn (h1 b hb).1 hu.size,QL⟩,λw'' Zh9=>h2 w'' λb hb=>(Zh9 b hb).trans (hu.block b (h1 b hb).1 λh=>(h1 b hb).2 (hO b (h1 b hb).1 h))⟩
theorem Fb{α β:Type}[eZ β]{c:α->C PV}(g:α->β)[hf:we c g]{w:World}{A:R Addr}{n:F}{xs:C α}(h:Rd w w.heap.size A (xs.map g))(hn:K xs<=n)(hm:n<=maxLen):eO w (λb=>b<w.heap.size) (.sl (xs.map c)) (.slice A (K xs) n):=by
 by_cases h0:xs=[]
 ·subst h0;exact .nil _ _
 obtain⟨b,off,rfl,hb,hc⟩:=h YG;have hlen:K (xs.map c)=K xs:=by simp
 have key:∀(i:F) (cs:C PV) (j:F) (p:PV),(xs.map c)[i]?=D cs->cs[j]?=D p->∃u,w.cell? ⟨b,off+i*eZ.k β+j,L⟩=D u/\u.oneCell'=Ze/\p=.v u:=by
  intro i cs j p hi hj;rw[Wp]at hi
  obtain⟨x,hx,rfl⟩:=Wc.1 hi;obtain⟨u,hu,hp⟩:=hf.aQ x j p hj;have LO:=xu (xs:=xs.map g) (i:=i) (x:=g x) YD hu;exact⟨u,by grind,eZ.one _ u (List.mem_of_getElem? hu),hp⟩
 rw[<-hlen];exact .sl _ b off (eZ.k β) n (λi j=>(w.cell? ⟨b,off+i*eZ.k β+j,L⟩).getD .nilIface) hb eZ.pos G hm
  (λi cs hi=>by
   rw[Wp]at hi
   obtain⟨x,_,rfl⟩:=Wc.1 hi;exact hf.len x)
  (λi cs j p hi hj=>by grind)
  (λi cs j p hi hj=>by grind)
  (λi cs j p hi hj=>by obtain⟨u,x1,x2,rfl⟩:=key i cs j p hi hj;rw[x1];exact .v u x2)
section
variable {β:Type} [eZ β] [Inhabited β]
theorem F5(d:J β):(flatK eZ.cells (eZ.k β) d).toList=flat d.toList:=by
 apply XZ;intro t;have hk:0<eZ.k β:=eZ.pos
 rcases Wu t (d.size*eZ.k β)with h|h
 ·have h1:t<(flatK eZ.cells (eZ.k β) d).size:=by simp_all
  have hi:t / eZ.k β<d.size:=by rw[Nat.div_lt_iff_lt_mul hk];exact h
  have hj:=Nat.mod_lt t hk;have e0:t / eZ.k β*eZ.k β+t % eZ.k β=t:=by rw[Nat.mul_comm];exact Nat.div_add_mod t _
  have hc:(eZ.cells d[t / eZ.k β]!)[t % eZ.k β]?=D ((eZ.cells d[t / eZ.k β]!)[t % eZ.k β]'(by rw[eZ.len];omega)):=List.getElem?_eq_getElem _
  have hf:=xu (xs:=d.toList) (i:=t / eZ.k β) (x:=d[t / eZ.k β]!) YD hc;rw[WU,V4 h1,<-getElem!_pos,get_flatK _ _ _ _ h]
  grind
 ·rw[Xl YG,Xl (by rw[nd];exact h)]
theorem Zcy{w:World}{B E:F}{xs:C β}(h:Own w B E v xs)(h2:0<K xs):
 ∃g c,v=.slice (D ⟨g,0,L⟩) (K xs) c/\B<=g/\(K xs)<=c/\c<=maxLen/\SU (eZ.cells (α:=β)) (eZ.k β) g E (c*eZ.k β) w xs.toArray w:=by
 rcases h.2 with⟨_,h0⟩ |⟨g,cap,cur,hv,hB,hg,xW,EX,tv,ht⟩
 ·omega
 refine⟨g,cap,hv,hB,xW,EX,Fs.refl _ _,?_,cur,hg,tv⟩;intro t htl;have LO:(flatK (eZ.cells (α:=β)) (eZ.k β) xs.toArray).toList=flat xs:=by rw[F5]
 refine⟨?_,by simp[World.frozen?,hg]⟩
 rw[Wa,cell_of_row w g t cur E (0,0) hg];have h3:(flat xs)[t]?=D (id (flatK (eZ.cells (α:=β)) (eZ.k β) xs.toArray)[t]!):=by
  grind
 grind
theorem Ls{B E g c:F}{d:J β}(h:SU (eZ.cells (α:=β)) (eZ.k β) g E (c*eZ.k β) w0 d W)(hB:B<=g)(hn:d.size<=c)(hm:c<=maxLen):Own W B E (.slice (D ⟨g,0,L⟩) d.size c) d.toList:=by
 obtain⟨cur,hg,tv⟩:=h.row;refine⟨by rw[nd],.inr ⟨g,c,cur,by rfl,hB,hg,G,hm,tv,?_⟩⟩
 rw[<-F5];apply XZ;intro t;rw[List.getElem?_take]
 split
 ·have h1:t<(flatK (eZ.cells (α:=β)) (eZ.k β) d).size:=by simp_all
  have hh:=(h.hold t h1).1;rw[Wa,cell_of_row W g t cur E (0,0) hg]at hh
  grind
 simp_all
end
theorem tZ{w:World}{E:Env}(x:Value)(h:x.oneCell'=Ze):eC w E (.v x) x:=.c (.v x h)
theorem Zfa{g c n M:F}(hx:w0.cell? ⟨M,0,L⟩=D (.slice (D ⟨g,0,L⟩) n c))(hBx:M<w0.heap.size)(gL:M≠g)(xW:n<=c)(hm:c<=maxLen)(ht:DM w0 O)(hO:O g):
 uZ 232 #[.pointer (D ⟨M,0,L⟩)] (eZ.cells (α:=aq)) 4 rE g 50 (c*4) n w0:=by
 intro d W hS hd i j hi hj;have hn:K d.toList=n:=G;have gi:az d.toList (i:Int)=D d[i]!:=by rw[aS,getElem!_pos d i G];simp
 have gj:az d.toList (j:Int)=D d[j]!:=by rw[aS,getElem!_pos d j G];simp
 obtain⟨v,hv,hvb⟩:=IA d[i]! d[j]!;have H:qX (i:Int) (j:Int) d.toList=D (rE d[i]! d[j]!):=by
  unfold qX
  grind
 have hC:=CT.ok (P:=prog) H;simp only[CT.args]at hC
 have va:W.cell? ⟨M,0,L⟩=D (.slice (D ⟨g,0,L⟩) n c):=(hS.Dr hBx gL).trans hx;have IN:Rd W W.heap.size (D ⟨g,0,L⟩) (d.toList.map id):=by
  have:=(Ls (B:=g) hS (VW _) G hm).rd
  simp_all
 have hrs:=Fb (c:=aG) (id:aq->aq) IN (n:=c) G hm;rw[hn]at hrs
 refine(eh.Zac hC (w:=W) (AW ht hS.up λb _ h=>h▸hO) rfl λidx p hp=>?_).mono ?_
 ·match idx with
  |0=>obtain rfl:_=p:=X hp
      exact⟨_,rfl,tZ _ rfl⟩
  |1=>obtain rfl:_=p:=X hp
      exact⟨_,rfl,tZ _ rfl⟩
  |2=>obtain rfl:_=p:=X hp
      refine⟨_,rfl,.c (.rp _ M 0 (λ_=>.slice (D ⟨g,0,L⟩) n c) (Wn hBx hS.up.size) (λj p hp=>?_) (λj p hp=>rfl) λj p hp=>?_)⟩
      ·grind
      ·match j with
       |0=>obtain rfl:_=p:=X hp
           exact hrs
       |j+1=>grind
  |idx+3=>grind
 simp
noncomputable def bkT:TypeInfo:=(prog.info? 29).get S
noncomputable def bkE:TypeInfo:=(prog.info? 50).get S
theorem bkK(n:F)(h2:2<=n):Lib.swapperK n bkE 25=9:=by
 have a:bkE.hasPointers=false:=by rfl
 have b:bkE.bytes=32:=by rfl
 have c:(n==0)=false:=by grind
 have d:(n==1)=false:=by grind
 simp[Lib.swapperK,a,b,c,d]
theorem Sg(w:World)(os:J Obj):Up w (grow w os):=⟨rfl,rfl,rfl,by simp,λb hb=>heap_grow_old w os hb⟩
theorem Zgl{B M:F}{xs:C aq}{w:World}(ho:Own w B 50 v xs)(hx:w.heap[M]?=D (.cells #[v] 29 (0,0)))(hn:K xs<=1048576)(ht:DM w O)(hO:∀b,B<=b->O b):
 Calls prog 231 #[.iface 29 v,.func (.func 232) #[] #[.pointer (D ⟨M,0,L⟩)]] w λe w'=>e=.returned (.tuple #[])/\∃ys,ys.Perm xs/\ys.Pairwise (λa b=>rE b a=Zf)/\Own w' B 50 v ys/\Fs (λb=>B<=b/\b≠M) w w':=by
 by_cases h2:2<=K xs
 case neg=>
  obtain⟨A,c,rfl,_,_⟩:=ho.form;have hR:=Tryz.zw;have key : ∀ f, prog.funcs.findIdx? (·.name == "internal/reflectlite" ++ ".Swapper$" ++ toString (Lib.swapperK (K xs) bkE 25)) = D f -> Calls prog 231 #[.iface 29 (.slice A (K xs) c), .func (.func 232) #[] #[.pointer (D ⟨M, 0, L⟩)]] w λe w' => e = .returned (.tuple #[]) /\ ∃ os, w' = grow w os := λf hf =>
   Any.sort_SliceStable_tiny Tryz.zw 29 50 bkT bkE S S S S 25 (λ_=>by kernel_rfl) A (K xs) c G f hf _ _ _ w
  have Zig : ∃ f, prog.funcs.findIdx? (·.name == "internal/reflectlite" ++ ".Swapper$" ++ toString (Lib.swapperK (K xs) bkE 25)) = D f := by
   rcases Wu 0 (K xs) with h|h
   ·rw[show (K xs)=1 by omega]
    exact⟨329,by kernel_rfl⟩
   ·rw[show (K xs)=0 by omega]
    exact⟨328,by kernel_rfl⟩
  obtain⟨f,hf⟩:=Zig;refine(key f hf).mono ?_;rintro e w' ⟨rfl,os,rfl⟩;have hu:=Sg w os;refine⟨rfl,xs,List.Perm.refl _,?_,ho.up hu,⟨hu.os,hu.tape,hu.output,hu.size,λb hb _=>hu.block b hb⟩⟩
  match xs,h2 with
  | [],_=>simp
  | [x],_=>simp
  |x::y::l,h2=>grind
 case pos=>
  obtain⟨g,c,rfl,hB,xW,EX,hS⟩:=Zcy ho G;have Zkq:=hS.row;have gL:M≠g:=by
   grind
  have hBx:M<w.heap.size:=(V6.1 hx).1;have va:w.cell? ⟨M,0,L⟩=D (.slice (D ⟨g,0,L⟩) (K xs) c):=by rw[cell_of_row w M 0 _ _ (0,0) hx];rfl
  have hlen:K xs<1152921504606846976:=G;have ph:sliceBound prog 50 bkE 25 (D ⟨g,0,L⟩) (K xs) c=#[.slice (D ⟨g,0,L⟩) (K xs) c,typeHandle prog 50]:=by
   unfold sliceBound;rw[if_neg (swapperK_gt _ _ _ h2)]
  have hsw:SwapSwapsK prog 336 #[.slice (D ⟨g,0,L⟩) (K xs) c,typeHandle prog 50] (eZ.cells (α:=aq)) 4 g 0 (K xs):=
   swapSwapsK_of_literal Zf 336 (λargs W=>run_callFunc_extern func336 S S S (e:=Extern.ReflectliteSwapper.swap Zf) S args W) 50 bkE S (eZ.cells (α:=aq)) 4 (λ_=>rfl) S (λ_=>by kernel_rfl) eZ.one g 0 (K xs) c
  have vf:=Zfa (n:=K xs) va hBx gL xW EX ht (hO g hB);refine Any.sort_SliceStable_of_stable Tryz.zw 29 50 bkT bkE S S S S 25 (λ_=>by kernel_rfl) (D ⟨g,0,L⟩) (K xs) c G 336 (by rw[bkK _ h2];kernel_rfl) (.func 232) #[] #[.pointer (D ⟨M,0,L⟩)] w (λw'=>∃ys,ys.Perm xs/\ys.Pairwise (λa b=>rE b a=Zf)/\Own w' B 50 (.slice (D ⟨g,0,L⟩) (K xs) c) ys/\Fs (λb=>B<=b/\b≠M) w w') ?_
  rw[ph];have hu:Up w (stableWorld prog Tryz.tW 29 (D ⟨g,0,L⟩) (K xs) c w):=by unfold stableWorld;exact Up.al _ (Up.al _ (Up.rfl' w))
  generalize stableWorld prog Tryz.tW 29 (D ⟨g,0,L⟩) (K xs) c w=w1 at hu⊢
  have Sh:=hS.more hu;have tV:=O5 (enc:=eZ.cells (α:=aq)) (k:=4) (λ_=>rfl) 232 #[.pointer (D ⟨M,0,L⟩)] 336 #[.slice (D ⟨g,0,L⟩) (K xs) c,typeHandle prog 50] (K xs) hlen hsw Fe (enters_of func232 S rfl) (d:=xs.toArray) YE Sh.self (vf.on Sh)
  refine tV.mono ?_;rintro e w' ⟨rfl,e,LI,H4,Pv⟩;have hE:=Sh.trans LI;have xh:e.size=K xs:=by rw[H4.1];simp
  have pj:=Ls (B:=B) (c:=c) hE hB G EX;rw[xh]at pj
  refine⟨rfl,e.toList,?_,?_,pj,⟨hE.up.os,hE.up.tape,hE.up.output,hE.up.size,λb hb hn=>hE.up.block b hb λh=>hn ⟨h▸hB,λh'=>gL (h'▸h.symm▸rfl)⟩⟩⟩
  ·have hp:=H4.2.2
   rw[<-xh]at hp
   rw[Array.extract_size]at hp
   simp_all
  ·rw[Wr]
   intro i j hi hj AY;have:=Pv i j G AY YG
   grind
end Go.Proofs.YtbjbellffaenaaaGreatDoor
namespace Go.Proofs.YtbjbellffaenaaaGreatDoor
open Go.RowKit
def kt(w:aw)(s0:Int×(C Int)):R ((Int×(C Int))⊕(C Int)):=
 V (Zg (s0.1<(K w.ae:Int)))
 (Y (mn w s0.1) λy2=>
 V y2
 (Y (cf (bn (K (s0.2:C Int)+K ([(aJ (s0.1+1))]:C Int)) 8)) λ_=>
 D (.inl ((aJ (s0.1+1)),((s0.2:C Int)++[(aJ (s0.1+1))]))))
 (D (.inl ((aJ (s0.1+1)),s0.2))))
 (D (.inr s0.2))
instance (w:aw):bm (kt w):=⟨λs0=>(.un::.be 0 0 0::.un::.ms 1::Z s0.1::(U 21 [])),λs0=>[D ⟨.of 33,10,[cL w]⟩,D ⟨.of 3,1,s0.2.map aW⟩]⟩
def gA(w:aw):R (C Int):=
 Y (gH w) λy1=>
 V (!y1)
 (D ([]:C Int))
 ((aB (kt w) NN (0,([]:C Int))).bind (λo0=>
 D o0))
instance (w:aw):CT prog (gA w):=⟨218,[.ag (cL w)],[],λr=>.ms 0,λr=>[D ⟨.of 3,1,r.map aW⟩],cw (gA.eq_1 ..) func218 ntmps218 results218⟩
def kR(o:aD)(y1:aw)(y2:(C Int))(y3:(C bf))(s0:Int×(C aP)):R ((Int×(C aP))⊕(C aP)):=
 V (Zg (s0.1<(K o.aK:Int)))
 (Y (az o.aK s0.1) λy4=>
 Y (iT y4) λy5=>
 Y (cf (bn (K (s0.2:C aP)+K ([y5]:C aP)) 88)) λ_=>
 D (.inl ((aJ (s0.1+1)),((s0.2:C aP)++[y5]))))
 (D (.inr s0.2))
instance (o:aD)(y1:aw)(y2:(C Int))(y3:(C bf)):bm (kR o y1 y2 y3):=⟨λs0=>(.un::.be 0 0 0::.be 1 0 0::.be 2 0 0::Z s0.1::(U 61 [])),λs0=>[D ⟨.of 40,16,[eD o]⟩,D ⟨.of 40,16,[uy]⟩,D ⟨.of 40,16,[[.ms 3,.ms 4,Z y1.aa.change,.ms 5,.ms 6,.ms 7,Z y1.now,.ms 8,.ms 9,Z y1.br,.ms 10,.ms 11,.ms 12,.ms 13,.ms 14,.v (.slice L 0 0)]]⟩,D ⟨.of 101,6,y1.aa.aC.map cY⟩,D ⟨.of 3,1,y1.aa.off.map aW⟩,D ⟨.of 63,11,y1.ae.map bx⟩,D ⟨.of 50,4,y1.av.map aG⟩,D ⟨.of 48,2,y1.ak.map bg⟩,D ⟨.of 89,6,y1.aL.map bA⟩,D ⟨.of 3,1,y1.skip.map aW⟩,D ⟨.of 124,2,((([]:C cB):C cB)++o.bb).map dV⟩,D ⟨.of 127,4,((([]:C bH):C bH)++o.bd).map dK⟩,D ⟨.of 3,1,y2.map aW⟩,D ⟨.of 58,7,s0.2.map cd⟩,D ⟨.of 82,4,y3.map bV⟩]⟩
def kS(o:aD)(y1:aw)(y2:(C Int))(y3:(C bf))(o0:(C aP))(s1:Int×(C bk)):R ((Int×(C bk))⊕(C bk)):=
 V (Zg (s1.1<(K o.aF:Int)))
 (Y (az o.aF s1.1) λy6=>
 Y (iT y6.aM) λy7=>
 Y (cf (bn (K (s1.2:C bk)+K ([(⟨y6.kind,y7,y6.order,y6.bE,y6.bG,y6.aN⟩:bk)]:C bk)) 136)) λ_=>
 D (.inl ((aJ (s1.1+1)),((s1.2:C bk)++[(⟨y6.kind,y7,y6.order,y6.bE,y6.bG,y6.aN⟩:bk)]))))
 (D (.inr s1.2))
instance (o:aD)(y1:aw)(y2:(C Int))(y3:(C bf))(o0:(C aP)):bm (kS o y1 y2 y3 o0):=⟨λs1=>(.un::.be 0 0 0::.be 1 0 0::.be 2 0 0::.un::Z s1.1::(U 60 [])),λs1=>[D ⟨.of 40,16,[eD o]⟩,D ⟨.of 40,16,[uy]⟩,D ⟨.of 40,16,[[.ms 3,.ms 4,Z y1.aa.change,.ms 5,.ms 6,.ms 7,Z y1.now,.ms 8,.ms 9,Z y1.br,.ms 10,.ms 11,.ms 12,.ms 13,.ms 14,.ms 15]]⟩,D ⟨.of 101,6,y1.aa.aC.map cY⟩,D ⟨.of 3,1,y1.aa.off.map aW⟩,D ⟨.of 63,11,y1.ae.map bx⟩,D ⟨.of 50,4,y1.av.map aG⟩,D ⟨.of 48,2,y1.ak.map bg⟩,D ⟨.of 89,6,y1.aL.map bA⟩,D ⟨.of 3,1,y1.skip.map aW⟩,D ⟨.of 124,2,((([]:C cB):C cB)++o.bb).map dV⟩,D ⟨.of 127,4,((([]:C bH):C bH)++o.bd).map dK⟩,D ⟨.of 3,1,y2.map aW⟩,D ⟨.of 58,7,o0.map cd⟩,D ⟨.of 82,4,y3.map bV⟩,D ⟨.of 60,13,s1.2.map fQ⟩]⟩
def gS(o:aD):R aD:=
 Y (rF 8 []) λ_=>
 Y (fq o.world) λy1=>
 Y (cf (bn (K (([]:C cB):C cB)+K (o.bb:C cB)) 32)) λ_=>
 Y (cf (bn (K (([]:C bH):C bH)+K (o.bd:C bH)) 32)) λ_=>
 Y (eK o.aU) λy2=>
 Y (cx o.lines) λy3=>
 (aB (kR o y1 y2 y3) NN (0,[])).bind (λo0=>
 (aB (kS o y1 y2 y3 o0) NN (0,[])).bind (λo1=>
 D (⟨y1,((([]:C cB):C cB)++o.bb),((([]:C bH):C bH)++o.bd),y2,o0,y3,o1⟩:aD)))
instance (o:aD):CT prog (gS o):=⟨21,[.ag (eD o)],[],λr=>.ag [.sl (r.world.aa.aC.map cY),.sl (r.world.aa.off.map aW),Z r.world.aa.change,.sl (r.world.ae.map bx),.sl (r.world.av.map aG),.sl (r.world.ak.map bg),Z r.world.now,.sl (r.world.aL.map bA),.sl (r.world.skip.map aW),Z r.world.br,.ms 0,.ms 1,.ms 2,.ms 3,.ms 4,.ms 5],λr=>[D ⟨.of 124,2,r.bb.map dV⟩,D ⟨.of 127,4,r.bd.map dK⟩,D ⟨.of 3,1,r.aU.map aW⟩,D ⟨.of 58,7,r.aK.map cd⟩,D ⟨.of 82,4,r.lines.map bV⟩,D ⟨.of 60,13,r.aF.map fQ⟩],cw (gS.eq_1 ..) func21 ntmps21 results21⟩
end Go.Proofs.YtbjbellffaenaaaGreatDoor
namespace Go.Proofs.YtbjbellffaenaaaGreatDoor
open Go.RowKit Go.Lib Go.Sort
variable {O:F->Prop}
instance :eZ aI where
 cells x:=[I x.aR,I x.aQ,I x.kind,.string x.place,I x.aN.bq,I x.aN.day]
 k:=6
 len _:=rfl
 pos:=by decide
 one:=by simp[Value.oneCell',I]
instance :we bA (id:aI->aI):=⟨λx=>rfl,λx j p h=>by
 match j with
 |0=>obtain rfl:_=p:=X h
     exact⟨_,rfl,rfl⟩
 |1=>obtain rfl:_=p:=X h
     exact⟨_,rfl,rfl⟩
 |2=>obtain rfl:_=p:=X h
     exact⟨_,rfl,rfl⟩
 |3=>obtain rfl:_=p:=X h
     exact⟨_,rfl,rfl⟩
 |4=>obtain rfl:_=p:=X h
     exact⟨_,rfl,rfl⟩
 |5=>obtain rfl:_=p:=X h
     exact⟨_,rfl,rfl⟩
 |j+6=>simp[bA]at h⟩
instance :Inhabited aI:=⟨⟨0,0,0,⟨#[]⟩,⟨0,0⟩⟩⟩
abbrev qS(a b:ByteArray):Int:=Lib.compareBytes a.data.toList b.data.toList
def rh(a b:aI):Prop:=a.aQ<b.aQ\/(a.aQ=b.aQ/\(a.aR<b.aR\/(a.aR=b.aR/\(a.kind<b.kind\/(a.kind=b.kind/\(a.aN.day<b.aN.day\/(a.aN.day=b.aN.day/\(a.aN.bq<b.aN.bq\/(a.aN.bq=b.aN.bq/\qS a.place b.place<0)))))))))
instance (a b:aI):Decidable (rh a b):=by unfold rh;infer_instance
def LY(a b:aI):Bool:=Zg (rh a b)
theorem AR(a b:aI):LY a b=Ze↔rh a b:=by unfold LY;exact Yy
theorem AS(a b:aI):LY a b=Zf↔¬rh a b:=by unfold LY;exact Yz
theorem Hy:SWO LY:=by
 refine⟨λx=>(AS _ _).2 ?_,λx y z h1 h2=>(AR _ _).2 ?_,λx y z h1 h2=>(AS _ _).2 ?_⟩
 ·have:=R0 x.place.data.toList
  unfold rh qS;omega
 ·have h1:=(AR _ _).1 h1
  have h2:=(AR _ _).1 h2;have h3:qS x.place y.place<0->qS y.place z.place<0->qS x.place z.place<0:=FO;unfold rh at *
  generalize qS x.place y.place=s1 at *
  generalize qS y.place z.place=s2 at *
  generalize qS x.place z.place=s3 at *
  omega
 ·have h1:=(AS _ _).1 h1
  have h2:=(AS _ _).1 h2;have e1:qS x.place y.place=- qS y.place x.place:=Bo _ _;have e2:qS y.place z.place=- qS z.place y.place:=Bo _ _;have e3:qS x.place z.place<0->¬qS x.place y.place<0->¬qS y.place z.place<0->False:=λh a1 a2=>by
   rcases Int.lt_or_eq_of_le (show 0<=qS x.place y.place by omega)with g|g
   ·rcases Int.lt_or_eq_of_le (show 0<=qS y.place z.place by omega)with g2|g2
    ·have:qS z.place x.place<0:=FO (show qS z.place y.place<0 by omega) (show qS y.place x.place<0 by omega)
     have e4:qS x.place z.place=- qS z.place x.place:=Bo _ _;omega
    ·have:y.place.data.toList=z.place.data.toList:=EP g2.symm
     unfold qS at g h
     rw[<-this]at h
     omega
   ·have:x.place.data.toList=y.place.data.toList:=EP g.symm
    unfold qS at h a2
    rw[this]at h
    exact a2 h
  have e5:¬(qS x.place z.place<0/\0<=qS x.place y.place/\0<=qS y.place z.place):=λ⟨a,b,c⟩=>e3 a G G
  clear e1 e2 e3;unfold rh at *
  generalize qS x.place y.place=s1 at *
  generalize qS y.place z.place=s2 at *
  generalize qS x.place z.place=s3 at *
  omega
theorem ZhG(a b c d e f:Int):ld [a,b,c,d,e,f]=D (if a≠0 then a else if b≠0 then b else if c≠0 then c else if d≠0 then d else if e≠0 then e else f):=by
 have w:∀i:F,i<100->aJ ((i:Int)+1)=((i+1:F):Int):=λi h=>by rw[aV G];omega
 have step:∀(l:C Int) (i:F) (x:Int) (N:F),i<100->l[i]?=D x->aB (cJ l) (N+1) (i:Int)=if x≠0 then D (.inr x)else aB (cJ l) N ((i+1:F):Int):=λl i x N hi hx=>by
  have bD:=(List.getElem?_eq_some_iff.1 hx).1;have hg:az l (i:Int)=D x:=by rw[aS];exact hx
  have hb:cJ l (i:Int)=D (if x≠0 then .inr (.inr x)else .inl ((i+1:F):Int)):=by
   unfold cJ;rw[Yi (show(i:Int)<(K l:Int)by omega),Yw,hg,VR,w i hi]
   by_cases h0:x=0
   ·rw[Yi h0,if_neg (by simpa using h0)];rfl
   ·rw[Yt h0,if_pos h0];rfl
  rw[show aB (cJ l) (N+1) (i:Int)=(cJ l (i:Int)).bind (bj (aB (cJ l) N) D)from rfl,hb]
  by_cases h0:x=0
  ·rw[if_neg (by simpa using h0),if_neg (by simpa using h0)];rfl
  ·rw[if_pos h0,if_pos h0];rfl
 have fin:∀(l:C Int) (N:F),aB (cJ l) (N+1) (K l:Int)=D (.inl ()):=λl N=>by
  have hb:cJ l (K l:Int)=D (.inr (.inl ())):=by unfold cJ;simp
  rw[show aB (cJ l) (N+1) (K l:Int)=(cJ l (K l:Int)).bind (bj (aB (cJ l) N) D)from rfl,hb];rfl
 obtain⟨k,hk⟩:∃k,NN=k+1+1+1+1+1+1+1:=⟨NN-7,by unfold NN;omega⟩
 have key:aB (cJ [a,b,c,d,e,f]) NN ((0:F):Int)=if a≠0 then D (.inr a)else if b≠0 then D (.inr b)else if c≠0 then D (.inr c)else if d≠0 then D (.inr d)else if e≠0 then D (.inr e)else if f≠0 then D (.inr f)else D (.inl ()):=by
  rw[hk,step _ 0 a _ G rfl,step _ 1 b _ G rfl,step _ 2 c _ G rfl,step _ 3 d _ G rfl,step _ 4 e _ G rfl,step _ 5 f _ G rfl,show((5+1:F):Int)=(K ([a,b,c,d,e,f]:C Int):Int)from rfl,fin [a,b,c,d,e,f] k]
 unfold ld;rw[show(0:Int)=((0:F):Int)from rfl,key]
 by_cases ha:a=0
 ·by_cases hb:b=0
  ·by_cases hc:c=0
   ·by_cases hd:d=0
    ·by_cases he:e=0
     ·by_cases hf:f=0
      ·simp[ha,hb,hc,hd,he,hf,bj]
      ·simp[ha,hb,hc,hd,he,hf,bj]
     ·simp[ha,hb,hc,hd,he,bj]
    ·simp[ha,hb,hc,hd,bj]
   ·simp[ha,hb,hc,bj]
  ·simp[ha,hb,bj]
 ·simp[ha,bj]
theorem ZaU(a b:Int):(a<b/\uC a b=-1)\/(a=b/\uC a b=0)\/(b<a/\uC a b=1):=by
 unfold uC
 rcases Int.lt_trichotomy a b with h|h|h
 ·exact .inl ⟨h,if_pos h⟩
 ·exact .inr (.inl ⟨h,by rw[if_neg G,if_neg G]⟩)
 ·exact .inr (.inr ⟨h,by rw[if_neg G,if_pos h]⟩)
theorem xt(a b:aI):∃v,jz a b=D v/\(v<0↔rh a b):=by
 unfold jz nO;simp only[PY,VR,ZhG];refine⟨_,rfl,?_⟩;unfold rh qS;generalize Lib.compareBytes a.place.data.toList b.place.data.toList=s
 rcases ZaU a.aQ b.aQ with⟨h1,e1⟩ |⟨h1,e1⟩ |⟨h1,e1⟩
 ·rw[e1,if_pos YJ];omega
 ·rw[e1,if_neg YJ]
  rcases ZaU a.aR b.aR with⟨h2,e2⟩ |⟨h2,e2⟩ |⟨h2,e2⟩
  ·rw[e2,if_pos YJ];omega
  ·rw[e2,if_neg YJ]
   rcases ZaU a.kind b.kind with⟨h3,e3⟩ |⟨h3,e3⟩ |⟨h3,e3⟩
   ·rw[e3,if_pos YJ];omega
   ·rw[e3,if_neg YJ]
    rcases ZaU a.aN.day b.aN.day with⟨h4,e4⟩ |⟨h4,e4⟩ |⟨h4,e4⟩
    ·rw[e4,if_pos YJ];omega
    ·rw[e4,if_neg YJ]
     rcases ZaU a.aN.bq b.aN.bq with⟨h5,e5⟩ |⟨h5,e5⟩ |⟨h5,e5⟩
     ·rw[e5,if_pos YJ];omega
     ·rw[e5,if_neg YJ];omega
     ·rw[e5,if_pos YJ];omega
    ·rw[e4,if_pos YJ];omega
   ·rw[e3,if_pos YJ];omega
  ·rw[e2,if_pos YJ];omega
 ·rw[e1,if_pos YJ];omega
theorem Zfb{g c n M:F}{w0:World}(hx:w0.cell? ⟨M,0,L⟩=D (.slice (D ⟨g,0,L⟩) n c))(hBx:M<w0.heap.size)(gL:M≠g)(xW:n<=c)(hm:c<=maxLen)(ht:DM w0 O)(hO:O g):
 uZ 268 #[.pointer (D ⟨M,0,L⟩)] (eZ.cells (α:=aI)) 6 LY g 89 (c*6) n w0:=by
 intro d W hS hd i j hi hj;have hn:K d.toList=n:=by rw[W7,hd]
 have gi:az d.toList (i:Int)=D d[i]!:=by rw[aS,WU,getElem!_pos d i G];exact V4 _
 have gj:az d.toList (j:Int)=D d[j]!:=by rw[aS,WU,getElem!_pos d j G];exact V4 _
 obtain⟨v,hv,hvb⟩:=xt d[i]! d[j]!;have H:pv (i:Int) (j:Int) d.toList=D (LY d[i]! d[j]!):=by
  unfold pv;rw[gi,VR,gj,VR,hv,VR];unfold LY
  by_cases hb:rh d[i]! d[j]!
  ·rw[Yi hb,Yi (hvb.2 hb)]
  ·rw[Yt hb,Yt λh=>hb (hvb.1 h)]
 have hC:=CT.ok (P:=prog) H;simp only[CT.f,CT.args,CT.m0,CT.res,CT.mem]at hC
 have va:W.cell? ⟨M,0,L⟩=D (.slice (D ⟨g,0,L⟩) n c):=(hS.Dr hBx gL).trans hx;have IN:Rd W W.heap.size (D ⟨g,0,L⟩) (d.toList.map id):=by
  have:=(Ls (B:=g) hS (VW _) G hm).rd;rw[List.map_id];exact this
 have hrs:=Fb (c:=bA) (id:aI->aI) IN (n:=c) G hm;rw[hn]at hrs
 refine(eh.Zac hC (w:=W) (AW ht hS.up λb _ h=>h▸hO) rfl λidx p hp=>?_).mono ?_
 ·match idx with
  |0=>obtain rfl:_=p:=X hp
      exact⟨_,rfl,tZ _ rfl⟩
  |1=>obtain rfl:_=p:=X hp
      exact⟨_,rfl,tZ _ rfl⟩
  |2=>obtain rfl:_=p:=X hp
      refine⟨_,rfl,.c (.rp _ M 0 (λ_=>.slice (D ⟨g,0,L⟩) n c) (Wn hBx hS.up.size) (λj p hp=>?_) (λj p hp=>rfl) λj p hp=>?_)⟩
      ·match j with
       |0=>exact va
       |j+1=>simp at hp
      ·match j with
       |0=>obtain rfl:_=p:=X hp
           exact hrs
       |j+1=>simp at hp
  |idx+3=>simp at hp
 ·rintro e w' ⟨rfl,hu⟩
  exact⟨rfl,hu⟩
noncomputable def scT:TypeInfo:=(prog.info? 31).get S
noncomputable def scE:TypeInfo:=(prog.info? 89).get S
theorem scK(n:F)(h2:2<=n):Lib.swapperK n scE 25=9:=by
 have a:scE.hasPointers=true:=by kernel_rfl
 have b:scE.bytes=56:=by kernel_rfl
 have c:(n==0)=false:=by simp;omega
 have d:(n==1)=false:=by simp;omega
 simp[Lib.swapperK,a,b,c,d]
theorem Zdw{B M:F}{v:Value}{xs:C aI}{w:World}(ho:Own w B 89 v xs)(hx:w.heap[M]?=D (.cells #[v] 31 (0,0)))(hn:K xs<=1048576)(ht:DM w O)(hO:∀b,B<=b->O b):
 Calls prog 231 #[.iface 31 v,.func (.func 268) #[] #[.pointer (D ⟨M,0,L⟩)]] w λe w'=>e=.returned (.tuple #[])/\∃ys,ys.Perm xs/\ys.Pairwise (λa b=>LY b a=Zf)/\Own w' B 89 v ys/\Fs (λb=>B<=b/\b≠M) w w':=by
 by_cases h2:2<=K xs
 case neg=>
  obtain⟨A,c,rfl,_,_⟩:=ho.form;have hR:=Tryz.zw;have key : ∀ f, prog.funcs.findIdx? (·.name == "internal/reflectlite" ++ ".Swapper$" ++ toString (Lib.swapperK (K xs) scE 25)) = D f -> Calls prog 231 #[.iface 31 (.slice A (K xs) c), .func (.func 268) #[] #[.pointer (D ⟨M, 0, L⟩)]] w λe w' => e = .returned (.tuple #[]) /\ ∃ os, w' = grow w os := λf hf =>
   Any.sort_SliceStable_tiny Tryz.zw 31 89 scT scE S S S S 25 (λ_=>by kernel_rfl) A (K xs) c G f hf _ _ _ w
  have Zig : ∃ f, prog.funcs.findIdx? (·.name == "internal/reflectlite" ++ ".Swapper$" ++ toString (Lib.swapperK (K xs) scE 25)) = D f := by
   rcases Wu 0 (K xs) with h|h
   ·rw[show (K xs)=1 by omega]
    exact⟨329,by kernel_rfl⟩
   ·rw[show (K xs)=0 by omega]
    exact⟨328,by kernel_rfl⟩
  obtain⟨f,hf⟩:=Zig;refine(key f hf).mono ?_;rintro e w' ⟨rfl,os,rfl⟩;have hu:=Sg w os;refine⟨rfl,xs,List.Perm.refl _,?_,ho.up hu,⟨hu.os,hu.tape,hu.output,hu.size,λb hb _=>hu.block b hb⟩⟩
  match xs,h2 with
  | [],_=>exact .nil
  | [x],_=>simp
  |x::y::l,h2=>simp at h2
 case pos=>
  obtain⟨g,c,rfl,hB,xW,EX,hS⟩:=Zcy ho G;have Zkq:=hS.row;have gL:M≠g:=by
   rintro rfl;obtain⟨cells,h1,_⟩:=Zkq;rw[hx]at h1
   simp at h1
  have hBx:M<w.heap.size:=(V6.1 hx).1;have va:w.cell? ⟨M,0,L⟩=D (.slice (D ⟨g,0,L⟩) (K xs) c):=by rw[cell_of_row w M 0 _ _ (0,0) hx];rfl
  have hlen:K xs<1152921504606846976:=G;have ph:sliceBound prog 89 scE 25 (D ⟨g,0,L⟩) (K xs) c=#[.slice (D ⟨g,0,L⟩) (K xs) c,typeHandle prog 89]:=by
   unfold sliceBound;rw[if_neg (swapperK_gt _ _ _ h2)]
  have hsw:SwapSwapsK prog 336 #[.slice (D ⟨g,0,L⟩) (K xs) c,typeHandle prog 89] (eZ.cells (α:=aI)) 6 g 0 (K xs):=
   swapSwapsK_of_literal Zf 336 (λargs W=>run_callFunc_extern func336 S S S (e:=Extern.ReflectliteSwapper.swap Zf) S args W) 89 scE S (eZ.cells (α:=aI)) 6 (λ_=>rfl) S (λ_=>by kernel_rfl) eZ.one g 0 (K xs) c
  have vf:=Zfb (n:=K xs) va hBx gL xW EX ht (hO g hB);refine Any.sort_SliceStable_of_stable Tryz.zw 31 89 scT scE S S S S 25 (λ_=>by kernel_rfl) (D ⟨g,0,L⟩) (K xs) c G 336 (by rw[scK _ h2];kernel_rfl) (.func 268) #[] #[.pointer (D ⟨M,0,L⟩)] w (λw'=>∃ys,ys.Perm xs/\ys.Pairwise (λa b=>LY b a=Zf)/\Own w' B 89 (.slice (D ⟨g,0,L⟩) (K xs) c) ys/\Fs (λb=>B<=b/\b≠M) w w') ?_
  rw[ph];have hu:Up w (stableWorld prog Tryz.tW 31 (D ⟨g,0,L⟩) (K xs) c w):=by unfold stableWorld;exact Up.al _ (Up.al _ (Up.rfl' w))
  generalize stableWorld prog Tryz.tW 31 (D ⟨g,0,L⟩) (K xs) c w=w1 at hu⊢
  have Sh:=hS.more hu;have tV:=O5 (enc:=eZ.cells (α:=aI)) (k:=6) (λ_=>rfl) 268 #[.pointer (D ⟨M,0,L⟩)] 336 #[.slice (D ⟨g,0,L⟩) (K xs) c,typeHandle prog 89] (K xs) hlen hsw Hy (enters_of func268 S rfl) (d:=xs.toArray) YE Sh.self (vf.on Sh)
  refine tV.mono ?_;rintro e w' ⟨rfl,e,LI,H4,Pv⟩;have hE:=Sh.trans LI;have xh:e.size=K xs:=by rw[H4.1];simp
  have pj:=Ls (B:=B) (c:=c) hE hB G EX;rw[xh]at pj
  refine⟨rfl,e.toList,?_,?_,pj,⟨hE.up.os,hE.up.tape,hE.up.output,hE.up.size,λb hb hn=>hE.up.block b hb λh=>hn ⟨h▸hB,λh'=>gL (h'▸h.symm▸rfl)⟩⟩⟩
  ·have hp:=H4.2.2
   rw[<-xh]at hp
   rw[Array.extract_size]at hp
   rw[xh]at hp
   have h3:xs.toArray.extract 0 (K xs)=xs.toArray:=by simp
   rw[h3]at hp
   simpa using hp
  ·rw[Wr]
   intro i j hi hj AY;have:=Pv i j G AY (by rw[W7]at hj;omega)
   rw[getElem!_pos e j (by rw[W7]at hj;exact hj),getElem!_pos e i (by rw[W7]at hi;exact hi)]at this
   simpa using this
