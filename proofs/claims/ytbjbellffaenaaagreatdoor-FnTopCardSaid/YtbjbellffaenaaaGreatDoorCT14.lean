/- A part of the proof of this claim's last theorem. No condition. -/
import Derived.Test.YtbjbellffaenaaaGreatDoorCT9
set_option linter.all false
set_option maxRecDepth 100000
open Go.Value renaming int->D
open Go.IntKind renaming i64->E
open Go renaming undef->Zj
open Option renaming some->F,none->G
open Bool renaming true->Ze,false->Zf
open Decidable renaming decide->v
open Go.Proofs.YtbjbellffaenaaaGreatDoor renaming SU->z,YA->l,uL->J
open _root_ renaming Array->C,Int->o,Nat->u
open Go.Proofs.Tryz
set_option maxHeartbeats 40000000
namespace Go.Proofs.YtbjbellffaenaaaGreatDoor
open Nat renaming le_refl->VW
open Go.RowKit Go.Lib Go.Sort
section
variable {α:Type} [Inhabited α] {enc:α->List Value} {k:u} {g:u} {T:TypeId} {cs:u}
variable (hk:∀x,(enc x).length=k) (f:u) (lb:C Value) (sf:u) (sb:C Value) (n:u) (hn:n<1152921504606846976) (rG:SwapSwapsK prog sf sb enc k g 0 n)
include hk hn rG
theorem ZiU{lt:α->α->Bool}(hO:SWO lt)(eg:∀args w,(callFunc f args).run prog w=.ok (.enter f args) w):∀(N:u) (d:C α) (W:World),d.size=n->z enc k g T cs W d W->uZ f lb enc k lt g T cs n W->∀(a m b:u),b-a<=N->a<m->m<b->b<=n->SortedIn lt a m d->SortedIn lt m b d->
 Calls prog 338 #[LS f lb sf sb,D E a,D E m,D E b] W λe w'=>e=.returned (.tuple #[])/\∃e,z enc k g T cs W e w'/\PermIn a b d e/\SortedIn lt a b e:=by
 intro N
 induction N with
 |zero=>intro d W hd h0 hL a m b hN h1 h2;omega
 |succ N ih=>
 intro d W hd h0 hL a m b hN h1 h2 hb C6 D8
 by_cases hma:m=a+1
 ·exact ZiS hk f lb sf sb n hn rG hO eg hd h0 hL a m b hma h2 hb D8
 by_cases hmb:b=m+1
 ·exact ZiT hk f lb sf sb n hn rG hO eg hd h0 hL a m b hmb l hb C6
 have hB:z enc k g T cs W d (W.alloc (J f lb sf sb)):=h0.more (Up.al _ (Up.rfl' W));have vf:=λdj wr hS Cy i j hi hj=>E5 (dj:=dj) (wr:=wr) f lb sf sb n hL h0 hS Cy rG i j hi hj
 have HL:Hid (∀d' W',z enc k g T cs (W.alloc (J f lb sf sb)) d' W'->uZ f lb enc k lt g T cs n W'):=λd' W' h'=>hL.on (hB.trans h')
 have HB:Hid (z enc k g T cs W d (W.alloc (J f lb sf sb))):=hB;have HS1:Hid (SortedIn lt a m d):=C6;have Pu:Hid (SortedIn lt m b d):=D8;have Zkp:=fun(d':C α) (W':World) (Cy:d'.size=n) (h':z enc k g T cs W' d' W') (a m b:u) (h1:a<=m) (h2:m<=b) (h3:b<=n) (h4:a<m/\m<b)=>Zc8 hk f lb sf sb n hn rG (T:=T) (cs:=cs) Cy h' a m b h1 h2 h3 h4
 have HR:Hid _:=Zkp;have HI:Hid _:=ih;have HLS:Hid _:=vf;have hg:=h0.lt;clear h0 hL C6 D8 Zkp ih vf;have hna:((m:o)-(a:o)==1)=false:=by simp;omega
 have hnb:((b:o)-(m:o)==1)=false:=by simp;omega
 have Qe:((a:o)+(b:o)) / 2=(((a+b) / 2:u):o):=l;obtain⟨mid,hmd⟩:∃mid,mid=(a+b) / 2:=⟨_,rfl⟩;rw[<-hmd]at Qe
 have LR:2*mid<=a+b:=l;have CB:a+b<=2*mid+1:=l;clear hmd hma hmb
 go_enter func338,ntmps338
 go_upto_if 106 with(fail)
 go_cut [18,19] (λs18 s19 wx=>∃s0 r0:u,s18=D E s0/\s19=D E r0/\a<=s0/\s0<=r0/\r0<=m/\r0<=mid/\((m<=mid/\s0=a/\r0=m)\/(mid<m/\s0+b=mid+m/\r0=mid))/\wx=W.alloc (J f lb sf sb))
 case first=>
  by_cases hmm:mid<m
  ·have Zmr:(mid:o)<(m:o):=l
   go_wp2
   go_meet
   exact⟨mid+m-b,mid,by go_num,rfl,l,l,l,l,.inr ⟨hmm,l,rfl⟩,rfl⟩
  ·have Zmr:¬(mid:o)<(m:o):=l
   go_wp2
   go_meet
   exact⟨a,m,rfl,rfl,l,l,l,l,.inl ⟨l,rfl,rfl⟩,rfl⟩
 case rest=>
  obtain⟨s0,r0,rfl,rfl,ha0,hsr,hrm,IN,hs0,rfl⟩:=hcut;clear hna hnb Qe hB;have EK:Hid ((m<=mid/\s0=a/\r0=m)\/(mid<m/\s0+b=mid+m/\r0=mid)):=hs0;clear hs0
  go_wp2
  go_loopw [18,19] (λvs vr wr=>∃(s r:u),vs=D E s/\vr=D E r/\s0<=s/\s<=r/\r<=r0/\(s=s0\/lt d[mid+m-s]! d[s-1]! = Zf)/\(r=r0\/lt d[mid+m-1-r]! d[r]! = Ze)/\z enc k g T cs (W.alloc (J f lb sf sb)) d wr) (λvs vr _=>(intOf vr).toNat-(intOf vs).toNat)
  case atStart=>exact⟨s0,r0,rfl,rfl,l,l,l,.inl rfl,.inl rfl,HB.out.self⟩
  case round=>
   obtain⟨s,r,rfl,rfl,hs,Zof,hr,Ge,LM,hS⟩:=hrel;have c0:wr.cell? ⟨W.heap.size,0,G⟩=F (.func (.func f) #[] lb):=by rw[hS.Dr YE l];simp
   have c1:wr.cell? ⟨W.heap.size,1,G⟩=F (.func (.func sf) #[] sb):=by rw[hS.Dr YE l];simp
   have HS:Hid (z enc k g T cs (W.alloc (J f lb sf sb)) d wr):=hS;have HC1:Hid (s=s0\/lt d[mid+m-s]! d[s-1]! = Zf):=Ge;have HC2:Hid (r=r0\/lt d[mid+m-1-r]! d[r]! = Ze):=LM;clear hS Ge LM
   by_cases bD:s<r
   ·have hq:mid+m-1-(s+r) / 2<n:=by rcases EK.out with h|h<;>omega
    have hl:=HLS.out d wr HS.out hd (mid+m-1-(s+r) / 2) ((s+r) / 2) hq l;rw[show((mid+m-1-(s+r) / 2:u):o)=(mid:o)+(m:o)-1-((s:o)+(r:o)) / 2 by omega,show(((s+r) / 2:u):o)=((s:o)+(r:o)) / 2 by omega]at hl
    cases vE:lt d[mid+m-1-(s+r) / 2]! d[(s+r) / 2]! with
    |true=>
     rw[vE]at hl
     go_wp2_with (go_at_fn f;refine hl.mono ?_;rintro e w' ⟨rfl,hS,c0',c1',_⟩)
     refine⟨?_,by simp[intOf];omega⟩
     exact⟨s,(s+r) / 2,rfl,by go_num,l,l,l,HC1.out,.inr vE,hS⟩
    |false=>
     rw[vE]at hl
     go_wp2_with (go_at_fn f;refine hl.mono ?_;rintro e w' ⟨rfl,hS,c0',c1',_⟩)
     refine⟨?_,by simp[intOf];omega⟩
     exact⟨(s+r) / 2+1,r,by go_num,rfl,l,l,l,.inr (by rw[Nat.add_sub_cancel,show mid+m-((s+r) / 2+1)=mid+m-1-(s+r) / 2 by omega];exact vE),HC2.out,hS⟩
   ·have Zmx:s=r:=l
    subst Zmx;have Cz:¬s<s:=l;obtain⟨t,ht⟩:∃t,t=mid+m-s:=⟨_,rfl⟩;have htz:(mid:o)+(m:o)-(s:o)=(t:o):=l;have hms:m<=t:=l;have tV:s+(t-m)=mid:=l;have AZ:t<=b:=by rcases EK.out with h|h<;>omega
    have HT:Hid (t=mid+m-s):=ht;clear ht;have dz:∀x y:u,v ((x:o)<(y:o))=v (x<y):=λx y=>by by_cases h:x<y<;>simp[h]
    have DZ:Hid _:=dz;clear dz;clear Cz;have ZlA:Hid (a<s->t<b->lt d[t]! d[s-1]! = Zf):=λh1 h2=>by
     rcases HC1.out with h|h
     ·rcases EK.out with h3|h3<;>omega
     ·rw[HT.out];exact h
    have ZlB:Hid (s<m->m<t->lt d[t-1]! d[s]! = Ze):=λh1 h2=>by
     rcases HC2.out with h|h
     ·rcases EK.out with h3|h3<;>omega
     ·rw[show t-1=mid+m-1-s by rw[HT.out];omega];exact h
    go_upto_region 40 with(fail)
    go_cut [145] (λZnb wx=>Znb=.bool (v (s<m/\m<t))/\wx=wr)
    case first=>
     by_cases q1:s<m
     ·by_cases q2:m<t
      ·have q3:v (s<m/\m<t)=true:=Yi ⟨q1,q2⟩
       go_wp2
       go_meet
       exact⟨by rw[q3],rfl⟩
      ·have q3:v (s<m/\m<t)=false:=Yt λh=>q2 h.2
       go_wp2
       go_meet
       exact⟨by rw[q3],rfl⟩
     ·have q3:v (s<m/\m<t)=false:=Yt λh=>q1 h.1
      go_wp2
      go_meet
      exact⟨by rw[q3],rfl⟩
    case rest=>
    obtain⟨rfl,rfl⟩:=hcut
    go_upto_if 145 with(fail)
    go_cut [] (λwx=>∃e,z enc k g T cs (W.alloc (J f lb sf sb)) e wx/\PermIn a b d e/\∀k,e[k]! = rC d s m t k)
    case first=>
     by_cases q:s<m/\m<t
     ·have q3:v (s<m/\m<t)=true:=Yi q
      have hc:=HR.out d wc hd HS.out.self s m t l l l q
      go_wp2_with (go_at_call 374;refine hc.mono ?_;rintro e w' ⟨rfl,hE⟩)
      go_meet
      obtain⟨e,LI,H4,Pv⟩:=hE;exact⟨e,HS.out.trans LI,permIn_mono _ _ _ _ _ _ l l l H4,Pv⟩
     ·have q3:v (s<m/\m<t)=false:=Yt q
      go_wp2
      go_meet
      exact⟨d,HS.out,permIn_refl _ _ _,λk=>DC d l l l k⟩
    case rest=>
    obtain⟨e,LI,H4,Pv⟩:=hcut;obtain⟨g1,g2,g3,g4,g5⟩:=ZhV hO HS1.out Pu.out ⟨l,l⟩ ⟨hms,AZ⟩ tV ZlA.out ZlB.out Pv;have G1:Hid (SortedIn lt a s e):=g1;have G2:Hid (SortedIn lt s mid e):=g2;have G3:Hid (SortedIn lt mid t e):=g3;have G4:Hid (SortedIn lt t b e):=g4;have G5:Hid (∀i j,a<=i->i<mid->mid<=j->j<b->lt e[j]! e[i]! = Zf):=g5;have hed:e.size=n:=H4.1.trans hd;have c0:wc.cell? ⟨W.heap.size,0,G⟩=F (.func (.func f) #[] lb):=by rw[LI.Dr YE l];simp
    have c1:wc.cell? ⟨W.heap.size,1,G⟩=F (.func (.func sf) #[] sb):=by rw[LI.Dr YE l];simp
    have HE1:Hid (z enc k g T cs (W.alloc (J f lb sf sb)) e wc):=LI;have HE2:Hid (PermIn a b d e):=H4;clear g1 g2 g3 g4 g5 LI H4 Pv
    go_upto_region 42 with(fail)
    go_cut [158] (λZnc wx=>Znc=.bool (v (a<s/\s<mid))/\wx=wc)
    case first=>
     by_cases q1:a<s
     ·by_cases q2:s<mid
      ·have q3:v (a<s/\s<mid)=true:=Yi ⟨q1,q2⟩
       go_wp2
       go_meet
       exact⟨by rw[q3],rfl⟩
      ·have q3:v (a<s/\s<mid)=false:=Yt λh=>q2 h.2
       go_wp2
       go_meet
       exact⟨by rw[q3],rfl⟩
     ·have q3:v (a<s/\s<mid)=false:=Yt λh=>q1 h.1
      go_wp2
      go_meet
      exact⟨by rw[q3],rfl⟩
    case rest=>
    obtain⟨rfl,rfl⟩:=hcut
    go_upto_if 158 with(fail)
    go_cut [] (λwx=>∃e1,z enc k g T cs (W.alloc (J f lb sf sb)) e1 wx/\PermIn a mid e e1/\SortedIn lt a mid e1)
    case first=>
     by_cases q:a<s/\s<mid
     ·have q3:v (a<s/\s<mid)=true:=Yi q
      have hc:=HI.out e _ hed HE1.out.self (HL.out e _ HE1.out) a s mid l q.1 q.2 l G1.out G2.out
      go_wp2_with (go_at_call 338;refine hc.mono ?_;rintro e' w' ⟨rfl,hE⟩)
      go_meet
      obtain⟨e1,LI,H4,Pv⟩:=hE;exact⟨e1,HE1.out.trans LI,H4,Pv⟩
     ·have q3:v (a<s/\s<mid)=false:=Yt q
      go_wp2
      go_meet
      refine⟨e,HE1.out,permIn_refl _ _ _,?_⟩
      by_cases q4:a<s
      ·exact zD G1.out (VW _) l
      ·exact zD G2.out l (VW _)
    case rest=>
    obtain⟨e1,hF1,hF2,hF3⟩:=hcut;have Zml:e1.size=n:=hF2.1.trans hed;have g3:SortedIn lt mid t e1:=AV G3.out λk h1 h2=>hF2.2.1 k (.inr h1)
    have g4:SortedIn lt t b e1:=AV G4.out λk h1 h2=>hF2.2.1 k (.inr l)
    have c0':wc.cell? ⟨W.heap.size,0,G⟩=F (.func (.func f) #[] lb):=by rw[hF1.Dr YE l];simp
    have c1':wc.cell? ⟨W.heap.size,1,G⟩=F (.func (.func sf) #[] sb):=by rw[hF1.Dr YE l];simp
    have K3:Hid (SortedIn lt mid t e1):=g3;have K4:Hid (SortedIn lt t b e1):=g4;have HF1:Hid (z enc k g T cs (W.alloc (J f lb sf sb)) e1 wc):=hF1;have HF2:Hid (PermIn a mid e e1):=hF2;have HF3:Hid (SortedIn lt a mid e1):=hF3;clear g3 g4 hF1 hF2 hF3;have fin:∀w' e2,z enc k g T cs (W.alloc (J f lb sf sb)) e2 w'->PermIn mid b e1 e2->SortedIn lt mid b e2->∃e,z enc k g T cs W e w'/\PermIn a b d e/\SortedIn lt a b e:=λw' e2 h1 h2 h3=>by
     obtain⟨x1,x2⟩:=glue hO l l l HF2.out h2 HF3.out h3 G5.out;exact⟨e2,HB.out.trans h1,permIn_trans _ _ _ _ _ HE2.out x1,x2⟩
    have FIN:Hid _:=fin;clear fin
    go_upto_region 44 with(fail)
    go_cut [171] (λZnd wx=>Znd=.bool (v (mid<t/\t<b))/\wx=wc)
    case first=>
     by_cases q1:mid<t
     ·by_cases q2:t<b
      ·have q3:v (mid<t/\t<b)=true:=Yi ⟨q1,q2⟩
       go_wp2
       go_meet
       exact⟨by rw[q3],rfl⟩
      ·have q3:v (mid<t/\t<b)=false:=Yt λh=>q2 h.2
       go_wp2
       go_meet
       exact⟨by rw[q3],rfl⟩
     ·have q3:v (mid<t/\t<b)=false:=Yt λh=>q1 h.1
      go_wp2
      go_meet
      exact⟨by rw[q3],rfl⟩
    case rest=>
    obtain⟨rfl,rfl⟩:=hcut
    by_cases q:mid<t/\t<b
    ·have q3:v (mid<t/\t<b)=true:=Yi q
     have hc:=HI.out e1 _ Zml HF1.out.self (HL.out e1 _ HF1.out) mid t b l q.1 q.2 hb K3.out K4.out
     go_wp2_with (go_at_call 338;refine hc.mono ?_;rintro e' w' ⟨rfl,hE⟩)
     go_end0
     obtain⟨e2,LI,H4,Pv⟩:=hE;exact⟨rfl,FIN.out _ e2 (HF1.out.trans LI) H4 Pv⟩
    ·have q3:v (mid<t/\t<b)=false:=Yt q
     go_wp2
     go_end0
     refine⟨rfl,FIN.out _ e1 HF1.out (permIn_refl _ _ _) ?_⟩
     by_cases q4:mid<t
     ·exact zD K3.out (VW _) l
     ·exact zD K4.out l (VW _)
end
