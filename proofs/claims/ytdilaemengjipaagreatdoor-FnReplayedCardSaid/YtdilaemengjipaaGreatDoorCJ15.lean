/- A part of the proof of the statement in the last file of this claim: texts on the language of the program and on its functions. No condition. -/
import Derived.Test.YtdilaemengjipaaGreatDoorCJ9
import Derived.Deep.DeepCutAuto
import Derived.Test.YtdilaemengjipaaGreatDoorCJ1
set_option linter.unusedVariables false
set_option linter.unusedSimpArgs false
set_option linter.unusedSectionVars false
open Go.Value renaming int->Y1
open Go.IntKind renaming i64->Y2
open Go renaming undef->Y3
open Option renaming some->YW,none->YX
open Bool renaming true->YY,false->YZ
open Decidable renaming decide->Y0
open Go.Proofs.Tryz
set_option maxHeartbeats 40000000
namespace Go.Proofs.YtdilaemengjipaaGreatDoor
open Nat renaming le_refl->VY
set_option maxRecDepth 10000
open Go.RowKit Go.Lib Go.Sort
set_option maxRecDepth 100000
section
variable {α:Type} [Inhabited α] {enc:α->List Value} {k:Nat} {g:Nat} {T:TypeId} {cs:Nat}
variable (hk:∀x,(enc x).length=k) (f:Nat) (lb:Array Value) (sf:Nat) (sb:Array Value) (n:Nat) (hn:n<1152921504606846976) (pB:SwapSwapsK prog sf sb enc k g 0 n)
include hk hn pB
theorem ZdT{lt:α->α->Bool}(hO:SWO lt)(eg:∀args w,(callFunc f args).run prog w=.ok (.enter f args) w):∀(N:Nat) (d:Array α) (W:World),d.size=n->SU enc k g T cs W d W->sW f lb enc k lt g T cs n W->∀(a m b:Nat),b-a<=N->a<m->m<b->b<=n->SortedIn lt a m d->SortedIn lt m b d->
 Calls prog 321 #[LS f lb sf sb,Y1 Y2 a,Y1 Y2 m,Y1 Y2 b] W λe w'=>e=.returned (.tuple #[])/\∃e,SU enc k g T cs W e w'/\PermIn a b d e/\SortedIn lt a b e:=by
 intro N
 induction N with
 |zero=>intro d W hd h0 hL a m b hN h1 h2;omega
 |succ N ih=>
 intro d W hd h0 hL a m b hN h1 h2 hb CR CS
 by_cases hma:m=a+1
 ·exact ZdR hk f lb sf sb n hn pB hO eg hd h0 hL a m b hma h2 hb CS
 by_cases hmb:b=m+1
 ·exact ZdS hk f lb sf sb n hn pB hO eg hd h0 hL a m b hmb Yn hb CR
 have hB:SU enc k g T cs W d (W.alloc (sh f lb sf sb)):=h0.more (Up.al _ (Up.rfl' W));have tQ:=λdj wr hS xg i j hi hj=>BG (dj:=dj) (wr:=wr) f lb sf sb n hL h0 hS xg pB i j hi hj
 have HL:Hid (∀d' W',SU enc k g T cs (W.alloc (sh f lb sf sb)) d' W'->sW f lb enc k lt g T cs n W'):=λd' W' h'=>hL.on (hB.trans h')
 have HB:Hid (SU enc k g T cs W d (W.alloc (sh f lb sf sb))):=hB;have UG:Hid (SortedIn lt a m d):=CR;have KM:Hid (SortedIn lt m b d):=CS;have Zfs:=fun(d':Array α) (W':World) (xg:d'.size=n) (h':SU enc k g T cs W' d' W') (a m b:Nat) (h1:a<=m) (h2:m<=b) (h3:b<=n) (h4:a<m/\m<b)=>T6 hk f lb sf sb n hn pB (T:=T) (cs:=cs) xg h' a m b h1 h2 h3 h4
 have HR:Hid _:=Zfs;have HI:Hid _:=ih;have HLS:Hid _:=tQ;have hg:=h0.lt;clear h0 hL CR CS Zfs ih tQ;have hna:((m:Int)-(a:Int)==1)=false:=by simp;omega
 have hnb:((b:Int)-(m:Int)==1)=false:=by simp;omega
 have Zdb:((a:Int)+(b:Int)) / 2=(((a+b) / 2:Nat):Int):=Yn;obtain⟨mid,hmd⟩:∃mid,mid=(a+b) / 2:=⟨_,rfl⟩;rw[<-hmd]at Zdb
 have I2:2*mid<=a+b:=Yn;have AE:a+b<=2*mid+1:=Yn;clear hmd hma hmb
 go_enter func321,ntmps321
 go_upto_if 106 with(fail)
 go_cut [18,19] (λs18 s19 wx=>∃s0 r0:Nat,s18=Y1 Y2 s0/\s19=Y1 Y2 r0/\a<=s0/\s0<=r0/\r0<=m/\r0<=mid/\((m<=mid/\s0=a/\r0=m)\/(mid<m/\s0+b=mid+m/\r0=mid))/\wx=W.alloc (sh f lb sf sb))
 case first=>
  by_cases hmm:mid<m
  ·have Zhi:(mid:Int)<(m:Int):=Yn
   go_wp2
   go_meet
   exact⟨mid+m-b,mid,by go_num,rfl,Yn,Yn,Yn,Yn,.inr ⟨hmm,Yn,rfl⟩,rfl⟩
  ·have Zhi:¬(mid:Int)<(m:Int):=Yn
   go_wp2
   go_meet
   exact⟨a,m,rfl,rfl,Yn,Yn,Yn,Yn,.inl ⟨Yn,rfl,rfl⟩,rfl⟩
 case rest=>
  obtain⟨s0,r0,rfl,rfl,ha0,hsr,hrm,UN,hs0,rfl⟩:=hcut;clear hna hnb Zdb hB;have Bq:Hid ((m<=mid/\s0=a/\r0=m)\/(mid<m/\s0+b=mid+m/\r0=mid)):=hs0;clear hs0
  go_wp2
  go_loopw [18,19] (λvs vr wr=>∃(s r:Nat),vs=Y1 Y2 s/\vr=Y1 Y2 r/\s0<=s/\s<=r/\r<=r0/\(s=s0\/lt d[mid+m-s]! d[s-1]! = YZ)/\(r=r0\/lt d[mid+m-1-r]! d[r]! = YY)/\SU enc k g T cs (W.alloc (sh f lb sf sb)) d wr) (λvs vr _=>(intOf vr).toNat-(intOf vs).toNat)
  case atStart=>exact⟨s0,r0,rfl,rfl,Yn,Yn,Yn,.inl rfl,.inl rfl,HB.out.self⟩
  case round=>
   obtain⟨s,r,rfl,rfl,hs,ZiT,hr,CL,Hp,hS⟩:=hrel;have c0:wr.cell? ⟨W.heap.size,0,YX⟩=YW (.func (.func f) #[] lb):=by rw[hS.AP Yq Yn];simp
   have c1:wr.cell? ⟨W.heap.size,1,YX⟩=YW (.func (.func sf) #[] sb):=by rw[hS.AP Yq Yn];simp
   have HS:Hid (SU enc k g T cs (W.alloc (sh f lb sf sb)) d wr):=hS;have HC1:Hid (s=s0\/lt d[mid+m-s]! d[s-1]! = YZ):=CL;have HC2:Hid (r=r0\/lt d[mid+m-1-r]! d[r]! = YY):=Hp;clear hS CL Hp
   by_cases bX:s<r
   ·have hq:mid+m-1-(s+r) / 2<n:=by rcases Bq.out with h|h<;>omega
    have hl:=HLS.out d wr HS.out hd (mid+m-1-(s+r) / 2) ((s+r) / 2) hq Yn;rw[show((mid+m-1-(s+r) / 2:Nat):Int)=(mid:Int)+(m:Int)-1-((s:Int)+(r:Int)) / 2 by omega,show(((s+r) / 2:Nat):Int)=((s:Int)+(r:Int)) / 2 by omega]at hl
    cases sR:lt d[mid+m-1-(s+r) / 2]! d[(s+r) / 2]! with
    |true=>
     rw[sR]at hl
     go_wp2_with (go_at_fn f;refine hl.mono ?_;rintro e w' ⟨rfl,hS,c0',c1',_⟩)
     refine⟨?_,by simp[intOf];omega⟩
     exact⟨s,(s+r) / 2,rfl,by go_num,Yn,Yn,Yn,HC1.out,.inr sR,hS⟩
    |false=>
     rw[sR]at hl
     go_wp2_with (go_at_fn f;refine hl.mono ?_;rintro e w' ⟨rfl,hS,c0',c1',_⟩)
     refine⟨?_,by simp[intOf];omega⟩
     exact⟨(s+r) / 2+1,r,by go_num,rfl,Yn,Yn,Yn,.inr (by rw[Nat.add_sub_cancel,show mid+m-((s+r) / 2+1)=mid+m-1-(s+r) / 2 by omega];exact sR),HC2.out,hS⟩
   ·have Zhm:s=r:=Yn
    subst Zhm;have ze:¬s<s:=Yn;obtain⟨t,ht⟩:∃t,t=mid+m-s:=⟨_,rfl⟩;have htz:(mid:Int)+(m:Int)-(s:Int)=(t:Int):=Yn;have hms:m<=t:=Yn;have u0:s+(t-m)=mid:=Yn;have zh:t<=b:=by rcases Bq.out with h|h<;>omega
    have HT:Hid (t=mid+m-s):=ht;clear ht;have dz:∀x y:Nat,Y0 ((x:Int)<(y:Int))=Y0 (x<y):=λx y=>by by_cases h:x<y<;>simp[h]
    have DZ:Hid _:=dz;clear dz;clear ze;have Zgu:Hid (a<s->t<b->lt d[t]! d[s-1]! = YZ):=λh1 h2=>by
     rcases HC1.out with h|h
     ·rcases Bq.out with h3|h3<;>omega
     ·rw[HT.out];exact h
    have Zgv:Hid (s<m->m<t->lt d[t-1]! d[s]! = YY):=λh1 h2=>by
     rcases HC2.out with h|h
     ·rcases Bq.out with h3|h3<;>omega
     ·rw[show t-1=mid+m-1-s by rw[HT.out];omega];exact h
    go_upto_region 40 with(fail)
    go_cut [145] (λZhV wx=>ZhV=.bool (Y0 (s<m/\m<t))/\wx=wr)
    case first=>
     by_cases q1:s<m
     ·by_cases q2:m<t
      ·have q3:Y0 (s<m/\m<t)=true:=Ya ⟨q1,q2⟩
       go_wp2
       go_meet
       exact⟨by rw[q3],rfl⟩
      ·have q3:Y0 (s<m/\m<t)=false:=Yg λh=>q2 h.2
       go_wp2
       go_meet
       exact⟨by rw[q3],rfl⟩
     ·have q3:Y0 (s<m/\m<t)=false:=Yg λh=>q1 h.1
      go_wp2
      go_meet
      exact⟨by rw[q3],rfl⟩
    case rest=>
    obtain⟨rfl,rfl⟩:=hcut
    go_upto_if 145 with(fail)
    go_cut [] (λwx=>∃e,SU enc k g T cs (W.alloc (sh f lb sf sb)) e wx/\PermIn a b d e/\∀k,e[k]! = px d s m t k)
    case first=>
     by_cases q:s<m/\m<t
     ·have q3:Y0 (s<m/\m<t)=true:=Ya q
      have hc:=HR.out d wc hd HS.out.self s m t Yn Yn Yn q
      go_wp2_with (go_at_call 365;refine hc.mono ?_;rintro e w' ⟨rfl,hE⟩)
      go_meet
      obtain⟨e,KO,Hn,Nr⟩:=hE;exact⟨e,HS.out.trans KO,permIn_mono _ _ _ _ _ _ Yn Yn Yn Hn,Nr⟩
     ·have q3:Y0 (s<m/\m<t)=false:=Yg q
      go_wp2
      go_meet
      exact⟨d,HS.out,permIn_refl _ _ _,λk=>Ai d Yn Yn Yn k⟩
    case rest=>
    obtain⟨e,KO,Hn,Nr⟩:=hcut;obtain⟨g1,g2,g3,g4,g5⟩:=Zc3 hO UG.out KM.out ⟨Yn,Yn⟩ ⟨hms,zh⟩ u0 Zgu.out Zgv.out Nr;have G1:Hid (SortedIn lt a s e):=g1;have G2:Hid (SortedIn lt s mid e):=g2;have G3:Hid (SortedIn lt mid t e):=g3;have G4:Hid (SortedIn lt t b e):=g4;have G5:Hid (∀i j,a<=i->i<mid->mid<=j->j<b->lt e[j]! e[i]! = YZ):=g5;have hed:e.size=n:=Hn.1.trans hd;have c0:wc.cell? ⟨W.heap.size,0,YX⟩=YW (.func (.func f) #[] lb):=by rw[KO.AP Yq Yn];simp
    have c1:wc.cell? ⟨W.heap.size,1,YX⟩=YW (.func (.func sf) #[] sb):=by rw[KO.AP Yq Yn];simp
    have HE1:Hid (SU enc k g T cs (W.alloc (sh f lb sf sb)) e wc):=KO;have HE2:Hid (PermIn a b d e):=Hn;clear g1 g2 g3 g4 g5 KO Hn Nr
    go_upto_region 42 with(fail)
    go_cut [158] (λZhW wx=>ZhW=.bool (Y0 (a<s/\s<mid))/\wx=wc)
    case first=>
     by_cases q1:a<s
     ·by_cases q2:s<mid
      ·have q3:Y0 (a<s/\s<mid)=true:=Ya ⟨q1,q2⟩
       go_wp2
       go_meet
       exact⟨by rw[q3],rfl⟩
      ·have q3:Y0 (a<s/\s<mid)=false:=Yg λh=>q2 h.2
       go_wp2
       go_meet
       exact⟨by rw[q3],rfl⟩
     ·have q3:Y0 (a<s/\s<mid)=false:=Yg λh=>q1 h.1
      go_wp2
      go_meet
      exact⟨by rw[q3],rfl⟩
    case rest=>
    obtain⟨rfl,rfl⟩:=hcut
    go_upto_if 158 with(fail)
    go_cut [] (λwx=>∃e1,SU enc k g T cs (W.alloc (sh f lb sf sb)) e1 wx/\PermIn a mid e e1/\SortedIn lt a mid e1)
    case first=>
     by_cases q:a<s/\s<mid
     ·have q3:Y0 (a<s/\s<mid)=true:=Ya q
      have hc:=HI.out e _ hed HE1.out.self (HL.out e _ HE1.out) a s mid Yn q.1 q.2 Yn G1.out G2.out
      go_wp2_with (go_at_call 321;refine hc.mono ?_;rintro e' w' ⟨rfl,hE⟩)
      go_meet
      obtain⟨e1,KO,Hn,Nr⟩:=hE;exact⟨e1,HE1.out.trans KO,Hn,Nr⟩
     ·have q3:Y0 (a<s/\s<mid)=false:=Yg q
      go_wp2
      go_meet
      refine⟨e,HE1.out,permIn_refl _ _ _,?_⟩
      by_cases q4:a<s
      ·exact wH G1.out (VY _) Yn
      ·exact wH G2.out Yn (VY _)
    case rest=>
    obtain⟨e1,hF1,hF2,hF3⟩:=hcut;have Zha:e1.size=n:=hF2.1.trans hed;have g3:SortedIn lt mid t e1:=xH G3.out λk h1 h2=>hF2.2.1 k (.inr h1)
    have g4:SortedIn lt t b e1:=xH G4.out λk h1 h2=>hF2.2.1 k (.inr Yn)
    have c0':wc.cell? ⟨W.heap.size,0,YX⟩=YW (.func (.func f) #[] lb):=by rw[hF1.AP Yq Yn];simp
    have c1':wc.cell? ⟨W.heap.size,1,YX⟩=YW (.func (.func sf) #[] sb):=by rw[hF1.AP Yq Yn];simp
    have K3:Hid (SortedIn lt mid t e1):=g3;have K4:Hid (SortedIn lt t b e1):=g4;have HF1:Hid (SU enc k g T cs (W.alloc (sh f lb sf sb)) e1 wc):=hF1;have HF2:Hid (PermIn a mid e e1):=hF2;have HF3:Hid (SortedIn lt a mid e1):=hF3;clear g3 g4 hF1 hF2 hF3;have fin:∀w' e2,SU enc k g T cs (W.alloc (sh f lb sf sb)) e2 w'->PermIn mid b e1 e2->SortedIn lt mid b e2->∃e,SU enc k g T cs W e w'/\PermIn a b d e/\SortedIn lt a b e:=λw' e2 h1 h2 h3=>by
     obtain⟨x1,x2⟩:=glue hO Yn Yn Yn HF2.out h2 HF3.out h3 G5.out;exact⟨e2,HB.out.trans h1,permIn_trans _ _ _ _ _ HE2.out x1,x2⟩
    have FIN:Hid _:=fin;clear fin
    go_upto_region 44 with(fail)
    go_cut [171] (λZhX wx=>ZhX=.bool (Y0 (mid<t/\t<b))/\wx=wc)
    case first=>
     by_cases q1:mid<t
     ·by_cases q2:t<b
      ·have q3:Y0 (mid<t/\t<b)=true:=Ya ⟨q1,q2⟩
       go_wp2
       go_meet
       exact⟨by rw[q3],rfl⟩
      ·have q3:Y0 (mid<t/\t<b)=false:=Yg λh=>q2 h.2
       go_wp2
       go_meet
       exact⟨by rw[q3],rfl⟩
     ·have q3:Y0 (mid<t/\t<b)=false:=Yg λh=>q1 h.1
      go_wp2
      go_meet
      exact⟨by rw[q3],rfl⟩
    case rest=>
    obtain⟨rfl,rfl⟩:=hcut
    by_cases q:mid<t/\t<b
    ·have q3:Y0 (mid<t/\t<b)=true:=Ya q
     have hc:=HI.out e1 _ Zha HF1.out.self (HL.out e1 _ HF1.out) mid t b Yn q.1 q.2 hb K3.out K4.out
     go_wp2_with (go_at_call 321;refine hc.mono ?_;rintro e' w' ⟨rfl,hE⟩)
     go_end0
     obtain⟨e2,KO,Hn,Nr⟩:=hE;exact⟨rfl,FIN.out _ e2 (HF1.out.trans KO) Hn Nr⟩
    ·have q3:Y0 (mid<t/\t<b)=false:=Yg q
     go_wp2
     go_end0
     refine⟨rfl,FIN.out _ e1 HF1.out (permIn_refl _ _ _) ?_⟩
     by_cases q4:mid<t
     ·exact wH K3.out (VY _) Yn
     ·exact wH K4.out Yn (VY _)
end
end Go.Proofs.YtdilaemengjipaaGreatDoor
