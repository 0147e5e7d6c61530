/- A part of the proof of the statement in the last file of this claim: texts on the language of the program and on its functions. No condition. -/
import Derived.Test.YtmcdjilbkmhfoaaGreatCAcceptOrder10
import Derived.Deep.DeepCutAuto
import Derived.Test.YtmcdjilbkmhfoaaGreatCRetryOrders7
import Derived.Test.YtmcdjilbkmhfoaaGreatCRetryOrders4
import Derived.Test.YtmcdjilbkmhfoaaGreatCRetryOrders5
import Derived.Test.YtmcdjilbkmhfoaaGreatCRetryOrders8
import Derived.Shelf.GgSortMore.Stable
import Derived.Test.YtmcdjilbkmhfoaaGreatCAcceptOrder9
namespace Go.Proofs.YtmcdjilbkmhfoaaGreat
set_option maxRecDepth 10000
open Go.RowKit Go.Lib Go.Sort
set_option linter.unusedVariables false
set_option linter.unusedSimpArgs false
set_option linter.unusedSectionVars false
set_option maxRecDepth 100000
set_option maxHeartbeats 4000000
section
variable {α:Type} [Inhabited α] {enc:α→List Value} {k:Nat} {g:Nat} {T:TypeId} {cs:Nat}
variable (hk:∀ x,(enc x).length=k) (f:Nat) (lb:Array Value) (sf:Nat) (sb:Array Value) (n:Nat) (hn:n<1152921504606846976) (hswap:SwapSwapsK Tryz.prog sf sb enc k g 0 n)
include hk hn hswap
theorem ZrD {lt:α→α→Bool} (hO:SWO lt) (eg:∀ args w,(callFunc f args).run Tryz.prog w=.ok (.enter f args) w):∀ (N:Nat) (d:Array α) (W:World),d.size=n→SU enc k g T cs W d W→ZfS f lb enc k lt g T cs n W→∀ (a m b:Nat),b-a≤N→a<m→m<b→b≤n→SortedIn lt a m d→SortedIn lt m b d→
 Calls Tryz.prog 269 #[LS f lb sf sb,.int .i64 a,.int .i64 m,.int .i64 b] W fun e w'=>e=.returned (.tuple #[])∧∃ e,SU enc k g T cs W e w'∧PermIn a b d e∧SortedIn lt a b e:=by
 intro N
 induction N with
 | zero=>intro d W hd h0 hL a m b hN h1 h2; omega
 | succ N ih=>
 intro d W hd h0 hL a m b hN h1 h2 hb hs1 hs2
 by_cases hma:m=a+1
 ·exact ZrB hk f lb sf sb n hn hswap hO eg hd h0 hL a m b hma h2 hb hs2
 by_cases hmb:b=m+1
 ·exact ZrC hk f lb sf sb n hn hswap hO eg hd h0 hL a m b hmb (by omega) hb hs1
 have hB:SU enc k g T cs W d (W.alloc (LSo f lb sf sb)):=h0.more (Up.al _ (Up.rfl' W))
 have hless:=fun dj wr hS hd' i j hi hj=>ZiM (dj:=dj) (wr:=wr) f lb sf sb n hL h0 hS hd' hswap i j hi hj
 have HL:Hid (∀ d' W',SU enc k g T cs (W.alloc (LSo f lb sf sb)) d' W'→ZfS f lb enc k lt g T cs n W'):=fun d' W' h'=>hL.on (hB.trans h')
 have HB:Hid (SU enc k g T cs W d (W.alloc (LSo f lb sf sb))):=hB
 have HS1:Hid (SortedIn lt a m d):=hs1
 have HS2:Hid (SortedIn lt m b d):=hs2
 have hrot:=fun (d':Array α) (W':World) (hd':d'.size=n) (h':SU enc k g T cs W' d' W') (a m b:Nat) (h1:a≤m) (h2:m≤b) (h3:b≤n) (h4:a<m∧m<b)=>Zpe hk f lb sf sb n hn hswap (T:=T) (cs:=cs) hd' h' a m b h1 h2 h3 h4
 have HR:Hid _:=hrot
 have HI:Hid _:=ih
 have HLS:Hid _:=hless
 have hg:=h0.lt
 clear h0 hL hs1 hs2 hrot ih hless
 have hna:((m:Int)-(a:Int) == 1)=false:=by simp; omega
 have hnb:((b:Int)-(m:Int) == 1)=false:=by simp; omega
 have hmid:((a:Int)+(b:Int)) / 2=(((a+b) / 2:Nat):Int):=by omega
 obtain ⟨mid,hmd⟩:∃ mid,mid=(a+b) / 2:=⟨_,rfl⟩
 rw [← hmd] at hmid
 have hm1:2*mid≤a+b:=by omega
 have hm2:a+b≤2*mid+1:=by omega
 clear hmd hma hmb
 go_enter Tryz.func269,Tryz.ntmps269
 go_upto_if 106 with (fail)
 go_cut [18,19] (fun s18 s19 wx=>∃ s0 r0:Nat,s18=.int .i64 s0∧s19=.int .i64 r0∧a≤s0∧s0≤r0∧r0≤m∧r0≤mid∧((m≤mid∧s0=a∧r0=m)∨(mid<m∧s0+b=mid+m∧r0=mid))∧wx=W.alloc (LSo f lb sf sb))
 case first=>
  by_cases hmm:mid<m
  ·have hmm':(mid:Int)<(m:Int):=by omega
   go_wp2
   go_meet
   exact ⟨mid+m-b,mid,by go_num,rfl,by omega,by omega,by omega,by omega,.inr ⟨hmm,by omega,rfl⟩,rfl⟩
  ·have hmm':¬ (mid:Int)<(m:Int):=by omega
   go_wp2
   go_meet
   exact ⟨a,m,rfl,rfl,by omega,by omega,by omega,by omega,.inl ⟨by omega,rfl,rfl⟩,rfl⟩
 case rest=>
  obtain ⟨s0,r0,rfl,rfl,ha0,hsr,hrm,hrd,hs0,rfl⟩:=hcut
  clear hna hnb hmid hB
  have HS0:Hid ((m≤mid∧s0=a∧r0=m)∨(mid<m∧s0+b=mid+m∧r0=mid)):=hs0
  clear hs0
  go_wp2
  go_loopw [18,19] (fun vs vr wr=>∃ (s r:Nat),vs=.int .i64 s∧vr=.int .i64 r∧s0≤s∧s≤r∧r≤r0∧(s=s0∨lt d[mid+m-s]! d[s-1]! = false)∧(r=r0∨lt d[mid+m-1-r]! d[r]! = true)∧SU enc k g T cs (W.alloc (LSo f lb sf sb)) d wr) (fun vs vr _=>(intOf vr).toNat-(intOf vs).toNat)
  case atStart=>exact ⟨s0,r0,rfl,rfl,by omega,by omega,by omega,.inl rfl,.inl rfl,HB.out.self⟩
  case round=>
   obtain ⟨s,r,rfl,rfl,hs,hsr2,hr,hc1,hc2,hS⟩:=hrel
   have c0:wr.cell? ⟨W.heap.size,0,none⟩=some (.func (.func f) #[] lb):=by rw [hS.oth (by simp) (by omega)]; simp
   have c1:wr.cell? ⟨W.heap.size,1,none⟩=some (.func (.func sf) #[] sb):=by rw [hS.oth (by simp) (by omega)]; simp
   have HS:Hid (SU enc k g T cs (W.alloc (LSo f lb sf sb)) d wr):=hS
   have HC1:Hid (s=s0∨lt d[mid+m-s]! d[s-1]! = false):=hc1
   have HC2:Hid (r=r0∨lt d[mid+m-1-r]! d[r]! = true):=hc2
   clear hS hc1 hc2
   by_cases hlt:s<r
   ·have hq:mid+m-1-(s+r) / 2<n:=by rcases HS0.out with h | h <;> omega
    have hl:=HLS.out d wr HS.out hd (mid+m-1-(s+r) / 2) ((s+r) / 2) hq (by omega)
    rw [show ((mid+m-1-(s+r) / 2:Nat):Int)=(mid:Int)+(m:Int)-1-((s:Int)+(r:Int)) / 2 by omega,show (((s+r) / 2:Nat):Int)=((s:Int)+(r:Int)) / 2 by omega] at hl
    cases hlv:lt d[mid+m-1-(s+r) / 2]! d[(s+r) / 2]! with
    | true=>
     rw [hlv] at hl
     go_wp2_with (go_at_fn f; refine hl.mono ?_; rintro e w' ⟨rfl,hS,c0',c1',_⟩)
     refine ⟨?_,by simp [intOf]; omega⟩
     exact ⟨s,(s+r) / 2,rfl,by go_num,by omega,by omega,by omega,HC1.out,.inr hlv,hS⟩
    | false=>
     rw [hlv] at hl
     go_wp2_with (go_at_fn f; refine hl.mono ?_; rintro e w' ⟨rfl,hS,c0',c1',_⟩)
     refine ⟨?_,by simp [intOf]; omega⟩
     exact ⟨(s+r) / 2+1,r,by go_num,rfl,by omega,by omega,by omega,.inr (by rw [Nat.add_sub_cancel,show mid+m-((s+r) / 2+1)=mid+m-1-(s+r) / 2 by omega]; exact hlv),HC2.out,hS⟩
   ·have hsr':s=r:=by omega
    subst hsr'
    have hge:¬ s<s:=by omega
    obtain ⟨t,ht⟩:∃ t,t=mid+m-s:=⟨_,rfl⟩
    have htz:(mid:Int)+(m:Int)-(s:Int)=(t:Int):=by omega
    have hms:m≤t:=by omega
    have hst:s+(t-m)=mid:=by omega
    have htb:t≤b:=by rcases HS0.out with h | h <;> omega
    have HT:Hid (t=mid+m-s):=ht
    clear ht
    have dz:∀ x y:Nat,decide ((x:Int)<(y:Int))=decide (x<y):=fun x y=>by by_cases h:x<y <;> simp [h]
    have DZ:Hid _:=dz
    clear dz
    clear hge
    have HC1':Hid (a<s→t<b→lt d[t]! d[s-1]! = false):=fun h1 h2=>by
     rcases HC1.out with h | h
     ·rcases HS0.out with h3 | h3 <;> omega
     ·rw [HT.out]; exact h
    have HC2':Hid (s<m→m<t→lt d[t-1]! d[s]! = true):=fun h1 h2=>by
     rcases HC2.out with h | h
     ·rcases HS0.out with h3 | h3 <;> omega
     ·rw [show t-1=mid+m-1-s by rw [HT.out]; omega]; exact h
    go_upto_region 40 with (fail)
    go_cut [145] (fun s145 wx=>s145=.bool (decide (s<m∧m<t))∧wx=wr)
    case first=>
     by_cases q1:s<m
     ·by_cases q2:m<t
      ·have q3:decide (s<m∧m<t)=true:=decide_eq_true ⟨q1,q2⟩
       go_wp2
       go_meet
       exact ⟨by rw [q3],rfl⟩
      ·have q3:decide (s<m∧m<t)=false:=decide_eq_false fun h=>q2 h.2
       go_wp2
       go_meet
       exact ⟨by rw [q3],rfl⟩
     ·have q3:decide (s<m∧m<t)=false:=decide_eq_false fun h=>q1 h.1
      go_wp2
      go_meet
      exact ⟨by rw [q3],rfl⟩
    case rest=>
    obtain ⟨rfl,rfl⟩:=hcut
    go_upto_if 145 with (fail)
    go_cut [] (fun wx=>∃ e,SU enc k g T cs (W.alloc (LSo f lb sf sb)) e wx∧PermIn a b d e∧∀ k,e[k]! = rotF d s m t k)
    case first=>
     by_cases q:s<m∧m<t
     ·have q3:decide (s<m∧m<t)=true:=decide_eq_true q
      have hc:=HR.out d wc hd HS.out.self s m t (by omega) (by omega) (by omega) q
      go_wp2_with (go_at_call 273; refine hc.mono ?_; rintro e w' ⟨rfl,hE⟩)
      go_meet
      obtain ⟨e,hE1,hE2,hE3⟩:=hE
      exact ⟨e,HS.out.trans hE1,permIn_mono _ _ _ _ _ _ (by omega) (by omega) (by omega) hE2,hE3⟩
     ·have q3:decide (s<m∧m<t)=false:=decide_eq_false q
      go_wp2
      go_meet
      exact ⟨d,HS.out,permIn_refl _ _ _,fun k=>ZhR d (by omega) (by omega) (by omega) k⟩
    case rest=>
    obtain ⟨e,hE1,hE2,hE3⟩:=hcut
    obtain ⟨g1,g2,g3,g4,g5⟩:=Zrk hO HS1.out HS2.out ⟨by omega,by omega⟩ ⟨hms,htb⟩ hst HC1'.out HC2'.out hE3
    have G1:Hid (SortedIn lt a s e):=g1
    have G2:Hid (SortedIn lt s mid e):=g2
    have G3:Hid (SortedIn lt mid t e):=g3
    have G4:Hid (SortedIn lt t b e):=g4
    have G5:Hid (∀ i j,a≤i→i<mid→mid≤j→j<b→lt e[j]! e[i]! = false):=g5
    have hed:e.size=n:=hE2.1.trans hd
    have c0:wc.cell? ⟨W.heap.size,0,none⟩=some (.func (.func f) #[] lb):=by rw [hE1.oth (by simp) (by omega)]; simp
    have c1:wc.cell? ⟨W.heap.size,1,none⟩=some (.func (.func sf) #[] sb):=by rw [hE1.oth (by simp) (by omega)]; simp
    have HE1:Hid (SU enc k g T cs (W.alloc (LSo f lb sf sb)) e wc):=hE1
    have HE2:Hid (PermIn a b d e):=hE2
    clear g1 g2 g3 g4 g5 hE1 hE2 hE3
    go_upto_region 42 with (fail)
    go_cut [158] (fun s158 wx=>s158=.bool (decide (a<s∧s<mid))∧wx=wc)
    case first=>
     by_cases q1:a<s
     ·by_cases q2:s<mid
      ·have q3:decide (a<s∧s<mid)=true:=decide_eq_true ⟨q1,q2⟩
       go_wp2
       go_meet
       exact ⟨by rw [q3],rfl⟩
      ·have q3:decide (a<s∧s<mid)=false:=decide_eq_false fun h=>q2 h.2
       go_wp2
       go_meet
       exact ⟨by rw [q3],rfl⟩
     ·have q3:decide (a<s∧s<mid)=false:=decide_eq_false fun h=>q1 h.1
      go_wp2
      go_meet
      exact ⟨by rw [q3],rfl⟩
    case rest=>
    obtain ⟨rfl,rfl⟩:=hcut
    go_upto_if 158 with (fail)
    go_cut [] (fun wx=>∃ e1,SU enc k g T cs (W.alloc (LSo f lb sf sb)) e1 wx∧PermIn a mid e e1∧SortedIn lt a mid e1)
    case first=>
     by_cases q:a<s∧s<mid
     ·have q3:decide (a<s∧s<mid)=true:=decide_eq_true q
      have hc:=HI.out e _ hed HE1.out.self (HL.out e _ HE1.out) a s mid (by omega) q.1 q.2 (by omega) G1.out G2.out
      go_wp2_with (go_at_call 269; refine hc.mono ?_; rintro e' w' ⟨rfl,hE⟩)
      go_meet
      obtain ⟨e1,hE1,hE2,hE3⟩:=hE
      exact ⟨e1,HE1.out.trans hE1,hE2,hE3⟩
     ·have q3:decide (a<s∧s<mid)=false:=decide_eq_false q
      go_wp2
      go_meet
      refine ⟨e,HE1.out,permIn_refl _ _ _,?_⟩
      by_cases q4:a<s
      ·exact ZfQ G1.out (Nat.le_refl _) (by omega)
      ·exact ZfQ G2.out (by omega) (Nat.le_refl _)
    case rest=>
    obtain ⟨e1,hF1,hF2,hF3⟩:=hcut
    have hed1:e1.size=n:=hF2.1.trans hed
    have g3:SortedIn lt mid t e1:=ZhZ G3.out fun k h1 h2=>hF2.2.1 k (.inr h1)
    have g4:SortedIn lt t b e1:=ZhZ G4.out fun k h1 h2=>hF2.2.1 k (.inr (by omega))
    have c0':wc.cell? ⟨W.heap.size,0,none⟩=some (.func (.func f) #[] lb):=by rw [hF1.oth (by simp) (by omega)]; simp
    have c1':wc.cell? ⟨W.heap.size,1,none⟩=some (.func (.func sf) #[] sb):=by rw [hF1.oth (by simp) (by omega)]; simp
    have K3:Hid (SortedIn lt mid t e1):=g3
    have K4:Hid (SortedIn lt t b e1):=g4
    have HF1:Hid (SU enc k g T cs (W.alloc (LSo f lb sf sb)) e1 wc):=hF1
    have HF2:Hid (PermIn a mid e e1):=hF2
    have HF3:Hid (SortedIn lt a mid e1):=hF3
    clear g3 g4 hF1 hF2 hF3
    have fin:∀ w' e2,SU enc k g T cs (W.alloc (LSo f lb sf sb)) e2 w'→PermIn mid b e1 e2→SortedIn lt mid b e2→∃ e,SU enc k g T cs W e w'∧PermIn a b d e∧SortedIn lt a b e:=fun w' e2 h1 h2 h3=>by
     obtain ⟨x1,x2⟩:=glue hO (by omega) (by omega) (by omega) HF2.out h2 HF3.out h3 G5.out
     exact ⟨e2,HB.out.trans h1,permIn_trans _ _ _ _ _ HE2.out x1,x2⟩
    have FIN:Hid _:=fin
    clear fin
    go_upto_region 44 with (fail)
    go_cut [171] (fun s171 wx=>s171=.bool (decide (mid<t∧t<b))∧wx=wc)
    case first=>
     by_cases q1:mid<t
     ·by_cases q2:t<b
      ·have q3:decide (mid<t∧t<b)=true:=decide_eq_true ⟨q1,q2⟩
       go_wp2
       go_meet
       exact ⟨by rw [q3],rfl⟩
      ·have q3:decide (mid<t∧t<b)=false:=decide_eq_false fun h=>q2 h.2
       go_wp2
       go_meet
       exact ⟨by rw [q3],rfl⟩
     ·have q3:decide (mid<t∧t<b)=false:=decide_eq_false fun h=>q1 h.1
      go_wp2
      go_meet
      exact ⟨by rw [q3],rfl⟩
    case rest=>
    obtain ⟨rfl,rfl⟩:=hcut
    by_cases q:mid<t∧t<b
    ·have q3:decide (mid<t∧t<b)=true:=decide_eq_true q
     have hc:=HI.out e1 _ hed1 HF1.out.self (HL.out e1 _ HF1.out) mid t b (by omega) q.1 q.2 hb K3.out K4.out
     go_wp2_with (go_at_call 269; refine hc.mono ?_; rintro e' w' ⟨rfl,hE⟩)
     go_end0
     obtain ⟨e2,hE1,hE2,hE3⟩:=hE
     exact ⟨rfl,FIN.out _ e2 (HF1.out.trans hE1) hE2 hE3⟩
    ·have q3:decide (mid<t∧t<b)=false:=decide_eq_false q
     go_wp2
     go_end0
     refine ⟨rfl,FIN.out _ e1 HF1.out (permIn_refl _ _ _) ?_⟩
     by_cases q4:mid<t
     ·exact ZfQ K3.out (Nat.le_refl _) (by omega)
     ·exact ZfQ K4.out (by omega) (Nat.le_refl _)
end
section
variable {α:Type} [Inhabited α] {lt:α→α→Bool}
def MI (lt:α→α→Bool) (bs n q:Nat) (d:Array α):Prop:=(∀ p,p<q→SortedIn lt (p*(2*bs)) (p*(2*bs)+2*bs) d)∧∀ p,2*q≤p→SortedIn lt (p*bs) (min (p*bs+bs) n) d
theorem mul2 (q bs:Nat):(2*q)*bs=q*(2*bs):=by rw [Nat.mul_comm 2 q,Nat.mul_assoc]
theorem MI.zero {bs n:Nat} {d:Array α} (h:Runs lt bs n d):MI lt bs n 0 d:=⟨fun p hp=>by omega,fun p _=>h p⟩
theorem MI.left {bs n q A:Nat} {d:Array α} (h:MI lt bs n q d) (hA:A=q*(2*bs)) (hn:A+bs≤n):SortedIn lt A (A+bs) d:=by
 have:=h.2 (2*q) (Nat.le_refl _)
 rw [mul2,← hA,Nat.min_eq_left hn] at this
 exact this
theorem MI.right {bs n q A:Nat} {d:Array α} (h:MI lt bs n q d) (hA:A=q*(2*bs)):SortedIn lt (A+bs) (min (A+2*bs) n) d:=by
 have:=h.2 (2*q+1) (by omega)
 rw [Nat.add_mul,Nat.one_mul,mul2,← hA,show A+bs+bs=A+2*bs by omega] at this
 exact this
theorem MI.last {bs n q A:Nat} {d:Array α} (h:MI lt bs n q d) (hA:A=q*(2*bs)) (hn:n≤A+bs):SortedIn lt A n d:=by
 have:=h.2 (2*q) (Nat.le_refl _)
 rw [mul2,← hA,Nat.min_eq_right hn] at this
 exact this
theorem MI.step {bs n q A:Nat} {d e:Array α} (h:MI lt bs n q d) (hA:A=q*(2*bs)) (hp:PermIn A (A+2*bs) d e) (hs:SortedIn lt A (A+2*bs) e):MI lt bs n (q+1) e:=by
 refine ⟨fun p hpq=>?_,fun p hpq=>?_⟩
 ·rcases Nat.lt_or_ge p q with h1 | h1
  ·have h2:(p+1)*(2*bs)≤q*(2*bs):=Nat.mul_le_mul_right _ h1
   rw [Nat.add_mul,Nat.one_mul] at h2
   exact ZhZ (h.1 p h1) fun k _ hk=>hp.2.1 k (.inl (by omega))
  ·have:p=q:=by omega
   subst this
   rw [← hA]; exact hs
 ·have h2:(2*(q+1))*bs≤p*bs:=Nat.mul_le_mul_right _ hpq
  rw [mul2,Nat.add_mul,Nat.one_mul] at h2
  exact ZhZ (h.2 p (by omega)) fun k hk _=>hp.2.1 k (.inr (by omega))
theorem MI.fin {bs n q A:Nat} {d e:Array α} (h:MI lt bs n q d) (hA:A=q*(2*bs)) (hn:n<A+2*bs) (hp:PermIn A n d e) (hs:SortedIn lt A n e):Runs lt (2*bs) n e:=by
 intro p
 rcases Nat.lt_trichotomy p q with h1 | h1 | h1
 ·have h2:(p+1)*(2*bs)≤q*(2*bs):=Nat.mul_le_mul_right _ h1
  rw [Nat.add_mul,Nat.one_mul] at h2
  exact ZhZ (ZfQ (h.1 p h1) (Nat.le_refl _) (Nat.min_le_left _ _)) fun k _ hk=>hp.2.1 k (.inl (by omega))
 ·subst h1
  rw [← hA,Nat.min_eq_right (by omega)]; exact hs
 ·have h2:(q+1)*(2*bs)≤p*(2*bs):=Nat.mul_le_mul_right _ h1
  rw [Nat.add_mul,Nat.one_mul] at h2
  exact Zok (by omega)
def BI (lt:α→α→Bool) (q:Nat) (d:Array α):Prop:=∀ p,p<q→SortedIn lt (p*20) (p*20+20) d
theorem BI.step {q:Nat} {d e:Array α} (h:BI lt q d) (hp:PermIn (q*20) (q*20+20) d e) (hs:SortedIn lt (q*20) (q*20+20) e):BI lt (q+1) e:=fun p hpq=>by
 by_cases h1:p=q
 ·subst h1; exact hs
 ·exact ZhZ (h p (by omega)) fun k _ hk=>hp.2.1 k (.inl (by omega))
theorem BI.fin {q n:Nat} {d e:Array α} (h:BI lt q d) (hn:n<q*20+20) (hp:PermIn (q*20) n d e) (hs:SortedIn lt (q*20) n e):Runs lt 20 n e:=fun p=>by
 rcases Nat.lt_trichotomy p q with h1 | h1 | h1
 ·exact ZhZ (ZfQ (h p h1) (Nat.le_refl _) (Nat.min_le_left _ _)) fun k _ hk=>hp.2.1 k (.inl (by omega))
 ·subst h1
  exact ZfQ hs (Nat.le_refl _) (Nat.min_le_right _ _)
 ·exact Zok (by omega)
variable {enc:α→List Value} {k:Nat} {g:Nat} {T:TypeId} {cs:Nat}
variable (hk:∀ x,(enc x).length=k) (f:Nat) (lb:Array Value) (sf:Nat) (sb:Array Value) (n:Nat) (hn:n<1152921504606846976) (hswap:SwapSwapsK Tryz.prog sf sb enc k g 0 n)
include hk hn hswap
theorem Zpk (hO:SWO lt) (eg:∀ args w,(callFunc f args).run Tryz.prog w=.ok (.enter f args) w) {d:Array α} {W:World} (hd:d.size=n) (h0:SU enc k g T cs W d W) (hL:ZfS f lb enc k lt g T cs n W):
 Calls Tryz.prog 241 #[LS f lb sf sb,.int .i64 n] W fun e w'=>e=.returned (.tuple #[])∧∃ e,SU enc k g T cs W e w'∧PermIn 0 n d e∧SortedIn lt 0 n e:=by
 have hB:SU enc k g T cs W d (W.alloc (LSo f lb sf sb)):=h0.more (Up.al _ (Up.rfl' W))
 have HL:Hid (∀ d' W',SU enc k g T cs (W.alloc (LSo f lb sf sb)) d' W'→ZfS f lb enc k lt g T cs n W'):=fun d' W' h'=>hL.on (hB.trans h')
 have HB:Hid (SU enc k g T cs W d (W.alloc (LSo f lb sf sb))):=hB
 have hI:=fun (d':Array α) (W':World) (hd':d'.size=n) (h':SU enc k g T cs W' d' W') (hL':ZfS f lb enc k lt g T cs n W') (a b:Nat) (hab:a≤b) (hb:b≤n)=>Znv hk f lb sf sb n hn hswap eg hd' h' hL' a b hab hb
 have hM:=fun (d':Array α) (W':World) (hd':d'.size=n) (h':SU enc k g T cs W' d' W') (hL':ZfS f lb enc k lt g T cs n W') (a m b:Nat)=>ZrD hk f lb sf sb n hn hswap hO eg (b-a) d' W' hd' h' hL' a m b (Nat.le_refl _)
 have HI:Hid _:=hI
 have HM:Hid _:=hM
 have hg:=h0.lt
 clear h0 hL hI hM
 go_enter Tryz.func241,Tryz.ntmps241
 go_wp2
 go_loopw [5,6] (fun v5 v6 wr=>∃ (q:Nat) (dk:Array α),v5=.int .i64 ((q:Int)*20)∧v6=.int .i64 ((q:Int)*20+20)∧q*20≤n∧PermIn 0 n d dk∧BI lt q dk∧SU enc k g T cs (W.alloc (LSo f lb sf sb)) dk wr) (fun v5 v6 _=>n-(intOf v5).toNat)
 case atStart=>exact ⟨0,d,by go_num,by go_num,by omega,permIn_refl _ _ _,fun p hp=>by omega,hB.self⟩
 case round=>
  obtain ⟨q,dk,rfl,rfl,hq,hP,hBI,hS⟩:=hrel
  have c0:wr.cell? ⟨W.heap.size,0,none⟩=some (.func (.func f) #[] lb):=by rw [hS.oth (by simp) (by omega)]; simp
  have c1:wr.cell? ⟨W.heap.size,1,none⟩=some (.func (.func sf) #[] sb):=by rw [hS.oth (by simp) (by omega)]; simp
  have hds:dk.size=n:=hP.1.trans hd
  have HS:Hid (SU enc k g T cs (W.alloc (LSo f lb sf sb)) dk wr):=hS
  have HP:Hid (PermIn 0 n d dk):=hP
  have HBI:Hid (BI lt q dk):=hBI
  clear hS hB hP hBI
  by_cases hle:q*20+20≤n
  ·have hlez:(q:Int)*20+20≤(n:Int):=by omega
   have hc:=HI.out dk wr hds HS.out.self (HL.out dk wr HS.out) (q*20) (q*20+20) (by omega) hle
   rw [show ((q*20:Nat):Int)=(q:Int)*20 by omega,show ((q*20+20:Nat):Int)=(q:Int)*20+20 by omega] at hc
   go_wp2_with (go_at_call 268; refine hc.mono ?_; rintro e w' ⟨rfl,hE⟩)
   have x:=insertionSort_holds hO dk (q*20) (q*20+20) (by omega) (by omega)
   exact ⟨⟨q+1,_,by congr 1 <;> omega,by congr 1 <;> omega,by omega,permIn_trans _ _ _ _ _ HP.out (permIn_mono _ _ _ _ _ _ (by omega) (by omega) (by omega) x.1),HBI.out.step x.1 x.2,HS.out.trans hE⟩,by simp [intOf]; omega⟩
  ·have hlez:¬ (q:Int)*20+20≤(n:Int):=by omega
   have hc:=HI.out dk wr hds HS.out.self (HL.out dk wr HS.out) (q*20) n hq (Nat.le_refl _)
   rw [show ((q*20:Nat):Int)=(q:Int)*20 by omega] at hc
   go_wp2_with (go_at_call 268; refine hc.mono ?_; rintro e w' ⟨rfl,hE⟩)
   have x:=insertionSort_holds hO dk (q*20) n (by omega) (by omega)
   have hR0:=HBI.out.fin (by omega) x.1 x.2
   have hP0:=permIn_trans _ _ _ _ _ HP.out (permIn_mono _ _ _ _ _ _ (by omega) (Nat.le_refl _) (by omega) x.1)
   have hS0:=HS.out.trans hE
   clear x c0 c1
   go_loopw [4,5,6,7] (fun v4 v5 v6 v7 wr=>∃ (bs:Nat) (dk:Array α),v4=.int .i64 (bs:Int)∧1≤bs∧bs≤2*n+20∧PermIn 0 n d dk∧Runs lt bs n dk∧SU enc k g T cs (W.alloc (LSo f lb sf sb)) dk wr) (fun v4 _ _ _ _=>n-(intOf v4).toNat)
   case atStart=>exact ⟨20,_,by go_num,by omega,by omega,hP0,hR0,hS0⟩
   case round=>
    obtain ⟨bs,dk2,rfl,hb1,hb2,hP2,hR2,hS2⟩:=hrel
    have HP2:Hid (PermIn 0 n d dk2):=hP2
    have HR2:Hid (Runs lt bs n dk2):=hR2
    have HS2:Hid (SU enc k g T cs (W.alloc (LSo f lb sf sb)) dk2 wr):=hS2
    clear hP2 hR2 hS2 hP0 hR0 hS0 hE hlez hle hc HS HP HBI hq
    by_cases hlt:bs<n
    ·go_wp2
     go_loopw [5,6] (fun v5 v6 wr=>∃ (A:Nat) (dk:Array α),v5=.int .i64 (A:Int)∧v6=.int .i64 ((A:Int)+2*(bs:Int))∧A≤n∧PermIn 0 n d dk∧(∃ q,A=q*(2*bs)∧MI lt bs n q dk)∧SU enc k g T cs (W.alloc (LSo f lb sf sb)) dk wr) (fun v5 v6 _=>n-(intOf v5).toNat)
     case atStart=>exact ⟨0,dk2,by go_num,by go_num,by omega,HP2.out,⟨0,by omega,MI.zero HR2.out⟩,HS2.out⟩
     case round=>
      obtain ⟨A,dk3,rfl,rfl,hA,hP3,hM3,hS3⟩:=hrel
      have c0:wr.cell? ⟨W.heap.size,0,none⟩=some (.func (.func f) #[] lb):=by rw [hS3.oth (by simp) (by omega)]; simp
      have c1:wr.cell? ⟨W.heap.size,1,none⟩=some (.func (.func sf) #[] sb):=by rw [hS3.oth (by simp) (by omega)]; simp
      have hds3:dk3.size=n:=hP3.1.trans hd
      have HP3:Hid (PermIn 0 n d dk3):=hP3
      have HM3:Hid (∃ q,A=q*(2*bs)∧MI lt bs n q dk3):=hM3
      have HS3:Hid (SU enc k g T cs (W.alloc (LSo f lb sf sb)) dk3 wr):=hS3
      clear hP3 hM3 hS3
      by_cases hle:A+2*bs≤n
      ·have hlez:(A:Int)+2*(bs:Int)≤(n:Int):=by omega
       have hc:=HM.out dk3 wr hds3 HS3.out.self (HL.out dk3 wr HS3.out) A (A+bs) (A+2*bs) (by omega) (by omega) hle (by obtain ⟨q,h1,h2⟩:=HM3.out; exact h2.left h1 (by omega)) (by obtain ⟨q,h1,h2⟩:=HM3.out; have:=h2.right h1; rwa [Nat.min_eq_left hle] at this)
       rw [show ((A+bs:Nat):Int)=(A:Int)+(bs:Int) by omega,show ((A+2*bs:Nat):Int)=(A:Int)+2*(bs:Int) by omega] at hc
       go_wp2_with (go_at_call 269; refine hc.mono ?_; rintro e w' ⟨rfl,hE⟩)
       obtain ⟨e,hE1,hE2,hE3⟩:=hE
       exact ⟨⟨A+2*bs,e,by congr 1 <;> omega,by congr 1 <;> omega,hle,permIn_trans _ _ _ _ _ HP3.out (permIn_mono _ _ _ _ _ _ (by omega) hle (by omega) hE2),(by obtain ⟨q,h1,h2⟩:=HM3.out; exact ⟨q+1,by rw [Nat.add_mul,Nat.one_mul,← h1],h2.step h1 hE2 hE3⟩),HS3.out.trans hE1⟩,by simp [intOf]; omega⟩
      ·have hlez:¬ (A:Int)+2*(bs:Int)≤(n:Int):=by omega
       by_cases hm:A+bs<n
       ·have hmz:(A:Int)+(bs:Int)<(n:Int):=by omega
        have hc:=HM.out dk3 wr hds3 HS3.out.self (HL.out dk3 wr HS3.out) A (A+bs) n (by omega) (by omega) (Nat.le_refl _) (by obtain ⟨q,h1,h2⟩:=HM3.out; exact h2.left h1 (by omega)) (by obtain ⟨q,h1,h2⟩:=HM3.out; have:=h2.right h1; rwa [Nat.min_eq_right (by omega)] at this)
        rw [show ((A+bs:Nat):Int)=(A:Int)+(bs:Int) by omega] at hc
        go_wp2_with (go_at_call 269; refine hc.mono ?_; rintro e w' ⟨rfl,hE⟩)
        obtain ⟨e,hE1,hE2,hE3⟩:=hE
        exact ⟨⟨2*bs,e,by congr 1 <;> omega,by omega,by omega,permIn_trans _ _ _ _ _ HP3.out (permIn_mono _ _ _ _ _ _ (by omega) (Nat.le_refl _) (by omega) hE2),(by obtain ⟨q,h1,h2⟩:=HM3.out; exact h2.fin h1 (by omega) hE2 hE3),HS3.out.trans hE1⟩,by simp [intOf]; omega⟩
       ·have hmz:¬ (A:Int)+(bs:Int)<(n:Int):=by omega
        go_wp2
        exact ⟨⟨2*bs,dk3,by congr 1 <;> omega,by omega,by omega,HP3.out,(by obtain ⟨q,h1,h2⟩:=HM3.out; exact h2.fin h1 (by omega) (permIn_refl _ _ _) (h2.last h1 (by omega))),HS3.out⟩,by simp [intOf]; omega⟩
    ·have hge:¬ (bs:Int)<(n:Int):=by omega
     go_wp2
     go_end0
     refine ⟨rfl,dk2,HB.out.trans HS2.out,HP2.out,?_⟩
     have:=HR2.out 0
     rw [Nat.zero_mul,Nat.zero_add,Nat.min_eq_right (by omega)] at this
     exact this
end
end Go.Proofs.YtmcdjilbkmhfoaaGreat
namespace Go.Proofs.YtmcdjilbkmhfoaaGreat
set_option maxRecDepth 10000
open Go.RowKit
set_option linter.unusedVariables false
set_option linter.unusedSimpArgs false
class Zhe {α β:Type} [Enc β] (c:α→List PV) (g:α→β):Prop where
 len:∀ x,(c x).length=Enc.k β
 at_:∀ x (j:Nat) (p:PV),(c x)[j]?=some p→∃ u,(Enc.cells (g x))[j]?=some u∧p=.v u
theorem ZqE {α β:Type} [Enc β] {c:α→List PV} (g:α→β) [hf:Zhe c g] {w:World} {S:Nat→Prop} {xs:List α} {x:Value} (hsz:∀ b,S b→b<w.heap.size) (h:RepC w S (.sl (xs.map c)) x):
 ∃ A n,x=.slice A xs.length n∧xs.length≤n∧(xs≠[]→n≤maxLen)∧Rd w w.heap.size A (xs.map g):=by
 generalize hq:PV.sl (xs.map c)=q at h
 cases h with
 | v x h=>cases hq
 | ud=>cases hq
 | un=>cases hq
 | rp=>cases hq
 | fn=>cases hq
 | nil A n=>
  have:xs=[]:=by simpa using hq
  exact ⟨A,n,by rw [this]; rfl,by rw [this]; simp,fun h=>absurd this h,by rw [this]; exact Rd.nil_⟩
 | sl es b off k n u hS hkp hnc hm hes hcc h1 hrr=>
  obtain rfl:xs.map c=es:=by simpa using hq
  refine ⟨_,n,by simp,by simpa using hnc,fun _=>hm,fun hne=>⟨b,off,rfl,hsz b hS,fun t u' hu'=>?_⟩⟩
  have hne':xs≠[]:=fun e=>hne (by rw [e]; rfl)
  have hpos:0<xs.length:=List.length_pos_iff.2 hne'
  have hk1:k=Enc.k β:=((hes 0 (c xs[0]) (by simp [hpos])).symm).trans (hf.len _)
  subst hk1
  have hkp':0<Enc.k β:=hkp
  have ht:=(List.getElem?_eq_some_iff.1 hu').1
  rw [Zds,List.length_map] at ht
  have hi:t / Enc.k β<xs.length:=by rw [Nat.div_lt_iff_lt_mul hkp']; exact ht
  have hj:=Nat.mod_lt t hkp'
  have e0:t / Enc.k β*Enc.k β+t % Enc.k β=t:=by rw [Nat.mul_comm]; exact Nat.div_add_mod t _
  have e1:(xs.map c)[t / Enc.k β]?=some (c xs[t / Enc.k β]):=by simp [hi]
  have e2:(c xs[t / Enc.k β])[t % Enc.k β]?=some ((c xs[t / Enc.k β])[t % Enc.k β]'(by rw [hf.len]; exact hj)):=List.getElem?_eq_getElem _
  obtain ⟨v,hv,hp⟩:=hf.at_ _ _ _ e2
  have hfl:=Zfa (xs:=xs.map g) (i:=t / Enc.k β) (x:=g xs[t / Enc.k β]) (by simp [hi]) hv
  rw [e0,hu'] at hfl
  obtain rfl:=Option.some.inj hfl
  have hc:=hcc _ _ _ _ e1 e2
  have hz:=hrr _ _ _ _ e1 e2
  rw [hp] at hz
  have hz':u (t / Enc.k β) (t % Enc.k β)=u':=by
   generalize u (t / Enc.k β) (t % Enc.k β)=z at hz
   cases hz with
   | v _ _=>rfl
  rw [hz'] at hc
  rw [← e0,← Nat.add_assoc]
  exact hc
theorem ZrV {vs:Array Value} {x0 x1 x2:Value} (h:vs.size=3) (h0:vs[0]?=some x0) (h1:vs[1]?=some x1) (h2:vs[2]?=some x2):vs=#[x0,x1,x2]:=by
 apply Array.ext (by simp [h])
 intro i hi h3
 have a0:=(Array.getElem?_eq_some_iff.1 h0).2
 have a1:=(Array.getElem?_eq_some_iff.1 h1).2
 have a2:=(Array.getElem?_eq_some_iff.1 h2).2
 match i,hi with
 | 0,_=>simpa using a0
 | 1,_=>simpa using a1
 | 2,_=>simpa using a2
 | i+3,hi=>omega
theorem Zob {w:World} {E:Env} {a x:Value} (h:Rep w E (.v a) x):x=a:=h.v_inv.1
instance:Zhe cInt (id:Int→Int):=⟨fun x=>rfl,fun x j p h=>by
 cases j with
 | zero=>obtain rfl:vi x=p:=by simpa using h
         exact ⟨_,rfl,rfl⟩
 | succ j=>simp [cInt] at h⟩
set_option maxHeartbeats 16000000
def Zdt (i:Int) (j:Int) (c0_:List YBooking):Option Bool:=
 (getI c0_ i).bind fun y1=>
 (getI c0_ j).bind fun y2=>
 (Zao y1 y2).bind fun y3=>
 some (decide (y3<0))
instance (i:Int) (j:Int) (c0_:List YBooking):CT Tryz.prog (Zdt i j c0_):=⟨201,[vi i,vi j,.rp [.sl (c0_.map cBooking)]],[],fun r=>vb r,fun r=>[],fun H=>by replace H:=H0 H; unfold Zdt at H; exact callM_of Tryz.func201 rfl Tryz.ntmps201 Tryz.results201 fun Q hQ hQn=>wk3⟩
end Go.Proofs.YtmcdjilbkmhfoaaGreat
namespace Go.Proofs.YtmcdjilbkmhfoaaGreat
set_option maxRecDepth 10000
open Go.RowKit Go.Lib Go.Sort
set_option linter.unusedVariables false
set_option linter.unusedSimpArgs false
set_option maxRecDepth 100000
set_option maxHeartbeats 4000000
instance:Enc YBooking where
 cells x:=[I x.thing,I x.trip.leg,I x.trip.day,I x.weight]
 k:=4
 len _:=rfl
 pos:=by decide
 one:=by simp [Value.oneCell',I]
instance:Enc YTrip where
 cells x:=[I x.leg,I x.day]
 k:=2
 len _:=rfl
 pos:=by decide
 one:=by simp [Value.oneCell',I]
instance:Zhe cBooking (id:YBooking→YBooking):=⟨fun x=>rfl,fun x j p h=>by
 match j with
 | 0=>obtain rfl:_=p:=Option.some.inj h
      exact ⟨_,rfl,rfl⟩
 | 1=>obtain rfl:_=p:=Option.some.inj h
      exact ⟨_,rfl,rfl⟩
 | 2=>obtain rfl:_=p:=Option.some.inj h
      exact ⟨_,rfl,rfl⟩
 | 3=>obtain rfl:_=p:=Option.some.inj h
      exact ⟨_,rfl,rfl⟩
 | j+4=>simp [cBooking] at h⟩
instance:Zhe cTrip (id:YTrip→YTrip):=⟨fun x=>rfl,fun x j p h=>by
 match j with
 | 0=>obtain rfl:_=p:=Option.some.inj h
      exact ⟨_,rfl,rfl⟩
 | 1=>obtain rfl:_=p:=Option.some.inj h
      exact ⟨_,rfl,rfl⟩
 | j+2=>simp [cTrip] at h⟩
instance:Inhabited YBooking:=⟨⟨0,⟨0,0⟩,0⟩⟩
theorem ZiB (a b:YBooking):befB a b=true↔a.trip.day<b.trip.day∨(a.trip.day=b.trip.day∧(a.trip.leg<b.trip.leg∨(a.trip.leg=b.trip.leg∧a.thing<b.thing))):=by
 unfold befB
 repeat' split
 all_goals simp only [decide_eq_true_eq]
 all_goals omega
theorem ZiC (a b:YBooking):befB a b=false↔¬ (a.trip.day<b.trip.day∨(a.trip.day=b.trip.day∧(a.trip.leg<b.trip.leg∨(a.trip.leg=b.trip.leg∧a.thing<b.thing)))):=by
 rw [← ZiB]; simp
theorem Zi5:SWO befB:=⟨fun x=>(ZiC _ _).2 (by omega),fun x y z h1 h2=>(ZiB _ _).2 (by have:=(ZiB _ _).1 h1; have:=(ZiB _ _).1 h2; omega),fun x y z h1 h2=>(ZiC _ _).2 (by have:=(ZiC _ _).1 h1; have:=(ZiC _ _).1 h2; omega)⟩
theorem ZlP {b:Nat}:¬ own0 (fun _=>none) b:=by rintro ⟨l,B,h,_⟩; cases h
theorem CallM.valT {P:Program} {f:FuncId} {args:List PV} {val:Value} (h:CallM P f args [] (.v val) []) {w:World} (ht:Tab w (own0 fun _=>none)) {vs:Array Value} (hl:vs.size=args.length) (ha:∀ (i:Nat) (p:PV),args[i]?=some p→∃ x,vs[i]?=some x∧Rep w (E1 (fun b=>b<w.heap.size) (fun _=>none) 0) p x):
 Calls P f vs w fun e w'=>e=.returned val∧Up w w':=by
 have hok:Ok w (own0 fun _=>none) (E1 (fun b=>b<w.heap.size) (fun _=>none) 0) w []:=
  ⟨UpO.refl _ _,fun b h=>h,fun l B h=>(by cases h),fun l l' B B' h=>(by cases h),fun l h=>absurd h (Nat.not_lt_zero l),fun l B h=>(by cases h),fun l mb h=>(by simp at h),fun l B h=>(by cases h),ht,fun _ _ h=>h.elim⟩
 refine (h (fun b=>b<w.heap.size) (fun _=>none) w vs (fun _ _=>False) hok hl ha).mono ?_
 rintro e w' ⟨v,E',rfl,hk,_,_,_,hr⟩
 obtain ⟨rfl,_⟩:=hr.v_inv
 exact ⟨rfl,hk.up.os,hk.up.tape,hk.up.output,hk.up.size,fun b hb=>hk.up.block b hb ZlP⟩
theorem Zop {w w':World} {O O':Nat→Prop} (h:Tab w O) (hu:UpO O' w w') (hO:∀ b,b<w.heap.size→O' b→O b):Tab w' (own0 fun _=>none):=by
 obtain ⟨T,h1,h2⟩:=h
 exact ⟨T,fun b hb=>⟨Nat.lt_of_lt_of_le (h1 b hb).1 hu.size,ZlP⟩,fun w'' hw''=>h2 w'' fun b hb=>(hw'' b hb).trans (hu.block b (h1 b hb).1 fun h=>(h1 b hb).2 (hO b (h1 b hb).1 h))⟩
theorem Zn6 {α β:Type} [Enc β] {c:α→List PV} (g:α→β) [hf:Zhe c g] {w:World} {A:Option Addr} {n:Nat} {xs:List α} (h:Rd w w.heap.size A (xs.map g)) (hn:xs.length≤n) (hm:n≤maxLen):RepC w (fun b=>b<w.heap.size) (.sl (xs.map c)) (.slice A xs.length n):=by
 by_cases h0:xs=[]
 ·subst h0; exact .nil _ _
 obtain ⟨b,off,rfl,hb,hc⟩:=h (by simpa using h0)
 have hlen:(xs.map c).length=xs.length:=by simp
 have key:∀ (i:Nat) (cs:List PV) (j:Nat) (p:PV),(xs.map c)[i]?=some cs→cs[j]?=some p→∃ u,w.cell? ⟨b,off+i*Enc.k β+j,none⟩=some u∧u.oneCell'=true∧p=.v u:=by
  intro i cs j p hi hj
  rw [List.getElem?_map] at hi
  obtain ⟨x,hx,rfl⟩:=Option.map_eq_some_iff.1 hi
  obtain ⟨u,hu,hp⟩:=hf.at_ x j p hj
  have hfl:=Zfa (xs:=xs.map g) (i:=i) (x:=g x) (by rw [List.getElem?_map,hx]; rfl) hu
  exact ⟨u,by rw [Nat.add_assoc]; exact hc _ u hfl,Enc.one _ u (List.mem_of_getElem? hu),hp⟩
 rw [← hlen]
 exact .sl _ b off (Enc.k β) n (fun i j=>(w.cell? ⟨b,off+i*Enc.k β+j,none⟩).getD .nilIface) hb Enc.pos (by rw [hlen]; exact hn) hm
  (fun i cs hi=>by
   rw [List.getElem?_map] at hi
   obtain ⟨x,_,rfl⟩:=Option.map_eq_some_iff.1 hi
   exact hf.len x)
  (fun i cs j p hi hj=>by obtain ⟨u,x1,_⟩:=key i cs j p hi hj; rw [x1]; rfl)
  (fun i cs j p hi hj=>by obtain ⟨u,x1,x2,_⟩:=key i cs j p hi hj; rw [x1]; exact x2)
  (fun i cs j p hi hj=>by obtain ⟨u,x1,x2,rfl⟩:=key i cs j p hi hj; rw [x1]; exact .v u x2)
section
variable {β:Type} [Enc β] [Inhabited β]
theorem Zio (d:Array β):(flatK Enc.cells (Enc.k β) d).toList=flat d.toList:=by
 apply List.ext_getElem?
 intro t
 have hk:0<Enc.k β:=Enc.pos
 rcases Nat.lt_or_ge t (d.size*Enc.k β) with h | h
 ·have h1:t<(flatK Enc.cells (Enc.k β) d).size:=by rw [size_flatK]; exact h
  have hi:t / Enc.k β<d.size:=by rw [Nat.div_lt_iff_lt_mul hk]; exact h
  have hj:=Nat.mod_lt t hk
  have e0:t / Enc.k β*Enc.k β+t % Enc.k β=t:=by rw [Nat.mul_comm]; exact Nat.div_add_mod t _
  have hc:(Enc.cells d[t / Enc.k β]!)[t % Enc.k β]?=some ((Enc.cells d[t / Enc.k β]!)[t % Enc.k β]'(by rw [Enc.len]; exact hj)):=List.getElem?_eq_getElem _
  have hf:=Zfa (xs:=d.toList) (i:=t / Enc.k β) (x:=d[t / Enc.k β]!) (by rw [Array.getElem?_toList,getElem!_pos d _ hi]; exact Array.getElem?_eq_getElem hi) hc
  rw [e0] at hf
  rw [hf,Array.getElem?_toList,Array.getElem?_eq_getElem h1,← getElem!_pos,get_flatK _ _ _ _ h]
  rw [getElem!_pos _ _ (by rw [Enc.len]; exact hj)]
 ·rw [List.getElem?_eq_none (by rw [Array.length_toList,size_flatK]; exact h),List.getElem?_eq_none (by rw [Zds,Array.length_toList]; exact h)]
theorem Zrq {w:World} {B E:Nat} {v:Value} {xs:List β} (h:Own w B E v xs) (h2:0<xs.length):
 ∃ g c,v=.slice (some ⟨g,0,none⟩) xs.length c∧B≤g∧xs.length≤c∧c≤maxLen∧SU (Enc.cells (α:=β)) (Enc.k β) g E (c*Enc.k β) w xs.toArray w:=by
 rcases h.2 with ⟨_,h0⟩ | ⟨g,cap,cur,hv,hB,hg,hnc,hcm,hcs,ht⟩
 ·omega
 refine ⟨g,cap,hv,hB,hnc,hcm,UpO.refl _ _,?_,cur,hg,hcs⟩
 intro t htl
 rw [size_flatK] at htl
 have hfl:(flatK (Enc.cells (α:=β)) (Enc.k β) xs.toArray).toList=flat xs:=by rw [Zio]
 refine ⟨?_,by simp [World.frozen?,hg]⟩
 rw [Nat.zero_add,cell_of_row w g t cur E (0,0) hg]
 have h1:t<(flatK (Enc.cells (α:=β)) (Enc.k β) xs.toArray).size:=by rw [size_flatK]; exact htl
 have h3:(flat xs)[t]?=some (id (flatK (Enc.cells (α:=β)) (Enc.k β) xs.toArray)[t]!):=by
  rw [← hfl,Array.getElem?_toList,getElem!_pos (flatK (Enc.cells (α:=β)) (Enc.k β) xs.toArray) t h1]
  exact Array.getElem?_eq_getElem h1
 rw [← ht,List.getElem?_take] at h3
 split at h3
 ·rw [← Array.getElem?_toList]; exact h3
 ·cases h3
theorem Zp2 {w0 W:World} {B E g c:Nat} {d:Array β} (h:SU (Enc.cells (α:=β)) (Enc.k β) g E (c*Enc.k β) w0 d W) (hB:B≤g) (hn:d.size≤c) (hm:c≤maxLen):Own W B E (.slice (some ⟨g,0,none⟩) d.size c) d.toList:=by
 obtain ⟨cur,hg,hcs⟩:=h.row
 refine ⟨by rw [Zds],.inr ⟨g,c,cur,by rw [Array.length_toList],hB,hg,by rw [Array.length_toList]; exact hn,hm,hcs,?_⟩⟩
 rw [← Zio]
 have hle:d.size*Enc.k β≤c*Enc.k β:=Nat.mul_le_mul_right _ hn
 apply List.ext_getElem?
 intro t
 rw [List.getElem?_take,Array.length_toList]
 split
 ·rename_i ht
  have h1:t<(flatK (Enc.cells (α:=β)) (Enc.k β) d).size:=by rw [size_flatK]; exact ht
  have hh:=(h.hold t h1).1
  rw [Nat.zero_add,cell_of_row W g t cur E (0,0) hg,getElem!_pos (flatK (Enc.cells (α:=β)) (Enc.k β) d) t h1] at hh
  rw [Array.getElem?_toList,Array.getElem?_toList,hh]
  exact (Array.getElem?_eq_getElem h1).symm
 ·rename_i ht
  rw [List.getElem?_eq_none (by rw [Array.length_toList,size_flatK]; omega)]
end
theorem Zoa {w:World} {E:Env} (x:Value) (h:x.oneCell'=true):Rep w E (.v x) x:=.c (.v x h)
theorem Zqr {g c n Bx:Nat} {w0:World} {O:Nat→Prop} (hx:w0.cell? ⟨Bx,0,none⟩=some (.slice (some ⟨g,0,none⟩) n c)) (hBx:Bx<w0.heap.size) (hne:Bx≠g) (hnc:n≤c) (hm:c≤maxLen) (ht:Tab w0 O) (hO:O g):
 ZfS 201 #[.pointer (some ⟨Bx,0,none⟩)] (Enc.cells (α:=YBooking)) 4 befB g 135 (c*4) n w0:=by
 intro d W hS hd i j hi hj
 have hn:d.toList.length=n:=by rw [Array.length_toList,hd]
 have gi:getI d.toList (i:Int)=some d[i]!:=by rw [Zd,Array.getElem?_toList,getElem!_pos d i (by omega)]; exact Array.getElem?_eq_getElem _
 have gj:getI d.toList (j:Int)=some d[j]!:=by rw [Zd,Array.getElem?_toList,getElem!_pos d j (by omega)]; exact Array.getElem?_eq_getElem _
 obtain ⟨v,hv,hvb⟩:=Zjh d[i]! d[j]!
 have H:Zdt (i:Int) (j:Int) d.toList=some (befB d[i]! d[j]!):=by
  unfold Zdt
  rw [gi,Option.bind_some,gj,Option.bind_some,hv,Option.bind_some]
  cases hb:befB d[i]! d[j]! with
  | true=>rw [hb] at hvb; have:=of_decide_eq_false hvb; rw [decide_eq_true (by omega)]
  | false=>rw [hb] at hvb; have:=of_decide_eq_true hvb; rw [decide_eq_false (by omega)]
 have hC:=CT.ok (P:=Tryz.prog) H
 simp only [CT.f,CT.args,CT.m0,CT.res,CT.mem] at hC
 have hcell:W.cell? ⟨Bx,0,none⟩=some (.slice (some ⟨g,0,none⟩) n c):=(hS.oth hBx hne).trans hx
 have hrd:Rd W W.heap.size (some ⟨g,0,none⟩) (d.toList.map id):=by
  have:=(Zp2 (B:=g) hS (Nat.le_refl _) (by omega) hm).rd
  rw [List.map_id]
  exact this
 have hrs:=Zn6 (c:=cBooking) (id:YBooking→YBooking) hrd (n:=c) (by omega) hm
 rw [hn] at hrs
 refine (CallM.valT hC (w:=W) (Zop ht hS.up fun b _ h=>h ▸ hO) rfl fun idx p hp=>?_).mono ?_
 ·match idx with
  | 0=>obtain rfl:_=p:=Option.some.inj hp
       exact ⟨_,rfl,Zoa _ rfl⟩
  | 1=>obtain rfl:_=p:=Option.some.inj hp
       exact ⟨_,rfl,Zoa _ rfl⟩
  | 2=>obtain rfl:_=p:=Option.some.inj hp
       refine ⟨_,rfl,.c (.rp _ Bx 0 (fun _=>.slice (some ⟨g,0,none⟩) n c) (Nat.lt_of_lt_of_le hBx hS.up.size) (fun j p hp=>?_) (fun j p hp=>rfl) fun j p hp=>?_)⟩
       ·match j with
        | 0=>exact hcell
        | j+1=>simp at hp
       ·match j with
        | 0=>obtain rfl:_=p:=Option.some.inj hp
             exact hrs
        | j+1=>simp at hp
  | idx+3=>simp at hp
 ·rintro e w' ⟨rfl,hu⟩
  exact ⟨rfl,hu⟩
noncomputable def bkT:TypeInfo:=(Tryz.prog.info? 37).get (by kernel_rfl)
noncomputable def bkE:TypeInfo:=(Tryz.prog.info? 135).get (by kernel_rfl)
theorem bkK (n:Nat) (h2:2≤n):Lib.swapperK n bkE 25=9:=by
 have a:bkE.hasPointers=false:=by kernel_rfl
 have b:bkE.bytes=32:=by kernel_rfl
 have c:(n == 0)=false:=by simp; omega
 have d:(n == 1)=false:=by simp; omega
 simp [Lib.swapperK,a,b,c,d]
theorem Zqm (w:World) (os:Array Obj):Up w (grow w os):=⟨rfl,rfl,rfl,by rw [size_grow]; omega,fun b hb=>heap_grow_old w os hb⟩
theorem ZqN {B Bx:Nat} {v:Value} {xs:List YBooking} {w:World} {O:Nat→Prop} (ho:Own w B 135 v xs) (hx:w.heap[Bx]?=some (.cells #[v] 37 (0,0))) (hn:xs.length≤1048576) (ht:Tab w O) (hO:∀ b,B≤b→O b):
 Calls Tryz.prog 200 #[.iface 37 v,.func (.func 201) #[] #[.pointer (some ⟨Bx,0,none⟩)]] w fun e w'=>e=.returned (.tuple #[])∧∃ ys,ys.Perm xs∧ys.Pairwise (fun a b=>befB b a=false)∧Own w' B 135 v ys∧UpO (fun b=>B≤b∧b≠Bx) w w':=by
 by_cases h2:2≤xs.length
 case neg=>
  obtain ⟨A,c,rfl,_,_⟩:=ho.form
  have hR:=Tryz.laysGt8
  have key : ∀ f, Tryz.prog.funcs.findIdx? (·.name == "internal/reflectlite" ++ ".Swapper$" ++ toString (Lib.swapperK xs.length bkE 25)) = some f → Calls Tryz.prog 200 #[.iface 37 (.slice A xs.length c), .func (.func 201) #[] #[.pointer (some ⟨Bx, 0, none⟩)]] w fun e w' => e = .returned (.tuple #[]) ∧ ∃ os, w' = grow w os := fun f hf =>
   Any.sort_SliceStable_tiny Tryz.laysGt8 37 135 bkT bkE (by kernel_rfl) (by kernel_rfl) (by kernel_rfl) (by kernel_rfl) 25 (fun _=>by kernel_rfl) A xs.length c (by omega) f hf _ _ _ w
  have key2 : ∃ f, Tryz.prog.funcs.findIdx? (·.name == "internal/reflectlite" ++ ".Swapper$" ++ toString (Lib.swapperK xs.length bkE 25)) = some f := by
   rcases Nat.lt_or_ge 0 xs.length with h | h
   ·rw [show xs.length=1 by omega]
    exact ⟨260,by kernel_rfl⟩
   ·rw [show xs.length=0 by omega]
    exact ⟨259,by kernel_rfl⟩
  obtain ⟨f,hf⟩:=key2
  refine (key f hf).mono ?_
  rintro e w' ⟨rfl,os,rfl⟩
  have hu:=Zqm w os
  refine ⟨rfl,xs,List.Perm.refl _,?_,ho.up hu,⟨hu.os,hu.tape,hu.output,hu.size,fun b hb _=>hu.block b hb⟩⟩
  match xs,h2 with
  | [],_=>exact .nil
  | [x],_=>simp
  | x::y::l,h2=>simp at h2
 case pos=>
  obtain ⟨g,c,rfl,hB,hnc,hcm,hS⟩:=Zrq ho (by omega)
  have hrow:=hS.row
  have hne:Bx≠g:=by
   rintro rfl
   obtain ⟨cells,h1,_⟩:=hrow
   rw [hx] at h1
   simp at h1
  have hBx:Bx<w.heap.size:=(Array.getElem?_eq_some_iff.1 hx).1
  have hcell:w.cell? ⟨Bx,0,none⟩=some (.slice (some ⟨g,0,none⟩) xs.length c):=by rw [cell_of_row w Bx 0 _ _ (0,0) hx]; rfl
  have hlen:xs.length<1152921504606846976:=by omega
  have hB':sliceBound Tryz.prog 135 bkE 25 (some ⟨g,0,none⟩) xs.length c=#[.slice (some ⟨g,0,none⟩) xs.length c,typeHandle Tryz.prog 135]:=by
   unfold sliceBound; rw [if_neg (swapperK_gt _ _ _ h2)]
  have hsw:SwapSwapsK Tryz.prog 267 #[.slice (some ⟨g,0,none⟩) xs.length c,typeHandle Tryz.prog 135] (Enc.cells (α:=YBooking)) 4 g 0 xs.length:=
   swapSwapsK_of_literal false 267 (fun args W=>run_callFunc_extern Tryz.func267 (by kernel_rfl) (by kernel_rfl) (by kernel_rfl) (e:=Extern.ReflectliteSwapper.swap false) (by kernel_rfl) args W) 135 bkE (by kernel_rfl) (Enc.cells (α:=YBooking)) 4 (fun _=>rfl) (by kernel_rfl) (fun _=>by kernel_rfl) Enc.one g 0 xs.length c
  have hless:=Zqr (n:=xs.length) hcell hBx hne hnc hcm ht (hO g hB)
  refine Any.sort_SliceStable_of_stable Tryz.laysGt8 37 135 bkT bkE (by kernel_rfl) (by kernel_rfl) (by kernel_rfl) (by kernel_rfl) 25 (fun _=>by kernel_rfl) (some ⟨g,0,none⟩) xs.length c (by omega) 267 (by rw [bkK _ h2]; kernel_rfl) (.func 201) #[] #[.pointer (some ⟨Bx,0,none⟩)] w (fun w'=>∃ ys,ys.Perm xs∧ys.Pairwise (fun a b=>befB b a=false)∧Own w' B 135 (.slice (some ⟨g,0,none⟩) xs.length c) ys∧UpO (fun b=>B≤b∧b≠Bx) w w') ?_
  rw [hB']
  have hu:Up w (stableWorld Tryz.prog Tryz.laysGt8_ren 37 (some ⟨g,0,none⟩) xs.length c w):=by unfold stableWorld; exact Up.al _ (Up.al _ (Up.rfl' w))
  generalize stableWorld Tryz.prog Tryz.laysGt8_ren 37 (some ⟨g,0,none⟩) xs.length c w=w1 at hu ⊢
  have hS1:=hS.more hu
  have hst:=Zpk (enc:=Enc.cells (α:=YBooking)) (k:=4) (fun _=>rfl) 201 #[.pointer (some ⟨Bx,0,none⟩)] 267 #[.slice (some ⟨g,0,none⟩) xs.length c,typeHandle Tryz.prog 135] xs.length hlen hsw Zi5 (enters_of Tryz.func201 (by kernel_rfl) rfl) (d:=xs.toArray) (by simp) hS1.self (hless.on hS1)
  refine hst.mono ?_
  rintro e w' ⟨rfl,e,hE1,hE2,hE3⟩
  have hE:=hS1.trans hE1
  have hsz:e.size=xs.length:=by rw [hE2.1]; simp
  have hown:=Zp2 (B:=B) (c:=c) hE hB (by omega) hcm
  rw [hsz] at hown
  refine ⟨rfl,e.toList,?_,?_,hown,⟨hE.up.os,hE.up.tape,hE.up.output,hE.up.size,fun b hb hn=>hE.up.block b hb fun h=>hn ⟨h ▸ hB,fun h'=>hne (h' ▸ h.symm ▸ rfl)⟩⟩⟩
  ·have hp:=hE2.2.2
   rw [← hsz] at hp
   rw [Array.extract_size] at hp
   rw [hsz] at hp
   have h3:xs.toArray.extract 0 xs.length=xs.toArray:=by simp
   rw [h3] at hp
   simpa using hp
  ·rw [List.pairwise_iff_getElem]
   intro i j hi hj hij
   have:=hE3 i j (by omega) hij (by rw [Array.length_toList] at hj; omega)
   rw [getElem!_pos e j (by rw [Array.length_toList] at hj; exact hj),getElem!_pos e i (by rw [Array.length_toList] at hi; exact hi)] at this
   simpa using this
end Go.Proofs.YtmcdjilbkmhfoaaGreat
namespace Go.Proofs.YtmcdjilbkmhfoaaGreat
set_option maxRecDepth 10000
open Go.RowKit
set_option linter.unusedVariables false
set_option linter.unusedSimpArgs false
set_option linter.unusedSectionVars false
abbrev leB (a b:YBooking):Prop:=befB b a=false
theorem Zhi {a b:YBooking} (h:befB a b=true):befB b a=false:=Go.Sort.SWO.asymmA Zi5 h
theorem ZmO {l:List YBooking} (hl:l.length≤1048575) (b:YBooking) (hs:l.Pairwise leB):Tot (Zef l b) fun r=>r.length=l.length+1∧r.Perm (l++[b])∧r.Pairwise leB:=by
 unfold Zef
 refine Tot.bind (P:=fun o:Int=>∃ k:Nat,o=(k:Int)∧k≤l.length∧(∀ i (h:i<l.length),i<k→befB l[i] b=true)∧(∀ h:k<l.length,befB l[k] b=false)) ?_ fun o ho=>?_
 ·refine Tot.loop (fun k s=>∃ i:Nat,s=(i:Int)∧i+k=l.length∧∀ j (h:j<l.length),j<i→befB l[j] b=true) (fun k s hs=>?_) NN l.length 0 ⟨0,rfl,by omega,fun j _ h=>by omega⟩ (by unfold NN; omega)
  obtain ⟨i,rfl,hk,hb⟩:=hs
  unfold Zex
  refine Tot.cond (fun hd=>?_) fun hd=>Tot.ret ⟨i,rfl,by omega,fun j h h'=>hb j h h',fun h=>by have:=of_decide_eq_false hd; omega⟩
  have hlt:=of_decide_eq_true hd
  have hw:w64 ((i:Int)+1)=((i+1:Nat):Int):=by rw [Zc (by omega)]; omega
  have hil:i<l.length:=by omega
  have hy:getI l (i:Int)=some l[i]:=by rw [Zd]; exact List.getElem?_eq_getElem hil
  rw [hy,Option.bind_some,Zld,Option.bind_some]
  refine Tot.cond (fun h1=>Tot.ret ⟨k-1,by omega,i+1,hw,by omega,fun j h h'=>?_⟩) fun h1=>Tot.ret ⟨i,rfl,by omega,fun j h h'=>hb j h h',fun _=>h1⟩
  by_cases hji:j=i
  ·subst hji; exact h1
  ·exact hb j h (by omega)
 ·obtain ⟨k,rfl,hk,hbef,hnot⟩:=ho
  have e1:subL l 0 (k:Int)=l.take k:=by unfold subL; simp
  have e2:subL l (k:Int) (l.length:Int)=l.drop k:=by
   unfold subL
   simp only [Int.toNat_natCast]
   rw [List.take_of_length_le (by simp)]
  rw [e1,e2]
  refine Tot.chk (by unfold slOk; exact decide_eq_true (by omega)) ?_
  rw [Zfl (by simp only [List.length_take]; omega),Option.bind_some]
  refine Tot.chk (Zgu (by simp only [List.length_cons,List.length_nil,List.length_take]; omega) (by omega)) (Tot.chk (by unfold slOk; exact decide_eq_true (by omega)) (Tot.chk (Zgu (by simp only [List.length_append,List.length_cons,List.length_nil,List.length_take,List.length_drop]; omega) (by omega)) (Tot.ret ⟨?_,?_,?_⟩)))
  ·simp only [List.length_append,List.length_cons,List.length_nil,List.length_take,List.length_drop]; omega
  ·have h1:(l.take k++[b]++l.drop k).Perm (l.take k++(l.drop k++[b])):=by
    rw [List.append_assoc]
    exact List.Perm.append_left _ List.perm_append_comm
   rw [← List.append_assoc,List.take_append_drop] at h1
   exact h1
  ·have hs1:=List.Pairwise.sublist (List.take_sublist k l) hs
   have hs2:=List.Pairwise.sublist (List.drop_sublist k l) hs
   have hgt:∀ y∈l.drop k,befB y b=false:=fun y hy=>by
    obtain ⟨j,hj,rfl⟩:=List.getElem_of_mem hy
    rw [List.length_drop] at hj
    rw [List.getElem_drop]
    have h0:=hnot (by omega)
    by_cases hj0:j=0
    ·subst hj0; exact h0
    ·have:=List.pairwise_iff_getElem.1 hs k (k+j) (by omega) (by omega) (by omega)
     exact Zi5.ntrans _ _ _ this h0
   have hlt:∀ x∈l.take k,befB x b=true:=fun x hx=>by
    obtain ⟨j,hj,rfl⟩:=List.getElem_of_mem hx
    rw [List.length_take] at hj
    rw [List.getElem_take]
    exact hbef j (by omega) (by omega)
   rw [List.append_assoc,List.pairwise_append]
   refine ⟨hs1,?_,fun x hx y hy=>?_⟩
   ·rw [List.singleton_append,List.pairwise_cons]
    exact ⟨fun y hy=>hgt y hy,hs2⟩
   ·rw [List.singleton_append,List.mem_cons] at hy
    rcases hy with rfl | hy
    ·exact Zhi (hlt x hx)
    ·exact Zi5.ntrans _ _ _ (hgt y hy) (Zhi (hlt x hx))
def Zdc (thing weight:Int) (way:List YTrip):List YBooking:=way.map fun t=>⟨thing,t,weight⟩
theorem Zlf {n:YNetwork} {l:List YBooking} (h:Zr n l=true):l.Pairwise leB:=List.pairwise_iff_getElem.2 fun i j hi hj hij=>Zhi (ZeR h j i hj hij)
theorem Zi0 {n:YNetwork} {d e:List YBooking} (hp:d.Perm e) (hd:d.Pairwise leB) (he:e.Pairwise leB) (hb:Zr n d=true):d=e:=by
 refine List.Perm.eq_of_pairwise (le:=leB) (fun a b ha hb' h1 h2=>?_) hd he hp
 have hb2:=hp.mem_iff.2 hb'
 obtain ⟨i,hi,rfl⟩:=List.getElem_of_mem ha
 obtain ⟨j,hj,rfl⟩:=List.getElem_of_mem hb2
 rcases Nat.lt_trichotomy i j with h | h | h
 ·have:=ZeR hb j i hj h
  have h2':befB d[i] d[j]=false:=h2
  rw [this] at h2'; cases h2'
 ·subst h; rfl
 ·have:=ZeR hb i j hi h
  have h1':befB d[j] d[i]=false:=h1
  rw [this] at h1'; cases h1'
theorem Zoi {n:YNetwork} {d e:List YBooking} (hp:d.Perm e) (hd:d.Pairwise leB) (he:e.Pairwise leB):Zr n d=Zr n e:=by
 cases h1:Zr n d with
 | true=>rw [← Zi0 hp hd he h1,h1]
 | false=>
  cases h2:Zr n e with
  | false=>rfl
  | true=>rw [Zi0 hp.symm he hd h2,h1] at h2; cases h2
theorem ZfV {n:YNetwork} (hf:ZZ n) {l:List YBooking} (hl:l.length≤1048000) (thing weight:Int) {way:List YTrip} {d:List YBooking} (hp:d.Perm (l++Zdc thing weight way)) (hs:d.Pairwise leB):
 Zx n l thing weight way=some (if Zr n l=true∧way.length≤20∧Zr n d=true then (d,true) else (l,false)):=by
 unfold Zx
 rw [Zfl (by omega),Option.bind_some,Zb2 hf (by omega),Option.bind_some]
 by_cases hb:Zr n l=true
 case neg=>
  have hb':Zr n l=false:=by simpa using hb
  rw [hb',if_neg (fun h=>by cases h.1)]; rfl
 rw [hb]
 by_cases hw:way.length≤20
 case neg=>
  rw [if_neg (fun h=>hw h.2.1),decide_eq_true (show 20<(way.length:Int) by omega)]; rfl
 rw [decide_eq_false (show ¬ 20<(way.length:Int) by omega)]
 obtain ⟨o,ho,ho1,ho2,ho3⟩:Tot (iterF (Zc8 n l thing weight way) NN (0,l)) fun o=>o.length=l.length+way.length∧o.Perm (l++Zdc thing weight way)∧o.Pairwise leB:=by
  refine Tot.loop (fun k s=>∃ i:Nat,s.1=(i:Int)∧i+k=way.length∧s.2.length=l.length+i∧s.2.Perm (l++Zdc thing weight (way.take i))∧s.2.Pairwise leB) (fun k s hs=>?_) NN way.length _ ⟨0,rfl,by omega,rfl,by simp [Zdc],Zlf hb⟩ (by unfold NN; omega)
  obtain ⟨i,hi,hk,hlen,hpp,hss⟩:=hs
  unfold Zc8
  rw [hi]
  refine Tot.cond (fun hd=>?_) fun hd=>Tot.ret (by
   have:=of_decide_eq_false hd
   have hi2:i=way.length:=by omega
   rw [hi2,List.take_length] at hpp
   exact ⟨by omega,hpp,hss⟩)
  have hlt:=of_decide_eq_true hd
  have hwi:w64 ((i:Int)+1)=((i+1:Nat):Int):=by rw [Zc (by omega)]; omega
  have hil:i<way.length:=by omega
  have hy:getI way (i:Int)=some way[i]:=by rw [Zd]; exact List.getElem?_eq_getElem hil
  rw [hy,Option.bind_some,hwi]
  refine Tot.bind (ZmO (by omega) _ hss) fun r hr=>Tot.ret ⟨k-1,by omega,i+1,rfl,by omega,by simp only; omega,?_,hr.2.2⟩
  refine hr.2.1.trans ?_
  have:Zdc thing weight (way.take (i+1))=Zdc thing weight (way.take i)++[⟨thing,way[i],weight⟩]:=by
   unfold Zdc
   rw [List.take_succ_eq_append_getElem hil,List.map_append]; rfl
  rw [this,← List.append_assoc]
  exact hpp.append_right _
 simp only [Bool.not_true,cond_false,ho,Option.bind_some]
 rw [Zb2 hf (by omega),Option.bind_some,Zoi (n:=n) (ho2.trans hp.symm) ho3 hs]
 by_cases hd:Zr n d=true
 ·rw [hd,if_pos ⟨by trivial,hw,by trivial⟩,Zi0 (hp.trans ho2.symm) hs ho3 hd]; rfl
 ·have hd':Zr n d=false:=by simpa using hd
  rw [hd',if_neg (fun h=>by cases h.2.2)]; rfl
end Go.Proofs.YtmcdjilbkmhfoaaGreat
namespace Go.Proofs.YtmcdjilbkmhfoaaGreat
set_option maxRecDepth 10000
open Go.RowKit Go.Lib Go.Sort
set_option linter.unusedVariables false
set_option linter.unusedSimpArgs false
set_option maxRecDepth 100000
set_option maxHeartbeats 4000000
abbrev SW (w:World):Nat→Prop:=fun b=>b<w.heap.size
theorem ZgE {w w':World} {p:PV} {x:Value} (h:RepC w (SW w) p x) (hu:Up w w'):RepC w' (SW w') p x:=
 h.ext (fun b hb=>Nat.lt_of_lt_of_le hb hu.size) (fun b o hb=>hu.cell (p:=⟨b,o,none⟩) hb)
theorem CallM.ownT {P:Program} {α:Type} [Enc α] {c:α→List PV} [hf:Zhe c (id:α→α)] {f:FuncId} {args:List PV} {T:TypeId} {r:List α} (h:CallM P f args [] (.ms 0) [some ⟨T,Enc.k α,r.map c⟩]) {w:World} (ht:Tab w (own0 fun _=>none)) {vs:Array Value} (hl:vs.size=args.length) (ha:∀ (i:Nat) (p:PV),args[i]?=some p→∃ x,vs[i]?=some x∧Rep w (E1 (SW w) (fun _=>none) 0) p x):
 Calls P f vs w fun e w'=>∃ v,e=.returned v∧Own w' w.heap.size T v r∧Up w w':=by
 have hok:Ok w (own0 fun _=>none) (E1 (fun b=>b<w.heap.size) (fun _=>none) 0) w []:=
  ⟨UpO.refl _ _,fun b h=>h,fun l B h=>(by cases h),fun l l' B B' h=>(by cases h),fun l h=>absurd h (Nat.not_lt_zero l),fun l B h=>(by cases h),fun l mb h=>(by simp at h),fun l B h=>(by cases h),ht,fun _ _ h=>h.elim⟩
 refine (h (fun b=>b<w.heap.size) (fun _=>none) w vs (fun _ _=>False) hok hl ha).mono ?_
 rintro e w' ⟨v,E',rfl,hk,_,_,_,hr⟩
 refine ⟨v,rfl,?_,⟨hk.up.os,hk.up.tape,hk.up.output,hk.up.size,fun b hb=>hk.up.block b hb ZlP⟩⟩
 obtain ⟨B,hB,hb,rfl⟩:=hr.ms_inv hk (l:=0) rfl
 have hkk:=hb.k
 have hn:B.n=r.length:=by have:=hb.n; simpa using this
 have hT:=hb.T
 simp only at hkk hT
 cases hz:B.z with
 | true=>
  have h0:r=[]:=by have:=hb.nil hz; simpa using this
  subst h0
  have hsv:B.sv=.slice none 0 0:=by simp [Blk.sv,hz]
  rw [hsv]
  exact World.ownsRow_nil _ _ _ _
 | false=>
  have hsv:B.sv=.slice (some ⟨B.b,0,none⟩) r.length B.c:=by simp [Blk.sv,hz,hn]
  rw [hsv]
  obtain ⟨cells,hc,hcs,hcell⟩:=hb.mem hz
  have hown:=hk.own 0 B hB hz
  have hfr:w.heap.size≤B.b:=by
   rcases hown.1 with h | h
   ·exact absurd h ZlP
   ·exact h
  refine ⟨by rw [Zds],.inr ⟨B.b,B.c,cells,rfl,hfr,by rw [hc,hT]; rfl,by rw [← hn]; exact hb.nc,hb.cm,by rw [hcs,hkk],?_⟩⟩
  apply List.ext_getElem?
  intro t
  have hkp:0<Enc.k α:=Enc.pos
  rcases Nat.lt_or_ge t (r.length*Enc.k α) with hi | hi
  ·rw [List.getElem?_take_of_lt hi,Array.getElem?_toList]
   have hi':t / Enc.k α<r.length:=by rw [Nat.div_lt_iff_lt_mul hkp]; exact hi
   have hj:=Nat.mod_lt t hkp
   have e0:t / Enc.k α*Enc.k α+t % Enc.k α=t:=by rw [Nat.mul_comm]; exact Nat.div_add_mod t _
   have hcl:(c r[t / Enc.k α]).length=Enc.k α:=hf.len _
   obtain ⟨u,hu1,hu2⟩:=hf.at_ r[t / Enc.k α] (t % Enc.k α) _ (List.getElem?_eq_getElem (by rw [hcl]; exact hj))
   obtain ⟨x,x1,_,x3⟩:=hcell (t / Enc.k α) (c r[t / Enc.k α]) (t % Enc.k α) (.v u) (by simp [hi']) (by rw [List.getElem?_eq_getElem (by rw [hcl]; exact hj),hu2])
   obtain ⟨rfl,_⟩:=x3.v_inv
   rw [hkk,e0] at x1
   have hfl:=Zfa (xs:=r) (i:=t / Enc.k α) (x:=r[t / Enc.k α]) (List.getElem?_eq_getElem hi') hu1
   rw [e0] at hfl
   rw [x1,hfl]
  ·rw [List.getElem?_eq_none (by rw [List.length_take]; omega),List.getElem?_eq_none (by rw [Zds]; omega)]
theorem Zr7:ElT Tryz.prog 37 135 (Enc.k YBooking) 32:=ElT.mk' (z:=.agg #[I 0,I 0,I 0,I 0]) Tryz.underlying37 (by kernel_rfl) rfl
section
variable {n:YNetwork} (hf:ZZ n) {w:World} {O:Nat→Prop} (ht:Tab w O) {v0 v1:Value} (h0:RepC w (SW w) (.sl (n.legs.map cLeg)) v0) (h1:RepC w (SW w) (.sl (n.off.map cInt)) v1)
include hf ht h0 h1
theorem ZpA {W:World} (hu:Up w W) {xs:List YBooking} (hx:xs.length≤1048576) {lv:Value} (hl:RepC W (SW W) (.sl (xs.map cBooking)) lv):
 Calls Tryz.prog 139 #[.agg #[v0,v1,I n.change],lv] W fun e w'=>e=.returned (.bool (Zr n xs))∧Up W w':=by
 have o0:=h0.one (by simp) (by simp)
 have o1:=h1.one (by simp) (by simp)
 have hC:=CT.ok (P:=Tryz.prog) (ZfM hf hx)
 simp only [CT.f,CT.args,CT.m0,CT.res,CT.mem] at hC
 refine CallM.valT hC (Zop ht (O':=fun _=>False) ⟨hu.os,hu.tape,hu.output,hu.size,fun b hb _=>hu.block b hb⟩ fun b _ h=>h.elim) rfl fun i p hp=>?_
 match i with
 | 0=>
  obtain rfl:_=p:=Option.some.inj hp
  refine ⟨_,rfl,.ag _ _ rfl (fun j x hx=>?_) fun j p x hp hx=>?_⟩
  ·match j with
   | 0=>obtain rfl:_=x:=Option.some.inj hx
        exact o0
   | 1=>obtain rfl:_=x:=Option.some.inj hx
        exact o1
   | 2=>obtain rfl:_=x:=Option.some.inj hx
        rfl
   | j+3=>simp at hx
  ·match j with
   | 0=>obtain rfl:_=x:=Option.some.inj hx
        obtain rfl:_=p:=Option.some.inj hp
        exact .c (ZgE h0 hu)
   | 1=>obtain rfl:_=x:=Option.some.inj hx
        obtain rfl:_=p:=Option.some.inj hp
        exact .c (ZgE h1 hu)
   | 2=>obtain rfl:_=x:=Option.some.inj hx
        obtain rfl:_=p:=Option.some.inj hp
        exact Zoa _ rfl
   | j+3=>simp at hx
 | 1=>
  obtain rfl:_=p:=Option.some.inj hp
  exact ⟨_,rfl,.c hl⟩
 | i+2=>simp at hp
omit hf h0 h1 in
theorem Zm1 {W:World} (hu:Up w W) {xs:List YBooking} (hx:xs.length≤1048576) {lv:Value} (hl:RepC W (SW W) (.sl (xs.map cBooking)) lv):
 Calls Tryz.prog 169 #[lv] W fun e w'=>∃ v,e=.returned v∧Own w' W.heap.size 135 v xs∧Up W w':=by
 have hm:Zab xs=some xs:=by
  unfold Zab
  simp only [List.length_nil,chk0 hx (show 32≤1024 by omega),Option.bind_some,List.nil_append]
 have hC:=CT.ok (P:=Tryz.prog) hm
 simp only [CT.f,CT.args,CT.m0,CT.res,CT.mem] at hC
 refine CallM.ownT hC (Zop ht (O':=fun _=>False) ⟨hu.os,hu.tape,hu.output,hu.size,fun b hb _=>hu.block b hb⟩ fun b _ h=>h.elim) rfl fun i p hp=>?_
 match i with
 | 0=>
  obtain rfl:_=p:=Option.some.inj hp
  exact ⟨_,rfl,.c hl⟩
 | i+1=>simp at hp
end
set_option linter.unusedSectionVars false
theorem ZiD {w w':World} {b o:Nat} {v:Value} (h:w.cell? ⟨b,o,none⟩=some v) (hb:b<w.heap.size) (hu:Up w w'):w'.cell? ⟨b,o,none⟩=some v:=(hu.cell (p:=⟨b,o,none⟩) hb).trans h
theorem ZqU {w W:World} {O:Nat→Prop} (h:Tab w O) (hu:Up w W) {B:Nat} (hB:w.heap.size≤B):Tab W (fun b=>B≤b):=by
 obtain ⟨T,h1,h2⟩:=h
 exact ⟨T,fun b hb=>⟨Nat.lt_of_lt_of_le (h1 b hb).1 hu.size,fun h=>by have:=(h1 b hb).1; omega⟩,fun w'' hw''=>h2 w'' fun b hb=>(hw'' b hb).trans (hu.block b (h1 b hb).1)⟩
theorem ZpY {w:World} {B Bx:Nat} {v v':Value} {xs:List YBooking} (h:Own w B 135 v xs) (hx:w.heap[Bx]?=some (.cells #[v'] 37 (0,0))):v.ownBlock≠some Bx:=by
 rcases h.2 with ⟨hv,_⟩ | ⟨g,cap,cur,hv,hB,hg,_⟩
 ·rw [hv]; simp [Value.ownBlock]
 ·rw [hv]
  intro e
  have:g=Bx:=by simpa [Value.ownBlock] using e
  subst this
  rw [hg] at hx
  simp at hx
section
variable {n:YNetwork} (hf:ZZ n) {w:World} {O:Nat→Prop} (ht:Tab w O) {v0 v1:Value} (h0:RepC w (SW w) (.sl (n.legs.map cLeg)) v0) (h1:RepC w (SW w) (.sl (n.off.map cInt)) v1)
 {l:List YBooking} (hl:l.length≤1048000) {lv:Value} (hlr:RepC w (SW w) (.sl (l.map cBooking)) lv) (thing weight:Int) {way:List YTrip} (hwl:way.length≤1048576) {A:Option Addr} {wn:Nat} (hwr:Rd w w.heap.size A way)
include hf ht h0 h1 hl hlr hwl hwr
theorem Zqd (hno:¬ (Zr n l=true∧way.length≤20)):
 Calls Tryz.prog 135 #[.agg #[v0,v1,I n.change],lv,I thing,I weight,.slice A way.length wn] w fun e w'=>∃ v,e=.returned (.tuple #[v,.bool false])∧Own w' w.heap.size 135 v l∧Up w w':=by
 have hA:=fun (W:World) (hu:Up w W)=>ZpA hf ht h0 h1 hu (xs:=l) (by omega) (ZgE hlr hu)
 have hC:=fun (W:World) (hu:Up w W)=>Zm1 ht hu (xs:=l) (by omega) (ZgE hlr hu)
 have HA:Hid _:=hA
 have HC:Hid _:=hC
 clear hA hC hf ht h0 h1 hlr hwr
 by_cases hb:Zr n l=true
 ·have h20:(20:Int)<(way.length:Int):=by
   rcases Nat.lt_or_ge 20 way.length with h | h
   ·omega
   ·exact absurd ⟨hb,h⟩ hno
  have Hb:Hid (Zr n l=true):=hb
  clear hno hb
  go_enter Tryz.func135,Tryz.ntmps135
  go_wp2_with (first
   | (go_at_call 139; refine (HA.out _ (by (repeat (first | exact Up.rfl' _ | (refine Up.al _ ?_) | (refine Up.dr _ ?_) | (refine Up.dr1 ?_) | (refine Up.sc ?_ (by first | exact Nat.le_refl _ | (simp; done) | omega) _) | (refine Up.step (by assumption) ?_))))).mono ?_; rintro e w1 ⟨rfl,hu1⟩; rw [Hb.out])
   | (go_at_call 169; refine (HC.out _ (by (repeat (first | exact Up.rfl' _ | (refine Up.al _ ?_) | (refine Up.dr _ ?_) | (refine Up.dr1 ?_) | (refine Up.sc ?_ (by first | exact Nat.le_refl _ | (simp; done) | omega) _) | (refine Up.step (by assumption) ?_))))).mono ?_; rintro e w2 ⟨v2,rfl,ho2,hu2⟩))
  go_ret2
  exact ⟨v2,rfl,ho2.down (by (repeat (first | exact Up.rfl' _ | (refine Up.al _ ?_) | (refine Up.dr _ ?_) | (refine Up.dr1 ?_) | (refine Up.sc ?_ (by first | exact Nat.le_refl _ | (simp; done) | omega) _) | (refine Up.step (by assumption) ?_)))),by (repeat (first | exact Up.rfl' _ | (refine Up.al _ ?_) | (refine Up.dr _ ?_) | (refine Up.dr1 ?_) | (refine Up.sc ?_ (by first | exact Nat.le_refl _ | (simp; done) | omega) _) | (refine Up.step (by assumption) ?_)))⟩
 ·have hb':Zr n l=false:=by simpa using hb
  have Hb:Hid (Zr n l=false):=hb'
  clear hno hb hb'
  go_enter Tryz.func135,Tryz.ntmps135
  go_wp2_with (first
   | (go_at_call 139; refine (HA.out _ (by (repeat (first | exact Up.rfl' _ | (refine Up.al _ ?_) | (refine Up.dr _ ?_) | (refine Up.dr1 ?_) | (refine Up.sc ?_ (by first | exact Nat.le_refl _ | (simp; done) | omega) _) | (refine Up.step (by assumption) ?_))))).mono ?_; rintro e w1 ⟨rfl,hu1⟩; rw [Hb.out])
   | (go_at_call 169; refine (HC.out _ (by (repeat (first | exact Up.rfl' _ | (refine Up.al _ ?_) | (refine Up.dr _ ?_) | (refine Up.dr1 ?_) | (refine Up.sc ?_ (by first | exact Nat.le_refl _ | (simp; done) | omega) _) | (refine Up.step (by assumption) ?_))))).mono ?_; rintro e w2 ⟨v2,rfl,ho2,hu2⟩))
  go_ret2
  exact ⟨v2,rfl,ho2.down (by (repeat (first | exact Up.rfl' _ | (refine Up.al _ ?_) | (refine Up.dr _ ?_) | (refine Up.dr1 ?_) | (refine Up.sc ?_ (by first | exact Nat.le_refl _ | (simp; done) | omega) _) | (refine Up.step (by assumption) ?_)))),by (repeat (first | exact Up.rfl' _ | (refine Up.al _ ?_) | (refine Up.dr _ ?_) | (refine Up.dr1 ?_) | (refine Up.sc ?_ (by first | exact Nat.le_refl _ | (simp; done) | omega) _) | (refine Up.step (by assumption) ?_)))⟩
theorem ZoC (hb:Zr n l=true) (h20:way.length≤20):
 Calls Tryz.prog 135 #[.agg #[v0,v1,I n.change],lv,I thing,I weight,.slice A way.length wn] w fun e w'=>∃ v ys ok,e=.returned (.tuple #[v,.bool ok])∧Own w' w.heap.size 135 v ys∧Up w w'∧Zx n l thing weight way=some (ys,ok):=by
 have hlb:=(ZV hb).2
 have hA:=fun (W:World) (hu:Up w W) (xs:List YBooking) (hx:xs.length≤1048576) (lv:Value) (hl:RepC W (SW W) (.sl (xs.map cBooking)) lv)=>ZpA hf ht h0 h1 hu (xs:=xs) hx hl
 have hC:=fun (W:World) (hu:Up w W)=>Zm1 ht hu (xs:=l) (by omega) (ZgE hlr hu)
 have HA:Hid _:=hA
 have HC:Hid _:=hC
 have HL:Hid (∀ W,Up w W→RepC W (SW W) (.sl (l.map cBooking)) lv):=fun W hu=>ZgE hlr hu
 have HW:Hid (Rd w w.heap.size A way):=hwr
 have HF:Hid (ZZ n):=hf
 have HT:Hid (Tab w O):=ht
 have Hb:Hid (Zr n l=true):=hb
 have h20z:¬ (20:Int)<(way.length:Int):=by omega
 clear hA hC hf ht h0 h1 hlr hwr hb
 go_enter Tryz.func135,Tryz.ntmps135
 go_wp2_with (first
  | (go_at_call 139; refine (HA.out _ (by (repeat (first | exact Up.rfl' _ | (refine Up.al _ ?_) | (refine Up.dr _ ?_) | (refine Up.dr1 ?_) | (refine Up.sc ?_ (by first | exact Nat.le_refl _ | (simp; done) | omega) _) | (refine Up.step (by assumption) ?_)))) l (by omega) lv (HL.out _ (by (repeat (first | exact Up.rfl' _ | (refine Up.al _ ?_) | (refine Up.dr _ ?_) | (refine Up.dr1 ?_) | (refine Up.sc ?_ (by first | exact Nat.le_refl _ | (simp; done) | omega) _) | (refine Up.step (by assumption) ?_)))))).mono ?_; rintro e w1 ⟨rfl,hu1⟩; rw [Hb.out])
  | (go_at_call 169; refine (HC.out _ (by (repeat (first | exact Up.rfl' _ | (refine Up.al _ ?_) | (refine Up.dr _ ?_) | (refine Up.dr1 ?_) | (refine Up.sc ?_ (by first | exact Nat.le_refl _ | (simp; done) | omega) _) | (refine Up.step (by assumption) ?_))))).mono ?_; rintro e w2 ⟨v2,rfl,ho2,hu2⟩; obtain ⟨A2,c2,rfl,hc2,_⟩:=ho2.form))
 have hub:Up (w.alloc (.cells #[v0,v1,I n.change] 35)) w2:=by (repeat (first | exact Up.rfl' _ | (refine Up.al _ ?_) | (refine Up.dr _ ?_) | (refine Up.dr1 ?_) | (refine Up.sc ?_ (by first | exact Nat.le_refl _ | (simp; done) | omega) _) | (refine Up.step (by assumption) ?_)))
 have hown:Own w2 (w.heap.size+1) 135 (.slice A2 l.length c2) l:=by
  have:=ho2.down (w0:=w.alloc (.cells #[v0,v1,I n.change] 35)) (by (repeat (first | exact Up.rfl' _ | (refine Up.al _ ?_) | (refine Up.dr _ ?_) | (refine Up.dr1 ?_) | (refine Up.sc ?_ (by first | exact Nat.le_refl _ | (simp; done) | omega) _) | (refine Up.step (by assumption) ?_))))
  simpa using this
 have HUB:=Lib.hid hub
 have HO:=Lib.hid hown
 clear ho2 hc2 hown
 go_loopw [30] (fun vi wr=>∃ (i:Nat) (v:Value),vi=.int .i64 i∧i≤way.length∧Own wr (w.heap.size+1) 135 v (l++Zdc thing weight (way.take i))∧wr.heap[w2.heap.size]?=some (.cells #[v] 37 (0,0))∧Up (w.alloc (.cells #[v0,v1,I n.change] 35)) wr) (fun vi _=>way.length-(intOf vi).toNat)
 case atStart=>
  refine ⟨0,_,by go_num,by omega,?_,heap_alloc_new _ _,Up.al _ HUB.out⟩
  simp only [List.take_zero,Zdc,List.map_nil,List.append_nil]
  exact HO.out.up (Up.al _ (Up.rfl' _))
 case round=>
  obtain ⟨i,v,rfl,hi,hv,hx,hwr⟩:=hrel
  obtain ⟨A3,c3,rfl,hc3,hm3⟩:=hv.form
  have hnl:(l++Zdc thing weight (way.take i)).length=l.length+i:=by simp [Zdc]; omega
  rw [hnl] at hv hx
  have hcx:wr.cell? ⟨w2.heap.size,0,none⟩=some (.slice A3 (l.length+i) c3):=by rw [cell_of_row wr _ 0 _ _ (0,0) hx]; rfl
  have hz:w2.heap.size<wr.heap.size:=(Array.getElem?_eq_some_iff.1 hx).1
  have hz1:wr.heap.size≠w2.heap.size:=by omega
  have hz2:w2.heap.size≠wr.heap.size:=by omega
  have HV:=Lib.hid hv
  have HX:=Lib.hid hx
  have HWR:=Lib.hid hwr
  have HNL:=Lib.hid hnl
  clear hv hx hwr
  clear hnl hc3 hm3
  by_cases hlt:i<way.length
  ·obtain ⟨b,off,rfl,hbb,hcc⟩:=(HW.out.up (Up.step (w.alloc (.cells #[v0,v1,I n.change] 35) |> fun _=>HWR.out) (Up.al _ (Up.rfl' w)))).at_ (List.getElem?_eq_getElem hlt)
   have d0:wr.cell? ⟨b,off+i*2,none⟩=some (I way[i].leg):=hcc 0 _ rfl
   have d1:wr.cell? ⟨b,off+i*2+1,none⟩=some (I way[i].day):=hcc 1 _ rfl
   clear hcc
   have hrd1:Rd ((wr.alloc (.cells #[I way[i].leg,I way[i].day] 55)).alloc (.cells #[I thing,I way[i].leg,I way[i].day,I weight] 135)) (wr.heap.size+2) (some ⟨wr.heap.size+1,0,none⟩) [(⟨thing,way[i],weight⟩:YBooking)]:=by
    have e:(wr.alloc (.cells #[I way[i].leg,I way[i].day] 55)).heap.size=wr.heap.size+1:=by simp
    have h:=Rd.one (wr.alloc (.cells #[I way[i].leg,I way[i].day] 55)) 135 (⟨thing,way[i],weight⟩:YBooking) (wr.heap.size+2) (by rw [e]; omega)
    rw [e] at h
    exact h
   have HR1:=Lib.hid hrd1
   clear hrd1
   have hlen:=HNL.out
   have hsz:w.heap.size+1≤wr.heap.size:=by have:=HWR.out.size; simpa using this
   go_wp2_with (at_builtin; refine ZB Zr7 rfl (.tmp 34) (.tmp 39) rfl (base:=w.heap.size+1) (ys:=l++Zdc thing weight (way.take i)) (xs:=[(⟨thing,way[i],weight⟩:YBooking)]) (by rfl) (HV.out.up (by (repeat (first | exact Up.rfl' _ | (refine Up.al _ ?_) | (refine Up.dr _ ?_) | (refine Up.dr1 ?_) | (refine Up.sc ?_ (by first | exact Nat.le_refl _ | (simp; done) | omega) _) | (refine Up.step (by assumption) ?_))))) 1 (by rfl) rfl HR1.out (by simp only [List.length_cons,List.length_nil]; omega) (by unfold maxLen; simp only [List.length_cons,List.length_nil]; omega) (by simp; omega) ?_; intro v' w3 ho3 hg3 _ hu3; refine Hid.out ?_)
   have hx3:w3.heap[w2.heap.size]?=some (.cells #[.slice A3 (l.length+i) c3] 37 (0,0)):=by
    rw [hg3.block _ (by simp; omega) (fun e=>ZpY HV.out HX.out e.symm)]
    exact ((Up.al _ (Up.al _ (Up.rfl' wr))).block _ hz).trans HX.out
   obtain ⟨A4,c4,rfl,hc4,hm4⟩:=ho3.form
   have hl4:(l++Zdc thing weight (way.take i)++[(⟨thing,way[i],weight⟩:YBooking)]).length=l.length+(i+1):=by simp [Zdc]; omega
   rw [hl4] at ho3 ⊢
   clear hl4
   have hnews:Zdc thing weight (way.take (i+1))=Zdc thing weight (way.take i)++[⟨thing,way[i],weight⟩]:=by
    unfold Zdc
    rw [List.take_succ_eq_append_getElem hlt,List.map_append]; rfl
   have hcell3:w3.cell? ⟨w2.heap.size,0,none⟩=some (.slice A3 (l.length+i) c3):=by rw [cell_of_row w3 _ 0 _ _ (0,0) hx3]; rfl
   have hfr3:w3.frozen? ⟨w2.heap.size,0,none⟩=false:=by simp [World.frozen?,hx3]
   have hwr3:Up (w.alloc (.cells #[v0,v1,I n.change] 35)) w3:=hu3 _ (by simp) (Up.al _ (Up.al _ HWR.out))
   have HX3:=Lib.hid hx3
   have HO3:=Lib.hid ho3
   have HN:=Lib.hid hnews
   have HW3:=Lib.hid hwr3
   clear hx3 ho3 hg3 hu3 hnews hwr3 hc4 hm4 hlen
   refine Lib.hid ?_
   go_wp2
   refine ⟨⟨i+1,_,by go_num,by omega,?_,heap_setCell_same w3 _ 0 _ _ _ HX3.out,Up.sc HW3.out (by have:=HUB.out.size; simp at this ⊢; omega) _⟩,by simp [intOf]; omega⟩
   rw [HN.out,← List.append_assoc]
   exact HO3.out.grown (row:=some w2.heap.size) ⟨rfl,rfl,rfl,by simp,fun k hk hne=>heap_setCell_other _ _ _ _ (fun e=>hne (by rw [e]))⟩ (.inr (ZpY HO3.out HX3.out))
  ·have hie:i=way.length:=by omega
   subst hie
   have hst:=ZqN HV.out HX.out (by rw [HNL.out]; omega) (ZqU HT.out (Up.step HWR.out (Up.al _ (Up.rfl' w))) (by omega)) (fun b h=>h)
   have hge:¬ (way.length:Int)<(way.length:Int):=by omega
   go_wp2_with (go_at_call 200; refine hst.mono ?_; rintro e w4 ⟨rfl,ys,hp,hs,ho4,hu4⟩; refine Hid.out ?_)
   rw [List.take_length] at hp
   have hyl:ys.length=l.length+way.length:=by rw [hp.length_eq]; simp [Zdc]
   have hsp:=ZfV HF.out hl thing weight hp hs
   have hup4:Up (w.alloc (.cells #[v0,v1,I n.change] 35)) w4:=by
    have h:=HWR.out
    exact ⟨hu4.os.trans h.os,hu4.tape.trans h.tape,hu4.output.trans h.output,Nat.le_trans h.size hu4.size,fun b hb=>(hu4.block b (Nat.lt_of_lt_of_le hb h.size) (fun hh=>by simp at hb; omega)).trans (h.block b hb)⟩
   have e0:w4.cell? ⟨w.heap.size,0,none⟩=some v0:=ZiD (by simp) (by simp) hup4
   have e1:w4.cell? ⟨w.heap.size,1,none⟩=some v1:=ZiD (by simp) (by simp) hup4
   have e2:w4.cell? ⟨w.heap.size,2,none⟩=some (I n.change):=ZiD (by simp) (by simp) hup4
   have ex:w4.heap[w2.heap.size]?=some (.cells #[.slice A3 (l.length+way.length) c3] 37 (0,0)):=(hu4.block _ hz (fun hh=>hh.2 rfl)).trans HX.out
   have exc:w4.cell? ⟨w2.heap.size,0,none⟩=some (.slice A3 (l.length+way.length) c3):=by rw [cell_of_row w4 _ 0 _ _ (0,0) ex]; rfl
   have hrp:RepC w4 (SW w4) (.sl (ys.map cBooking)) (.slice A3 (l.length+way.length) c3):=by
    rw [← hyl] at ho4 ⊢
    obtain ⟨A5,c5,e5,h5,h6⟩:=ho4.form
    obtain ⟨rfl,rfl⟩:A3=A5∧c3=c5:=by simpa using e5
    exact Zn6 (c:=cBooking) id (by rw [List.map_id]; exact ho4.rd) h5 h6
   have hupw:Up w w4:=Up.step hup4 (Up.al _ (Up.rfl' w))
   have hA:=HA.out w4 hupw ys (by omega) _ hrp
   have HSP:=Lib.hid hsp
   have HO4:=Lib.hid ho4
   have HUP:=Lib.hid hup4
   have HUPW:=Lib.hid hupw
   have HZ4:Hid (w2.heap.size<w4.heap.size):=Nat.lt_of_lt_of_le hz hu4.size
   clear hst hp hs ho4 hu4 hyl hsp hup4 ex hrp hupw
   refine Lib.hid ?_
   cases hby:Zr n ys with
   | true=>
    rw [hby] at hA
    have HBY:=Lib.hid hby
    clear hby
    go_wp2_with (first
     | (go_at_call 139; refine hA.mono ?_; rintro e w5 ⟨rfl,hu5⟩; have exc5:=ZiD exc HZ4.out hu5))
    go_ret2
    exact ⟨_,ys,true,rfl,(HO4.out.more (by omega)).up hu5,Up.step hu5 (Up.step HUP.out (Up.al _ (Up.rfl' w))),by rw [HSP.out,if_pos ⟨Hb.out,h20,HBY.out⟩]⟩
   | false=>
    rw [hby] at hA
    have HBY:=Lib.hid hby
    clear hby
    go_wp2_with (first
     | (go_at_call 139; refine hA.mono ?_; rintro e w5 ⟨rfl,hu5⟩)
     | (go_at_call 169; refine (HC.out _ (Up.step hu5 HUPW.out)).mono ?_; rintro e w6 ⟨v6,rfl,ho6,hu6⟩))
    go_ret2
    exact ⟨v6,l,false,rfl,ho6.down (Up.step hu5 HUPW.out),Up.step hu6 (Up.step hu5 HUPW.out),by rw [HSP.out,if_neg (fun h=>by rw [HBY.out] at h; cases h.2.2)]⟩
end
end Go.Proofs.YtmcdjilbkmhfoaaGreat
namespace Go.Proofs.YtmcdjilbkmhfoaaGreat
set_option maxRecDepth 10000
open Go.RowKit Go.Lib
set_option linter.unusedVariables false
set_option linter.unusedSimpArgs false
def fitB (n:YNetwork):Bool:=decide (n.legs.length≤1048576) && decide (n.off.length≤1048576) && n.legs.all fun l=>decide (l.from_.size≤B60) && decide (l.to_.size≤B60)
theorem Zlu {n:YNetwork}:fitB n=true↔ZZ n:=by
 unfold fitB
 simp only [Bool.and_eq_true,decide_eq_true_iff,List.all_eq_true]
 exact ⟨fun h=>⟨h.1.1,h.1.2,fun l hl=>h.2 l hl⟩,fun h=>⟨⟨h.legs,h.off⟩,fun l hl=>h.leg l hl⟩⟩
def ZaB (n:YNetwork) (l:List YBooking) (thing:Int) (weight:Int) (way:List YTrip):Option ((List YBooking) × Bool):=
 if fitB n=true∧l.length≤1048000∧way.length≤1048576 then Zx n l thing weight way else none
theorem arr5 {vs:Array Value} {x0 x1 x2 x3 x4:Value} (h:vs.size=5) (h0:vs[0]?=some x0) (h1:vs[1]?=some x1) (h2:vs[2]?=some x2) (h3:vs[3]?=some x3) (h4:vs[4]?=some x4):vs=#[x0,x1,x2,x3,x4]:=by
 apply Array.ext (by simp [h])
 intro i hi hj
 have a0:=(Array.getElem?_eq_some_iff.1 h0).2
 have a1:=(Array.getElem?_eq_some_iff.1 h1).2
 have a2:=(Array.getElem?_eq_some_iff.1 h2).2
 have a3:=(Array.getElem?_eq_some_iff.1 h3).2
 have a4:=(Array.getElem?_eq_some_iff.1 h4).2
 match i,hi with
 | 0,_=>simpa using a0
 | 1,_=>simpa using a1
 | 2,_=>simpa using a2
 | 3,_=>simpa using a3
 | 4,_=>simpa using a4
 | i+5,hi=>omega
theorem ZhO (n:YNetwork) (l:List YBooking) (thing:Int) (weight:Int) (way:List YTrip) {r:(List YBooking) × Bool} (H:ZaB n l thing weight way=some r):CallM Tryz.prog 135 [.ag (cNetwork n),.sl (l.map cBooking),vi thing,vi weight,.sl (way.map cTrip)] [] (.tu [.ms 0,vb r.2]) [some ⟨.of 135,4,r.1.map cBooking⟩]:=by
 unfold ZaB at H
 split at H
 case isFalse=>cases H
 rename_i hok
 obtain ⟨hf,hln,hwn⟩:=hok
 have hf:=Zlu.1 hf
 intro S β w vs ω hk hl ha
 obtain ⟨x0,q0,r0⟩:=ha 0 _ rfl
 obtain ⟨x1,q1,r1⟩:=ha 1 _ rfl
 obtain ⟨x2,q2,r2⟩:=ha 2 _ rfl
 obtain ⟨x3,q3,r3⟩:=ha 3 _ rfl
 obtain ⟨x4,q4,r4⟩:=ha 4 _ rfl
 obtain rfl:=arr5 hl q0 q1 q2 q3 q4
 obtain rfl:=Zob r2
 obtain rfl:=Zob r3
 obtain ⟨us,rfl,hul,hu1,hur⟩:=r0.ag_inv
 have hul':us.size=3:=hul
 have z0:us[0]?=some us[0]:=Array.getElem?_eq_getElem (by omega)
 have z1:us[1]?=some us[1]:=Array.getElem?_eq_getElem (by omega)
 have z2:us[2]?=some us[2]:=Array.getElem?_eq_getElem (by omega)
 have hus:us=#[us[0],us[1],us[2]]:=ZrV hul' z0 z1 z2
 have w0:=(hur 0 (.sl (n.legs.map cLeg)) _ rfl z0).sl_inv
 have w1:=(hur 1 (.sl (n.off.map cInt)) _ rfl z1).sl_inv
 have w2:=Zob (hur 2 (vi n.change) _ rfl z2)
 have w3:=r1.sl_inv
 have w4:=r4.sl_inv
 have up:∀ {p:PV} {x:Value},RepC w S p x→RepC w (SW w) p x:=fun h=>h.ext (fun b hb=>hk.sz b hb) fun _ _ _=>rfl
 obtain ⟨A,wn,rfl,_,_,hrd⟩:=ZqE (id:YTrip→YTrip) (c:=cTrip) hk.sz w4
 rw [List.map_id] at hrd
 have hmain:Calls Tryz.prog 135 #[.agg #[us[0],us[1],I n.change],x1,I thing,I weight,.slice A way.length wn] w fun e w'=>∃ v ys ok,e=.returned (.tuple #[v,.bool ok])∧Own w' w.heap.size 135 v ys∧Up w w'∧Zx n l thing weight way=some (ys,ok):=by
  by_cases hno:Zr n l=true∧way.length≤20
  ·exact ZoC hf hk.tab (up w0) (up w1) hln (up w3) thing weight hwn hrd hno.1 hno.2
  ·refine (Zqd hf hk.tab (up w0) (up w1) hln (up w3) thing weight hwn hrd hno).mono ?_
   rintro e w' ⟨v,rfl,ho,hu⟩
   refine ⟨v,l,false,rfl,ho,hu,?_⟩
   unfold Zx
   rw [Zfl (by omega),Option.bind_some,Zb2 hf (by omega),Option.bind_some]
   by_cases hb:Zr n l=true
   ·rw [hb,decide_eq_true (show 20<(way.length:Int) by
     rcases Nat.lt_or_ge 20 way.length with h | h
     ·omega
     ·exact absurd ⟨hb,h⟩ hno)]; rfl
   ·have hb':Zr n l=false:=by simpa using hb
    rw [hb']; rfl
 rw [hus,w2]
 refine hmain.mono ?_
 rintro e w' ⟨v,ys,ok,rfl,ho,hu,hsp⟩
 rw [hsp] at H
 obtain rfl:=Option.some.inj H
 obtain ⟨E',h1,h2,h3,h4,h5⟩:=ZjN (c:=cBooking) hk ho hu (fun x=>⟨rfl,fun j p hj=>by
  obtain ⟨u,hu1,hu2⟩:=Zhe.at_ (c:=cBooking) (g:=(id:YBooking→YBooking)) x j p hj
  exact ⟨u,hu1,Enc.one _ u (List.mem_of_getElem? hu1),fun w E=>by rw [hu2]; exact Zoa _ (Enc.one _ u (List.mem_of_getElem? hu1))⟩⟩)
 refine ⟨_,E',rfl,h1,h2,h3,h4,.tu _ _ rfl fun j p x hp hx=>?_⟩
 match j with
 | 0=>obtain rfl:_=p:=Option.some.inj hp
      obtain rfl:_=x:=Option.some.inj hx
      exact h5
 | 1=>obtain rfl:_=p:=Option.some.inj hp
      obtain rfl:_=x:=Option.some.inj hx
      exact Zoa _ rfl
 | j+2=>simp at hp
instance (n:YNetwork) (l:List YBooking) (thing:Int) (weight:Int) (way:List YTrip):CT Tryz.prog (ZaB n l thing weight way):=⟨135,[.ag (cNetwork n),.sl (l.map cBooking),vi thing,vi weight,.sl (way.map cTrip)],[],fun r=>.tu [.ms 0,vb r.2],fun r=>[some ⟨.of 135,4,r.1.map cBooking⟩],ZhO n l thing weight way⟩
end Go.Proofs.YtmcdjilbkmhfoaaGreat
namespace Go.Proofs.YtmcdjilbkmhfoaaGreat
set_option maxRecDepth 10000
open Go.RowKit
set_option linter.unusedVariables false
theorem CallM.frz {P:Program} {f:FuncId} {args:List PV} {T:TypeId} {k:Nat} {es:List (List PV)} (h:CallM P f args [] (.ms 0) [some ⟨T,k,es⟩]) (hes:∀ cs∈es,∀ p∈cs,isC1 p=true):CallM P f args [] (.sl es) []:=by
 intro S β w vs ω hk0 hl ha
 refine (h S β w vs ω hk0 hl ha).mono ?_
 rintro e w' ⟨v,E',rfl,hk,hS1,hS2,_,hr⟩
 obtain ⟨B,hB,hb,rfl⟩:=hr.ms_inv hk (l:=0) rfl
 have hkk:=hb.k
 have hn:=hb.n
 simp only at hkk hn
 have hβ:∀ l,β l=none:=fun l=>by
  cases h:β l with
  | none=>rfl
  | some B0=>obtain ⟨mb,hm⟩:=hk0.dom l B0 h; simp at hm
 let S':Nat→Prop:=fun b=>E'.S b∨(B.z=false∧b=B.b)
 have hok:Ok w (own0 β) (E1 S' (fun _=>none) 0) w' []:=
  ⟨hk.up,fun b hb'=>by
   rcases hb' with h | ⟨hz,rfl⟩
   ·exact hk.sz b h
   ·exact (hk.own 0 B hB hz).2.1,fun l B h=>(by cases h),fun l l' B B' h=>(by cases h),fun l h=>absurd h (Nat.not_lt_zero l),fun l B h=>(by cases h),fun l mb h=>(by simp at h),fun l B h=>(by cases h),hk.tab,fun _ _ h=>h.elim⟩
 have hnew:B.z=false→S B.b∨w.heap.size≤B.b∨own0 β B.b:=fun hz=>by
  rcases (hk.own 0 B hB hz).1 with h | h
  ·exact .inr (.inr h)
  ·exact .inr (.inl h)
 refine ⟨B.sv,E1 S' (fun _=>none) 0,rfl,hok,fun b hb'=>.inl (hS1 b hb'),fun b hb'=>?_,⟨fun l B h=>absurd h (Nat.not_lt_zero l),fun _ _ h=>h.elim⟩,.c ?_⟩
 ·rcases hb' with h | ⟨hz,rfl⟩
  ·exact hS2 b h
  ·exact hnew hz
 ·cases hz:B.z with
  | true=>
   have h0:es=[]:=hb.nil hz
   subst h0
   have hsv:B.sv=.slice none 0 0:=by simp [Blk.sv,hz]
   rw [hsv]
   exact .nil _ _
  | false=>
   have hsv:B.sv=.slice (some ⟨B.b,0,none⟩) es.length B.c:=by simp [Blk.sv,hz,hn]
   rw [hsv]
   obtain ⟨cells,hc,hcs,hcell⟩:=hb.mem hz
   have hat:∀ (i:Nat) (cs:List PV) (j:Nat) (p:PV),es[i]?=some cs→cs[j]?=some p→∃ x,w'.cell? ⟨B.b,0+i*k+j,none⟩=some x∧x.oneCell'=true∧RepC w' S' p x:=by
    intro i cs j p hi hj
    obtain ⟨x,x1,x2,x3⟩:=hcell i cs j p hi hj
    rw [hkk] at x1
    refine ⟨x,by rw [Nat.zero_add,cell_of_row w' B.b _ cells B.T (0,0) hc,x1],x2,?_⟩
    exact (x3.toC1 (hes cs (List.mem_of_getElem? hi) p (List.mem_of_getElem? hj))).ext (fun b hb=>.inl hb) (fun _ _ _=>rfl)
   exact .sl es B.b 0 k B.c (fun i j=>(w'.cell? ⟨B.b,0+i*k+j,none⟩).getD .nilIface) (.inr ⟨hz,rfl⟩) (by rw [← hkk]; exact hb.pos) (by rw [← hn]; exact hb.nc) hb.cm (fun i cs hi=>by rw [← hkk]; exact hb.es i cs hi)
    (fun i cs j p hi hj=>by obtain ⟨x,x1,_⟩:=hat i cs j p hi hj; rw [x1]; rfl)
    (fun i cs j p hi hj=>by obtain ⟨x,x1,x2,_⟩:=hat i cs j p hi hj; rw [x1]; exact x2)
    (fun i cs j p hi hj=>by obtain ⟨x,x1,_,x3⟩:=hat i cs j p hi hj; rw [x1]; exact x3)
def Zeu (l:List YTrip):Option (List YTrip):=ZA l
theorem Zfy (l:List YTrip) {r:List YTrip} (H:Zeu l=some r):CallM Tryz.prog 137 [.sl (l.map cTrip)] [] (.sl (r.map cTrip)) []:=
 (CT.ok (P:=Tryz.prog) (x:=ZA l) H).frz fun cs hcs p hp=>by
  obtain ⟨x,_,rfl⟩:=List.mem_map.1 hcs
  simp only [cTrip,List.mem_cons,List.not_mem_nil,or_false] at hp
  rcases hp with rfl | rfl <;> rfl
instance (l:List YTrip):CT Tryz.prog (Zeu l):=⟨137,[.sl (l.map cTrip)],[],fun r=>.sl (r.map cTrip),fun r=>[],Zfy l⟩
set_option maxHeartbeats 16000000
def ZfC (n:YNetwork) (leg:Int) (at2_:Int) (s0:Int):Option (Int ⊕ (Unit ⊕ (YTrip × Bool))):=
 cond (decide (s0≤60))
 ((Zdy n leg s0).bind fun y1=>
 cond y1
 ((Zah n (⟨leg,s0⟩:YTrip)).bind fun y2=>
 cond (decide (at2_≤y2))
 (some (.inr (.inr ((⟨leg,s0⟩:YTrip),true))))
 (some (.inl (w64 (s0+1)))))
 (some (.inl (w64 (s0+1)))))
 (some (.inr (.inl ())))
instance (n:YNetwork) (leg:Int) (at2_:Int):LoopE (ZfC n leg at2_):=⟨fun s0=>(.un::vi leg::vi at2_::.be 0 0 0::.un::.un::.be 1 0 0::.un::vi s0::(U 21 [])),fun s0=>[some ⟨.of 35,3,[[.sl (n.legs.map cLeg),.sl (n.off.map cInt),vi n.change]]⟩,some ⟨.of 55,2,[[vi 0,vi 0]]⟩]⟩
def ZfO (n:YNetwork) (leg:Int) (at2_:Int):Option (YTrip × Bool):=
 (iterF (ZfC n leg at2_) NN 0).bind (selim (fun o0=>
 some ((⟨0,0⟩:YTrip),false)) (fun r=>some r))
instance (n:YNetwork) (leg:Int) (at2_:Int):CT Tryz.prog (ZfO n leg at2_):=⟨219,[.ag (cNetwork n),vi leg,vi at2_],[],fun r=>.tu [.ag [vi r.1.leg,vi r.1.day],vb r.2],fun r=>[],fun H=>by replace H:=H0 H; unfold ZfO at H; exact callM_of Tryz.func219 rfl Tryz.ntmps219 Tryz.results219 fun Q hQ hQn=>wk3⟩
def Zev (leg:Int) (at1_:Int) (c0_:YNetwork):Option (YTrip × Bool):=
 (ZfO c0_ leg at1_).bind fun y1=>
 some (y1.1,y1.2)
instance (leg:Int) (at1_:Int) (c0_:YNetwork):CT Tryz.prog (Zev leg at1_ c0_):=⟨218,[vi leg,vi at1_,.rp [.sl (c0_.legs.map cLeg),.sl (c0_.off.map cInt),vi c0_.change]],[],fun r=>.tu [.ag [vi r.1.leg,vi r.1.day],vb r.2],fun r=>[],fun H=>by replace H:=H0 H; unfold Zev at H; exact callM_of Tryz.func218 rfl Tryz.ntmps218 Tryz.results218 fun Q hQ hQn=>wk3⟩
def ZdW (n:YNetwork) (find0_:YNetwork) (at3_:Int) (legs:Int) (y1:List ByteArray) (y2:Int) (s0:Int × (List Int)):Option ((Int × (List Int)) ⊕ (List Int)):=
 cond (decide (s0.1<(y1.length:Int)))
 ((chk (appOk ((s0.2:List Int).length+([(-1)]:List Int).length) 8)).bind fun _=>
 some (.inl ((w64 (s0.1+1)),((s0.2:List Int)++[(-1)]))))
 (some (.inr s0.2))
instance (n:YNetwork) (find0_:YNetwork) (at3_:Int) (legs:Int) (y1:List ByteArray) (y2:Int):LoopE (ZdW n find0_ at3_ legs y1 y2):=⟨fun s0=>(.un::.fn 218 [.rp [.sl (find0_.legs.map cLeg),.sl (find0_.off.map cInt),vi find0_.change]]::.un::vi at3_::vi legs::.be 0 0 0::(U 5 (.ms 1::vi y2::.ms 2::(U 26 (vi (y1.length:Int)::vi s0.1::(U 83 [])))))),fun s0=>[some ⟨.of 35,3,[[.sl (n.legs.map cLeg),.sl (n.off.map cInt),vi n.change]]⟩,some ⟨.of 9,1,y1.map cStr⟩,some ⟨.of 3,1,s0.2.map cInt⟩]⟩
def ZdY (n:YNetwork) (find0_:YNetwork) (legs:Int) (y1:List ByteArray) (y2:Int) (s1:Int × (List Int)) (s2:Int × Bool × (List Int)):Option ((Int × Bool × (List Int)) ⊕ (Bool × (List Int))):=
 cond (decide (s2.1<(n.legs.length:Int)))
 ((getI n.legs s2.1).bind fun y4=>
 (Zk y1 y4.from_).bind fun y5=>
 (Zk y1 y4.to_).bind fun y6=>
 (getI s1.2 y5).bind fun y7=>
 cond (decide (y7<0))
 (some (.inl ((w64 (s2.1+1)),s2.2.1,s2.2.2)))
 ((getI s1.2 y5).bind fun y8=>
 (ZbZ n y8 (decide (y5=y2))).bind fun y9=>
 (Zev s2.1 y9 find0_).bind fun y10=>
 cond y10.2
 ((getI s2.2.2 y6).bind fun y11=>
 cond (decide (y11<0))
 ((ZF n y10.1).bind fun y12=>
 (getI s2.2.2 y6).bind fun y13=>
 some (.inl ((w64 (s2.1+1)),true,(s2.2.2.set (Int.toNat y6) y12))))
 ((ZF n y10.1).bind fun y14=>
 (getI s2.2.2 y6).bind fun y15=>
 cond (decide (y14<y15))
 ((ZF n y10.1).bind fun y16=>
 (getI s2.2.2 y6).bind fun y17=>
 some (.inl ((w64 (s2.1+1)),true,(s2.2.2.set (Int.toNat y6) y16))))
 (some (.inl ((w64 (s2.1+1)),s2.2.1,s2.2.2)))))
 (some (.inl ((w64 (s2.1+1)),s2.2.1,s2.2.2)))))
 (some (.inr (s2.2.1,s2.2.2)))
instance (n:YNetwork) (find0_:YNetwork) (legs:Int) (y1:List ByteArray) (y2:Int) (s1:Int × (List Int)):LoopE (ZdY n find0_ legs y1 y2 s1):=⟨fun s2=>(.un::.fn 218 [.rp [.sl (find0_.legs.map cLeg),.sl (find0_.off.map cInt),vi find0_.change]]::.un::.un::vi legs::.be 0 0 0::(U 5 (.ms 1::vi y2::.ms 2::vi s1.1::.ms 3::vb s2.2.1::(U 44 (.sl (n.legs.map cLeg)::vi (n.legs.length:Int)::vi s2.1::(U 61 [])))))),fun s2=>[some ⟨.of 35,3,[[.sl (n.legs.map cLeg),.sl (n.off.map cInt),vi n.change]]⟩,some ⟨.of 9,1,y1.map cStr⟩,some ⟨.of 3,1,s1.2.map cInt⟩,some ⟨.of 3,1,s2.2.2.map cInt⟩]⟩
def ZdX (n:YNetwork) (find0_:YNetwork) (legs:Int) (y1:List ByteArray) (y2:Int) (s1:Int × (List Int)):Option ((Int × (List Int)) ⊕ (List Int)):=
 cond (decide (s1.1<legs))
 ((chk (appOk ((([]:List Int):List Int).length+(s1.2:List Int).length) 8)).bind fun _=>
 (iterF (ZdY n find0_ legs y1 y2 s1) NN (0,false,((([]:List Int):List Int)++s1.2))).bind (fun o2=>
 cond (!o2.1)
 (some (.inr o2.2))
 (some (.inl ((w64 (s1.1+1)),o2.2)))))
 (some (.inr s1.2))
instance (n:YNetwork) (find0_:YNetwork) (legs:Int) (y1:List ByteArray) (y2:Int):LoopE (ZdX n find0_ legs y1 y2):=⟨fun s1=>(.un::.fn 218 [.rp [.sl (find0_.legs.map cLeg),.sl (find0_.off.map cInt),vi find0_.change]]::.un::.un::vi legs::.be 0 0 0::(U 5 (.ms 1::vi y2::.ms 2::vi s1.1::(U 110 [])))),fun s1=>[some ⟨.of 35,3,[[.sl (n.legs.map cLeg),.sl (n.off.map cInt),vi n.change]]⟩,some ⟨.of 9,1,y1.map cStr⟩,some ⟨.of 3,1,s1.2.map cInt⟩]⟩
def ZdA (n:YNetwork) (find0_:YNetwork) (from2_:ByteArray) (at3_:Int) (legs:Int):Option (List Int):=
 (ZD n).bind fun y1=>
 (Zk y1 from2_).bind fun y2=>
 cond (decide (y2<0))
 (some ([]))
 (cond (decide (100000<at3_))
 (some ([]))
 (cond (decide (legs<0))
 (some ([]))
 ((iterF (ZdW n find0_ at3_ legs y1 y2) NN (0,([]:List Int))).bind (fun o0=>
 (getI o0 y2).bind fun y3=>
 (iterF (ZdX n find0_ legs y1 y2) NN (0,(o0.set (Int.toNat y2) (if 0 > at3_ then 0 else at3_)))).bind (fun o1=>
 some o1)))))
instance (n:YNetwork) (find0_:YNetwork) (from2_:ByteArray) (at3_:Int) (legs:Int):CT Tryz.prog (ZdA n find0_ from2_ at3_ legs):=⟨216,[.ag (cNetwork n),.fn 218 [.rp [.sl (find0_.legs.map cLeg),.sl (find0_.off.map cInt),vi find0_.change]],vs from2_,vi at3_,vi legs],[],fun r=>.ms 0,fun r=>[some ⟨.of 3,1,r.map cInt⟩],fun H=>by replace H:=H0 H; unfold ZdA at H; exact callM_of Tryz.func216 rfl Tryz.ntmps216 Tryz.results216 fun Q hQ hQn=>wk3⟩
def ZeX (n:YNetwork):Option YNetwork:=
 some (n)
instance (n:YNetwork):CT Tryz.prog (ZeX n):=⟨152,[.ag (cNetwork n)],[],fun r=>.fn 218 [.rp [.sl (r.legs.map cLeg),.sl (r.off.map cInt),vi r.change]],fun r=>[],fun H=>by replace H:=H0 H; unfold ZeX at H; exact callM_of Tryz.func152 rfl Tryz.ntmps152 Tryz.results152 fun Q hQ hQn=>wk3⟩
def Zdx (n:YNetwork) (from1_:ByteArray) (at2_:Int) (legs:Int):Option (List Int):=
 (Zas n).bind fun y1=>
 cond (!y1)
 (some ([]))
 ((ZeX n).bind fun y2=>
 (ZdA n y2 from1_ at2_ legs).bind fun y3=>
 some y3)
instance (n:YNetwork) (from1_:ByteArray) (at2_:Int) (legs:Int):CT Tryz.prog (Zdx n from1_ at2_ legs):=⟨245,[.ag (cNetwork n),vs from1_,vi at2_,vi legs],[],fun r=>.ms 0,fun r=>[some ⟨.of 3,1,r.map cInt⟩],fun H=>by replace H:=H0 H; unfold Zdx at H; exact callM_of Tryz.func245 rfl Tryz.ntmps245 Tryz.results245 fun Q hQ hQn=>wk3⟩
def Zd2 (n:YNetwork) (from1_:ByteArray) (to_:ByteArray) (at3_:Int):Option Int:=
 (ZD n).bind fun y1=>
 (Zdx n from1_ at3_ (y1.length:Int)).bind fun y2=>
 (Zk y1 to_).bind fun y3=>
 cond (decide (y3<0))
 (some (-1))
 (cond (decide ((y2.length:Int)=0))
 (some (-1))
 ((getI y2 y3).bind fun y4=>
 some y4))
instance (n:YNetwork) (from1_:ByteArray) (to_:ByteArray) (at3_:Int):CT Tryz.prog (Zd2 n from1_ to_ at3_):=⟨203,[.ag (cNetwork n),vs from1_,vs to_,vi at3_],[],fun r=>vi r,fun r=>[],fun H=>by replace H:=H0 H; unfold Zd2 at H; exact callM_of Tryz.func203 rfl Tryz.ntmps203 Tryz.results203 fun Q hQ hQn=>wk3⟩
def Zeg (n:YNetwork) (service:Int) (from2_:ByteArray) (to_:ByteArray) (at4_:Int):Option Int:=
 (Zd2 n from2_ to_ at4_).bind fun y1=>
 cond (decide (y1=(-1)))
 (some (-1))
 ((Zj service 1 3).bind fun y2=>
 cond (!y2)
 (some (-1))
 (cond (decide (1080<(Int.tmod y1 1440)))
 ((getI ([0,1,4]:List Int) (w64 (service-1))).bind fun y3=>
 some (w64 ((w64 ((w64 ((w64 ((IntKind.i64.wrap (Int.tdiv y1 1440))+1))+y3))*1440))+1080)))
 ((getI ([0,1,4]:List Int) (w64 (service-1))).bind fun y4=>
 some (w64 ((w64 ((w64 ((IntKind.i64.wrap (Int.tdiv y1 1440))+y4))*1440))+1080)))))
instance (n:YNetwork) (service:Int) (from2_:ByteArray) (to_:ByteArray) (at4_:Int):CT Tryz.prog (Zeg n service from2_ to_ at4_):=⟨136,[.ag (cNetwork n),vi service,vs from2_,vs to_,vi at4_],[],fun r=>vi r,fun r=>[],fun H=>by replace H:=H0 H; unfold Zeg at H; exact callM_of Tryz.func136 rfl Tryz.ntmps136 Tryz.results136 fun Q hQ hQn=>wk3⟩
set_option linter.unusedSimpArgs false
set_option linter.unusedSectionVars false
theorem ZwI (t:YTrip):ZN [] t=some 0:=by
 unfold ZN
 obtain ⟨N,hN⟩:∃ N,NN=N+1:=⟨NN-1,by unfold NN; omega⟩
 rw [hN]
 unfold iterF ZI
 rfl
section
variable {n:YNetwork} (hf:ZZ n) (hn:Zb n=some true) (hr:∀ l∈n.legs,1≤l.room)
include hf hn hr
end
structure WayR (n:YNetwork) (l:List YBooking) (closed:List YTrip) (weight:Int) (from_ to_:ByteArray) (at_:Int) (way:List YTrip):Prop where
 hC:Zr n l=true∧0≤idxV (Za n) from_∧at_≤100000∧1≤weight
 hto:0≤idxV (Za n) to_
 len:way.length≤20
 best:∃ e,getI (ZU n l closed weight (idxV (Za n) from_) at_ (Za n).length) (idxV (Za n) to_)=some e∧0≤e∧e≤100000∧(way=[]∧e=(if 0 > at_ then 0 else at_)∨∃ t,way.getLast?=some t∧ZbH n t=e)
 nodup:(from_::way.map (ZaS n)).Nodup
 last:(from_::way.map (ZaS n)).getLast?=some to_
 chain:ZcD n from_ (if 0 > at_ then 0 else at_) way
 found:∀ t∈way,Zar closed t=some false∧∃ y q,getI n.legs t.leg=some y∧ZN l t=some q∧weight≤w64 (y.room-q)
theorem Zfj {n:YNetwork}:∀ {ts:List YTrip} {p:ByteArray} {a:Int},ZcD n p a ts→∀ t∈ts,Zc3 n t=true
 | x::ts,p,a,h,t,ht=>by
  rcases List.mem_cons.1 ht with rfl | ht
  ·exact h.1
  ·exact Zfj h.2.2.2 t ht
section
variable {n:YNetwork} (hf:ZZ n)
include hf
theorem Zqj {l:List YBooking} (hl:l.length≤1048576) {closed:List YTrip} {from_:ByteArray} {at_ weight:Int} (hC:¬ (Zr n l=true∧0≤idxV (Za n) from_∧at_≤100000∧1≤weight)) (k:Int):Zv n l closed from_ at_ weight k=some []:=by
 unfold Zv
 rw [(ZaL hf).2]
 simp only [Option.bind_some,ZeU hf,Zb2 hf hl]
 by_cases hB:Zr n l=true
 case neg=>rw [show Zr n l=false by simpa using hB]; rfl
 rw [hB]
 by_cases h1:idxV (Za n) from_<0
 ·rw [decide_eq_true h1]; rfl
 by_cases h2:100000<at_
 ·rw [decide_eq_true h2,decide_eq_false h1]; rfl
 by_cases h3:weight<1
 ·rw [decide_eq_true h3,decide_eq_false h1,decide_eq_false h2]; rfl
 exact absurd ⟨hB,by omega,by omega,by omega⟩ hC
theorem ZqX {from_:ByteArray} {at_:Int} {way:List YTrip} (hn:Zb n=some true) (hnd:(from_::way.map (ZaS n)).Nodup) (hc:ZcD n from_ at_ way):way.length≤20:=by
 have hlg:=Zfs hn
 have hb:∀ t∈way,0≤t.leg∧t.leg.toNat<n.legs.length:=fun t ht=>by
  obtain ⟨y,hy,_⟩:=ZbE hf (Zfj hc t ht)
  obtain ⟨a,b⟩:=getI_some hy
  exact ⟨a,(List.getElem?_eq_some_iff.1 b).1⟩
 have h1:=(List.nodup_cons.1 hnd).2
 unfold List.Nodup at h1
 rw [List.pairwise_map] at h1
 have h2:(way.map fun t=>t.leg.toNat).Nodup:=by
  unfold List.Nodup
  rw [List.pairwise_map]
  refine h1.imp_of_mem fun {a b} ha hb' h e=>h ?_
  have e1:a.leg=b.leg:=by have:=hb a ha; have:=hb b hb'; omega
  unfold ZaS
  rw [e1]
 have:=ZjQ n.legs.length _ h2 fun x hx=>by
  obtain ⟨t,ht,rfl⟩:=List.mem_map.1 hx
  exact (hb t ht).2
 rw [List.length_map] at this
 omega
theorem Zj3 {l:List YBooking} (hl:l.length≤1048576) {closed:List YTrip} (hc:closed.length≤1048576) {from_ to_:ByteArray} {at_ weight:Int} {way:List YTrip} (h:Zq n l closed from_ to_ at_ weight=some (way,true)):WayR n l closed weight from_ to_ at_ way:=by
 unfold Zq at h
 rw [(ZaL hf).2] at h
 simp only [Option.bind_some,ZeU hf] at h
 by_cases hC:Zr n l=true∧0≤idxV (Za n) from_∧at_≤100000∧1≤weight
 case neg=>
  rw [Zqj hf hl hC] at h
  simp only [Option.bind_some,List.length_nil] at h
  by_cases ht:idxV (Za n) to_<0
  ·rw [decide_eq_true ht] at h; cases h
  ·rw [decide_eq_false ht] at h; cases h
 have hn:=(ZV hC.1).1
 have hlg:=Zfs hn
 have hp:(Za n).length≤40:=by have:=Zbk n; omega
 have hbl:=Zel hf hl hc weight (idxV (Za n) from_) at_
 have hfl:=(Zer (Za n) from_).2
 have htl:=(Zer (Za n) to_).2
 rw [Zd8 hf hl hc weight at_ hC (Nat.le_refl _)] at h
 simp only [Option.bind_some] at h
 by_cases ht:idxV (Za n) to_<0
 ·rw [decide_eq_true ht] at h; cases h
 obtain ⟨e,he,_⟩:=Zei (xs:=ZU n l closed weight (idxV (Za n) from_) at_ (Za n).length) (i:=idxV (Za n) to_) ⟨by omega,by rw [hbl]; exact htl⟩
 simp only [decide_eq_false ht,cond_false,decide_eq_false (show ¬ (((ZU n l closed weight (idxV (Za n) from_) at_ (Za n).length).length:Int)=0) by rw [hbl]; omega),he,Option.bind_some] at h
 by_cases hd:e<0
 ·rw [decide_eq_true hd] at h; cases h
 obtain ⟨k,q1,q2,q3,q4,q5⟩:=Zin hf hl hc weight at_ hp hC ⟨by omega,htl⟩ he
 obtain ⟨w,p1,p2⟩:=ZqC hf hn hl hc weight at_ hC k to_ e [] (by omega) q2 (by omega) q3 (by simp only [List.length_nil]; omega) NN (by unfold NN; omega)
 rw [List.append_nil] at p1
 simp only [decide_eq_false hd,cond_false,q4,Option.bind_some,p1,Option.some.injEq,Prod.mk.injEq] at h
 obtain ⟨rfl,_⟩:=h
 have po:=ZqD hf hn hl hc weight at_ hC.2.1 hC.2.2.1 p2
 exact ⟨hC,by omega,ZqX hf hn po.nodup po.chain,⟨e,he,po.time.1,po.time.2,po.ends⟩,po.nodup,po.last,po.chain,po.found⟩
theorem Zko (hn:Zb n=some true) {way:List YTrip} (hl:way.length≤1048576) {a b:ByteArray} {t:Int} (ha:0≤idxV (Za n) a) (hb:0≤idxV (Za n) b) (hc:ZcD n a t way) (he:way.foldl (fun _ t=>ZaS n t) a=b):Zan n way a b t=some true:=by
 obtain ⟨ch0,ch1⟩:=Zdb hn
 have key:∀ (d i:Nat) (p:ByteArray) (u:Int),i+d=way.length→ZcD n p u (way.drop i)→∀ N,d<N→iterF (ZE n way b) N (p,u,(i:Int))=some (.inl ((way.drop i).foldl (fun _ t=>ZaS n t) p)):=by
  intro d
  induction d with
  | zero=>
   intro i p u hi h N hN
   obtain ⟨N,rfl⟩:∃ M,N=M+1:=⟨N-1,by omega⟩
   rw [List.drop_of_length_le (by omega)]
   unfold iterF ZE
   simp only [decide_eq_false (show ¬ (i:Int)<(way.length:Int) by omega),cond_false,List.foldl_nil]
   rfl
  | succ d ih=>
   intro i p u hi h N hN
   obtain ⟨N,rfl⟩:∃ M,N=M+1:=⟨N-1,by omega⟩
   have hlt:i<way.length:=by omega
   have hg:getI way (i:Int)=some way[i]:=by rw [Zd]; exact List.getElem?_eq_getElem hlt
   have hw:w64 ((i:Int)+1)=((i+1:Nat):Int):=Zt hlt (by omega)
   rw [List.drop_eq_getElem_cons hlt] at h ⊢
   obtain ⟨c1,c2,c3,c4⟩:=h
   obtain ⟨y,hy,_⟩:=ZbE hf c1
   obtain ⟨t1,t2,t3,t4,t5⟩:=ZbF hf hn c1
   have f1:Zd1 n way[i]=y.from_:=by unfold Zd1; rw [hy]; rfl
   have f2:ZaS n way[i]=y.to_:=by unfold ZaS; rw [hy]; rfl
   have hwe:w64 (ZbH n way[i]+n.change)=ZbH n way[i]+n.change:=Zc (by omega)
   have hstep:ZE n way b (p,u,(i:Int))=some (.inl (ZaS n way[i],ZbH n way[i]+n.change,((i+1:Nat):Int))):=by
    unfold ZE
    simp only [decide_eq_true (show (i:Int)<way.length by omega),cond_true,hg,Option.bind_some,ZlB hf hn,c1,Bool.not_true,cond_false,hy,t1,t2,decide_eq_true (show y.from_=p by rw [← f1]; exact c2),decide_eq_false (show ¬ Zbp n way[i]<u by omega),hwe,hw,f2]
   unfold iterF
   rw [hstep,List.foldl_cons]
   exact ih (i+1) _ _ (by omega) c4 N (by omega)
 have hk:=key way.length 0 a t (by omega) (by simpa using hc) NN (by unfold NN; omega)
 rw [List.drop_zero,he] at hk
 have hpl:=Zbk n
 have hll:=hf.legs
 unfold Zan
 rw [(ZaL hf).2,hn]
 simp only [Option.bind_some,Zet (show (Za n).length≤4194304 by omega),decide_eq_false (show ¬ idxV (Za n) a<0 by omega),decide_eq_false (show ¬ idxV (Za n) b<0 by omega),Bool.not_true,cond_false]
 rw [show (0:Int)=((0:Nat):Int) from rfl,hk]
 simp [selim]
end
theorem ZwG {α β:Type} (f:α→β):∀ (l:List α) (a b:β),(a::l.map f).getLast?=some b→l.foldl (fun _ x=>f x) a=b
 | [],a,b,h=>by simpa using h
 | x::l,a,b,h=>by
  rw [List.map_cons,List.getLast?_cons_cons] at h
  exact ZwG f l (f x) b h
theorem Zoj:∀ (l:List YBooking),l.length≤1048575→∃ d:List YBooking,d.Perm l∧d.Pairwise leB
 | [],_=>⟨[],.nil,.nil⟩
 | x::l,h=>by
  rw [List.length_cons] at h
  obtain ⟨d,h1,h2⟩:=Zoj l (by omega)
  have:=h1.length_eq
  obtain ⟨r,_,_,h3,h4⟩:=ZmO (l:=d) (by omega) x h2
  exact ⟨r,h3.trans ((h1.append_right [x]).trans (List.perm_append_comm (l₁:=l) (l₂:=[x]))),h4⟩
def newO (w:YWorld) (from_ to_:ByteArray) (service weight due:Int) (way:List YTrip):YOrder:=⟨from_,to_,service,weight,w.now,due,way,0,1,from_,0⟩
def accV (w:YWorld) (o:YOrder) (ys:List YBooking):YWorld:=Zgs ⟨w.network,w.orders++[o],ys,w.closed,w.now,w.scans,w.skip,w.made⟩ ⟨(w.orders.length:Int)+1,w.now,1,o.from_,⟨0,0⟩⟩
theorem ZwN {l l':List YBooking} (h:∀ b∈l,b∈l') {th:Int} {t:YTrip} {wt:Int} (hb:Zct l th t wt=true):Zct l' th t wt=true:=by
 unfold Zct at *
 rw [List.any_eq_true] at *
 obtain ⟨x,h1,h2⟩:=hb
 exact ⟨x,h x h1,h2⟩
theorem ZwV (os:List YOrder) (o:YOrder):(os++[o]).foldl (fun a (o:YOrder)=>w64 (a+(o.way.length:Int))) 0=w64 (os.foldl (fun a (o:YOrder)=>w64 (a+(o.way.length:Int))) 0+(o.way.length:Int)):=by
 rw [List.foldl_append]; rfl
section
variable {w:YWorld} (h:WOk w)
include h
theorem Zw0 {th:Int} (h1:1≤th∧th≤9999) {p:ByteArray} (hp:0≤idxV (Za w.network) p):Zai w.network ⟨th,w.now,1,p,⟨0,0⟩⟩=some true:=by
 have hnow:=h.parts.1
 have hpl:=Zbk w.network
 have hll:=h.fit.net.legs
 unfold Zai
 rw [h.net]
 simp only [Option.bind_some,ZcU,Bool.not_true,cond_false,decide_eq_true h1.1,decide_eq_true h1.2,decide_eq_true hnow.1,decide_eq_true hnow.2,Bool.and_self,(ZaL h.fit.net).2,Zet (show (Za w.network).length≤4194304 by omega),decide_true,cond_true,decide_eq_true hp]
theorem Zw6 (ho30:w.orders.length<30) {from_ to_:ByteArray} (hne:¬ from_=to_) {service weight due:Int} (hs:1≤service∧service≤3) (hw:1≤weight∧weight≤30000) (hdue:0≤due∧due≤200000) {way:List YTrip} (hR:WayR w.network w.bookings w.closed weight from_ to_ (w.now+1) way)
 {ys:List YBooking} (hp:ys.Perm (w.bookings++Zdc ((w.orders.length:Int)+1) weight way)) (hb:Zr w.network ys=true):WOk (accV w (newO w from_ to_ service weight due way) ys):=by
 obtain ⟨p1,p2,p3,p4,p5,p6,p7⟩:=h.parts
 have hbn:=(ZV hb).2
 have hlen:=hR.len
 have hyl:=hp.length_eq
 rw [List.length_append] at hyl
 have hnl:(Zdc ((w.orders.length:Int)+1) weight way).length=way.length:=by unfold Zdc; rw [List.length_map]
 rw [hnl] at hyl
 have hv:=h.ok
 have hat:(if 0 > w.now+1 then 0 else w.now+1)=w.now+1:=if_neg (by omega)
 have hch:=hR.chain
 rw [hat] at hch
 have htrip:=Zfj hch
 have hmem:∀ b∈w.bookings,b∈ys:=fun b hb=>hp.mem_iff.2 (List.mem_append_left _ hb)
 have hlast:=ZwG (ZaS w.network) way from_ to_ hR.last
 have hsc:=Zxn (n:=w.network) (at_:=w.now) (skip:=w.skip) (p:=(w.scans,w.made)) (s:=⟨(w.orders.length:Int)+1,w.now,1,from_,⟨0,0⟩⟩) ⟨fun s hs=>Zxl h.fit h.ok hs,p4,p6⟩ ⟨Zw0 h (by omega) hR.hC.2.1,Int.le_refl _⟩
 have hnew:Zej (accV w (newO w from_ to_ service weight due way) ys) w.orders.length (newO w from_ to_ service weight due way)=true:=by
  have hcv:Zh (newO w from_ to_ service weight due way)=0:=by unfold Zh newO; rw [if_neg (by simp)]
  have hst:Zl w.network (newO w from_ to_ service weight due way) w.now=some true:=by
   refine (Zh0 h.fit.net h.net ⟨Int.le_refl _,by simp only [newO]; omega⟩ (by simp only [newO]; omega) htrip w.now).2 ⟨fun t h0=>by simp [newO] at h0,.inl ⟨rfl,?_,?_,rfl,fun t ht=>?_⟩⟩
   ·unfold Zhy newO; rw [if_neg (by simp)]
   ·unfold Zhy newO; rw [if_neg (by simp)]; exact hne
   ·have ht':way[0]?=some t:=ht
    cases way with
    | nil=>simp at ht'
    | cons x xs=>
     obtain rfl:x=t:=by simpa using ht'
     have:=hch.2.2.1
     omega
  unfold Zej
  simp only [Bool.and_eq_true,Bool.not_eq_true',decide_eq_true_iff,decide_eq_false_iff_not]
  have hid:¬ idxV (Za w.network) from_<0:=by have:=hR.hC.2.1; omega
  have hid2:¬ idxV (Za w.network) to_<0:=by have:=hR.hto; omega
  have hw1:w64 (w.now+1)=w.now+1:=Zc (by omega)
  refine ⟨⟨⟨⟨⟨⟨⟨⟨⟨⟨⟨hid,hid2⟩,hne⟩,hs⟩,hw⟩,p1.1,Int.le_refl _⟩,hdue⟩,Int.le_refl _,by simp only [newO]; omega⟩,?_⟩,?_⟩,?_⟩,?_⟩
  ·refine Zdr.2 fun j t hj=>?_
   have hj':way[j]?=some t:=hj
   have htm:=List.mem_of_getElem? hj'
   unfold wayC
   simp only [Bool.and_eq_true,Bool.not_eq_true',Bool.and_eq_false_imp,decide_eq_true_iff,decide_eq_false_iff_not,Nat.zero_add]
   refine ⟨⟨htrip t htm,?_⟩,fun he hj1=>?_⟩
   ·unfold Zct
    refine List.any_eq_true.2 ⟨⟨(w.orders.length:Int)+1,t,weight⟩,hp.mem_iff.2 (List.mem_append_right _ ?_),decide_eq_true ?_⟩
    ·unfold Zdc; exact List.mem_map_of_mem htm
    ·rw [show ((w.orders.length+1:Nat):Int)=(w.orders.length:Int)+1 by omega]; rfl
   ·have hj1':j+1<way.length:=hj1
    have he':ZaS w.network t=to_:=he
    have hnd:=hR.nodup
    have hl2:=hR.last
    rw [List.getLast?_eq_getElem?,List.length_cons,List.length_map,Nat.add_sub_cancel] at hl2
    have h1:(from_::way.map (ZaS w.network))[j+1]?=some to_:=by rw [List.getElem?_cons_succ,List.getElem?_map,hj',Option.map_some,he']
    have h2:=List.pairwise_iff_getElem.1 hnd (j+1) way.length (by simp; omega) (by simp) (by omega)
    exact h2 ((List.getElem?_eq_some_iff.1 h1).2.trans (List.getElem?_eq_some_iff.1 hl2).2.symm)
  ·have hend:endV w.network (newO w from_ to_ service weight due way)=to_:=hlast
   show (Zan w.network way from_ (endV w.network (newO w from_ to_ service weight due way)) (w64 (w.now+1))).getD false=true
   rw [hend,hw1,Zko h.fit.net h.net (by omega) hR.hC.2.1 hR.hto hch hlast]; rfl
  ·show (Zl w.network (newO w from_ to_ service weight due way) w.now).getD false=true
   rw [hst]; rfl
  ·rw [hcv]
   refine List.any_eq_false.2 fun t ht=>?_
   have htm:t∈way:=List.mem_of_mem_drop ht
   have:=(hR.found t htm).1
   rw [Zd0,Zea h.fit.closed] at this
   have:=Option.some.inj this
   show ¬ ZK w.closed t=true
   unfold ZK
   rw [this]; simp
 have hold:∀ (i:Nat) (o:YOrder),w.orders[i]?=some o→Zej (accV w (newO w from_ to_ service weight due way) ys) i o=true:=fun i o hi=>by
  have hv:=Zh2 h.ok hi
  unfold Zej at hv ⊢
  simp only [Bool.and_eq_true,Bool.not_eq_true',decide_eq_true_iff,decide_eq_false_iff_not] at hv ⊢
  obtain ⟨⟨⟨⟨⟨⟨⟨⟨⟨⟨⟨h1,h2⟩,h3⟩,h4⟩,h5⟩,h6⟩,h7⟩,h8⟩,h9⟩,h10⟩,h11⟩,h12⟩:=hv
  refine ⟨⟨⟨⟨⟨⟨⟨⟨⟨⟨⟨h1,h2⟩,h3⟩,h4⟩,h5⟩,h6⟩,h7⟩,h8⟩,?_⟩,h10⟩,h11⟩,h12⟩
  refine Zdr.2 fun j t hj=>?_
  have:=Zdr.1 h9 j t hj
  unfold wayC at this ⊢
  simp only [Bool.and_eq_true] at this ⊢
  exact ⟨⟨this.1.1,ZwN hmem this.1.2⟩,this.2⟩
 refine ⟨⟨h.fit.net,?_,?_,h.fit.closed,?_,h.fit.skip,fun o ho=>?_⟩,?_⟩
 ·simp only [accV,Zgs,List.length_append,List.length_cons,List.length_nil]; omega
 ·simp only [accV,Zgs]; omega
 ·have:=hsc.len; simp only [accV,Zgs,newO]; omega
 ·have ho':o∈w.orders++[newO w from_ to_ service weight due way]:=ho
  rcases List.mem_append.1 ho' with ho | ho
  ·exact h.fit.way o ho
  ·obtain rfl:=List.mem_singleton.1 ho; simp only [newO]; omega
 ·unfold Zek at hv ⊢
  simp only [Bool.and_eq_true,Bool.not_eq_true',decide_eq_true_iff,decide_eq_false_iff_not] at hv ⊢
  obtain ⟨⟨⟨⟨⟨⟨⟨⟨⟨⟨h1,h2⟩,h3⟩,h4⟩,h5⟩,h6⟩,h7⟩,h8⟩,h9⟩,h10⟩,h11⟩:=hv
  have hl:=hsc.len
  have hmd:=hsc.made
  refine ⟨⟨⟨⟨⟨⟨⟨⟨⟨⟨hb,h2⟩,?_⟩,h4⟩,?_⟩,h6⟩,?_⟩,h8⟩,?_⟩,?_⟩,?_⟩
  ·simp only [accV,Zgs,List.length_append,List.length_cons,List.length_nil]; omega
  ·simp only [accV,Zgs,newO]; omega
  ·simp only [accV,Zgs,newO]; omega
  ·refine Zdr.2 fun j s hj=>?_
   obtain ⟨a,b⟩:=hsc.good s (List.mem_of_getElem? hj)
   show ((Zai w.network s).getD false && !decide (w.now<s.at_))=true
   rw [a,decide_eq_false (show ¬ w.now<s.at_ by omega)]; rfl
  ·refine Zdr.2 fun j o hj=>?_
   rw [Nat.zero_add]
   have hj':(w.orders++[newO w from_ to_ service weight due way])[j]?=some o:=hj
   by_cases hjl:j<w.orders.length
   ·rw [List.getElem?_append_left hjl] at hj'
    exact hold j o hj'
   ·rw [List.getElem?_append_right (by omega)] at hj'
    have hj0:j-w.orders.length=0:=by
     have:=(List.getElem?_eq_some_iff.1 hj').1
     simp only [List.length_cons,List.length_nil] at this; omega
    rw [hj0] at hj'
    obtain rfl:newO w from_ to_ service weight due way=o:=by simpa using hj'
    rw [show j=w.orders.length by omega]
    exact hnew
  ·have h11':w.orders.foldl (fun a (o:YOrder)=>w64 (a+(o.way.length:Int))) 0=(w.bookings.length:Int):=h11
   show (w.orders++[newO w from_ to_ service weight due way]).foldl (fun a (o:YOrder)=>w64 (a+(o.way.length:Int))) 0=(ys.length:Int)
   rw [ZwV,h11']
   show w64 ((w.bookings.length:Int)+(way.length:Int))=_
   rw [Zc (by omega)]; omega
end
def dueV (e service:Int):Int:=(e / 1440+(if 1080<e % 1440 then 1 else 0)+(if service=1 then 0 else if service=2 then 1 else 4))*1440+1080
theorem ZwH {n:YNetwork} {service e at_:Int} {from_ to_:ByteArray} (he:Zd2 n from_ to_ at_=some e) (h0:0≤e) (h1:e≤100000) (hs:1≤service∧service≤3):Zeg n service from_ to_ at_=some (dueV e service):=by
 unfold Zeg
 rw [he,ZdU]
 simp only [Option.bind_some,ZcU]
 have d1:e.tdiv 1440=e / 1440:=Int.tdiv_eq_ediv_of_nonneg h0
 have d2:e.tmod 1440=e % 1440:=Int.tmod_eq_emod_of_nonneg h0
 have hb:0≤e / 1440∧e / 1440≤69:=by omega
 have hwr:IntKind.i64.wrap (e / 1440)=e / 1440:=Zc (by omega)
 have hk:∃ k:Int,0≤k∧k≤4∧getI ([0,1,4]:List Int) (w64 (service-1))=some k∧k=(if service=1 then 0 else if service=2 then 1 else 4):=by
  rw [Zc (by omega)]
  rcases (show service=1∨service=2∨service=3 by omega) with rfl | rfl | rfl
  ·exact ⟨0,by omega,by omega,rfl,by simp⟩
  ·exact ⟨1,by omega,by omega,rfl,by simp⟩
  ·exact ⟨4,by omega,by omega,rfl,by simp⟩
 obtain ⟨k,k0,k1,k2,k3⟩:=hk
 rw [d1,d2,hwr,decide_eq_true hs.1,decide_eq_true hs.2,decide_eq_false (show ¬ e=-1 by omega),k2]
 simp only [cond_false,Bool.and_self,Bool.not_true,Option.bind_some]
 unfold dueV
 rw [← k3]
 by_cases hd:1080<e % 1440
 ·rw [decide_eq_true hd,if_pos hd,cond_true]
  rw [Zc (n:=e / 1440+1) (by omega),Zc (n:=e / 1440+1+k) (by omega),Zc (n:=(e / 1440+1+k)*1440) (by omega),Zc (by omega)]
 ·rw [decide_eq_false hd,if_neg hd,cond_false]
  rw [Zc (n:=e / 1440+k) (by omega),Zc (n:=(e / 1440+k)*1440) (by omega),Zc (by omega),Int.add_zero]
theorem Zw1 {e service:Int} (h0:0≤e) (h1:e≤100000):e≤dueV e service∧dueV e service≤200000:=by
 unfold dueV
 split <;> split <;> (try split) <;> omega
section
variable {n:YNetwork} (hf:ZZ n) (hn:Zb n=some true) (hr:∀ l∈n.legs,1≤l.room)
include hf hn hr
end
section
variable {n:YNetwork} (hf:ZZ n) (hn:Zb n=some true)
include hf hn
theorem ZwZ (leg at_:Int):Zev leg at_ n=Zcc leg at_ n [] [] 0:=by
 have hb:ZfC n leg at_=ZcP leg at_ n [] [] 0:=by
  funext s
  unfold ZfC ZcP
  rw [(ZeJ hf leg s).1]
  cases hd:decide (s≤60) with
  | false=>rfl
  | true=>
  cases hx:Zw n leg s with
  | none=>rfl
  | some b=>
  cases b with
  | false=>rfl
  | true=>
  obtain ⟨y,hy⟩:=Zhc hf hx
  have hlo:=(Zqy hf hn y (Zg6 hy)).room
  have hm:(0:Int)≤y.room:=by omega
  have hw:w64 (y.room-0)=y.room:=by rw [Zc (by omega)]; omega
  have ht:ZaC [] (⟨leg,s⟩:YTrip)=some false:=by rw [Zea (by simp)]; rfl
  have hL:Zcw [] (⟨leg,s⟩:YTrip)=some 0:=by rw [ZhD]; exact ZwI _
  simp only [cond_true,Option.bind_some,ht,hL,hy,hw,decide_eq_true hm,Bool.not_false]
 unfold Zev Zcc ZfO
 rw [hb]
 cases (iterF (ZcP leg at_ n [] [] 0) NN 0).bind (selim (fun o0=>some ((⟨0,0⟩:YTrip),false)) fun r=>some r) with
 | none=>rfl
 | some r=>rfl
theorem ZwJ (from_:ByteArray) (at_ legs:Int):ZdA n n from_ at_ legs=Zat n n [] [] 0 from_ at_ legs:=by
 have hb2:∀ legs y1 y2 s1,ZdY n n legs y1 y2 s1=ZT n n [] [] 0 legs y1 y2 s1:=fun legs y1 y2 s1=>by
  funext s2
  unfold ZdY ZT
  simp only [ZwZ hf hn]
 have hb1:∀ legs y1 y2,ZdX n n legs y1 y2=ZS n n [] [] 0 legs y1 y2:=fun legs y1 y2=>by
  funext s1
  unfold ZdX ZS
  rw [hb2]
 have hb0:∀ y1 y2,ZdW n n at_ legs y1 y2=Zap n n [] [] 0 at_ legs y1 y2:=fun y1 y2=>rfl
 unfold ZdA Zat
 simp only [hb0,hb1]
theorem ZwF {from_ to_:ByteArray} {at_:Int} (hfr:0≤idxV (Za n) from_) (hat:at_≤100000) (hto:0≤idxV (Za n) to_) {e:Int} (he:getI (ZU n [] [] 0 (idxV (Za n) from_) at_ (Za n).length) (idxV (Za n) to_)=some e):Zd2 n from_ to_ at_=some e:=by
 have hlg:=Zfs hn
 have hp:(Za n).length≤40:=by have:=Zbk n; omega
 have hpl:=(Zer (Za n) to_).2
 have hbl:=Zel hf (l:=[]) (by simp) (closed:=[]) (by simp) 0 (idxV (Za n) from_) at_ (Za n).length
 have hav:=Zmd hf (l:=[]) (by simp) (closed:=[]) (by simp) 0 hfr hat (by omega) (Za n).length (by omega)
 have hpa:Zk (Za n) to_=some (idxV (Za n) to_):=by rw [Zdd]; exact ZeU hf to_
 have hi:Zas n=some true:=by rw [(Zcr hf).1]; exact hn
 unfold Zd2 Zdx ZeX
 rw [(ZaL hf).1,(ZaL hf).2,hi]
 simp only [Option.bind_some,Bool.not_true,cond_false,ZwJ hf hn,hav,hpa,decide_eq_false (show ¬ idxV (Za n) to_<0 by omega),decide_eq_false (show ¬ (((ZU n [] [] 0 (idxV (Za n) from_) at_ (Za n).length).length:Int)=0) by rw [hbl]; omega),he]
theorem ZwL {t:YTrip} (ht:Zc3 n t=true) {y:YLeg} (hy:getI n.legs t.leg=some y):Zbp n t=t.day*1440+y.start∧ZbH n t=t.day*1440+y.start+y.takes:=by
 obtain ⟨d0,d1⟩:=Zps ht
 have hl:=Zqy hf hn y (Zg6 hy)
 obtain ⟨a0,a1⟩:=hl.start
 obtain ⟨b0,b1⟩:=hl.takes
 have e1:Zg n t=some (t.day*1440+y.start):=by
  unfold Zg
  rw [hy]
  simp only [Option.bind_some]
  rw [Zc (n:=t.day*1440) (by omega),Zc (by omega)]
 have e2:Ze n t=some (t.day*1440+y.start+y.takes):=by
  unfold Ze
  rw [e1,hy]
  simp only [Option.bind_some]
  rw [Zc (by omega)]
 exact ⟨by unfold Zbp; rw [e1]; rfl,by unfold ZbH; rw [e2]; rfl⟩
theorem Zw3 {leg d0 z:Int} (ht:Zc3 n ⟨leg,d0⟩=true) (hz:z≤Zbp n ⟨leg,d0⟩):∃ d,ZH n [] [] leg z 0=some d∧0≤d∧d≤d0∧Zc3 n ⟨leg,d⟩=true:=by
 obtain ⟨d1,d2⟩:=Zps ht
 simp only at d1 d2
 obtain ⟨y,hy,hym⟩:=ZbE hf ht
 have hlo:=(Zqy hf hn y hym).room
 have hc:Zar []=fun _=>some false:=by
  funext t
  rw [Zd0,Zea (by simp)]; rfl
 have hw:w64 (y.room-0)=y.room:=by rw [Zc (by omega)]; omega
 have hstep:∀ s:Int,0≤s→s≤60→ZP n [] [] leg z 0 s=some (if Zc3 n ⟨leg,s⟩=true∧z≤Zbp n ⟨leg,s⟩ then .inr (.inr s) else .inl (s+1)):=fun s s0 s1=>by
  have hws:w64 (s+1)=s+1:=Zc (by omega)
  have hr:=ZgF hf ⟨leg,s⟩
  simp only at hr
  unfold ZP
  rw [decide_eq_true s1,cond_true,hr,Option.bind_some,hws]
  cases hb:Zc3 n ⟨leg,s⟩ with
  | false=>simp
  | true=>
  obtain ⟨t1,_⟩:=ZbF hf hn hb
  simp only [cond_true,t1,Option.bind_some,hc,Bool.not_false,hy,ZwI,hw,decide_eq_true (show (0:Int)≤y.room by omega),true_and]
  by_cases h:z≤Zbp n ⟨leg,s⟩
  ·rw [decide_eq_true h,if_pos h]; rfl
  ·rw [decide_eq_false h,if_neg h]; rfl
 have key:∀ (k:Nat) (s:Int),0≤s→s+(k:Int)=d0→∀ N,k<N→∃ d,iterF (ZP n [] [] leg z 0) N s=some (.inr d)∧s≤d∧d≤d0∧Zc3 n ⟨leg,d⟩=true:=by
  intro k
  induction k with
  | zero=>
   intro s s0 hs N hN
   obtain ⟨N,rfl⟩:∃ M,N=M+1:=⟨N-1,by omega⟩
   obtain rfl:s=d0:=by omega
   refine ⟨s,?_,Int.le_refl _,Int.le_refl _,ht⟩
   unfold iterF
   rw [hstep s s0 d2,if_pos ⟨ht,hz⟩]
   rfl
  | succ k ih=>
   intro s s0 hs N hN
   obtain ⟨N,rfl⟩:∃ M,N=M+1:=⟨N-1,by omega⟩
   unfold iterF
   rw [hstep s s0 (by omega)]
   by_cases h:Zc3 n ⟨leg,s⟩=true∧z≤Zbp n ⟨leg,s⟩
   ·rw [if_pos h]
    exact ⟨s,rfl,Int.le_refl _,by omega,h.1⟩
   ·rw [if_neg h]
    obtain ⟨d,e1,e2,e3,e4⟩:=ih (s+1) (by omega) (by omega) N (by omega)
    exact ⟨d,e1,by omega,e3,e4⟩
 obtain ⟨d,e1,e2,e3,e4⟩:=key d0.toNat 0 (by omega) (by omega) NN (by unfold NN; omega)
 refine ⟨d,?_,e2,e3,e4⟩
 unfold ZH
 rw [e1]
 rfl
theorem Zw5 {f at_:Int} {k:Nat} {u:Int} {t:YTrip} (ht:Zc3 n t=true) (hl:LeAt (ZU n [] [] 0 f at_ k) (idxV (Za n) (Zd1 n t)) u) (hu:(if idxV (Za n) (Zd1 n t)=f then u else u+n.change)≤Zbp n t):
 LeAt (ZU n [] [] 0 f at_ (k+1)) (idxV (Za n) (ZaS n t)) (ZbH n t):=by
 obtain ⟨y,hy,hym⟩:=ZbE hf ht
 have f1:Zd1 n t=y.from_:=by unfold Zd1; rw [hy]; rfl
 have f2:ZaS n t=y.to_:=by unfold ZaS; rw [hy]; rfl
 obtain ⟨n0,n1⟩:=Zdb hn
 obtain ⟨_,_,_,t4,t5⟩:=ZbF hf hn ht
 rw [f1] at hl hu
 rw [f2]
 obtain ⟨v,v1,v2,v3⟩:=hl
 have hus:u≤Zbp n t:=by split at hu <;> omega
 obtain ⟨i0,hi⟩:=getI_some hy
 have hz:ZR n v (decide (idxV (Za n) y.from_=f))=some (if idxV (Za n) y.from_=f then v else v+n.change):=by
  unfold ZR
  by_cases h:idxV (Za n) y.from_=f
  ·rw [decide_eq_true h,if_pos h]; rfl
  ·rw [decide_eq_false h,if_neg h,cond_false,Zc (by omega)]
 have hzl:(if idxV (Za n) y.from_=f then v else v+n.change)≤Zbp n ⟨t.leg,t.day⟩:=by
  show _≤Zbp n t
  split at hu <;> split <;> omega
 obtain ⟨d,e1,e2,e3,e4⟩:=Zw3 hf hn (leg:=t.leg) (d0:=t.day) ht hzl
 obtain ⟨_,q2,_⟩:=ZbF hf hn e4
 have hlt:t.leg=((t.leg.toNat:Nat):Int):=by omega
 have hcand:Cand n [] [] 0 f (ZU n [] [] 0 f at_ k) (idxV (Za n) y.to_) (ZbH n ⟨t.leg,d⟩):=by
  refine ⟨t.leg.toNat,y,d,v,_,hi,rfl,v1,by omega,hz,?_,by omega,?_⟩
  ·rw [← hlt]; exact e1
  ·rw [← hlt]; exact q2
 obtain ⟨x,x1,x2,x3⟩:=(Zhj hf hn (l:=[]) (by simp) (closed:=[]) (by simp) 0 f at_ k).2 _ _ hcand
 refine ⟨x,x1,x2,?_⟩
 have g1:=(ZwL hf hn ht hy).2
 have g2:=(ZwL hf hn e4 hy).2
 simp only at g2
 omega
theorem ZwP {f at_:Int}:∀ (way:List YTrip) (p:ByteArray) (z u:Int) (k:Nat),ZcD n p z way→LeAt (ZU n [] [] 0 f at_ k) (idxV (Za n) p) u→(if idxV (Za n) p=f then u else u+n.change)≤z→
 ∀ t,way.getLast?=some t→LeAt (ZU n [] [] 0 f at_ (k+way.length)) (idxV (Za n) (ZaS n t)) (ZbH n t)
 | [],p,z,u,k,_,_,_,t,ht=>by simp at ht
 | x::way,p,z,u,k,hc,hl,hu,t,ht=>by
  obtain ⟨c1,c2,c3,c4⟩:=hc
  obtain ⟨n0,n1⟩:=Zdb hn
  subst c2
  have h1:=Zw5 hf hn (t:=x) c1 hl (by omega)
  cases way with
  | nil=>
   obtain rfl:x=t:=by simpa using ht
   exact h1
  | cons y way=>
   rw [List.getLast?_cons_cons] at ht
   have:=ZwP (y::way) (ZaS n x) (ZbH n x+n.change) (ZbH n x) (k+1) c4 h1 (by split <;> omega) t ht
   rw [show k+(x::y::way).length=k+1+(y::way).length by simp only [List.length_cons]; omega]
   exact this
theorem ZwS {from_:ByteArray} {at_:Int} {way:List YTrip} (hfr:0≤idxV (Za n) from_) (hnd:(from_::way.map (ZaS n)).Nodup) (hc:ZcD n from_ at_ way):way.length≤(Za n).length:=by
 have hpl:∀ p∈from_::way.map (ZaS n),0≤idxV (Za n) p:=fun p hp=>by
  rcases List.mem_cons.1 hp with rfl | hp
  ·exact hfr
  ·obtain ⟨t,ht,rfl⟩:=List.mem_map.1 hp
   obtain ⟨y,hy,hym⟩:=ZbE hf (Zfj hc t ht)
   have f2:ZaS n t=y.to_:=by unfold ZaS; rw [hy]; rfl
   rw [f2]
   exact ZdG (ZeV hym).2
 have h2:((from_::way.map (ZaS n)).map fun p=>(idxV (Za n) p).toNat).Nodup:=by
  unfold List.Nodup at hnd ⊢
  rw [List.pairwise_map]
  refine hnd.imp_of_mem fun {a b} ha hb hne e=>hne ?_
  have h1:=hpl a ha
  have h2:=hpl b hb
  have he:idxV (Za n) a=idxV (Za n) b:=by omega
  have g1:=ZeH h1
  have g2:=ZeH h2
  rw [he,g2] at g1
  exact (Option.some.inj g1).symm
 have:=ZjQ (Za n).length _ h2 fun x hx=>by
  obtain ⟨p,hp,rfl⟩:=List.mem_map.1 hx
  have:=hpl p hp
  have:=(Zer (Za n) p).2
  omega
 simp only [List.length_map,List.length_cons] at this
 omega
theorem ZwE {l:List YBooking} (hl:l.length≤1048576) {closed:List YTrip} (hc:closed.length≤1048576) {from_ to_:ByteArray} {at_ weight:Int} {way:List YTrip} (h:Zq n l closed from_ to_ at_ weight=some (way,true)):
 ∃ e,LeAt (ZU n [] [] 0 (idxV (Za n) from_) at_ (Za n).length) (idxV (Za n) to_) e∧e≤100000:=by
 have hR:=Zj3 hf hl hc h
 obtain ⟨q1,q2,q3,q4⟩:=hR.hC
 have hlg:=Zfs hn
 have hp:(Za n).length≤40:=by have:=Zbk n; omega
 have hlt:=(Zer (Za n) from_).2
 obtain ⟨n0,n1⟩:=Zdb hn
 have hb0:getI (ZU n [] [] 0 (idxV (Za n) from_) at_ 0) (idxV (Za n) from_)=some (if 0 > at_ then 0 else at_):=by
  unfold ZU
  rw [Znm hf (by omega) _ ⟨q2,hlt⟩]
  exact Zf6 q2 (by rw [List.length_replicate]; omega)
 have h0:LeAt (ZU n [] [] 0 (idxV (Za n) from_) at_ 0) (idxV (Za n) from_) (if 0 > at_ then 0 else at_):=⟨_,hb0,by split <;> omega,Int.le_refl _⟩
 have hlast:=hR.last
 cases hw:way.getLast? with
 | none=>
  obtain rfl:way=[]:=List.getLast?_eq_none_iff.1 hw
  obtain rfl:from_=to_:=by simpa using hlast
  have:=Zjc hf hn (l:=[]) (by simp) (closed:=[]) (by simp) 0 at_ (idxV (Za n) from_) hb0 (by split <;> omega) (Za n).length
  rw [Nat.zero_add] at this
  exact ⟨_,this,by split <;> omega⟩
 | some t=>
  have hch:=hR.chain
  have htr:=Zfj hch t (List.mem_of_getLast? hw)
  obtain ⟨_,_,_,_,t5⟩:=ZbF hf hn htr
  have hto:ZaS n t=to_:=by
   cases way with
   | nil=>simp at hw
   | cons x xs=>
    rw [List.map_cons,List.getLast?_cons_cons,← List.map_cons,List.getLast?_map,hw] at hlast
    exact Option.some.inj hlast
  have h1:=ZwP hf hn way from_ _ _ 0 hch h0 (by rw [if_pos rfl]; exact Int.le_refl _) t hw
  have hwl:=ZwS hf hn q2 hR.nodup hch
  rw [Nat.zero_add,hto] at h1
  obtain ⟨v,v1,v2,v3⟩:=h1
  obtain ⟨v',w1,w2,w3⟩:=Zjc hf hn (l:=[]) (by simp) (closed:=[]) (by simp) 0 at_ (idxV (Za n) from_) v1 v2 ((Za n).length-way.length)
  rw [show way.length+((Za n).length-way.length)=(Za n).length by omega] at w1
  exact ⟨v',⟨v',w1,w2,Int.le_refl _⟩,by omega⟩
theorem ZwO {l:List YBooking} (hl:l.length≤1048576) {closed:List YTrip} (hc:closed.length≤1048576) {from_ to_:ByteArray} {at_ weight service:Int} (hs:1≤service∧service≤3) {way:List YTrip} (h:Zq n l closed from_ to_ at_ weight=some (way,true)):
 ∃ d,Zeg n service from_ to_ at_=some d∧0≤d∧d≤200000:=by
 have hR:=Zj3 hf hl hc h
 obtain ⟨q1,q2,q3,q4⟩:=hR.hC
 have hfin:=ZwE hf hn hl hc h
 obtain ⟨e,⟨v,v1,v2,v3⟩,he⟩:=hfin
 have:=Zw1 (service:=service) v2 (show v≤100000 by omega)
 exact ⟨_,ZwH (ZwF hf hn q2 q3 hR.hto v1) v2 (by omega) hs,by omega,this.2⟩
end
def Zwz (w:YWorld) (from1_:ByteArray) (to_:ByteArray) (service:Int) (weight:Int):Option (YWorld × Int × Bool):=
 (ZbT w).bind fun y1=>
 (Zdi w).bind fun y2=>
 cond (!y2)
 (some (y1,0,false))
 (cond (decide (30≤(w.orders.length:Int)))
 (some (y1,0,false))
 (cond (decide (from1_=to_))
 (some (y1,0,false))
 ((Zj service 1 3).bind fun y3=>
 cond (!y3)
 (some (y1,0,false))
 ((Zj weight 1 30000).bind fun y4=>
 cond (!y4)
 (some (y1,0,false))
 ((ZaF w.network w.bookings w.closed from1_ to_ (w64 (w.now+1)) weight).bind fun y5=>
 cond (!y5.2)
 (some (y1,0,false))
 ((ZaB w.network w.bookings (w64 ((w.orders.length:Int)+1)) weight y5.1).bind fun y6=>
 cond (!y6.2)
 (some (y1,0,false))
 ((frz (.un::vs from1_::vs to_::vi service::vi weight::.be 0 0 0::(U 4 (.be 1 0 0::.un::.un::.be 2 0 0::vi (w64 ((w.orders.length:Int)+1))::.sl (y5.1.map cTrip)::(U 101 [])))) [some ⟨.of 41,10,[[.sl (w.network.legs.map cLeg),.sl (w.network.off.map cInt),vi w.network.change,.sl (w.orders.map cOrder),.sl (w.bookings.map cBooking),.sl (w.closed.map cTrip),vi w.now,.sl (w.scans.map cScan),.sl (w.skip.map cInt),vi w.made]]⟩,some ⟨.of 41,10,[[.v (.slice none 0 0),.v (.slice none 0 0),vi 0,.v (.slice none 0 0),.v (.slice none 0 0),.v (.slice none 0 0),vi 0,.v (.slice none 0 0),.v (.slice none 0 0),vi 0]]⟩,some ⟨.of 41,10,[[.ms 3,.ms 4,vi y1.network.change,.ms 5,.ms 6,.ms 7,vi y1.now,.ms 8,.ms 9,vi y1.made]]⟩,some ⟨.of 67,6,y1.network.legs.map cLeg⟩,some ⟨.of 3,1,y1.network.off.map cInt⟩,some ⟨.of 62,11,y1.orders.map cOrder⟩,some ⟨.of 135,4,y6.1.map cBooking⟩,some ⟨.of 55,2,y1.closed.map cTrip⟩,some ⟨.of 130,6,y1.scans.map cScan⟩,some ⟨.of 3,1,y1.skip.map cInt⟩]).bind fun _=>
 (Zeg w.network service from1_ to_ (w64 (w.now+1))).bind fun y7=>
 (Zeu y5.1).bind fun y8=>
 (chk (appOk ((y1.orders:List YOrder).length+([(⟨from1_,to_,service,weight,w.now,y7,y8,0,1,from1_,0⟩:YOrder)]:List YOrder).length) 128)).bind fun _=>
 (rhoM [2,3,4,98,6,7,8,9]).bind fun _=>
 (Zxc (⟨y1.network,((y1.orders:List YOrder)++[(⟨from1_,to_,service,weight,w.now,y7,y8,0,1,from1_,0⟩:YOrder)]),y6.1,y1.closed,y1.now,y1.scans,y1.skip,y1.made⟩:YWorld) (⟨(w64 ((w.orders.length:Int)+1)),w.now,1,from1_,(⟨0,0⟩:YTrip)⟩:YScan)).bind fun y9=>
 some (y9,(w64 ((w.orders.length:Int)+1)),true))))))))
instance (w:YWorld) (from1_:ByteArray) (to_:ByteArray) (service:Int) (weight:Int):CT Tryz.prog (Zwz w from1_ to_ service weight):=⟨47,[.ag (cWorld w),vs from1_,vs to_,vi service,vi weight],[],fun r=>.tu [.ag [.ms 0,.ms 1,vi r.1.network.change,.ms 2,.ms 3,.ms 4,vi r.1.now,.ms 5,.ms 6,vi r.1.made],vi r.2.1,vb r.2.2],fun r=>[some ⟨.of 67,6,r.1.network.legs.map cLeg⟩,some ⟨.of 3,1,r.1.network.off.map cInt⟩,some ⟨.of 62,11,r.1.orders.map cOrder⟩,some ⟨.of 135,4,r.1.bookings.map cBooking⟩,some ⟨.of 55,2,r.1.closed.map cTrip⟩,some ⟨.of 130,6,r.1.scans.map cScan⟩,some ⟨.of 3,1,r.1.skip.map cInt⟩],fun H=>by replace H:=H0 H; unfold Zwz at H; exact callM_of Tryz.func47 rfl Tryz.ntmps47 Tryz.results47 fun Q hQ hQn=>wk3⟩
def ZwT (w:YWorld) (from_ to_:ByteArray) (service weight:Int):Prop:=
 30≤w.orders.length∨from_=to_∨¬ (1≤service∧service≤3)∨¬ (1≤weight∧weight≤30000)∨(∃ x,Zq w.network w.bookings w.closed from_ to_ (w.now+1) weight=some (x,false))∨
  ∃ way l,Zq w.network w.bookings w.closed from_ to_ (w.now+1) weight=some (way,true)∧Zx w.network w.bookings ((w.orders.length:Int)+1) weight way=some (l,false)
structure ZsB (w:YWorld) (from_ to_:ByteArray) (service weight:Int) (r:YWorld × Int × Bool) (way:List YTrip) (ys:List YBooking) (due:Int):Prop where
 room:Zq w.network w.bookings w.closed from_ to_ (w.now+1) weight=some (way,true)
 book:Zx w.network w.bookings ((w.orders.length:Int)+1) weight way=some (ys,true)
 prom:Zeg w.network service from_ to_ (w.now+1)=some due
 res:r=(accV w (newO w from_ to_ service weight due way) ys,(w.orders.length:Int)+1,true)
 ne:¬ from_=to_
 ok:WOk (accV w (newO w from_ to_ service weight due way) ys)
theorem ZwX {w:YWorld} (h:WOk w) (from_ to_:ByteArray) (service weight:Int) (hpr:∀ way,Zq w.network w.bookings w.closed from_ to_ (w.now+1) weight=some (way,true)→1≤service∧service≤3→∃ d,Zeg w.network service from_ to_ (w.now+1)=some d∧0≤d∧d≤200000):
 ∃ r,Zwz w from_ to_ service weight=some r∧(r=(w,0,false)∧ZwT w from_ to_ service weight∨∃ way ys due,ZsB w from_ to_ service weight r way ys due):=by
 have hf:=h.fit
 obtain ⟨p1,p2,p3,p4,p5,p6,p7⟩:=h.parts
 have hw1:w64 (w.now+1)=w.now+1:=Zc (by omega)
 have hw2:w64 ((w.orders.length:Int)+1)=(w.orders.length:Int)+1:=Zc (by omega)
 unfold Zwz
 rw [Zm3 hf,Option.bind_some,Ziq hf,h.ok,Option.bind_some,ZdU,hw1,hw2]
 simp only [Bool.not_true,cond_false,ZcU,Option.bind_some]
 by_cases c1:30≤w.orders.length
 ·exact ⟨_,by rw [decide_eq_true (show (30:Int)≤(w.orders.length:Int) by omega)]; rfl,.inl ⟨rfl,.inl c1⟩⟩
 rw [decide_eq_false (show ¬ (30:Int)≤(w.orders.length:Int) by omega),cond_false]
 by_cases c2:from_=to_
 ·exact ⟨_,by rw [decide_eq_true c2]; rfl,.inl ⟨rfl,.inr (.inl c2)⟩⟩
 rw [decide_eq_false c2,cond_false]
 by_cases c3:1≤service∧service≤3
 case neg=>
  refine ⟨(w,0,false),?_,.inl ⟨rfl,.inr (.inr (.inl c3))⟩⟩
  have:(decide (1≤service) && decide (service≤3))=false:=by rw [← Bool.decide_and]; exact decide_eq_false c3
  rw [this]; rfl
 rw [decide_eq_true c3.1,decide_eq_true c3.2]
 by_cases c4:1≤weight∧weight≤30000
 case neg=>
  refine ⟨(w,0,false),?_,.inl ⟨rfl,.inr (.inr (.inr (.inl c4)))⟩⟩
  have:(decide (1≤weight) && decide (weight≤30000))=false:=by rw [← Bool.decide_and]; exact decide_eq_false c4
  rw [this]; rfl
 rw [decide_eq_true c4.1,decide_eq_true c4.2]
 simp only [Bool.and_self,Bool.not_true,cond_false]
 obtain ⟨⟨way,b⟩,e1,e2⟩:=Zf1 hf.net hf.bookings hf.closed from_ to_ (w.now+1) weight
 rw [e1,Option.bind_some]
 cases b with
 | false=>exact ⟨(w,0,false),rfl,.inl ⟨rfl,.inr (.inr (.inr (.inr (.inl ⟨way,e2⟩))))⟩⟩
 | true=>
 have hR:=Zj3 hf.net hf.bookings hf.closed e2
 have hlen:=hR.len
 simp only [Bool.not_true,cond_false]
 have hnl:(Zdc ((w.orders.length:Int)+1) weight way).length=way.length:=by unfold Zdc; rw [List.length_map]
 obtain ⟨d,d1,d2⟩:=Zoj (w.bookings++Zdc ((w.orders.length:Int)+1) weight way) (by rw [List.length_append,hnl]; omega)
 have hbk:ZaB w.network w.bookings ((w.orders.length:Int)+1) weight way=Zx w.network w.bookings ((w.orders.length:Int)+1) weight way:=by
  unfold ZaB
  rw [if_pos ⟨Zlu.2 hf.net,by omega,by omega⟩]
 have hsp:=ZfV hf.net (show w.bookings.length≤1048000 by omega) ((w.orders.length:Int)+1) weight d1 d2
 rw [hbk]
 by_cases hbd:Zr w.network d=true
 case neg=>
  rw [if_neg (fun hx=>hbd hx.2.2)] at hsp
  refine ⟨(w,0,false),?_,.inl ⟨rfl,.inr (.inr (.inr (.inr (.inr ⟨way,w.bookings,e2,hsp⟩))))⟩⟩
  rw [hsp]; rfl
 rw [if_pos ⟨hR.hC.1,hlen,hbd⟩] at hsp
 obtain ⟨due,q1,q2,q3⟩:=hpr way e2 c3
 have hacc:=Zw6 h (by omega) c2 c3 c4 ⟨q2,q3⟩ hR d1 hbd
 have ha:chk (appOk (w.orders.length+([newO w from_ to_ service weight due way]:List YOrder).length) 128)=some ():=Zdh (by simp only [List.length_cons,List.length_nil]; omega) (by omega)
 have hct:Zeu way=some way:=by
  unfold Zeu
  exact ZfL (by omega)
 have hsi:=Zxp (w:=⟨w.network,w.orders++[newO w from_ to_ service weight due way],d,w.closed,w.now,w.scans,w.skip,w.made⟩) ⟨by simp only; omega,p4,by simp only; omega⟩ ⟨(w.orders.length:Int)+1,w.now,1,from_,⟨0,0⟩⟩
 refine ⟨(accV w (newO w from_ to_ service weight due way) d,(w.orders.length:Int)+1,true),?_,.inr ⟨way,d,due,e2,hsp,q1,rfl,c2,hacc⟩⟩
 rw [hsp]
 simp only [Option.bind_some,Bool.not_true,cond_false,frz,q1,hct,rhoM]
 unfold newO at ha hsi ⊢
 rw [ha]
 simp only [Option.bind_some]
 rw [hsi]
 rfl
/-! Ways in two parts. -/
section
variable {n:YNetwork}
variable (hf:ZZ n) (hn:Zb n=some true)
include hf hn
end
/-! Bookings of which some are dropped. -/
def Zeq (id:Int) (rest:List YTrip) (bs:List YBooking):List YBooking:=bs.filter fun b=>!(decide (b.thing=id) && ZK rest b.trip)
def Zbx (n:YNetwork) (o:YOrder):ByteArray:=if o.state=2 then ((o.way[o.gone.toNat]?).map (ZaS n)).getD ⟨#[]⟩ else o.place
def Zu (o:YOrder):List YTrip:=o.way.take (Zh o).toNat
def Ze0 (o:YOrder):List YTrip:=o.way.drop (Zh o).toNat
def atR (n:YNetwork) (now:Int) (o:YOrder):Int:=match (Zu o).getLast? with
 | some t=>if ZbH n t+n.change > now+1 then ZbH n t+n.change else now+1
 | none=>now+1
def Zb3 (w:YWorld) (i:Nat) (o:YOrder):List YBooking:=Zeq ((i+1:Nat):Int) (Ze0 o) w.bookings
def Zay (o:YOrder) (ts:List YTrip):YOrder:=⟨o.from_,o.to_,o.service,o.weight,o.at_,o.due,ts,o.gone,o.state,o.place,o.ended⟩
def newW (w:YWorld) (i:Nat) (o:YOrder) (ts:List YTrip) (bs:List YBooking):YWorld:=⟨w.network,w.orders.set i (Zay o ts),bs,w.closed,w.now,w.scans,w.skip,w.made⟩
structure Zpx (w:YWorld) (i:Nat) (o:YOrder) (way:List YTrip) (bs:List YBooking):Prop where
 room:Zq w.network (Zb3 w i o) w.closed (Zbx w.network o) o.to_ (atR w.network w.now o) o.weight=some (way,true)
 book:Zx w.network (Zb3 w i o) ((i+1:Nat):Int) o.weight way=some (bs,true)
 wayR:WayR w.network (Zb3 w i o) w.closed o.weight (Zbx w.network o) o.to_ (atR w.network w.now o) way
 perm:bs.Perm (Zb3 w i o++Zdc ((i+1:Nat):Int) o.weight way)
 books:Zr w.network bs=true
section
variable {w:YWorld} {i:Nat} {o:YOrder}
variable (hf:WFit w) (hn:Zb w.network=some true) (hb:Zr w.network w.bookings=true) (hnow:0≤w.now∧w.now≤100000) (hi:i≤1000)
 (ho:w.orders[i]?=some o) (hg:0≤o.gone∧o.gone≤o.way.length) (h2:o.state=2→o.gone<o.way.length) (ht:∀ t∈o.way,Zc3 w.network t=true) (hwl:o.way.length≤1000)
include hf hn hb hnow hi ho hg h2 ht hwl
end
end Go.Proofs.YtmcdjilbkmhfoaaGreat
