/- A part of the proof of the statement in the last file of this claim: texts on the language of the program and on its functions. No condition. -/
import Derived.Test.YtmcdjilbkmhfoaaGreatCShutTrip16
import Derived.Deep.DeepCutAuto
namespace Go.Proofs.YtmcdjilbkmhfoaaGreat
set_option maxRecDepth 10000
open Go.RowKit Go.Lib Go.Sort
set_option linter.unusedVariables false
set_option linter.unusedSimpArgs false
set_option linter.unusedSectionVars false
set_option maxRecDepth 100000
set_option maxHeartbeats 4000000
section
variable {α:Type} [Inhabited α] {enc:α→List Value} {k:Nat} {g:Nat} {T:TypeId} {cs:Nat}
variable (hk:∀ x,(enc x).length=k) (f:Nat) (lb:Array Value) (sf:Nat) (sb:Array Value) (n:Nat) (hn:n<1152921504606846976) (hswap:SwapSwapsK Tryz.prog sf sb enc k g 0 n)
include hk hn hswap
theorem ZrB {lt:α→α→Bool} (hO:SWO lt) (eg:∀ args w,(callFunc f args).run Tryz.prog w=.ok (.enter f args) w) {d:Array α} {W:World} (hd:d.size=n) (h0:SU enc k g T cs W d W) (hL:ZfS f lb enc k lt g T cs n W) (a m b:Nat) (h1:m=a+1) (h2:m<b) (hb:b≤n) (hs:SortedIn lt m b d):
 Calls Tryz.prog 269 #[LS f lb sf sb,.int .i64 a,.int .i64 m,.int .i64 b] W fun e w'=>e=.returned (.tuple #[])∧∃ e,SU enc k g T cs W e w'∧PermIn a b d e∧SortedIn lt a b e:=by
 have hB:SU enc k g T cs W d (W.alloc (LSo f lb sf sb)):=h0.more (Up.al _ (Up.rfl' W))
 have hless:=fun dj wr hS hd' i j hi hj=>ZiM (dj:=dj) (wr:=wr) f lb sf sb n hL h0 hS hd' hswap i j hi hj
 have HB:Hid (SU enc k g T cs W d (W.alloc (LSo f lb sf sb))):=hB
 have HSs:Hid (SortedIn lt m b d):=hs
 have hg:=h0.lt
 clear h0 hL hs
 have hma:(m:Int)-(a:Int)=1:=by omega
 have H1:Hid (m=a+1):=h1
 clear h1
 go_enter Tryz.func269,Tryz.ntmps269
 go_wp2
 go_loopw [8,9] (fun vi vj wr=>∃ (i j:Nat),vi=.int .i64 i∧vj=.int .i64 j∧m≤i∧i≤j∧j≤b∧(i=m∨lt d[i-1]! d[a]! = true)∧(j=b∨lt d[j]! d[a]! = false)∧SU enc k g T cs (W.alloc (LSo f lb sf sb)) d wr) (fun vi vj _=>(intOf vj).toNat-(intOf vi).toNat)
 case atStart=>exact ⟨m,b,rfl,rfl,by omega,by omega,by omega,.inl rfl,.inl rfl,hB.self⟩
 case round=>
  obtain ⟨i,j,rfl,rfl,hi,hij,hj,hc1,hc2,hS⟩:=hrel
  have c0:wr.cell? ⟨W.heap.size,0,none⟩=some (.func (.func f) #[] lb):=by rw [hS.oth (by simp) (by omega)]; simp
  have c1:wr.cell? ⟨W.heap.size,1,none⟩=some (.func (.func sf) #[] sb):=by rw [hS.oth (by simp) (by omega)]; simp
  have HS:Hid (SU enc k g T cs (W.alloc (LSo f lb sf sb)) d wr):=hS
  have HC1:Hid (i=m∨lt d[i-1]! d[a]! = true):=hc1
  have HC2:Hid (j=b∨lt d[j]! d[a]! = false):=hc2
  clear hS hB hc1 hc2
  by_cases hlt:i<j
  ·have hl:=hless d wr HS.out hd ((i+j) / 2) a (by omega) (by omega)
   rw [show (((i+j) / 2:Nat):Int)=((i:Int)+(j:Int)) / 2 by omega] at hl
   clear hless
   cases hlv:lt d[(i+j) / 2]! d[a]! with
   | true=>
    rw [hlv] at hl
    go_wp2_with (go_at_fn f; refine hl.mono ?_; rintro e w' ⟨rfl,hS,c0',c1',_⟩)
    refine ⟨?_,by simp [intOf]; omega⟩
    exact ⟨(i+j) / 2+1,j,by go_num,rfl,by omega,by omega,by omega,.inr (by rw [Nat.add_sub_cancel]; exact hlv),HC2.out,hS⟩
   | false=>
    rw [hlv] at hl
    go_wp2_with (go_at_fn f; refine hl.mono ?_; rintro e w' ⟨rfl,hS,c0',c1',_⟩)
    refine ⟨?_,by simp [intOf]; omega⟩
    exact ⟨i,(i+j) / 2,rfl,by go_num,by omega,by omega,by omega,HC1.out,.inr hlv,hS⟩
  ·have hij':i=j:=by omega
   subst hij'
   go_wp2
   go_loopw [11] (fun vq wr2=>∃ q:Nat,vq=.int .i64 ((a:Int)+(q:Int))∧a+q+1≤i∧SU enc k g T cs (W.alloc (LSo f lb sf sb)) (shU d a q) wr2) (fun vq _=>i-(intOf vq).toNat)
   case atStart=>exact ⟨0,by go_num,by omega,HS.out⟩
   case round=>
    obtain ⟨q,rfl,hq,hS2⟩:=hrel
    have c0:wr.cell? ⟨W.heap.size,0,none⟩=some (.func (.func f) #[] lb):=by rw [hS2.oth (by simp) (by omega)]; simp
    have c1:wr.cell? ⟨W.heap.size,1,none⟩=some (.func (.func sf) #[] sb):=by rw [hS2.oth (by simp) (by omega)]; simp
    have HS2:Hid (SU enc k g T cs (W.alloc (LSo f lb sf sb)) (shU d a q) wr):=hS2
    clear hS2
    by_cases hqi:a+q+1<i
    ·have hs:=hswap wr (shU d a q) HS2.out.hold (by rw [Ze2]; exact hd) (a+q) (a+q+1) (by omega) (by omega)
     rw [Nat.zero_add,Nat.zero_add,show ((a+q+1:Nat):Int)=(a:Int)+(q:Int)+1 by omega,show ((a+q:Nat):Int)=(a:Int)+(q:Int) by omega] at hs
     have hlt2:(a:Int)+(q:Int)<(i:Int)-1:=by omega
     go_wp2
     exact ⟨⟨q+1,by congr 1,by omega,HS2.out.swap hk (by rw [Ze2]; omega) (by rw [Ze2]; omega)⟩,by simp [intOf]; omega⟩
    ·have hge2:¬ (a:Int)+(q:Int)<(i:Int)-1:=by omega
     go_wp2
     (try simp only [Exit.inBlock,Exit.then])
     refine bodyPost_ret (results_none rfl _ _ _) rfl ?_
     refine ⟨rfl,shU d a q,HB.out.trans HS2.out,Zl1 d q (by omega) (by omega),?_⟩
     obtain rfl:=H1.out
     exact ZoP hO HSs.out (by omega) hj HC1.out HC2.out (fun k=>by rw [show i=a+1+q by omega]; exact Zog d q (by omega) k)
theorem ZrC {lt:α→α→Bool} (hO:SWO lt) (eg:∀ args w,(callFunc f args).run Tryz.prog w=.ok (.enter f args) w) {d:Array α} {W:World} (hd:d.size=n) (h0:SU enc k g T cs W d W) (hL:ZfS f lb enc k lt g T cs n W) (a m b:Nat) (h1:b=m+1) (h2:a+1<m) (hb:b≤n) (hs:SortedIn lt a m d):
 Calls Tryz.prog 269 #[LS f lb sf sb,.int .i64 a,.int .i64 m,.int .i64 b] W fun e w'=>e=.returned (.tuple #[])∧∃ e,SU enc k g T cs W e w'∧PermIn a b d e∧SortedIn lt a b e:=by
 have hB:SU enc k g T cs W d (W.alloc (LSo f lb sf sb)):=h0.more (Up.al _ (Up.rfl' W))
 have hless:=fun dj wr hS hd' i j hi hj=>ZiM (dj:=dj) (wr:=wr) f lb sf sb n hL h0 hS hd' hswap i j hi hj
 have HB:Hid (SU enc k g T cs W d (W.alloc (LSo f lb sf sb))):=hB
 have HSs:Hid (SortedIn lt a m d):=hs
 have hg:=h0.lt
 clear h0 hL hs
 have hna:((m:Int)-(a:Int) == 1)=false:=by simp; omega
 have hmb:(b:Int)-(m:Int)=1:=by omega
 have H1:Hid (b=m+1):=h1
 have hlt3:m<b:=by omega
 clear h1
 go_enter Tryz.func269,Tryz.ntmps269
 go_wp2
 clear hna hmb
 go_loopw [12,13] (fun vi vj wr=>∃ (i j:Nat),vi=.int .i64 i∧vj=.int .i64 j∧a≤i∧i≤j∧j≤m∧(i=a∨lt d[m]! d[i-1]! = false)∧(j=m∨lt d[m]! d[j]! = true)∧SU enc k g T cs (W.alloc (LSo f lb sf sb)) d wr) (fun vi vj _=>(intOf vj).toNat-(intOf vi).toNat)
 case atStart=>exact ⟨a,m,rfl,rfl,by omega,by omega,by omega,.inl rfl,.inl rfl,hB.self⟩
 case round=>
  obtain ⟨i,j,rfl,rfl,hi,hij,hj,hc1,hc2,hS⟩:=hrel
  have c0:wr.cell? ⟨W.heap.size,0,none⟩=some (.func (.func f) #[] lb):=by rw [hS.oth (by simp) (by omega)]; simp
  have c1:wr.cell? ⟨W.heap.size,1,none⟩=some (.func (.func sf) #[] sb):=by rw [hS.oth (by simp) (by omega)]; simp
  have HS:Hid (SU enc k g T cs (W.alloc (LSo f lb sf sb)) d wr):=hS
  have HC1:Hid (i=a∨lt d[m]! d[i-1]! = false):=hc1
  have HC2:Hid (j=m∨lt d[m]! d[j]! = true):=hc2
  clear hS hB hc1 hc2
  by_cases hlt:i<j
  ·have hl:=hless d wr HS.out hd m ((i+j) / 2) (by omega) (by omega)
   rw [show (((i+j) / 2:Nat):Int)=((i:Int)+(j:Int)) / 2 by omega] at hl
   clear hless
   cases hlv:lt d[m]! d[(i+j) / 2]! with
   | true=>
    rw [hlv] at hl
    go_wp2_with (go_at_fn f; refine hl.mono ?_; rintro e w' ⟨rfl,hS,c0',c1',_⟩)
    refine ⟨?_,by simp [intOf]; omega⟩
    exact ⟨i,(i+j) / 2,rfl,by go_num,by omega,by omega,by omega,HC1.out,.inr hlv,hS⟩
   | false=>
    rw [hlv] at hl
    go_wp2_with (go_at_fn f; refine hl.mono ?_; rintro e w' ⟨rfl,hS,c0',c1',_⟩)
    refine ⟨?_,by simp [intOf]; omega⟩
    exact ⟨(i+j) / 2+1,j,by go_num,rfl,by omega,by omega,by omega,.inr (by rw [Nat.add_sub_cancel]; exact hlv),HC2.out,hS⟩
  ·have hij':i=j:=by omega
   subst hij'
   go_wp2
   go_loopw [15] (fun vq wr2=>∃ q:Nat,vq=.int .i64 ((m:Int)-(q:Int))∧q+i≤m∧SU enc k g T cs (W.alloc (LSo f lb sf sb)) (shD d m q) wr2) (fun vq _=>(intOf vq).toNat)
   case atStart=>exact ⟨0,by go_num,by omega,HS.out⟩
   case round=>
    obtain ⟨q,rfl,hq,hS2⟩:=hrel
    have c0:wr.cell? ⟨W.heap.size,0,none⟩=some (.func (.func f) #[] lb):=by rw [hS2.oth (by simp) (by omega)]; simp
    have c1:wr.cell? ⟨W.heap.size,1,none⟩=some (.func (.func sf) #[] sb):=by rw [hS2.oth (by simp) (by omega)]; simp
    have HS2:Hid (SU enc k g T cs (W.alloc (LSo f lb sf sb)) (shD d m q) wr):=hS2
    clear hS2
    by_cases hqi:q+i<m
    ·have hs:=hswap wr (shD d m q) HS2.out.hold (by rw [Ze1]; exact hd) (m-q) (m-q-1) (by omega) (by omega)
     rw [Nat.zero_add,Nat.zero_add,show ((m-q-1:Nat):Int)=(m:Int)-(q:Int)-1 by omega,show ((m-q:Nat):Int)=(m:Int)-(q:Int) by omega] at hs
     have hlt2:(i:Int)<(m:Int)-(q:Int):=by omega
     go_wp2
     exact ⟨⟨q+1,by congr 1; omega,by omega,HS2.out.swap hk (by rw [Ze1]; omega) (by rw [Ze1]; omega)⟩,by simp [intOf]; omega⟩
    ·have hge2:¬ (i:Int)<(m:Int)-(q:Int):=by omega
     go_wp2
     (try simp only [Exit.inBlock,Exit.then])
     refine bodyPost_ret (results_none rfl _ _ _) rfl ?_
     obtain rfl:=H1.out
     refine ⟨rfl,shD d m q,HB.out.trans HS2.out,Zl0 d q (by omega) (by omega),?_⟩
     exact Znw hO HSs.out hi hj HC1.out HC2.out (fun k=>by rw [show i=m-q by omega]; exact Zof d q (by omega) (by omega) k)
end
section
variable {α:Type} [Inhabited α] {enc:α→List Value} {k:Nat} {g:Nat} {T:TypeId} {cs:Nat}
variable (hk:∀ x,(enc x).length=k) (f:Nat) (lb:Array Value) (sf:Nat) (sb:Array Value) (n:Nat) (hn:n<1152921504606846976) (hswap:SwapSwapsK Tryz.prog sf sb enc k g 0 n)
include hk hn hswap
theorem ZrD {lt:α→α→Bool} (hO:SWO lt) (eg:∀ args w,(callFunc f args).run Tryz.prog w=.ok (.enter f args) w):∀ (N:Nat) (d:Array α) (W:World),d.size=n→SU enc k g T cs W d W→ZfS f lb enc k lt g T cs n W→∀ (a m b:Nat),b-a≤N→a<m→m<b→b≤n→SortedIn lt a m d→SortedIn lt m b d→
 Calls Tryz.prog 269 #[LS f lb sf sb,.int .i64 a,.int .i64 m,.int .i64 b] W fun e w'=>e=.returned (.tuple #[])∧∃ e,SU enc k g T cs W e w'∧PermIn a b d e∧SortedIn lt a b e:=by
 intro N
 induction N with
 | zero=>intro d W hd h0 hL a m b hN h1 h2; omega
 | succ N ih=>
 intro d W hd h0 hL a m b hN h1 h2 hb hs1 hs2
 by_cases hma:m=a+1
 ·exact ZrB hk f lb sf sb n hn hswap hO eg hd h0 hL a m b hma h2 hb hs2
 by_cases hmb:b=m+1
 ·exact ZrC hk f lb sf sb n hn hswap hO eg hd h0 hL a m b hmb (by omega) hb hs1
 have hB:SU enc k g T cs W d (W.alloc (LSo f lb sf sb)):=h0.more (Up.al _ (Up.rfl' W))
 have hless:=fun dj wr hS hd' i j hi hj=>ZiM (dj:=dj) (wr:=wr) f lb sf sb n hL h0 hS hd' hswap i j hi hj
 have HL:Hid (∀ d' W',SU enc k g T cs (W.alloc (LSo f lb sf sb)) d' W'→ZfS f lb enc k lt g T cs n W'):=fun d' W' h'=>hL.on (hB.trans h')
 have HB:Hid (SU enc k g T cs W d (W.alloc (LSo f lb sf sb))):=hB
 have HS1:Hid (SortedIn lt a m d):=hs1
 have HS2:Hid (SortedIn lt m b d):=hs2
 have hrot:=fun (d':Array α) (W':World) (hd':d'.size=n) (h':SU enc k g T cs W' d' W') (a m b:Nat) (h1:a≤m) (h2:m≤b) (h3:b≤n) (h4:a<m∧m<b)=>Zpe hk f lb sf sb n hn hswap (T:=T) (cs:=cs) hd' h' a m b h1 h2 h3 h4
 have HR:Hid _:=hrot
 have HI:Hid _:=ih
 have HLS:Hid _:=hless
 have hg:=h0.lt
 clear h0 hL hs1 hs2 hrot ih hless
 have hna:((m:Int)-(a:Int) == 1)=false:=by simp; omega
 have hnb:((b:Int)-(m:Int) == 1)=false:=by simp; omega
 have hmid:((a:Int)+(b:Int)) / 2=(((a+b) / 2:Nat):Int):=by omega
 obtain ⟨mid,hmd⟩:∃ mid,mid=(a+b) / 2:=⟨_,rfl⟩
 rw [← hmd] at hmid
 have hm1:2*mid≤a+b:=by omega
 have hm2:a+b≤2*mid+1:=by omega
 clear hmd hma hmb
 go_enter Tryz.func269,Tryz.ntmps269
 go_upto_if 106 with (fail)
 go_cut [18,19] (fun s18 s19 wx=>∃ s0 r0:Nat,s18=.int .i64 s0∧s19=.int .i64 r0∧a≤s0∧s0≤r0∧r0≤m∧r0≤mid∧((m≤mid∧s0=a∧r0=m)∨(mid<m∧s0+b=mid+m∧r0=mid))∧wx=W.alloc (LSo f lb sf sb))
 case first=>
  by_cases hmm:mid<m
  ·have hmm':(mid:Int)<(m:Int):=by omega
   go_wp2
   go_meet
   exact ⟨mid+m-b,mid,by go_num,rfl,by omega,by omega,by omega,by omega,.inr ⟨hmm,by omega,rfl⟩,rfl⟩
  ·have hmm':¬ (mid:Int)<(m:Int):=by omega
   go_wp2
   go_meet
   exact ⟨a,m,rfl,rfl,by omega,by omega,by omega,by omega,.inl ⟨by omega,rfl,rfl⟩,rfl⟩
 case rest=>
  obtain ⟨s0,r0,rfl,rfl,ha0,hsr,hrm,hrd,hs0,rfl⟩:=hcut
  clear hna hnb hmid hB
  have HS0:Hid ((m≤mid∧s0=a∧r0=m)∨(mid<m∧s0+b=mid+m∧r0=mid)):=hs0
  clear hs0
  go_wp2
  go_loopw [18,19] (fun vs vr wr=>∃ (s r:Nat),vs=.int .i64 s∧vr=.int .i64 r∧s0≤s∧s≤r∧r≤r0∧(s=s0∨lt d[mid+m-s]! d[s-1]! = false)∧(r=r0∨lt d[mid+m-1-r]! d[r]! = true)∧SU enc k g T cs (W.alloc (LSo f lb sf sb)) d wr) (fun vs vr _=>(intOf vr).toNat-(intOf vs).toNat)
  case atStart=>exact ⟨s0,r0,rfl,rfl,by omega,by omega,by omega,.inl rfl,.inl rfl,HB.out.self⟩
  case round=>
   obtain ⟨s,r,rfl,rfl,hs,hsr2,hr,hc1,hc2,hS⟩:=hrel
   have c0:wr.cell? ⟨W.heap.size,0,none⟩=some (.func (.func f) #[] lb):=by rw [hS.oth (by simp) (by omega)]; simp
   have c1:wr.cell? ⟨W.heap.size,1,none⟩=some (.func (.func sf) #[] sb):=by rw [hS.oth (by simp) (by omega)]; simp
   have HS:Hid (SU enc k g T cs (W.alloc (LSo f lb sf sb)) d wr):=hS
   have HC1:Hid (s=s0∨lt d[mid+m-s]! d[s-1]! = false):=hc1
   have HC2:Hid (r=r0∨lt d[mid+m-1-r]! d[r]! = true):=hc2
   clear hS hc1 hc2
   by_cases hlt:s<r
   ·have hq:mid+m-1-(s+r) / 2<n:=by rcases HS0.out with h | h <;> omega
    have hl:=HLS.out d wr HS.out hd (mid+m-1-(s+r) / 2) ((s+r) / 2) hq (by omega)
    rw [show ((mid+m-1-(s+r) / 2:Nat):Int)=(mid:Int)+(m:Int)-1-((s:Int)+(r:Int)) / 2 by omega,show (((s+r) / 2:Nat):Int)=((s:Int)+(r:Int)) / 2 by omega] at hl
    cases hlv:lt d[mid+m-1-(s+r) / 2]! d[(s+r) / 2]! with
    | true=>
     rw [hlv] at hl
     go_wp2_with (go_at_fn f; refine hl.mono ?_; rintro e w' ⟨rfl,hS,c0',c1',_⟩)
     refine ⟨?_,by simp [intOf]; omega⟩
     exact ⟨s,(s+r) / 2,rfl,by go_num,by omega,by omega,by omega,HC1.out,.inr hlv,hS⟩
    | false=>
     rw [hlv] at hl
     go_wp2_with (go_at_fn f; refine hl.mono ?_; rintro e w' ⟨rfl,hS,c0',c1',_⟩)
     refine ⟨?_,by simp [intOf]; omega⟩
     exact ⟨(s+r) / 2+1,r,by go_num,rfl,by omega,by omega,by omega,.inr (by rw [Nat.add_sub_cancel,show mid+m-((s+r) / 2+1)=mid+m-1-(s+r) / 2 by omega]; exact hlv),HC2.out,hS⟩
   ·have hsr':s=r:=by omega
    subst hsr'
    have hge:¬ s<s:=by omega
    obtain ⟨t,ht⟩:∃ t,t=mid+m-s:=⟨_,rfl⟩
    have htz:(mid:Int)+(m:Int)-(s:Int)=(t:Int):=by omega
    have hms:m≤t:=by omega
    have hst:s+(t-m)=mid:=by omega
    have htb:t≤b:=by rcases HS0.out with h | h <;> omega
    have HT:Hid (t=mid+m-s):=ht
    clear ht
    have dz:∀ x y:Nat,decide ((x:Int)<(y:Int))=decide (x<y):=fun x y=>by by_cases h:x<y <;> simp [h]
    have DZ:Hid _:=dz
    clear dz
    clear hge
    have HC1':Hid (a<s→t<b→lt d[t]! d[s-1]! = false):=fun h1 h2=>by
     rcases HC1.out with h | h
     ·rcases HS0.out with h3 | h3 <;> omega
     ·rw [HT.out]; exact h
    have HC2':Hid (s<m→m<t→lt d[t-1]! d[s]! = true):=fun h1 h2=>by
     rcases HC2.out with h | h
     ·rcases HS0.out with h3 | h3 <;> omega
     ·rw [show t-1=mid+m-1-s by rw [HT.out]; omega]; exact h
    go_upto_region 40 with (fail)
    go_cut [145] (fun s145 wx=>s145=.bool (decide (s<m∧m<t))∧wx=wr)
    case first=>
     by_cases q1:s<m
     ·by_cases q2:m<t
      ·have q3:decide (s<m∧m<t)=true:=decide_eq_true ⟨q1,q2⟩
       go_wp2
       go_meet
       exact ⟨by rw [q3],rfl⟩
      ·have q3:decide (s<m∧m<t)=false:=decide_eq_false fun h=>q2 h.2
       go_wp2
       go_meet
       exact ⟨by rw [q3],rfl⟩
     ·have q3:decide (s<m∧m<t)=false:=decide_eq_false fun h=>q1 h.1
      go_wp2
      go_meet
      exact ⟨by rw [q3],rfl⟩
    case rest=>
    obtain ⟨rfl,rfl⟩:=hcut
    go_upto_if 145 with (fail)
    go_cut [] (fun wx=>∃ e,SU enc k g T cs (W.alloc (LSo f lb sf sb)) e wx∧PermIn a b d e∧∀ k,e[k]! = rotF d s m t k)
    case first=>
     by_cases q:s<m∧m<t
     ·have q3:decide (s<m∧m<t)=true:=decide_eq_true q
      have hc:=HR.out d wc hd HS.out.self s m t (by omega) (by omega) (by omega) q
      go_wp2_with (go_at_call 273; refine hc.mono ?_; rintro e w' ⟨rfl,hE⟩)
      go_meet
      obtain ⟨e,hE1,hE2,hE3⟩:=hE
      exact ⟨e,HS.out.trans hE1,permIn_mono _ _ _ _ _ _ (by omega) (by omega) (by omega) hE2,hE3⟩
     ·have q3:decide (s<m∧m<t)=false:=decide_eq_false q
      go_wp2
      go_meet
      exact ⟨d,HS.out,permIn_refl _ _ _,fun k=>ZhR d (by omega) (by omega) (by omega) k⟩
    case rest=>
    obtain ⟨e,hE1,hE2,hE3⟩:=hcut
    obtain ⟨g1,g2,g3,g4,g5⟩:=Zrk hO HS1.out HS2.out ⟨by omega,by omega⟩ ⟨hms,htb⟩ hst HC1'.out HC2'.out hE3
    have G1:Hid (SortedIn lt a s e):=g1
    have G2:Hid (SortedIn lt s mid e):=g2
    have G3:Hid (SortedIn lt mid t e):=g3
    have G4:Hid (SortedIn lt t b e):=g4
    have G5:Hid (∀ i j,a≤i→i<mid→mid≤j→j<b→lt e[j]! e[i]! = false):=g5
    have hed:e.size=n:=hE2.1.trans hd
    have c0:wc.cell? ⟨W.heap.size,0,none⟩=some (.func (.func f) #[] lb):=by rw [hE1.oth (by simp) (by omega)]; simp
    have c1:wc.cell? ⟨W.heap.size,1,none⟩=some (.func (.func sf) #[] sb):=by rw [hE1.oth (by simp) (by omega)]; simp
    have HE1:Hid (SU enc k g T cs (W.alloc (LSo f lb sf sb)) e wc):=hE1
    have HE2:Hid (PermIn a b d e):=hE2
    clear g1 g2 g3 g4 g5 hE1 hE2 hE3
    go_upto_region 42 with (fail)
    go_cut [158] (fun s158 wx=>s158=.bool (decide (a<s∧s<mid))∧wx=wc)
    case first=>
     by_cases q1:a<s
     ·by_cases q2:s<mid
      ·have q3:decide (a<s∧s<mid)=true:=decide_eq_true ⟨q1,q2⟩
       go_wp2
       go_meet
       exact ⟨by rw [q3],rfl⟩
      ·have q3:decide (a<s∧s<mid)=false:=decide_eq_false fun h=>q2 h.2
       go_wp2
       go_meet
       exact ⟨by rw [q3],rfl⟩
     ·have q3:decide (a<s∧s<mid)=false:=decide_eq_false fun h=>q1 h.1
      go_wp2
      go_meet
      exact ⟨by rw [q3],rfl⟩
    case rest=>
    obtain ⟨rfl,rfl⟩:=hcut
    go_upto_if 158 with (fail)
    go_cut [] (fun wx=>∃ e1,SU enc k g T cs (W.alloc (LSo f lb sf sb)) e1 wx∧PermIn a mid e e1∧SortedIn lt a mid e1)
    case first=>
     by_cases q:a<s∧s<mid
     ·have q3:decide (a<s∧s<mid)=true:=decide_eq_true q
      have hc:=HI.out e _ hed HE1.out.self (HL.out e _ HE1.out) a s mid (by omega) q.1 q.2 (by omega) G1.out G2.out
      go_wp2_with (go_at_call 269; refine hc.mono ?_; rintro e' w' ⟨rfl,hE⟩)
      go_meet
      obtain ⟨e1,hE1,hE2,hE3⟩:=hE
      exact ⟨e1,HE1.out.trans hE1,hE2,hE3⟩
     ·have q3:decide (a<s∧s<mid)=false:=decide_eq_false q
      go_wp2
      go_meet
      refine ⟨e,HE1.out,permIn_refl _ _ _,?_⟩
      by_cases q4:a<s
      ·exact ZfQ G1.out (Nat.le_refl _) (by omega)
      ·exact ZfQ G2.out (by omega) (Nat.le_refl _)
    case rest=>
    obtain ⟨e1,hF1,hF2,hF3⟩:=hcut
    have hed1:e1.size=n:=hF2.1.trans hed
    have g3:SortedIn lt mid t e1:=ZhZ G3.out fun k h1 h2=>hF2.2.1 k (.inr h1)
    have g4:SortedIn lt t b e1:=ZhZ G4.out fun k h1 h2=>hF2.2.1 k (.inr (by omega))
    have c0':wc.cell? ⟨W.heap.size,0,none⟩=some (.func (.func f) #[] lb):=by rw [hF1.oth (by simp) (by omega)]; simp
    have c1':wc.cell? ⟨W.heap.size,1,none⟩=some (.func (.func sf) #[] sb):=by rw [hF1.oth (by simp) (by omega)]; simp
    have K3:Hid (SortedIn lt mid t e1):=g3
    have K4:Hid (SortedIn lt t b e1):=g4
    have HF1:Hid (SU enc k g T cs (W.alloc (LSo f lb sf sb)) e1 wc):=hF1
    have HF2:Hid (PermIn a mid e e1):=hF2
    have HF3:Hid (SortedIn lt a mid e1):=hF3
    clear g3 g4 hF1 hF2 hF3
    have fin:∀ w' e2,SU enc k g T cs (W.alloc (LSo f lb sf sb)) e2 w'→PermIn mid b e1 e2→SortedIn lt mid b e2→∃ e,SU enc k g T cs W e w'∧PermIn a b d e∧SortedIn lt a b e:=fun w' e2 h1 h2 h3=>by
     obtain ⟨x1,x2⟩:=glue hO (by omega) (by omega) (by omega) HF2.out h2 HF3.out h3 G5.out
     exact ⟨e2,HB.out.trans h1,permIn_trans _ _ _ _ _ HE2.out x1,x2⟩
    have FIN:Hid _:=fin
    clear fin
    go_upto_region 44 with (fail)
    go_cut [171] (fun s171 wx=>s171=.bool (decide (mid<t∧t<b))∧wx=wc)
    case first=>
     by_cases q1:mid<t
     ·by_cases q2:t<b
      ·have q3:decide (mid<t∧t<b)=true:=decide_eq_true ⟨q1,q2⟩
       go_wp2
       go_meet
       exact ⟨by rw [q3],rfl⟩
      ·have q3:decide (mid<t∧t<b)=false:=decide_eq_false fun h=>q2 h.2
       go_wp2
       go_meet
       exact ⟨by rw [q3],rfl⟩
     ·have q3:decide (mid<t∧t<b)=false:=decide_eq_false fun h=>q1 h.1
      go_wp2
      go_meet
      exact ⟨by rw [q3],rfl⟩
    case rest=>
    obtain ⟨rfl,rfl⟩:=hcut
    by_cases q:mid<t∧t<b
    ·have q3:decide (mid<t∧t<b)=true:=decide_eq_true q
     have hc:=HI.out e1 _ hed1 HF1.out.self (HL.out e1 _ HF1.out) mid t b (by omega) q.1 q.2 hb K3.out K4.out
     go_wp2_with (go_at_call 269; refine hc.mono ?_; rintro e' w' ⟨rfl,hE⟩)
     go_end0
     obtain ⟨e2,hE1,hE2,hE3⟩:=hE
     exact ⟨rfl,FIN.out _ e2 (HF1.out.trans hE1) hE2 hE3⟩
    ·have q3:decide (mid<t∧t<b)=false:=decide_eq_false q
     go_wp2
     go_end0
     refine ⟨rfl,FIN.out _ e1 HF1.out (permIn_refl _ _ _) ?_⟩
     by_cases q4:mid<t
     ·exact ZfQ K3.out (Nat.le_refl _) (by omega)
     ·exact ZfQ K4.out (by omega) (Nat.le_refl _)
end
end Go.Proofs.YtmcdjilbkmhfoaaGreat
