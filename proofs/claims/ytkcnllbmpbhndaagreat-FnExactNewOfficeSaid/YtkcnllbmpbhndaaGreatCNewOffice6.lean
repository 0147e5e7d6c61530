/- A part of the proof of the statement in the last file of this claim: texts on the language of the program and on its functions. No condition. -/
import Derived.Test.YtkcnllbmpbhndaaGreatCNewOffice5
import Derived.StillTailTactics
import Derived.Deep.RegionHeld3
import Derived.Test.YtkcnllbmpbhndaaGreatCNewOffice4
import Derived.Sort.Walk0
namespace Go.Proofs.YtkcnllbmpbhndaaGreat
set_option maxRecDepth 10000
open Go.RowKit
theorem ZaI (A:Option Addr) (xs:List Ln) (n c:Nat) (o k:Int) (w:World) (hr:Rd w w.heap.size A xs) (hl:n=xs.length) (hn:n≤2000000)
 : Calls Tryz.prog 109 #[.slice A n c,.int .i64 o,.int .i64 k] w fun e w'=>e=.returned (.int .i64 (ZaV xs o k))∧Up w w':=by
 subst hl; exact ZjI A xs c o k w hr hn
theorem ZkZ (A:Option Addr) (xs:List Ln) (c:Nat) (o k:Int) (w:World) (hr:Rd w w.heap.size A xs) (hn:xs.length≤2000000)
 : Calls Tryz.prog 110 #[.slice A xs.length c,.int .i64 o,.int .i64 k] w fun e w'=>e=.returned (.int .i64 (Zih xs o k))∧Up w w':=by
 go_enter Tryz.func110,Tryz.ntmps110
 go_wp2
 go_loopw [7,8] (fun n7 i wr=>∃ j:Nat,j≤xs.length∧i=.int .i64 j∧n7=.int .i64 (Zih (xs.take j) o k)∧Up w wr) (fun _ i _=>xs.length-(intOf i).toNat)
 case atStart=>exact ⟨0,by omega,rfl,rfl,Below.refl _ _⟩
 case round=>
  obtain ⟨i,hi,rfl,rfl,hb⟩:=hrel
  by_cases hlt:i<xs.length
  ·obtain ⟨x,hx⟩:=ZcJ hlt
   obtain ⟨b,off,rfl,hbb,c0,c1,c2,c3⟩:=(hr.below hb).ln hx
   have S:Hid (Zih (xs.take (i+1)) o k=ZfG o k (Zih (xs.take i) o k) x):=Zgb hx _ _
   clear hr hx
   go_wp2
   all_goals exact ⟨⟨i+1,by omega,by go_num,by rw [S.out]; simp [ZfG, *],by (repeat (first | exact Up.rfl' _ | (refine Up.al _ ?_) | (refine Up.dr _ ?_) | (refine Up.dr1 ?_) | (refine Up.sc ?_ (by first | exact Nat.le_refl _ | (simp; done) | omega) _) | (refine Up.step (by assumption) ?_)))⟩,by simp [intOf]; omega⟩
  ·go_wp2
   go_ret
   obtain rfl:i=xs.length:=by omega
   exact ⟨by simp,hb⟩
theorem Zfy (A:Option Addr) (xs:List Ln) (n c:Nat) (o k:Int) (w:World) (hr:Rd w w.heap.size A xs) (hl:n=xs.length) (hn:n≤2000000)
 : Calls Tryz.prog 110 #[.slice A n c,.int .i64 o,.int .i64 k] w fun e w'=>e=.returned (.int .i64 (Zih xs o k))∧Up w w':=by
 subst hl; exact ZkZ A xs c o k w hr hn
set_option maxHeartbeats 1600000 in
theorem ZjK (A:Option Addr) (xs:List Ln) (c:Nat) (w:World) (hr:Rd w w.heap.size A xs) (hc:xs.length≤c) (hn:xs.length≤2000000)
 : Calls Tryz.prog 65 #[.slice A xs.length c] w fun e w'=>e=.returned (.bool (ZeI xs))∧Up w w':=by
 by_cases h200:xs.length≤200
 ·go_enter Tryz.func65,Tryz.ntmps65
  go_wp2
  go_loopw [3] (fun i wr=>∃ j:Nat,j≤xs.length∧i=.int .i64 j∧Hid (ZfR j (Zfz xs)=true)∧Up w wr) (fun i _=>xs.length-(intOf i).toNat)
  case atStart=>exact ⟨0,by omega,rfl,Zf8 _,by (repeat (first | exact Up.rfl' _ | (refine Up.al _ ?_) | (refine Up.dr _ ?_) | (refine Up.dr1 ?_) | (refine Up.sc ?_ (by first | exact Nat.le_refl _ | (simp; done) | omega) _) | (refine Up.step (by assumption) ?_)))⟩
  case round=>
   obtain ⟨i,hi,rfl,he,hb⟩:=hrel
   by_cases hlt:i<xs.length
   ·obtain ⟨x,gx⟩:=ZcJ hlt
    obtain ⟨b,off,rfl,hbb,c0,c1,c2,c3⟩:=(hr.below hb).ln gx
    have Gx:=Lib.hid gx
    clear gx
    go_wp2
    generalize hwb:wr.alloc (.cells #[I x.o,I x.k,I x.a,I x.t] 113)=wb
    have d0:wb.cell? ⟨wr.heap.size,0,none⟩=some (I x.o):=by rw [← hwb]; simp [go_sem]
    have d1:wb.cell? ⟨wr.heap.size,1,none⟩=some (I x.k):=by rw [← hwb]; simp [go_sem]
    have d2:wb.cell? ⟨wr.heap.size,2,none⟩=some (I x.a):=by rw [← hwb]; simp [go_sem]
    have d3:wb.cell? ⟨wr.heap.size,3,none⟩=some (I x.t):=by rw [← hwb]; simp [go_sem]
    have hub:Up wr wb:=by rw [← hwb]; (repeat (first | exact Up.rfl' _ | (refine Up.al _ ?_) | (refine Up.dr _ ?_) | (refine Up.dr1 ?_) | (refine Up.sc ?_ (by first | exact Nat.le_refl _ | (simp; done) | omega) _) | (refine Up.step (by assumption) ?_)))
    clear hwb c0 c1 c2 c3
    go_cut [3,37] (fun s12 s34 wx=>s12=.int .i64 i∧s34=.bool (Zgt xs i x)∧Up wb wx)
    case first=>
     cases hL:ZgA x.o x.k x.a x.t with
     | false=>
      have HB:=Lib.hid (ZmG (xs:=xs) (i:=i) hL)
      (have Ed0:=Ups.cell d0; have Ed1:=Ups.cell d1; have Ed2:=Ups.cell d2; have Ed3:=Ups.cell d3; refine ZU (by kernel_rfl) (by kernel_rfl) ?_; (repeat (go_big_quiet_step ((go_at_call 108; exact Ups.call (Zgy _ _ _ _ _))))); refine wpQuiet_nil ?_; intro wq1 hq1; clear Ed0 Ed1 Ed2 Ed3; replace d0:=Zh d0 hq1; replace d1:=Zh d1 hq1; replace d2:=Zh d2 hq1; replace d3:=Zh d3 hq1)
      go_wp2
      go_meet
      exact ⟨rfl,by rw [HB.out],by (repeat (first | exact Up.rfl' _ | (refine Up.al _ ?_) | (refine Up.dr _ ?_) | (refine Up.dr1 ?_) | (refine Up.sc ?_ (by first | exact Nat.le_refl _ | (simp; done) | omega) _) | (refine Up.step (by assumption) ?_)))⟩
     | true=>
      rcases Nat.eq_zero_or_pos i with h0' | h0
      ·have h0:i≤0:=by omega
       clear h0'
       have HB:=Lib.hid (Zkt (xs:=xs) hL h0)
       have t0:decide ((0:Int)<(i:Int))=false:=decide_eq_false (by omega)
       have t1:decide (0<i)=false:=decide_eq_false (by omega)
       (have Ed0:=Ups.cell d0; have Ed1:=Ups.cell d1; have Ed2:=Ups.cell d2; have Ed3:=Ups.cell d3; refine ZU (by kernel_rfl) (by kernel_rfl) ?_; (repeat (go_big_quiet_step ((go_at_call 108; exact Ups.call (Zgy _ _ _ _ _))))); refine wpQuiet_nil ?_; intro wq1 hq1; clear Ed0 Ed1 Ed2 Ed3; replace d0:=Zh d0 hq1; replace d1:=Zh d1 hq1; replace d2:=Zh d2 hq1; replace d3:=Zh d3 hq1)
       go_wp2
       go_meet
       exact ⟨rfl,by rw [HB.out],by (repeat (first | exact Up.rfl' _ | (refine Up.al _ ?_) | (refine Up.dr _ ?_) | (refine Up.dr1 ?_) | (refine Up.sc ?_ (by first | exact Nat.le_refl _ | (simp; done) | omega) _) | (refine Up.step (by assumption) ?_)))⟩
      ·obtain ⟨m,rfl⟩:∃ m,i=m+1:=⟨i-1,by omega⟩
       obtain ⟨y,gy⟩:=ZcJ (xs:=xs) (i:=m) (by omega)
       obtain ⟨b',off',hA,_,_,_,_,p3⟩:=((hr.up hb).up hub).ln gy
       obtain ⟨rfl,rfl⟩:b=b'∧off=off':=by simpa using hA
       have HB:=Lib.hid (ZmH (x:=x) hL gy)
       clear hA gy hr
       have t0:decide ((0:Int)<(m:Int)+1)=true:=decide_eq_true (by omega)
       have t1:decide (0<m+1)=true:=by simp
       have wm:IntKind.i64.wrap (m:Int)=m:=IntWalk.i64_in _ (by omega)
       have wm1:IntKind.i64.wrap ((m:Int)+1-1)=m:=by rw [IntWalk.i64_in _ (by omega)]; omega
       have bm0:(0:Int)≤(m:Int):=by omega
       have bm1:(m:Int)<(xs.length:Int):=by omega
       (have Ed0:=Ups.cell d0; have Ed1:=Ups.cell d1; have Ed2:=Ups.cell d2; have Ed3:=Ups.cell d3; have Ep3:=Ups.cell p3; refine ZU (by kernel_rfl) (by kernel_rfl) ?_; (repeat (go_big_quiet_step ((go_at_call 108; exact Ups.call (Zgy _ _ _ _ _))))); refine wpQuiet_nil ?_; intro wq1 hq1; clear Ed0 Ed1 Ed2 Ed3 Ep3; replace d0:=Zh d0 hq1; replace d1:=Zh d1 hq1; replace d2:=Zh d2 hq1; replace d3:=Zh d3 hq1; replace p3:=Zh p3 hq1)
       go_wp2
       go_meet
       exact ⟨by go_num,by rw [HB.out],by (repeat (first | exact Up.rfl' _ | (refine Up.al _ ?_) | (refine Up.dr _ ?_) | (refine Up.dr1 ?_) | (refine Up.sc ?_ (by first | exact Nat.le_refl _ | (simp; done) | omega) _) | (refine Up.step (by assumption) ?_)))⟩
    case rest=>
     obtain ⟨rfl,rfl,hbc⟩:=hcut
     replace d0:=Zh d0 hbc
     replace d1:=Zh d1 hbc
     replace d2:=Zh d2 hbc
     replace d3:=Zh d3 hbc
     cases hbad:Zgt xs i x with
     | true=>
      have HR:=Lib.hid (Zjv Gx.out hbad)
      go_wp2
      go_ret
      exact ⟨retb HR.out.symm,by (repeat (first | exact Up.rfl' _ | (refine Up.al _ ?_) | (refine Up.dr _ ?_) | (refine Up.dr1 ?_) | (refine Up.sc ?_ (by first | exact Nat.le_refl _ | (simp; done) | omega) _) | (refine Up.step (by assumption) ?_)))⟩
     | false=>
      have bi0:(0:Int)≤(i:Int):=by omega
      have bi1:(i:Int)≤(c:Int):=by omega
      have bc0:¬ c=0:=by omega
      have hrc:=(hr.up (show Up w wc by (repeat (first | exact Up.rfl' _ | (refine Up.al _ ?_) | (refine Up.dr _ ?_) | (refine Up.dr1 ?_) | (refine Up.sc ?_ (by first | exact Nat.le_refl _ | (simp; done) | omega) _) | (refine Up.step (by assumption) ?_))))).take_ i
      have hli:i=(xs.take i).length:=by simp; omega
      have HR:=Lib.hid hrc
      have HL:=Lib.hid hli
      have HK:=Lib.hid (Zpq (ZgB hbad))
      have HBad:=Lib.hid hbad
      clear hrc hli hr hbad
      rcases HK.out with hk | hk | hk
      ·have k1:(x.k == 1)=true:=by simp [hk]
       have hfit:=fit1 (b:=xs.take i) hk
       clear hk
       cases h1:decide (0<ZaV (xs.take i) x.o 1) with
       | true=>
        have HF:=Lib.hid (ZaB Gx.out (hfit.trans (by rw [h1]; rfl)))
        clear hfit
        go_wp2_with (go_at_call 109; refine (ZaI _ (xs.take i) _ _ _ _ _ (HR.out.up (by (repeat (first | exact Up.rfl' _ | (refine Up.al _ ?_) | (refine Up.dr _ ?_) | (refine Up.dr1 ?_) | (refine Up.sc ?_ (by first | exact Nat.le_refl _ | (simp; done) | omega) _) | (refine Up.step (by assumption) ?_))))) HL.out (by omega)).mono ?_; rintro e w1 ⟨rfl,hb1⟩; replace d0:=Zh d0 hb1; replace d1:=Zh d1 hb1; replace d2:=Zh d2 hb1; replace d3:=Zh d3 hb1)
        go_ret
        exact ⟨retb HF.out.symm,by (repeat (first | exact Up.rfl' _ | (refine Up.al _ ?_) | (refine Up.dr _ ?_) | (refine Up.dr1 ?_) | (refine Up.sc ?_ (by first | exact Nat.le_refl _ | (simp; done) | omega) _) | (refine Up.step (by assumption) ?_)))⟩
       | false=>
        have HF:=Lib.hid (ZfA Gx.out HBad.out (hfit.trans (by rw [h1]; rfl)))
        clear hfit
        go_wp2_with (go_at_call 109; refine (ZaI _ (xs.take i) _ _ _ _ _ (HR.out.up (by (repeat (first | exact Up.rfl' _ | (refine Up.al _ ?_) | (refine Up.dr _ ?_) | (refine Up.dr1 ?_) | (refine Up.sc ?_ (by first | exact Nat.le_refl _ | (simp; done) | omega) _) | (refine Up.step (by assumption) ?_))))) HL.out (by omega)).mono ?_; rintro e w1 ⟨rfl,hb1⟩; replace d0:=Zh d0 hb1; replace d1:=Zh d1 hb1; replace d2:=Zh d2 hb1; replace d3:=Zh d3 hb1)
        exact ⟨⟨i+1,by omega,by go_num,Zc2 he.out HF.out,by (repeat (first | exact Up.rfl' _ | (refine Up.al _ ?_) | (refine Up.dr _ ?_) | (refine Up.dr1 ?_) | (refine Up.sc ?_ (by first | exact Nat.le_refl _ | (simp; done) | omega) _) | (refine Up.step (by assumption) ?_)))⟩,by simp [intOf]; omega⟩
      ·have k1:(x.k == 1)=false:=by simp [hk]
       have k2:(x.k == 2)=true:=by simp [hk]
       have hfit:=fit2 (b:=xs.take i) hk
       clear hk
       cases h1:decide (ZaV (xs.take i) x.o 1<wrap64 (ZaV (xs.take i) x.o 2+x.a)) with
       | true=>
        have HF:=Lib.hid (ZaB Gx.out (hfit.trans (by rw [h1]; rfl)))
        clear hfit
        go_wp2_with (go_at_call 109; refine (ZaI _ (xs.take i) _ _ _ _ _ (HR.out.up (by (repeat (first | exact Up.rfl' _ | (refine Up.al _ ?_) | (refine Up.dr _ ?_) | (refine Up.dr1 ?_) | (refine Up.sc ?_ (by first | exact Nat.le_refl _ | (simp; done) | omega) _) | (refine Up.step (by assumption) ?_))))) HL.out (by omega)).mono ?_; rintro e w1 ⟨rfl,hb1⟩; replace d0:=Zh d0 hb1; replace d1:=Zh d1 hb1; replace d2:=Zh d2 hb1; replace d3:=Zh d3 hb1)
        (have Ed0:=Ups.cell d0; have Ed1:=Ups.cell d1; have Ed2:=Ups.cell d2; have Ed3:=Ups.cell d3; refine ZU (by kernel_rfl) (by kernel_rfl) ?_; (repeat (go_big_quiet_step ((go_at_call 109; exact Ups.call (ZaI _ (xs.take i) _ _ _ _ _ (HR.out.up (Up.step (Ups.up _) (by (repeat (first | exact Up.rfl' _ | (refine Up.al _ ?_) | (refine Up.dr _ ?_) | (refine Up.dr1 ?_) | (refine Up.sc ?_ (by first | exact Nat.le_refl _ | (simp; done) | omega) _) | (refine Up.step (by assumption) ?_)))))) HL.out (by omega)))))); refine wpQuiet_nil ?_; intro wq3 hq3; clear Ed0 Ed1 Ed2 Ed3; replace d0:=Zh d0 hq3; replace d1:=Zh d1 hq3; replace d2:=Zh d2 hq3; replace d3:=Zh d3 hq3)
        go_wp2
        go_ret
        exact ⟨retb HF.out.symm,by (repeat (first | exact Up.rfl' _ | (refine Up.al _ ?_) | (refine Up.dr _ ?_) | (refine Up.dr1 ?_) | (refine Up.sc ?_ (by first | exact Nat.le_refl _ | (simp; done) | omega) _) | (refine Up.step (by assumption) ?_)))⟩
       | false=>
        have HF:=Lib.hid (ZfA Gx.out HBad.out (hfit.trans (by rw [h1]; rfl)))
        clear hfit
        go_wp2_with (go_at_call 109; refine (ZaI _ (xs.take i) _ _ _ _ _ (HR.out.up (by (repeat (first | exact Up.rfl' _ | (refine Up.al _ ?_) | (refine Up.dr _ ?_) | (refine Up.dr1 ?_) | (refine Up.sc ?_ (by first | exact Nat.le_refl _ | (simp; done) | omega) _) | (refine Up.step (by assumption) ?_))))) HL.out (by omega)).mono ?_; rintro e w1 ⟨rfl,hb1⟩; replace d0:=Zh d0 hb1; replace d1:=Zh d1 hb1; replace d2:=Zh d2 hb1; replace d3:=Zh d3 hb1)
        (have Ed0:=Ups.cell d0; have Ed1:=Ups.cell d1; have Ed2:=Ups.cell d2; have Ed3:=Ups.cell d3; refine ZU (by kernel_rfl) (by kernel_rfl) ?_; (repeat (go_big_quiet_step ((go_at_call 109; exact Ups.call (ZaI _ (xs.take i) _ _ _ _ _ (HR.out.up (Up.step (Ups.up _) (by (repeat (first | exact Up.rfl' _ | (refine Up.al _ ?_) | (refine Up.dr _ ?_) | (refine Up.dr1 ?_) | (refine Up.sc ?_ (by first | exact Nat.le_refl _ | (simp; done) | omega) _) | (refine Up.step (by assumption) ?_)))))) HL.out (by omega)))))); refine wpQuiet_nil ?_; intro wq3 hq3; clear Ed0 Ed1 Ed2 Ed3; replace d0:=Zh d0 hq3; replace d1:=Zh d1 hq3; replace d2:=Zh d2 hq3; replace d3:=Zh d3 hq3)
        go_wp2
        exact ⟨⟨i+1,by omega,by go_num,Zc2 he.out HF.out,by (repeat (first | exact Up.rfl' _ | (refine Up.al _ ?_) | (refine Up.dr _ ?_) | (refine Up.dr1 ?_) | (refine Up.sc ?_ (by first | exact Nat.le_refl _ | (simp; done) | omega) _) | (refine Up.step (by assumption) ?_)))⟩,by simp [intOf]; omega⟩
      ·have k1:(x.k == 1)=false:=by simp [hk]
       have k2:(x.k == 2)=false:=by simp [hk]
       have k3:(x.k == 3)=true:=by simp [hk]
       have hfit:=fit3 (b:=xs.take i) hk
       clear hk
       have hcs:=Zsu x.o 3 he.out (by omega)
       cases h1:decide (0<ZaV (xs.take i) x.o 3) with
       | true=>
        have HF:=Lib.hid (ZaB Gx.out (hfit.trans (by rw [h1]; rfl)))
        have h4:=hcs.trans h1
        clear hcs h1
        clear hfit
        go_wp2_with (first | (go_at_call 110; refine (Zfy _ (xs.take i) _ _ _ _ _ (HR.out.up (by (repeat (first | exact Up.rfl' _ | (refine Up.al _ ?_) | (refine Up.dr _ ?_) | (refine Up.dr1 ?_) | (refine Up.sc ?_ (by first | exact Nat.le_refl _ | (simp; done) | omega) _) | (refine Up.step (by assumption) ?_))))) HL.out (by omega)).mono ?_; rintro e w9 ⟨rfl,hb9⟩; replace d0:=Zh d0 hb9; replace d1:=Zh d1 hb9; replace d2:=Zh d2 hb9; replace d3:=Zh d3 hb9) | (go_at_call 109; refine (ZaI _ (xs.take i) _ _ _ _ _ (HR.out.up (by (repeat (first | exact Up.rfl' _ | (refine Up.al _ ?_) | (refine Up.dr _ ?_) | (refine Up.dr1 ?_) | (refine Up.sc ?_ (by first | exact Nat.le_refl _ | (simp; done) | omega) _) | (refine Up.step (by assumption) ?_))))) HL.out (by omega)).mono ?_; rintro e w8 ⟨rfl,hb8⟩; replace d0:=Zh d0 hb8; replace d1:=Zh d1 hb8; replace d2:=Zh d2 hb8; replace d3:=Zh d3 hb8))
        go_ret
        exact ⟨retb HF.out.symm,by (repeat (first | exact Up.rfl' _ | (refine Up.al _ ?_) | (refine Up.dr _ ?_) | (refine Up.dr1 ?_) | (refine Up.sc ?_ (by first | exact Nat.le_refl _ | (simp; done) | omega) _) | (refine Up.step (by assumption) ?_)))⟩
       | false=>
       cases h2:(ZaV (xs.take i) x.o 2 != ZaV (xs.take i) x.o 1) with
       | true=>
        cases h3:decide (ZaV (xs.take i) x.o 1<x.a) with
        | true=>
         have HF:=Lib.hid (ZaB Gx.out (hfit.trans (by rw [h1]; simp at h2; simp [h2])))
         have h4:=hcs.trans h1
         clear hcs h1
         clear hfit
         go_wp2_with (first | (go_at_call 110; refine (Zfy _ (xs.take i) _ _ _ _ _ (HR.out.up (by (repeat (first | exact Up.rfl' _ | (refine Up.al _ ?_) | (refine Up.dr _ ?_) | (refine Up.dr1 ?_) | (refine Up.sc ?_ (by first | exact Nat.le_refl _ | (simp; done) | omega) _) | (refine Up.step (by assumption) ?_))))) HL.out (by omega)).mono ?_; rintro e w9 ⟨rfl,hb9⟩; replace d0:=Zh d0 hb9; replace d1:=Zh d1 hb9; replace d2:=Zh d2 hb9; replace d3:=Zh d3 hb9) | (go_at_call 109; refine (ZaI _ (xs.take i) _ _ _ _ _ (HR.out.up (by (repeat (first | exact Up.rfl' _ | (refine Up.al _ ?_) | (refine Up.dr _ ?_) | (refine Up.dr1 ?_) | (refine Up.sc ?_ (by first | exact Nat.le_refl _ | (simp; done) | omega) _) | (refine Up.step (by assumption) ?_))))) HL.out (by omega)).mono ?_; rintro e w8 ⟨rfl,hb8⟩; replace d0:=Zh d0 hb8; replace d1:=Zh d1 hb8; replace d2:=Zh d2 hb8; replace d3:=Zh d3 hb8))
         go_ret
         exact ⟨retb HF.out.symm,by (repeat (first | exact Up.rfl' _ | (refine Up.al _ ?_) | (refine Up.dr _ ?_) | (refine Up.dr1 ?_) | (refine Up.sc ?_ (by first | exact Nat.le_refl _ | (simp; done) | omega) _) | (refine Up.step (by assumption) ?_)))⟩
        | false=>
         have HF:=Lib.hid (ZaB Gx.out (hfit.trans (by rw [h1]; simp at h2; simp [h2])))
         have h4:=hcs.trans h1
         clear hcs h1
         clear hfit
         go_wp2_with (first | (go_at_call 110; refine (Zfy _ (xs.take i) _ _ _ _ _ (HR.out.up (by (repeat (first | exact Up.rfl' _ | (refine Up.al _ ?_) | (refine Up.dr _ ?_) | (refine Up.dr1 ?_) | (refine Up.sc ?_ (by first | exact Nat.le_refl _ | (simp; done) | omega) _) | (refine Up.step (by assumption) ?_))))) HL.out (by omega)).mono ?_; rintro e w9 ⟨rfl,hb9⟩; replace d0:=Zh d0 hb9; replace d1:=Zh d1 hb9; replace d2:=Zh d2 hb9; replace d3:=Zh d3 hb9) | (go_at_call 109; refine (ZaI _ (xs.take i) _ _ _ _ _ (HR.out.up (by (repeat (first | exact Up.rfl' _ | (refine Up.al _ ?_) | (refine Up.dr _ ?_) | (refine Up.dr1 ?_) | (refine Up.sc ?_ (by first | exact Nat.le_refl _ | (simp; done) | omega) _) | (refine Up.step (by assumption) ?_))))) HL.out (by omega)).mono ?_; rintro e w8 ⟨rfl,hb8⟩; replace d0:=Zh d0 hb8; replace d1:=Zh d1 hb8; replace d2:=Zh d2 hb8; replace d3:=Zh d3 hb8))
         go_ret
         exact ⟨retb HF.out.symm,by (repeat (first | exact Up.rfl' _ | (refine Up.al _ ?_) | (refine Up.dr _ ?_) | (refine Up.dr1 ?_) | (refine Up.sc ?_ (by first | exact Nat.le_refl _ | (simp; done) | omega) _) | (refine Up.step (by assumption) ?_)))⟩
       | false=>
       cases h3:decide (ZaV (xs.take i) x.o 1<x.a) with
       | true=>
        have HF:=Lib.hid (ZaB Gx.out (hfit.trans (by rw [h1,h3]; simp)))
        have h4:=hcs.trans h1
        clear hcs h1
        clear hfit
        go_wp2_with (first | (go_at_call 110; refine (Zfy _ (xs.take i) _ _ _ _ _ (HR.out.up (by (repeat (first | exact Up.rfl' _ | (refine Up.al _ ?_) | (refine Up.dr _ ?_) | (refine Up.dr1 ?_) | (refine Up.sc ?_ (by first | exact Nat.le_refl _ | (simp; done) | omega) _) | (refine Up.step (by assumption) ?_))))) HL.out (by omega)).mono ?_; rintro e w9 ⟨rfl,hb9⟩; replace d0:=Zh d0 hb9; replace d1:=Zh d1 hb9; replace d2:=Zh d2 hb9; replace d3:=Zh d3 hb9) | (go_at_call 109; refine (ZaI _ (xs.take i) _ _ _ _ _ (HR.out.up (by (repeat (first | exact Up.rfl' _ | (refine Up.al _ ?_) | (refine Up.dr _ ?_) | (refine Up.dr1 ?_) | (refine Up.sc ?_ (by first | exact Nat.le_refl _ | (simp; done) | omega) _) | (refine Up.step (by assumption) ?_))))) HL.out (by omega)).mono ?_; rintro e w8 ⟨rfl,hb8⟩; replace d0:=Zh d0 hb8; replace d1:=Zh d1 hb8; replace d2:=Zh d2 hb8; replace d3:=Zh d3 hb8))
        go_ret
        exact ⟨retb HF.out.symm,by (repeat (first | exact Up.rfl' _ | (refine Up.al _ ?_) | (refine Up.dr _ ?_) | (refine Up.dr1 ?_) | (refine Up.sc ?_ (by first | exact Nat.le_refl _ | (simp; done) | omega) _) | (refine Up.step (by assumption) ?_)))⟩
       | false=>
        have HF:=Lib.hid (ZfA Gx.out HBad.out (hfit.trans (by rw [h1,h3]; simp at h2; simp [h2])))
        have h4:=hcs.trans h1
        clear hcs h1
        clear hfit
        go_wp2_with (first | (go_at_call 110; refine (Zfy _ (xs.take i) _ _ _ _ _ (HR.out.up (by (repeat (first | exact Up.rfl' _ | (refine Up.al _ ?_) | (refine Up.dr _ ?_) | (refine Up.dr1 ?_) | (refine Up.sc ?_ (by first | exact Nat.le_refl _ | (simp; done) | omega) _) | (refine Up.step (by assumption) ?_))))) HL.out (by omega)).mono ?_; rintro e w9 ⟨rfl,hb9⟩; replace d0:=Zh d0 hb9; replace d1:=Zh d1 hb9; replace d2:=Zh d2 hb9; replace d3:=Zh d3 hb9) | (go_at_call 109; refine (ZaI _ (xs.take i) _ _ _ _ _ (HR.out.up (by (repeat (first | exact Up.rfl' _ | (refine Up.al _ ?_) | (refine Up.dr _ ?_) | (refine Up.dr1 ?_) | (refine Up.sc ?_ (by first | exact Nat.le_refl _ | (simp; done) | omega) _) | (refine Up.step (by assumption) ?_))))) HL.out (by omega)).mono ?_; rintro e w8 ⟨rfl,hb8⟩; replace d0:=Zh d0 hb8; replace d1:=Zh d1 hb8; replace d2:=Zh d2 hb8; replace d3:=Zh d3 hb8))
        exact ⟨⟨i+1,by omega,by go_num,Zc2 he.out HF.out,by (repeat (first | exact Up.rfl' _ | (refine Up.al _ ?_) | (refine Up.dr _ ?_) | (refine Up.dr1 ?_) | (refine Up.sc ?_ (by first | exact Nat.le_refl _ | (simp; done) | omega) _) | (refine Up.step (by assumption) ?_)))⟩,by simp [intOf]; omega⟩
   ·obtain rfl:i=xs.length:=by omega
    have HR:=Lib.hid (Zju h200 he.out)
    go_wp2
    go_ret
    exact ⟨retb HR.out.symm,by (repeat (first | exact Up.rfl' _ | (refine Up.al _ ?_) | (refine Up.dr _ ?_) | (refine Up.dr1 ?_) | (refine Up.sc ?_ (by first | exact Nat.le_refl _ | (simp; done) | omega) _) | (refine Up.step (by assumption) ?_)))⟩
 ·have HR:=Lib.hid (Ziw h200)
  go_enter Tryz.func65,Tryz.ntmps65
  go_wp2
  go_ret
  exact ⟨retb HR.out.symm,by (repeat (first | exact Up.rfl' _ | (refine Up.al _ ?_) | (refine Up.dr _ ?_) | (refine Up.dr1 ?_) | (refine Up.sc ?_ (by first | exact Nat.le_refl _ | (simp; done) | omega) _) | (refine Up.step (by assumption) ?_)))⟩
set_option linter.unusedVariables false
set_option linter.unusedSimpArgs false
def lnOf (x:ZR):Ln:=⟨x.order,x.kind,x.amount,x.at_⟩
instance:Zop Zap lnOf:=⟨fun x=>rfl,fun x j p h=>by
 match j,h with
 | 0,h=>obtain rfl:vi x.order=p:=by simpa using h
        exact ⟨_,rfl,rfl⟩
 | 1,h=>obtain rfl:vi x.kind=p:=by simpa using h
        exact ⟨_,rfl,rfl⟩
 | 2,h=>obtain rfl:vi x.amount=p:=by simpa using h
        exact ⟨_,rfl,rfl⟩
 | 3,h=>obtain rfl:vi x.at_=p:=by simpa using h
        exact ⟨_,rfl,rfl⟩
 | j+4,h=>simp at h⟩
def Zbs (l:List Int):Option Bool:=if l.length≤2000000 then some (Zhp l) else none
theorem ZgC (l:List Int) {r:Bool} (H:Zbs l=some r):ZdG Tryz.prog 77 [.sl (l.map cInt)] [] (vb r) []:=by
 unfold Zbs at H
 split at H
 case isFalse=>cases H
 rename_i hn
 obtain rfl:=Option.some.inj H
 refine Zhe rfl fun S β w vs hsz hl ha=>?_
 obtain ⟨x,hx,hr⟩:=ha 0 _ rfl
 obtain rfl:=ZqF hl hx
 obtain ⟨A,c,rfl,hcap,_,hrd⟩:=Zhu (id:Int→Int) hsz (ZjD hr)
 rw [List.map_id] at hrd
 exact ZhM A c l w hrd hn
instance (l:List Int):CT Tryz.prog (Zbs l):=⟨77,[.sl (l.map cInt)],[],fun r=>vb r,fun r=>[],ZgC l⟩
def Zdc (l:List ZR):Option Bool:=if l.length≤2000000 then some (ZeI (l.map lnOf)) else none
theorem ZhO (l:List ZR) {r:Bool} (H:Zdc l=some r):ZdG Tryz.prog 78 [.sl (l.map Zap)] [] (vb r) []:=by
 unfold Zdc at H
 split at H
 case isFalse=>cases H
 rename_i hn
 obtain rfl:=Option.some.inj H
 refine Zhe rfl fun S β w vs hsz hl ha=>?_
 obtain ⟨x,hx,hr⟩:=ha 0 _ rfl
 obtain rfl:=ZqF hl hx
 obtain ⟨A,c,rfl,hcap,_,hrd⟩:=Zhu lnOf hsz (ZjD hr)
 have:=ZjJ A (l.map lnOf) c w hrd (by simpa using hcap) (by simpa using hn)
 rwa [List.length_map] at this
instance (l:List ZR):CT Tryz.prog (Zdc l):=⟨78,[.sl (l.map Zap)],[],fun r=>vb r,fun r=>[],ZhO l⟩
def ZeN (l:List ZR) (order kind:Int):Option Int:=if l.length≤2000000 then some (ZaV (l.map lnOf) order kind) else none
theorem Zj6 (l:List ZR) (order kind:Int) {r:Int} (H:ZeN l order kind=some r):ZdG Tryz.prog 80 [.sl (l.map Zap),vi order,vi kind] [] (vi r) []:=by
 unfold ZeN at H
 split at H
 case isFalse=>cases H
 rename_i hn
 obtain rfl:=Option.some.inj H
 refine Zhe rfl fun S β w vs hsz hl ha=>?_
 obtain ⟨x,hx,hr⟩:=ha 0 _ rfl
 obtain ⟨x1,hx1,hr1⟩:=ha 1 _ rfl
 obtain ⟨x2,hx2,hr2⟩:=ha 2 _ rfl
 obtain rfl:=ZtK hl hx hx1 hx2
 obtain rfl:=ZnD hr1
 obtain rfl:=ZnD hr2
 obtain ⟨A,c,rfl,hcap,_,hrd⟩:=Zhu lnOf hsz (ZjD hr)
 have:=ZjH A (l.map lnOf) c order kind w hrd (by simpa using hn)
 rwa [List.length_map] at this
instance (l:List ZR) (order kind:Int):CT Tryz.prog (ZeN l order kind):=⟨80,[.sl (l.map Zap),vi order,vi kind],[],fun r=>vi r,fun r=>[],Zj6 l order kind⟩
def ZbH (l:List Int):Option Bool:=if l.length≤2000000 then some (Zhp l) else none
theorem ZgE (l:List Int) {r:Bool} (H:ZbH l=some r):ZdG Tryz.prog 64 [.sl (l.map cInt)] [] (vb r) []:=by
 unfold ZbH at H
 split at H
 case isFalse=>cases H
 rename_i hn
 obtain rfl:=Option.some.inj H
 refine Zhe rfl fun S β w vs hsz hl ha=>?_
 obtain ⟨x,hx,hr⟩:=ha 0 _ rfl
 obtain rfl:=ZqF hl hx
 obtain ⟨A,c,rfl,hcap,_,hrd⟩:=Zhu (id:Int→Int) hsz (ZjD hr)
 rw [List.map_id] at hrd
 exact ZhN A c l w hrd hn
instance (l:List Int):CT Tryz.prog (ZbH l):=⟨64,[.sl (l.map cInt)],[],fun r=>vb r,fun r=>[],ZgE l⟩
def Zdj (l:List ZR):Option Bool:=if l.length≤2000000 then some (ZeI (l.map lnOf)) else none
theorem ZhR (l:List ZR) {r:Bool} (H:Zdj l=some r):ZdG Tryz.prog 65 [.sl (l.map Zap)] [] (vb r) []:=by
 unfold Zdj at H
 split at H
 case isFalse=>cases H
 rename_i hn
 obtain rfl:=Option.some.inj H
 refine Zhe rfl fun S β w vs hsz hl ha=>?_
 obtain ⟨x,hx,hr⟩:=ha 0 _ rfl
 obtain rfl:=ZqF hl hx
 obtain ⟨A,c,rfl,hcap,_,hrd⟩:=Zhu lnOf hsz (ZjD hr)
 have:=ZjK A (l.map lnOf) c w hrd (by simpa using hcap) (by simpa using hn)
 rwa [List.length_map] at this
instance (l:List ZR):CT Tryz.prog (Zdj l):=⟨65,[.sl (l.map Zap)],[],fun r=>vb r,fun r=>[],ZhR l⟩
def ZeQ (l:List ZR) (order kind:Int):Option Int:=if l.length≤2000000 then some (ZaV (l.map lnOf) order kind) else none
theorem Zj7 (l:List ZR) (order kind:Int) {r:Int} (H:ZeQ l order kind=some r):ZdG Tryz.prog 109 [.sl (l.map Zap),vi order,vi kind] [] (vi r) []:=by
 unfold ZeQ at H
 split at H
 case isFalse=>cases H
 rename_i hn
 obtain rfl:=Option.some.inj H
 refine Zhe rfl fun S β w vs hsz hl ha=>?_
 obtain ⟨x,hx,hr⟩:=ha 0 _ rfl
 obtain ⟨x1,hx1,hr1⟩:=ha 1 _ rfl
 obtain ⟨x2,hx2,hr2⟩:=ha 2 _ rfl
 obtain rfl:=ZtK hl hx hx1 hx2
 obtain rfl:=ZnD hr1
 obtain rfl:=ZnD hr2
 obtain ⟨A,c,rfl,hcap,_,hrd⟩:=Zhu lnOf hsz (ZjD hr)
 have:=ZjI A (l.map lnOf) c order kind w hrd (by simpa using hn)
 rwa [List.length_map] at this
instance (l:List ZR) (order kind:Int):CT Tryz.prog (ZeQ l order kind):=⟨109,[.sl (l.map Zap),vi order,vi kind],[],fun r=>vi r,fun r=>[],Zj7 l order kind⟩
set_option maxHeartbeats 16000000
def Za9 (a:List Int) (b:List Int) (s0:Int):Option (Int ⊕ (Unit ⊕ Bool)):=
 cond (decide (s0<(a.length:Int)))
 ((getI a s0).bind fun y1=>
 (getI b s0).bind fun y2=>
 cond (!decide (y1=y2))
 (some (.inr (.inr false)))
 (some (.inl (w64 (s0+1)))))
 (some (.inr (.inl ())))
instance (a:List Int) (b:List Int):Zo (Za9 a b):=⟨fun s0=>(.sl (a.map cInt)::.sl (b.map cInt)::(U 10 (vi (a.length:Int)::vi s0::(U 12 [])))),fun s0=>[]⟩
def ZcM (a:List Int) (b:List Int):Option Bool:=
 cond (!decide ((a.length:Int)=(b.length:Int)))
 (some false)
 ((Zc (Za9 a b) NN 0).bind (Zp (fun o0=>
 some true) (fun r=>some r)))
instance (a:List Int) (b:List Int):CT Tryz.prog (ZcM a b):=⟨179,[.sl (a.map cInt),.sl (b.map cInt)],[],fun r=>vb r,fun r=>[],fun H=>by replace H:=H0 H; unfold ZcM at H; exact Za Tryz.func179 rfl Tryz.ntmps179 Tryz.results179 fun Q hQ hQn=>wk3⟩
def Zby (a:Zt) (b:Zt):Option Bool:=
 cond (decide (a.label=b.label))
 (cond (decide (a.from_=b.from_))
 (cond (decide (a.weight=b.weight))
 ((ZcM a.sides b.sides).bind fun y1=>
 cond y1
 (some (decide (a.value=b.value)))
 (some false))
 (some false))
 (some false))
 (some false)
instance (a:Zt) (b:Zt):CT Tryz.prog (Zby a b):=⟨170,[.ag (Z9 a),.ag (Z9 b)],[],fun r=>vb r,fun r=>[],fun H=>by replace H:=H0 H; unfold Zby at H; exact Za Tryz.func170 rfl Tryz.ntmps170 Tryz.results170 fun Q hQ hQn=>wk3⟩
def Zde (a:YAct) (b:YAct):Option Bool:=
 cond (decide (a.kind=b.kind))
 ((Zby a.parcel b.parcel).bind fun y1=>
 cond y1
 (cond (decide (a.order=b.order))
 (cond (decide (a.amount=b.amount))
 (cond (decide (a.until_=b.until_))
 (some (decide (a.trip=b.trip)))
 (some false))
 (some false))
 (some false))
 (some false))
 (some false)
instance (a:YAct) (b:YAct):CT Tryz.prog (Zde a b):=⟨129,[.ag (cAct a),.ag (cAct b)],[],fun r=>vb r,fun r=>[],fun H=>by replace H:=H0 H; unfold Zde at H; exact Za Tryz.func129 rfl Tryz.ntmps129 Tryz.results129 fun Q hQ hQn=>wk3⟩
def ZdO (l:Zd8):Option Bool:=
 (Ze l.service 1 3).bind fun y1=>
 cond y1
 ((Ze l.serial 0 999999999).bind fun y2=>
 cond y2
 ((ZF l.to_).bind fun y3=>
 some y3)
 (some false))
 (some false)
instance (l:Zd8):CT Tryz.prog (ZdO l):=⟨166,[.ag (ZfP l)],[],fun r=>vb r,fun r=>[],fun H=>by replace H:=H0 H; unfold ZdO at H; exact Za Tryz.func166 rfl Tryz.ntmps166 Tryz.results166 fun Q hQ hQn=>wk3⟩
def ZbZ (l:List Int) (s0:Int):Option (Int ⊕ (Unit ⊕ Bool)):=
 cond (decide (s0<(l.length:Int)))
 ((getI l s0).bind fun y1=>
 (Ze y1 1 2000).bind fun y2=>
 cond (!y2)
 (some (.inr (.inr false)))
 (some (.inl (w64 (s0+1)))))
 (some (.inr (.inl ())))
instance (l:List Int):Zo (ZbZ l):=⟨fun s0=>(.sl (l.map cInt)::(U 4 (.sl (l.map cInt)::vi (l.length:Int)::vi s0::(U 10 [])))),fun s0=>[]⟩
def Zar (l:List Int):Option Bool:=
 (Zc (ZbZ l) NN 0).bind (Zp (fun o0=>
 some (decide ((l.length:Int)=3))) (fun r=>some r))
instance (l:List Int):CT Tryz.prog (Zar l):=⟨167,[.sl (l.map cInt)],[],fun r=>vb r,fun r=>[],fun H=>by replace H:=H0 H; unfold Zar at H; exact Za Tryz.func167 rfl Tryz.ntmps167 Tryz.results167 fun Q hQ hQn=>wk3⟩
def ZdN (sides:List Int):Option Int:=
 (Zar sides).bind fun y1=>
 cond (!y1)
 (some 0)
 ((ZcL sides).bind fun y2=>
 (getI y2 0).bind fun y3=>
 (getI y2 1).bind fun y4=>
 (getI y2 2).bind fun y5=>
 some (w64 ((w64 (y3+(w64 (2*y4))))+(w64 (2*y5)))))
instance (sides:List Int):CT Tryz.prog (ZdN sides):=⟨168,[.sl (sides.map cInt)],[],fun r=>vi r,fun r=>[],fun H=>by replace H:=H0 H; unfold ZdN at H; exact Za Tryz.func168 rfl Tryz.ntmps168 Tryz.results168 fun Q hQ hQn=>wk3⟩
def Za7 (p:Zt):Option Bool:=
 (ZdO p.label).bind fun y1=>
 cond y1
 ((ZF p.from_).bind fun y2=>
 cond y2
 (cond (!decide (p.from_=p.label.to_))
 ((Ze p.weight 1 30000).bind fun y3=>
 cond y3
 ((Zar p.sides).bind fun y4=>
 cond y4
 ((ZdN p.sides).bind fun y5=>
 cond (decide (y5≤3600))
 ((Ze p.value 0 500000).bind fun y6=>
 some y6)
 (some false))
 (some false))
 (some false))
 (some false))
 (some false))
 (some false)
instance (p:Zt):CT Tryz.prog (Za7 p):=⟨126,[.ag (Z9 p)],[],fun r=>vb r,fun r=>[],fun H=>by replace H:=H0 H; unfold Za7 at H; exact Za Tryz.func126 rfl Tryz.ntmps126 Tryz.results126 fun Q hQ hQn=>wk3⟩
def ZeK (a:YAct):Option Bool:=
 (jn 3 22 (
 cond (decide (a.kind=1))
 ((Za7 a.parcel).bind fun y1=>
 some (.inl (y1,a.parcel.label.service,a.parcel.label.serial,a.parcel.label.to_,a.parcel.from_,a.parcel.weight,a.parcel.sides,a.parcel.value,0,0,0,0,0)))
 (cond (decide (a.kind=2))
 ((Ze a.order 1 9999).bind fun y2=>
 cond y2
 ((Ze a.amount 1 100000).bind fun y3=>
 some (.inl (y3,0,0,⟨#[]⟩,⟨#[]⟩,0,[],0,a.order,a.amount,0,0,0)))
 (some (.inl (false,0,0,⟨#[]⟩,⟨#[]⟩,0,[],0,a.order,a.amount,0,0,0))))
 (cond (decide (a.kind=3))
 ((Ze a.until_ 0 100000).bind fun y4=>
 some (.inl (y4,0,0,⟨#[]⟩,⟨#[]⟩,0,[],0,0,0,a.until_,0,0)))
 (cond (decide (a.kind=4))
 ((Ze a.trip.leg 0 19).bind fun y5=>
 cond y5
 ((Ze a.trip.day 0 60).bind fun y6=>
 some (.inl (y6,0,0,⟨#[]⟩,⟨#[]⟩,0,[],0,0,0,0,a.trip.leg,a.trip.day)))
 (some (.inl (false,0,0,⟨#[]⟩,⟨#[]⟩,0,[],0,0,0,0,a.trip.leg,a.trip.day))))
 (cond (decide (a.kind=5))
 (some (.inl (true,0,0,⟨#[]⟩,⟨#[]⟩,0,[],0,0,0,0,0,0)))
 (cond (decide (a.kind=6))
 ((Ze a.order 1 9999).bind fun y7=>
 some (.inl (y7,0,0,⟨#[]⟩,⟨#[]⟩,0,[],0,a.order,0,0,0,0)))
 (some (.inl (false,0,0,⟨#[]⟩,⟨#[]⟩,0,[],0,0,0,0,0,0)))))))):Option ((Bool × Int × Int × ByteArray × ByteArray × Int × (List Int) × Int × Int × Int × Int × Int × Int) ⊕ Empty)) (fun z8=>(.un::.be 0 0 0::.un::.be 1 0 0::vb z8.1::(U 68 []))) (fun z8=>[some ⟨.of 106,13,[[vi a.kind,vi a.parcel.label.service,vi a.parcel.label.serial,vs a.parcel.label.to_,vs a.parcel.from_,vi a.parcel.weight,.sl (a.parcel.sides.map cInt),vi a.parcel.value,vi a.order,vi a.amount,vi a.until_,vi a.trip.leg,vi a.trip.day]]⟩,some ⟨.of 106,13,[[vi a.kind,vi z8.2.1,vi z8.2.2.1,vs z8.2.2.2.1,vs z8.2.2.2.2.1,vi z8.2.2.2.2.2.1,.sl (z8.2.2.2.2.2.2.1.map cInt),vi z8.2.2.2.2.2.2.2.1,vi z8.2.2.2.2.2.2.2.2.1,vi z8.2.2.2.2.2.2.2.2.2.1,vi z8.2.2.2.2.2.2.2.2.2.2.1,vi z8.2.2.2.2.2.2.2.2.2.2.2.1,vi z8.2.2.2.2.2.2.2.2.2.2.2.2]]⟩])).bind (Zp (fun z8=>
 cond z8.1
 ((Zde a (⟨a.kind,(⟨(⟨z8.2.1,z8.2.2.1,z8.2.2.2.1⟩:Zd8),z8.2.2.2.2.1,z8.2.2.2.2.2.1,z8.2.2.2.2.2.2.1,z8.2.2.2.2.2.2.2.1⟩:Zt),z8.2.2.2.2.2.2.2.2.1,z8.2.2.2.2.2.2.2.2.2.1,z8.2.2.2.2.2.2.2.2.2.2.1,(⟨z8.2.2.2.2.2.2.2.2.2.2.2.1,z8.2.2.2.2.2.2.2.2.2.2.2.2⟩:Zm)⟩:YAct)).bind fun y9=>
 some y9)
 (some false)) (fun r=>nomatch r))
instance (a:YAct):CT Tryz.prog (ZeK a):=⟨81,[.ag (cAct a)],[],fun r=>vb r,fun r=>[],fun H=>by replace H:=H0 H; unfold ZeK at H; exact Za Tryz.func81 rfl Tryz.ntmps81 Tryz.results81 fun Q hQ hQn=>wk3⟩
def Zc7 (l:Zd8):Option Bool:=
 (Zl l.service 1 3).bind fun y1=>
 cond y1
 ((Zl l.serial 0 999999999).bind fun y2=>
 cond y2
 ((Zw l.to_).bind fun y3=>
 some y3)
 (some false))
 (some false)
instance (l:Zd8):CT Tryz.prog (Zc7 l):=⟨151,[.ag (ZfP l)],[],fun r=>vb r,fun r=>[],fun H=>by replace H:=H0 H; unfold Zc7 at H; exact Za Tryz.func151 rfl Tryz.ntmps151 Tryz.results151 fun Q hQ hQn=>wk3⟩
def Zaw (l:List Int) (s0:Int):Option (Int ⊕ (Unit ⊕ Bool)):=
 cond (decide (s0<(l.length:Int)))
 ((getI l s0).bind fun y1=>
 (Zl y1 1 2000).bind fun y2=>
 cond (!y2)
 (some (.inr (.inr false)))
 (some (.inl (w64 (s0+1)))))
 (some (.inr (.inl ())))
instance (l:List Int):Zo (Zaw l):=⟨fun s0=>(.sl (l.map cInt)::.un::.un::vi s0::(U 15 [])),fun s0=>[]⟩
def ZaA (l:List Int):Option Bool:=
 (Zc (Zaw l) NN 0).bind (Zp (fun o0=>
 some (decide ((l.length:Int)=3))) (fun r=>some r))
instance (l:List Int):CT Tryz.prog (ZaA l):=⟨152,[.sl (l.map cInt)],[],fun r=>vb r,fun r=>[],fun H=>by replace H:=H0 H; unfold ZaA at H; exact Za Tryz.func152 rfl Tryz.ntmps152 Tryz.results152 fun Q hQ hQn=>wk3⟩
def Z0 (l:List Int):Option (List Int):=
 (chk (Zaj ((([]:List Int):List Int).length+(l:List Int).length) 8)).bind fun _=>
 some ((([]:List Int):List Int)++l)
instance (l:List Int):CT Tryz.prog (Z0 l):=⟨59,[.sl (l.map cInt)],[],fun r=>.ms 0,fun r=>[some ⟨.of 3,1,r.map cInt⟩],fun H=>by replace H:=H0 H; unfold Z0 at H; exact Za Tryz.func59 rfl Tryz.ntmps59 Tryz.results59 fun Q hQ hQn=>wk3⟩
def Zn (l:List Int) (s0:Int × (List Int)) (s1:Int):Option (Int ⊕ Int):=
 cond (decide (s1<(s0.2.length:Int)))
 ((getI s0.2 s1).bind fun y1=>
 (getI l s0.1).bind fun y2=>
 cond (decide (y2≤y1))
 (some (.inl (w64 (s1+1))))
 (some (.inr s1)))
 (some (.inr s1))
instance (l:List Int) (s0:Int × (List Int)):Zo (Zn l s0):=⟨fun s1=>(.sl (l.map cInt)::.un::.un::.ms 0::vi s0.1::vi s1::(U 39 [])),fun s1=>[some ⟨.of 3,1,s0.2.map cInt⟩]⟩
def Z4 (l:List Int) (s0:Int × (List Int)):Option ((Int × (List Int)) ⊕ (List Int)):=
 cond (decide (s0.1<(l.length:Int)))
 ((Zc (Zn l s0) NN 0).bind (fun o1=>
 (chk (slOk 0 o1 s0.2.length)).bind fun _=>
 (Z0 (subL s0.2 0 o1)).bind fun y3=>
 (getI l s0.1).bind fun y4=>
 (chk (Zaj ((y3:List Int).length+([y4]:List Int).length) 8)).bind fun _=>
 (chk (slOk o1 (s0.2.length:Int) s0.2.length)).bind fun _=>
 (chk (Zaj ((((y3:List Int)++[y4]):List Int).length+((subL s0.2 o1 (s0.2.length:Int)):List Int).length) 8)).bind fun _=>
 some (.inl ((w64 (s0.1+1)),((((y3:List Int)++[y4]):List Int)++(subL s0.2 o1 (s0.2.length:Int)))))))
 (some (.inr s0.2))
instance (l:List Int):Zo (Z4 l):=⟨fun s0=>(.sl (l.map cInt)::.un::.un::.ms 0::vi s0.1::(U 40 [])),fun s0=>[some ⟨.of 3,1,s0.2.map cInt⟩]⟩
def ZcZ (l:List Int):Option (List Int):=
 (Zc (Z4 l) NN (0,([]:List Int))).bind (fun o0=>
 some o0)
instance (l:List Int):CT Tryz.prog (ZcZ l):=⟨174,[.sl (l.map cInt)],[],fun r=>.ms 0,fun r=>[some ⟨.of 3,1,r.map cInt⟩],fun H=>by replace H:=H0 H; unfold ZcZ at H; exact Za Tryz.func174 rfl Tryz.ntmps174 Tryz.results174 fun Q hQ hQn=>wk3⟩
def Zc6 (sides:List Int):Option Int:=
 (ZaA sides).bind fun y1=>
 cond (!y1)
 (some 0)
 ((ZcZ sides).bind fun y2=>
 (getI y2 0).bind fun y3=>
 (getI y2 1).bind fun y4=>
 (getI y2 2).bind fun y5=>
 some (w64 ((w64 (y3+(w64 (2*y4))))+(w64 (2*y5)))))
instance (sides:List Int):CT Tryz.prog (Zc6 sides):=⟨153,[.sl (sides.map cInt)],[],fun r=>vi r,fun r=>[],fun H=>by replace H:=H0 H; unfold Zc6 at H; exact Za Tryz.func153 rfl Tryz.ntmps153 Tryz.results153 fun Q hQ hQn=>wk3⟩
def ZaH (p:Zt):Option Bool:=
 (Zc7 p.label).bind fun y1=>
 cond y1
 ((Zw p.from_).bind fun y2=>
 cond y2
 (cond (!decide (p.from_=p.label.to_))
 ((Zl p.weight 1 30000).bind fun y3=>
 cond y3
 ((ZaA p.sides).bind fun y4=>
 cond y4
 ((Zc6 p.sides).bind fun y5=>
 cond (decide (y5≤3600))
 ((Zl p.value 0 500000).bind fun y6=>
 some y6)
 (some false))
 (some false))
 (some false))
 (some false))
 (some false))
 (some false)
instance (p:Zt):CT Tryz.prog (ZaH p):=⟨112,[.ag (Z9 p)],[],fun r=>vb r,fun r=>[],fun H=>by replace H:=H0 H; unfold ZaH at H; exact Za Tryz.func112 rfl Tryz.ntmps112 Tryz.results112 fun Q hQ hQn=>wk3⟩
def Zee (a:YAct):Option Bool:=
 (jn 2 7 (
 cond (decide (a.kind=1))
 ((ZaH a.parcel).bind fun y1=>
 cond (!y1)
 (some (.inr false))
 (some (.inl ())))
 (cond (!decide (a.parcel.label=(⟨0,0,⟨#[]⟩⟩:Zd8)))
 (some (.inr false))
 (cond (!decide (a.parcel.from_=⟨#[]⟩))
 (some (.inr false))
 (cond (!decide (a.parcel.weight=0))
 (some (.inr false))
 (cond (decide (0<(a.parcel.sides.length:Int)))
 (some (.inr false))
 (cond (!decide (a.parcel.value=0))
 (some (.inr false))
 (some (.inl ()))))))):Option (Unit ⊕ Bool)) (fun z2=>(.un::.be 0 0 0::(U 129 []))) (fun z2=>[some ⟨.of 106,13,[[vi a.kind,vi a.parcel.label.service,vi a.parcel.label.serial,vs a.parcel.label.to_,vs a.parcel.from_,vi a.parcel.weight,.sl (a.parcel.sides.map cInt),vi a.parcel.value,vi a.order,vi a.amount,vi a.until_,vi a.trip.leg,vi a.trip.day]]⟩])).bind (Zp (fun z2=>
 (jn 7 8 (
 cond (decide (a.kind=2))
 (some (.inl true))
 (some (.inl (decide (a.kind=6)))):Option (Bool ⊕ Empty)) (fun z3=>(.un::.be 0 0 0::.un::.un::vb z3::(U 126 []))) (fun z3=>[some ⟨.of 106,13,[[vi a.kind,vi a.parcel.label.service,vi a.parcel.label.serial,vs a.parcel.label.to_,vs a.parcel.from_,vi a.parcel.weight,.sl (a.parcel.sides.map cInt),vi a.parcel.value,vi a.order,vi a.amount,vi a.until_,vi a.trip.leg,vi a.trip.day]]⟩])).bind (Zp (fun z3=>
 (jn 8 10 (
 cond z3
 ((Zl a.order 1 9999).bind fun y4=>
 cond (!y4)
 (some (.inr false))
 (cond (!z3)
 (cond (!decide (a.order=0))
 (some (.inr false))
 (some (.inl ())))
 (some (.inl ()))))
 (cond (!z3)
 (cond (!decide (a.order=0))
 (some (.inr false))
 (some (.inl ())))
 (some (.inl ()))):Option (Unit ⊕ Bool)) (fun z5=>(.un::.be 0 0 0::(U 129 []))) (fun z5=>[some ⟨.of 106,13,[[vi a.kind,vi a.parcel.label.service,vi a.parcel.label.serial,vs a.parcel.label.to_,vs a.parcel.from_,vi a.parcel.weight,.sl (a.parcel.sides.map cInt),vi a.parcel.value,vi a.order,vi a.amount,vi a.until_,vi a.trip.leg,vi a.trip.day]]⟩])).bind (Zp (fun z5=>
 (jn 10 12 (
 cond (decide (a.kind=2))
 ((Zl a.amount 1 100000).bind fun y6=>
 cond (!y6)
 (some (.inr false))
 (cond (!decide (a.kind=2))
 (cond (!decide (a.amount=0))
 (some (.inr false))
 (some (.inl ())))
 (some (.inl ()))))
 (cond (!decide (a.kind=2))
 (cond (!decide (a.amount=0))
 (some (.inr false))
 (some (.inl ())))
 (some (.inl ()))):Option (Unit ⊕ Bool)) (fun z7=>(.un::.be 0 0 0::(U 129 []))) (fun z7=>[some ⟨.of 106,13,[[vi a.kind,vi a.parcel.label.service,vi a.parcel.label.serial,vs a.parcel.label.to_,vs a.parcel.from_,vi a.parcel.weight,.sl (a.parcel.sides.map cInt),vi a.parcel.value,vi a.order,vi a.amount,vi a.until_,vi a.trip.leg,vi a.trip.day]]⟩])).bind (Zp (fun z7=>
 (jn 12 14 (
 cond (decide (a.kind=3))
 ((Zl a.until_ 0 100000).bind fun y8=>
 cond (!y8)
 (some (.inr false))
 (cond (!decide (a.kind=3))
 (cond (!decide (a.until_=0))
 (some (.inr false))
 (some (.inl ())))
 (some (.inl ()))))
 (cond (!decide (a.kind=3))
 (cond (!decide (a.until_=0))
 (some (.inr false))
 (some (.inl ())))
 (some (.inl ()))):Option (Unit ⊕ Bool)) (fun z9=>(.un::.be 0 0 0::(U 129 []))) (fun z9=>[some ⟨.of 106,13,[[vi a.kind,vi a.parcel.label.service,vi a.parcel.label.serial,vs a.parcel.label.to_,vs a.parcel.from_,vi a.parcel.weight,.sl (a.parcel.sides.map cInt),vi a.parcel.value,vi a.order,vi a.amount,vi a.until_,vi a.trip.leg,vi a.trip.day]]⟩])).bind (Zp (fun z9=>
 (jn 14 16 (
 cond (decide (a.kind=4))
 ((Zl a.trip.leg 0 19).bind fun y10=>
 cond (!y10)
 (some (.inr false))
 ((Zl a.trip.day 0 60).bind fun y11=>
 cond (!y11)
 (some (.inr false))
 (cond (!decide (a.kind=4))
 (cond (!decide (a.trip=(⟨0,0⟩:Zm)))
 (some (.inr false))
 (some (.inl ())))
 (some (.inl ())))))
 (cond (!decide (a.kind=4))
 (cond (!decide (a.trip=(⟨0,0⟩:Zm)))
 (some (.inr false))
 (some (.inl ())))
 (some (.inl ()))):Option (Unit ⊕ Bool)) (fun z12=>(.un::.be 0 0 0::(U 129 []))) (fun z12=>[some ⟨.of 106,13,[[vi a.kind,vi a.parcel.label.service,vi a.parcel.label.serial,vs a.parcel.label.to_,vs a.parcel.from_,vi a.parcel.weight,.sl (a.parcel.sides.map cInt),vi a.parcel.value,vi a.order,vi a.amount,vi a.until_,vi a.trip.leg,vi a.trip.day]]⟩])).bind (Zp (fun z12=>
 (Zl a.kind 1 6).bind fun y13=>
 some y13) (fun r=>some r))) (fun r=>some r))) (fun r=>some r))) (fun r=>some r))) (fun r=>nomatch r))) (fun r=>some r))
instance (a:YAct):CT Tryz.prog (Zee a):=⟨67,[.ag (cAct a)],[],fun r=>vb r,fun r=>[],fun H=>by replace H:=H0 H; unfold Zee at H; exact Za Tryz.func67 rfl Tryz.ntmps67 Tryz.results67 fun Q hQ hQn=>wk3⟩
end Go.Proofs.YtkcnllbmpbhndaaGreat
namespace Go.Proofs.YtkcnllbmpbhndaaGreat
set_option maxRecDepth 10000
open Go.RowKit Go.Sort
set_option linter.unusedVariables false
set_option linter.unusedSimpArgs false
set_option maxHeartbeats 1000000
theorem Zqs:@ZbZ=@Zaw:=by
 funext l i; unfold ZbZ Zaw; rw [Zct]
theorem Zkp (l:List Int):Zar l=ZaA l:=by
 unfold Zar ZaA; rw [Zqs]
def Zi1 (l:List Int):Bool:=l.all (fun n=>decide (1≤n) && decide (n≤2000)) && decide ((l.length:Int)=3)
theorem Zmw {l:List Int} (h:l.length<NN):ZaA l=some (Zi1 l):=by
 have e:Zc (Zaw l) NN 0=some (if l.any (fun n=>!(decide (1≤n) && decide (n≤2000)))=true then .inr false else .inl ()):=by
  refine ZfX (fun i hi=>?_) ?_ h
  ·have hx:l[i]?=some l[i]:=List.getElem?_eq_getElem hi
   have hw:=Zq hi (by unfold NN at h; omega)
   unfold Zaw
   rw [decide_eq_true (by omega:(i:Int)<l.length),cond_true,Zi,hx,Option.bind_some,ZcK,Option.bind_some,hw]
   cases (decide (1≤l[i]) && decide (l[i]≤2000)) <;> rfl
  ·unfold Zaw
   rw [decide_eq_false (by omega:¬ ((l.length:Int)<l.length))]; rfl
 unfold ZaA Zi1
 rw [e,List.all_eq_not_any_not]
 cases l.any (fun n=>!(decide (1≤n) && decide (n≤2000))) <;> rfl
theorem ZkY {σ ο:Type} {body:σ→Option (σ ⊕ ο)} {o:ο}:∀ {n:Nat} {s:σ},Zc body n s=some o→∀ k,Zc body (n+k) s=some o
 | 0,s,h,k=>by cases h
 | n+1,s,h,k=>by
  rw [Nat.add_right_comm]
  unfold Zc at *
  cases hb:body s with
  | none=>rw [hb] at h; cases h
  | some x=>
   rw [hb] at h
   cases x with
   | inl s'=>exact ZkY (n:=n) h k
   | inr o'=>exact h
theorem ZjZ {σ ο:Type} {body:σ→Option (σ ⊕ ο)} {o:ο} {n:Nat} {s:σ} (h:Zc body n s=some o) (hn:n≤NN):Zc body NN s=some o:=by
 have:=ZkY h (NN-n)
 rwa [Nat.add_sub_cancel' hn] at this
theorem itl {σ ο:Type} {body:σ→Option (σ ⊕ ο)} {n:Nat} {s s':σ} (h:body s=some (.inl s')):Zc body (n+1) s=Zc body n s':=by
 show (body s).bind _=_
 rw [h]; rfl
theorem itr {σ ο:Type} {body:σ→Option (σ ⊕ ο)} {n:Nat} {s:σ} {o:ο} (h:body s=some (.inr o)):Zc body (n+1) s=some o:=by
 show (body s).bind _=_
 rw [h]; rfl
theorem w1:w64 1=1:=by decide
theorem w2:w64 2=2:=by decide
theorem w3:w64 3=3:=by decide
theorem inn0 (l:List Int) (i:Int):Zc (Zn l (i,[])) NN 0=some ((0:Nat):Int):=ZjZ (n:=1) (itr (by simp [Zn])) (by unfold NN; omega)
theorem inn1 {l:List Int} {i y a:Int} (h:getI l i=some y):Zc (Zn l (i,[a])) NN 0=some (((if y≤a then 1 else 0:Nat)):Int):=by
 refine ZjZ (n:=2) ?_ (by unfold NN; omega)
 have q0:getI [a] 0=some a:=rfl
 by_cases h1:y≤a
 ·rw [if_pos h1,itl (s':=1) (by simp [Zn,h,q0,h1,w1]),itr (o:=1) (by simp [Zn])]; rfl
 ·rw [if_neg h1,itr (o:=0) (by simp [Zn,h,q0,h1])]; rfl
theorem inn2 {l:List Int} {i y a b:Int} (h:getI l i=some y):Zc (Zn l (i,[a,b])) NN 0=some (((if y≤a then (if y≤b then 2 else 1) else 0:Nat)):Int):=by
 refine ZjZ (n:=3) ?_ (by unfold NN; omega)
 have q0:getI [a,b] 0=some a:=rfl
 have q1:getI [a,b] 1=some b:=rfl
 by_cases h1:y≤a
 ·rw [if_pos h1,itl (s':=1) (by simp [Zn,h,q0,h1,w1])]
  by_cases h2:y≤b
  ·rw [if_pos h2,itl (s':=2) (by simp [Zn,h,q1,h2,w2]),itr (o:=2) (by simp [Zn])]; rfl
  ·rw [if_neg h2,itr (o:=1) (by simp [Zn,h,q1,h2])]; rfl
 ·rw [if_neg h1,itr (o:=0) (by simp [Zn,h,q0,h1])]; rfl
theorem Zrb {l:List Int} (h:l.length≤1048576):Z0 l=some l:=by
 have c:chk (Zaj (([]:List Int).length+l.length) 8)=some ():=Ze5 (decide_eq_true ⟨by simp; omega,by simp; omega⟩)
 unfold Z0
 rw [c]
 rfl
theorem outb {l out:List Int} {i y:Int} {k:Nat} (hi:i<(l.length:Int)) (hy:getI l i=some y) (hk:Zc (Zn l (i,out)) NN 0=some (k:Int)) (hkl:k≤out.length) (hl:out.length≤1000):
 Z4 l (i,out)=some (.inl (w64 (i+1),out.take k++[y]++out.drop k)):=by
 unfold Z4
 have t1:subL out 0 (k:Int)=out.take k:=by simp [subL]
 have t2:subL out (k:Int) (out.length:Int)=out.drop k:=by simp only [subL,Int.toNat_natCast]; exact List.take_of_length_le (by simp)
 have c1:chk (slOk 0 (k:Int) (out.length:Int))=some ():=Ze5 (decide_eq_true ⟨by omega,by omega,by omega⟩)
 have c2:chk (slOk (k:Int) (out.length:Int) (out.length:Int))=some ():=Ze5 (decide_eq_true ⟨by omega,by omega,by omega⟩)
 have c3:chk (Zaj ((out.take k).length+([y]:List Int).length) 8)=some ():=Ze5 (decide_eq_true ⟨by simp; omega,by simp; omega⟩)
 have c4:chk (Zaj ((out.take k++[y]).length+(out.drop k).length) 8)=some ():=Ze5 (decide_eq_true ⟨by simp; omega,by simp; omega⟩)
 simp only [decide_eq_true hi,cond_true,hk,Option.bind_some,c1,t1,Zrb (l:=out.take k) (by simp; omega),hy,c3,c2,t2,c4]
theorem ZrI (x y z:Int):ZcZ [x,y,z]=some (srt3 [x,y,z]):=by
 have g0:getI [x,y,z] 0=some x:=rfl
 have g1:getI [x,y,z] 1=some y:=rfl
 have g2:getI [x,y,z] 2=some z:=rfl
 have e:Zc (Z4 [x,y,z]) NN (0,[])=some (srt3 [x,y,z]):=by
  refine ZjZ (n:=4) ?_ (by unfold NN; omega)
  have e0:=outb (l:=[x,y,z]) (by simp) g0 (inn0 _ _) (Nat.le_refl _) (by simp)
  have hE:∀ o:List Int,Z4 [x,y,z] (3,o)=some (.inr o):=fun o=>by simp [Z4]
  simp only [List.take_nil,List.drop_nil,List.nil_append,List.append_nil,show w64 ((0:Int)+1)=1 by decide] at e0
  have e1:=outb (l:=[x,y,z]) (out:=[x]) (by simp) g1 (inn1 g1) (by split <;> simp) (by simp)
  simp only [show w64 ((1:Int)+1)=2 by decide] at e1
  have e2:=fun a b=>outb (l:=[x,y,z]) (out:=[a,b]) (by simp) g2 (inn2 g2) (by split <;> (try split) <;> simp) (by simp)
  simp only [show w64 ((2:Int)+1)=3 by decide] at e2
  have hs:srt3 [x,y,z]=(Sort.insertionSort gtI #[x,y,z] 0 3).toList:=rfl
  rw [hs]
  unfold Sort.insertionSort
  rw [insOuter,if_pos (by omega),insOuter,if_pos (by omega),insOuter,if_neg (by omega)]
  by_cases h1:y≤x
  ·have h1':¬ x<y:=by omega
   rw [if_pos h1] at e1
   have e2':=e2 x y
   by_cases h2:z≤x
   ·by_cases h3:z≤y
    ·rw [if_pos h2,if_pos h3] at e2'
     simp at e1 e2'
     rw [itl e0,itl e1,itl e2',itr (hE _)]; simp [insInner,swp,gtI,h1',show ¬ y<z by omega]
    ·rw [if_pos h2,if_neg h3] at e2'
     simp at e1 e2'
     rw [itl e0,itl e1,itl e2',itr (hE _)]; simp [insInner,swp,gtI,h1',show y<z by omega,show ¬ x<z by omega]
   ·rw [if_neg h2] at e2'
    simp at e1 e2'
    rw [itl e0,itl e1,itl e2',itr (hE _)]; simp [insInner,swp,gtI,h1',show y<z by omega,show x<z by omega]
  ·have h1':x<y:=by omega
   rw [if_neg h1] at e1
   have e2':=e2 y x
   by_cases h2:z≤y
   ·by_cases h3:z≤x
    ·rw [if_pos h2,if_pos h3] at e2'
     simp at e1 e2'
     rw [itl e0,itl e1,itl e2',itr (hE _)]; simp [insInner,swp,gtI,h1',show ¬ x<z by omega]
    ·rw [if_pos h2,if_neg h3] at e2'
     simp at e1 e2'
     rw [itl e0,itl e1,itl e2',itr (hE _)]; simp [insInner,swp,gtI,h1',show x<z by omega,show ¬ y<z by omega]
   ·rw [if_neg h2] at e2'
    simp at e1 e2'
    rw [itl e0,itl e1,itl e2',itr (hE _)]; simp [insInner,swp,gtI,h1',show y<z by omega,show x<z by omega]
 unfold ZcZ
 rw [e]; rfl
theorem ZlE {l:List Int} (h:Zi1 l=true):l.length=3:=by
 unfold Zi1 at h
 have:=(Bool.and_eq_true _ _ ▸ h:_∧_).2
 have:=of_decide_eq_true this
 omega
theorem Zq5 {l:List Int} (h:l.length<NN):ZdN l=Zc6 l∧∃ b,Zc6 l=some b:=by
 unfold ZdN Zc6
 rw [Zkp,Zmw h]
 cases ht:Zi1 l with
 | false=>exact ⟨rfl,_,rfl⟩
 | true=>
  have h3:=ZlE ht
  match l,h3 with
  | [x,y,z],_=>
   have hm:ZcL [x,y,z]=some (srt3 [x,y,z]):=if_pos rfl
   have hl:=ZnH [x,y,z]
   match hs:srt3 [x,y,z],hl with
   | [a,b,c],_=>
    simp only [ZrI,hm,hs,Option.bind_some,Bool.not_true,cond_false]
    exact ⟨trivial,_,rfl⟩
theorem Zrc {l:Zd8} (h:l.to_.size≤B60):ZdO l=Zc7 l∧∃ b,Zc7 l=some b:=by
 obtain ⟨e,b,hb⟩:=Ze3 h
 unfold ZdO Zc7
 rw [Zct,e,hb,ZcK,ZcK]
 refine ⟨rfl,?_⟩
 cases (decide (1≤l.service) && decide (l.service≤3)) <;> cases (decide (0≤l.serial) && decide (l.serial≤999999999)) <;> exact ⟨_,rfl⟩
theorem ZiO {p:Zt} (h1:p.label.to_.size≤B60) (h2:p.from_.size≤B60) (h3:p.sides.length<NN):Za7 p=ZaH p∧∃ b,ZaH p=some b:=by
 obtain ⟨e1,b1,hb1⟩:=Zrc h1
 obtain ⟨e2,b2,hb2⟩:=Ze3 h2
 obtain ⟨e3,b3,hb3⟩:=Zq5 h3
 unfold Za7 ZaH
 rw [Zct,e1,e2,e3,Zkp,hb1,hb2,hb3,Zmw h3,ZcK,ZcK]
 refine ⟨rfl,?_⟩
 simp only [Option.bind_some]
 generalize (decide (1≤p.weight) && decide (p.weight≤30000))=c1
 generalize Zi1 p.sides=c2
 generalize decide (b3≤3600)=c3
 generalize (!decide (p.from_=p.label.to_))=c4
 cases b1
 ·exact ⟨_,rfl⟩
 cases b2
 ·exact ⟨_,rfl⟩
 cases c4
 ·exact ⟨_,rfl⟩
 cases c1
 ·exact ⟨_,rfl⟩
 cases c2
 ·exact ⟨_,rfl⟩
 cases c3 <;> exact ⟨_,rfl⟩
theorem Zum {a b:List Int} (h:a.length<NN):ZcM a b=some (decide (a=b)):=by
 unfold ZcM
 by_cases hl:a.length=b.length
 ·have e:Zc (Za9 a b) NN 0=some (if (List.range a.length).all (fun i=>decide (a[i]?=b[i]?))=true then .inl () else .inr false):=by
   refine Zfx (fun i hi _=>?_) (fun _=>?_) h
   ·have hx:a[i]?=some a[i]:=List.getElem?_eq_getElem hi
    have hy:b[i]?=some b[i]:=List.getElem?_eq_getElem (by omega)
    have hw:=Zq hi (by unfold NN at h; omega)
    unfold Za9
    rw [decide_eq_true (by omega:(i:Int)<a.length),cond_true,Zi,Zi,hx,hy,Option.bind_some,Option.bind_some,hw]
    by_cases he:a[i]=b[i] <;> simp [he]
   ·unfold Za9
    rw [decide_eq_false (by omega:¬ ((a.length:Int)<a.length))]; rfl
  rw [decide_eq_true (by omega:(a.length:Int)=b.length),e]
  by_cases hab:a=b
  ·subst hab
   simp
  ·rw [if_neg,decide_eq_false hab]
   ·rfl
   ·intro hall
    refine hab (List.ext_getElem? fun i=>?_)
    by_cases hi:i<a.length
    ·exact of_decide_eq_true (List.all_eq_true.1 hall i (List.mem_range.2 hi))
    ·rw [List.getElem?_eq_none (by omega),List.getElem?_eq_none (by omega)]
 ·rw [decide_eq_false (by omega:¬ ((a.length:Int)=b.length)),decide_eq_false (fun e=>hl (by rw [e]))]
  rfl
theorem Zgz {ο α:Type} (i j:Nat) (J:Option (ο ⊕ α)) (T:ο→List PV) (M:ο→Mem):jn i j J T M=J:=by unfold jn; rfl
theorem cnd1 (b c:Bool):(bif b then some c else some false)=some (b && c):=by cases b <;> rfl
theorem cnd2 (b c:Bool):(bif !b then some false else some c)=some (b && c):=by cases b <;> rfl
theorem bndc {α β:Type} (b:Bool) (X Y:Option α) (S:α→Option β):(bif b then X else Y).bind S=bif b then X.bind S else Y.bind S:=by cases b <;> rfl
theorem Zkh {a b:Zt} (h:a.sides.length<NN):Zby a b=some (decide (a.label=b.label) && (decide (a.from_=b.from_) && (decide (a.weight=b.weight) && (decide (a.sides=b.sides) && decide (a.value=b.value))))):=by
 unfold Zby
 simp only [Zum h,Option.bind_some,cnd1]
theorem Zof {a b:YAct} (h:a.parcel.sides.length<NN):Zde a b=some (decide (a.kind=b.kind) && ((decide (a.parcel.label=b.parcel.label) && (decide (a.parcel.from_=b.parcel.from_) && (decide (a.parcel.weight=b.parcel.weight) && (decide (a.parcel.sides=b.parcel.sides) && decide (a.parcel.value=b.parcel.value))))) && (decide (a.order=b.order) && (decide (a.amount=b.amount) && (decide (a.until_=b.until_) && decide (a.trip=b.trip)))))):=by
 unfold Zde
 simp only [Zkh h,Option.bind_some,cnd1]
theorem ZrQ {a:YAct} (h1:a.parcel.label.to_.size≤B60) (h2:a.parcel.from_.size≤B60) (h3:a.parcel.sides.length<NN):∃ b,ZeK a=some b∧Zee a=some b:=by
 obtain ⟨e1,b1,hb1⟩:=ZiO h1 h2 h3
 have hz:decide (0<(a.parcel.sides.length:Int))=!decide (a.parcel.sides=[]):=by
  cases a.parcel.sides <;> simp
 unfold ZeK Zee
 simp only [Zgz,Zct,e1,hb1,ZcK,Zof h3,hz,Option.bind_some]
 generalize hq1:decide (a.parcel.label=⟨0,0,⟨#[]⟩⟩)=q1
 generalize hq2:decide (a.parcel.from_=⟨#[]⟩)=q2
 generalize hq3:decide (a.parcel.weight=0)=q3
 generalize hq4:decide (a.parcel.sides=[])=q4
 generalize hq5:decide (a.parcel.value=0)=q5
 generalize hq6:decide (a.order=0)=q6
 generalize hq7:decide (a.amount=0)=q7
 generalize hq8:decide (a.until_=0)=q8
 generalize hq9:decide (a.trip=⟨0,0⟩)=q9
 have kk:a.kind=1∨a.kind=2∨a.kind=3∨a.kind=4∨a.kind=5∨a.kind=6∨(a.kind≠1∧a.kind≠2∧a.kind≠3∧a.kind≠4∧a.kind≠5∧a.kind≠6):=by omega
 rcases kk with k | k | k | k | k | k | ⟨n1,n2,n3,n4,n5,n6⟩
 all_goals try (simp only [n1,n2,n3,n4,n5,n6,Int.reduceEq,decide_true,decide_false,Bool.not_true,Bool.not_false,cond_true,cond_false,Option.bind_some,Zp,bndc])
 all_goals try simp only [k,Int.reduceEq,decide_true,decide_false,Bool.not_true,Bool.not_false,cond_true,cond_false,Option.bind_some,Zp,bndc]
 case inr.inr.inr.inr.inr.inr=>
  have hf:(decide (1≤a.kind) && decide (a.kind≤6))=false:=by
   rw [Bool.and_eq_false_iff,decide_eq_false_iff_not,decide_eq_false_iff_not]; omega
  simp only [hf,cnd1,cnd2,Bool.and_false]
  exact ⟨_,rfl,rfl⟩
 all_goals
  simp only [hq1,hq2,hq3,hq4,hq5,hq6,hq7,hq8,hq9,cnd1,cnd2,Bool.true_and,Bool.and_true,Int.reduceLE,decide_true]
  exact ⟨_,rfl,by congr 1; try ac_rfl⟩
end Go.Proofs.YtkcnllbmpbhndaaGreat
namespace Go.Proofs.YtkcnllbmpbhndaaGreat
set_option maxRecDepth 10000
open Go.RowKit
set_option linter.unusedVariables false
set_option maxHeartbeats 16000000
def ZeL (l:YLeg):Option Bool:=
 (ZF l.from_).bind fun y1=>
 cond y1
 ((ZF l.to_).bind fun y2=>
 cond y2
 (cond (!decide (l.from_=l.to_))
 ((Ze l.start 0 1439).bind fun y3=>
 cond y3
 ((Ze l.takes 1 4320).bind fun y4=>
 cond y4
 ((Ze l.days 1 127).bind fun y5=>
 cond y5
 ((Ze l.room 0 1000000).bind fun y6=>
 some y6)
 (some false))
 (some false))
 (some false))
 (some false))
 (some false))
 (some false)
instance (l:YLeg):CT Tryz.prog (ZeL l):=⟨175,[.ag (cLeg l)],[],fun r=>vb r,fun r=>[],fun H=>by replace H:=H0 H; unfold ZeL at H; exact Za Tryz.func175 rfl Tryz.ntmps175 Tryz.results175 fun Q hQ hQn=>wk3⟩
def Zcz (n:YNetwork) (s0:Int):Option (Int ⊕ (Unit ⊕ Bool)):=
 cond (decide (s0<(n.legs.length:Int)))
 ((getI n.legs s0).bind fun y1=>
 (ZeL y1).bind fun y2=>
 cond (!y2)
 (some (.inr (.inr false)))
 (some (.inl (w64 (s0+1)))))
 (some (.inr (.inl ())))
instance (n:YNetwork):Zo (Zcz n):=⟨fun s0=>(.un::.be 0 0 0::(U 6 (.sl (n.legs.map cLeg)::vi (n.legs.length:Int)::vi s0::(U 48 [])))),fun s0=>[some ⟨.of 33,3,[[.sl (n.legs.map cLeg),.sl (n.off.map cInt),vi n.change]]⟩]⟩
def ZcA (n:YNetwork) (s1:Int):Option (Int ⊕ (Unit ⊕ Bool)):=
 cond (decide (s1<(n.off.length:Int)))
 ((getI n.off s1).bind fun y3=>
 (Ze y3 0 60).bind fun y4=>
 cond (!y4)
 (some (.inr (.inr false)))
 (cond (decide (0<s1))
 ((getI n.off (w64 (s1-1))).bind fun y5=>
 cond (decide (y3≤y5))
 (some (.inr (.inr false)))
 (some (.inl (w64 (s1+1)))))
 (some (.inl (w64 (s1+1))))))
 (some (.inr (.inl ())))
instance (n:YNetwork):Zo (ZcA n):=⟨fun s1=>(.un::.be 0 0 0::(U 17 (.sl (n.off.map cInt)::vi (n.off.length:Int)::vi s1::(U 37 [])))),fun s1=>[some ⟨.of 33,3,[[.sl (n.legs.map cLeg),.sl (n.off.map cInt),vi n.change]]⟩]⟩
def Zah (n:YNetwork):Option Bool:=
 (Zc (Zcz n) NN 0).bind (Zp (fun o0=>
 (Zc (ZcA n) NN 0).bind (Zp (fun o1=>
 cond (decide ((n.legs.length:Int)≤20))
 (cond (decide ((n.off.length:Int)≤10))
 ((Ze n.change 0 240).bind fun y6=>
 some y6)
 (some false))
 (some false)) (fun r=>some r))) (fun r=>some r))
instance (n:YNetwork):CT Tryz.prog (Zah n):=⟨154,[.ag (cNetwork n)],[],fun r=>vb r,fun r=>[],fun H=>by replace H:=H0 H; unfold Zah at H; exact Za Tryz.func154 rfl Tryz.ntmps154 Tryz.results154 fun Q hQ hQn=>wk3⟩
def Zdk (l:YLeg):Option Bool:=
 (Zw l.from_).bind fun y1=>
 cond y1
 ((Zw l.to_).bind fun y2=>
 cond y2
 (cond (!decide (l.from_=l.to_))
 ((Zl l.start 0 1439).bind fun y3=>
 cond y3
 ((Zl l.takes 1 4320).bind fun y4=>
 cond y4
 ((Zl l.days 1 127).bind fun y5=>
 cond y5
 ((Zl l.room 0 1000000).bind fun y6=>
 some y6)
 (some false))
 (some false))
 (some false))
 (some false))
 (some false))
 (some false)
instance (l:YLeg):CT Tryz.prog (Zdk l):=⟨171,[.ag (cLeg l)],[],fun r=>vb r,fun r=>[],fun H=>by replace H:=H0 H; unfold Zdk at H; exact Za Tryz.func171 rfl Tryz.ntmps171 Tryz.results171 fun Q hQ hQn=>wk3⟩
def ZP (n:YNetwork) (s0:Int):Option (Int ⊕ (Unit ⊕ Bool)):=
 cond (decide (s0<(n.legs.length:Int)))
 ((getI n.legs s0).bind fun y1=>
 (Zdk y1).bind fun y2=>
 cond (!y2)
 (some (.inr (.inr false)))
 (some (.inl (w64 (s0+1)))))
 (some (.inr (.inl ())))
instance (n:YNetwork):Zo (ZP n):=⟨fun s0=>(.un::.be 0 0 0::.un::vi s0::(U 62 [])),fun s0=>[some ⟨.of 33,3,[[.sl (n.legs.map cLeg),.sl (n.off.map cInt),vi n.change]]⟩]⟩
def ZE (n:YNetwork) (s1:Int):Option (Int ⊕ (Unit ⊕ Bool)):=
 cond (decide (s1<(n.off.length:Int)))
 ((getI n.off s1).bind fun y3=>
 (Zl y3 0 60).bind fun y4=>
 cond (!y4)
 (some (.inr (.inr false)))
 (cond (decide (0<s1))
 ((getI n.off (w64 (s1-1))).bind fun y5=>
 (getI n.off s1).bind fun y6=>
 cond (decide (y6≤y5))
 (some (.inr (.inr false)))
 (some (.inl (w64 (s1+1)))))
 (some (.inl (w64 (s1+1))))))
 (some (.inr (.inl ())))
instance (n:YNetwork):Zo (ZE n):=⟨fun s1=>(.un::.be 0 0 0::.un::.un::vi s1::(U 61 [])),fun s1=>[some ⟨.of 33,3,[[.sl (n.legs.map cLeg),.sl (n.off.map cInt),vi n.change]]⟩]⟩
def Zx (n:YNetwork):Option Bool:=
 (Zc (ZP n) NN 0).bind (Zp (fun o0=>
 (Zc (ZE n) NN 0).bind (Zp (fun o1=>
 cond (decide ((n.legs.length:Int)≤20))
 (cond (decide ((n.off.length:Int)≤10))
 ((Zl n.change 0 240).bind fun y7=>
 some y7)
 (some false))
 (some false)) (fun r=>some r))) (fun r=>some r))
instance (n:YNetwork):CT Tryz.prog (Zx n):=⟨136,[.ag (cNetwork n)],[],fun r=>vb r,fun r=>[],fun H=>by replace H:=H0 H; unfold Zx at H; exact Za Tryz.func136 rfl Tryz.ntmps136 Tryz.results136 fun Q hQ hQn=>wk3⟩
def Zaa (n:YNetwork) (t:Zm):Option Int:=
 (getI n.legs t.leg).bind fun y1=>
 some (w64 ((w64 (t.day*1440))+y1.start))
instance (n:YNetwork) (t:Zm):CT Tryz.prog (Zaa n t):=⟨159,[.ag (cNetwork n),.ag (Zv t)],[],fun r=>vi r,fun r=>[],fun H=>by replace H:=H0 H; unfold Zaa at H; exact Za Tryz.func159 rfl Tryz.ntmps159 Tryz.results159 fun Q hQ hQn=>wk3⟩
def Za8 (n:YNetwork) (t:Zm):Option Int:=
 (Zaa n t).bind fun y1=>
 (getI n.legs t.leg).bind fun y2=>
 some (w64 (y1+y2.takes))
instance (n:YNetwork) (t:Zm):CT Tryz.prog (Za8 n t):=⟨160,[.ag (cNetwork n),.ag (Zv t)],[],fun r=>vi r,fun r=>[],fun H=>by replace H:=H0 H; unfold Za8 at H; exact Za Tryz.func160 rfl Tryz.ntmps160 Tryz.results160 fun Q hQ hQn=>wk3⟩
def Zs (n:YNetwork) (t:Zm):Option Int:=
 (getI n.legs t.leg).bind fun y1=>
 some (w64 ((w64 (t.day*1440))+y1.start))
instance (n:YNetwork) (t:Zm):CT Tryz.prog (Zs n t):=⟨143,[.ag (cNetwork n),.ag (Zv t)],[],fun r=>vi r,fun r=>[],fun H=>by replace H:=H0 H; unfold Zs at H; exact Za Tryz.func143 rfl Tryz.ntmps143 Tryz.results143 fun Q hQ hQn=>wk3⟩
def ZD (n:YNetwork) (t:Zm):Option Int:=
 (Zs n t).bind fun y1=>
 (getI n.legs t.leg).bind fun y2=>
 some (w64 (y1+y2.takes))
instance (n:YNetwork) (t:Zm):CT Tryz.prog (ZD n t):=⟨144,[.ag (cNetwork n),.ag (Zv t)],[],fun r=>vi r,fun r=>[],fun H=>by replace H:=H0 H; unfold ZD at H; exact Za Tryz.func144 rfl Tryz.ntmps144 Tryz.results144 fun Q hQ hQn=>wk3⟩
set_option linter.unusedSimpArgs false
theorem ZiY:@Zaa=@Zs:=rfl
theorem ZlQ:@Za8=@ZD:=rfl
def Znm (l:YLeg):Prop:=l.from_.size≤B60∧l.to_.size≤B60
theorem Znk {l:YLeg} (h:Znm l):ZeL l=Zdk l∧∃ b,Zdk l=some b:=by
 obtain ⟨e1,b1,s1⟩:=Ze3 (s:=l.from_) h.1
 obtain ⟨e2,b2,s2⟩:=Ze3 (s:=l.to_) h.2
 constructor
 ·unfold ZeL Zdk; rw [e1,e2,Zct]
 ·unfold Zdk
  rw [s1,s2]
  simp only [Option.bind_some,ZcK]
  cases b1 <;> cases b2 <;> cases (decide (l.from_=l.to_)) <;> cases (decide (0≤l.start) && decide (l.start≤1439)) <;> cases (decide (1≤l.takes) && decide (l.takes≤4320)) <;> cases (decide (1≤l.days) && decide (l.days≤127)) <;> exact ⟨_,rfl⟩
structure Zax (n:YNetwork):Prop where
 legs:n.legs.length≤1048576
 off:n.off.length≤1048576
 leg:∀ l∈n.legs,Znm l
theorem Zh0 {α:Type} {xs:List α} {i:Int} {x:α} (h:getI xs i=some x):x∈xs:=List.mem_of_getElem? (ZgT h).2
theorem Zrl {n:YNetwork} (h:Zax n):Zcz n=ZP n:=by
 funext i
 unfold Zcz ZP
 cases hg:getI n.legs i with
 | none=>rfl
 | some y=>simp only [Option.bind_some,(Znk (h.leg y (Zh0 hg))).1]
theorem Zrm {n:YNetwork}:ZcA n=ZE n:=by
 funext i
 unfold ZcA ZE
 rw [Zct]
 cases hg:getI n.off i with
 | none=>rfl
 | some y=>simp only [Option.bind_some]
theorem ZuY {n:YNetwork} (h:Zax n):∃ o,Zc (ZP n) NN 0=some o:=by
 refine Zh2 (n:=n.legs.length) (by have:=h.legs; unfold NN; omega) (fun i hi=>?_) ⟨_,by simp [ZP]; rfl⟩
 have hw:=Zq hi (by have:=h.legs; omega)
 have hg:getI n.legs (i:Int)=some n.legs[i]:=by rw [Zi]; exact List.getElem?_eq_getElem hi
 obtain ⟨b,hb⟩:=(Znk (h.leg _ (List.getElem_mem hi))).2
 cases b with
 | true=>exact Zmt (by simp only [ZP,decide_eq_true (show (i:Int)<n.legs.length by omega),cond_true,hg,Option.bind_some,hb,hw,Bool.not_true,cond_false])
 | false=>exact ZlB (by simp only [ZP,decide_eq_true (show (i:Int)<n.legs.length by omega),cond_true,hg,Option.bind_some,hb,Bool.not_false,cond_true]; rfl)
theorem ZuZ {n:YNetwork} (h:Zax n):∃ o,Zc (ZE n) NN 0=some o:=by
 refine Zh2 (n:=n.off.length) (by have:=h.off; unfold NN; omega) (fun i hi=>?_) ⟨_,by simp [ZE]; rfl⟩
 have hw:=Zq hi (by have:=h.off; omega)
 have hg:getI n.off (i:Int)=some n.off[i]:=by rw [Zi]; exact List.getElem?_eq_getElem hi
 have hd:=decide_eq_true (show (i:Int)<n.off.length by omega)
 cases hb:decide (0≤n.off[i]) && decide (n.off[i]≤60) with
 | false=>exact ZlB (by simp only [ZE,hd,cond_true,hg,Option.bind_some,ZcK,hb,Bool.not_false]; rfl)
 | true=>
  by_cases h0:0<(i:Int)
  ·have hw2:w64 ((i:Int)-1)=((i-1:Nat):Int):=by rw [Zy (by have:=h.off; omega)]; omega
   have hg2:getI n.off ((i-1:Nat):Int)=some n.off[i-1]:=by rw [Zi]; exact List.getElem?_eq_getElem (by omega)
   cases hc:decide (n.off[i]≤n.off[i-1]) with
   | true=>exact ZlB (by simp only [ZE,hd,cond_true,hg,Option.bind_some,ZcK,hb,Bool.not_true,cond_false,decide_eq_true h0,hw2,hg2,hc]; rfl)
   | false=>exact Zmt (by simp only [ZE,hd,cond_true,hg,Option.bind_some,ZcK,hb,Bool.not_true,cond_false,decide_eq_true h0,hw2,hg2,hc,hw])
  ·exact Zmt (by simp only [ZE,hd,cond_true,hg,Option.bind_some,ZcK,hb,Bool.not_true,cond_false,decide_eq_false h0,hw])
theorem Zcu {n:YNetwork} (h:Zax n):Zah n=Zx n∧∃ b,Zx n=some b:=by
 constructor
 ·unfold Zah Zx; rw [Zrl h,Zrm,Zct]
 ·obtain ⟨o0,h0⟩:=ZuY h
  obtain ⟨o1,h1⟩:=ZuZ h
  unfold Zx
  rw [h0,h1]
  simp only [Option.bind_some,ZcK]
  rcases o0 with o0 | o0
  ·rcases o1 with o1 | o1
   ·simp only [Zp]
    cases decide ((n.legs.length:Int)≤20) <;> cases decide ((n.off.length:Int)≤10) <;> exact ⟨_,rfl⟩
   ·exact ⟨_,rfl⟩
  ·exact ⟨_,rfl⟩
def ZdS (n:YNetwork) (day:Int) (s0:Int):Option (Int ⊕ (Unit ⊕ Bool)):=
 cond (decide (s0<(n.off.length:Int)))
 ((getI n.off s0).bind fun y3=>
 cond (decide (y3=day))
 (some (.inr (.inr false)))
 (some (.inl (w64 (s0+1)))))
 (some (.inr (.inl ())))
instance (n:YNetwork) (day:Int):Zo (ZdS n day):=⟨fun s0=>(.un::.un::vi day::(U 34 (.sl (n.off.map cInt)::vi (n.off.length:Int)::vi s0::(U 7 [])))),fun s0=>[]⟩
def Ze9 (n:YNetwork) (leg:Int) (day:Int):Option Bool:=
 cond (decide (leg<0))
 (some false)
 (cond (decide ((n.legs.length:Int)≤leg))
 (some false)
 ((Ze day 0 60).bind fun y1=>
 cond (!y1)
 (some false)
 ((getI n.legs leg).bind fun y2=>
 (chk (decide (0≤(Int.tmod day 7)))).bind fun _=>
 cond (decide ((IntKind.i64.wrap (BitVec.ofInt IntKind.i64.bits (Int.fdiv y2.days (2 ^ (min (Int.toNat (Int.tmod day 7)) IntKind.i64.bits))) &&& BitVec.ofInt IntKind.i64.bits 1).toNat)=0))
 (some false)
 ((Zc (ZdS n day) NN 0).bind (Zp (fun o0=>
 some true) (fun r=>some r))))))
instance (n:YNetwork) (leg:Int) (day:Int):CT Tryz.prog (Ze9 n leg day):=⟨176,[.ag (cNetwork n),vi leg,vi day],[],fun r=>vb r,fun r=>[],fun H=>by replace H:=H0 H; unfold Ze9 at H; exact Za Tryz.func176 rfl Tryz.ntmps176 Tryz.results176 fun Q hQ hQn=>wk3⟩
def Zek (n:YNetwork) (leg:Int) (day:Int):Option Bool:=
 (Zah n).bind fun y1=>
 cond y1
 ((Ze9 n leg day).bind fun y2=>
 some y2)
 (some false)
instance (n:YNetwork) (leg:Int) (day:Int):CT Tryz.prog (Zek n leg day):=⟨157,[.ag (cNetwork n),vi leg,vi day],[],fun r=>vb r,fun r=>[],fun H=>by replace H:=H0 H; unfold Zek at H; exact Za Tryz.func157 rfl Tryz.ntmps157 Tryz.results157 fun Q hQ hQn=>wk3⟩
def ZL (n:YNetwork) (t:Zm):Option Bool:=
 (Zek n t.leg t.day).bind fun y1=>
 some y1
instance (n:YNetwork) (t:Zm):CT Tryz.prog (ZL n t):=⟨115,[.ag (cNetwork n),.ag (Zv t)],[],fun r=>vb r,fun r=>[],fun H=>by replace H:=H0 H; unfold ZL at H; exact Za Tryz.func115 rfl Tryz.ntmps115 Tryz.results115 fun Q hQ hQn=>wk3⟩
def Zeu (l:List Int) (x:Int) (s0:Int):Option (Int ⊕ (Unit ⊕ Bool)):=
 cond (decide (s0<(l.length:Int)))
 ((getI l s0).bind fun y1=>
 cond (decide (y1=x))
 (some (.inr (.inr true)))
 (some (.inl (w64 (s0+1)))))
 (some (.inr (.inl ())))
instance (l:List Int) (x:Int):Zo (Zeu l x):=⟨fun s0=>(.sl (l.map cInt)::vi x::(U 3 (vi s0::(U 12 [])))),fun s0=>[]⟩
def ZeR (l:List Int) (x:Int):Option Bool:=
 (Zc (Zeu l x) NN 0).bind (Zp (fun o0=>
 some false) (fun r=>some r))
instance (l:List Int) (x:Int):CT Tryz.prog (ZeR l x):=⟨139,[.sl (l.map cInt),vi x],[],fun r=>vb r,fun r=>[],fun H=>by replace H:=H0 H; unfold ZeR at H; exact Za Tryz.func139 rfl Tryz.ntmps139 Tryz.results139 fun Q hQ hQn=>wk3⟩
def ZJ (n:YNetwork) (leg:Int) (day:Int):Option Bool:=
 (Zl leg 0 (w64 ((n.legs.length:Int)-1))).bind fun y1=>
 cond y1
 ((Zl day 0 60).bind fun y2=>
 cond y2
 ((getI n.legs leg).bind fun y3=>
 (chk (decide (0≤(Int.tmod day 7)))).bind fun _=>
 cond (decide ((IntKind.i64.wrap (BitVec.ofInt IntKind.i64.bits (Int.fdiv y3.days (2 ^ (min (Int.toNat (Int.tmod day 7)) IntKind.i64.bits))) &&& BitVec.ofInt IntKind.i64.bits 1).toNat)=1))
 ((ZeR n.off day).bind fun y4=>
 some (!y4))
 (some false))
 (some false))
 (some false)
instance (n:YNetwork) (leg:Int) (day:Int):CT Tryz.prog (ZJ n leg day):=⟨102,[.ag (cNetwork n),vi leg,vi day],[],fun r=>vb r,fun r=>[],fun H=>by replace H:=H0 H; unfold ZJ at H; exact Za Tryz.func102 rfl Tryz.ntmps102 Tryz.results102 fun Q hQ hQn=>wk3⟩
def ZbO (n:YNetwork) (leg:Int) (day:Int):Option Bool:=
 (Zx n).bind fun y1=>
 cond y1
 ((ZJ n leg day).bind fun y2=>
 some y2)
 (some false)
instance (n:YNetwork) (leg:Int) (day:Int):CT Tryz.prog (ZbO n leg day):=⟨172,[.ag (cNetwork n),vi leg,vi day],[],fun r=>vb r,fun r=>[],fun H=>by replace H:=H0 H; unfold ZbO at H; exact Za Tryz.func172 rfl Tryz.ntmps172 Tryz.results172 fun Q hQ hQn=>wk3⟩
def ZN (n:YNetwork) (t:Zm):Option Bool:=
 (ZbO n t.leg t.day).bind fun y1=>
 some y1
instance (n:YNetwork) (t:Zm):CT Tryz.prog (ZN n t):=⟨142,[.ag (cNetwork n),.ag (Zv t)],[],fun r=>vb r,fun r=>[],fun H=>by replace H:=H0 H; unfold ZN at H; exact Za Tryz.func142 rfl Tryz.ntmps142 Tryz.results142 fun Q hQ hQn=>wk3⟩
def Zdu (l:List Zm) (t:Zm) (s0:Int):Option (Int ⊕ (Unit ⊕ Bool)):=
 cond (decide (s0<(l.length:Int)))
 ((getI l s0).bind fun y1=>
 cond (decide (y1=t))
 (some (.inr (.inr true)))
 (some (.inl (w64 (s0+1)))))
 (some (.inr (.inl ())))
instance (l:List Zm) (t:Zm):Zo (Zdu l t):=⟨fun s0=>(U 3 (.be 0 0 0::(U 3 (.sl (l.map Zv)::vi (l.length:Int)::vi s0::(U 7 []))))),fun s0=>[some ⟨.of 104,2,[[vi t.leg,vi t.day]]⟩]⟩
def ZbT (l:List Zm) (t:Zm):Option Bool:=
 (Zc (Zdu l t) NN 0).bind (Zp (fun o0=>
 some false) (fun r=>some r))
instance (l:List Zm) (t:Zm):CT Tryz.prog (ZbT l t):=⟨116,[.sl (l.map Zv),.ag (Zv t)],[],fun r=>vb r,fun r=>[],fun H=>by replace H:=H0 H; unfold ZbT at H; exact Za Tryz.func116 rfl Tryz.ntmps116 Tryz.results116 fun Q hQ hQn=>wk3⟩
def Zfl (l:List Zm) (t:Zm) (s0:Int):Option (Int ⊕ (Unit ⊕ Bool)):=
 cond (decide (s0<(l.length:Int)))
 ((getI l s0).bind fun y1=>
 cond (decide (y1=t))
 (some (.inr (.inr true)))
 (some (.inl (w64 (s0+1)))))
 (some (.inr (.inl ())))
instance (l:List Zm) (t:Zm):Zo (Zfl l t):=⟨fun s0=>(.sl (l.map Zv)::.un::.un::.be 0 0 0::.un::vi s0::(U 12 [])),fun s0=>[some ⟨.of 104,2,[[vi t.leg,vi t.day]]⟩]⟩
def Zdn (l:List Zm) (t:Zm):Option Bool:=
 (Zc (Zfl l t) NN 0).bind (Zp (fun o0=>
 some false) (fun r=>some r))
instance (l:List Zm) (t:Zm):CT Tryz.prog (Zdn l t):=⟨103,[.sl (l.map Zv),.ag (Zv t)],[],fun r=>vb r,fun r=>[],fun H=>by replace H:=H0 H; unfold Zdn at H; exact Za Tryz.func103 rfl Tryz.ntmps103 Tryz.results103 fun Q hQ hQn=>wk3⟩
def Zd0 (l:List Zb) (t:Zm) (s0:Int × Int):Option ((Int × Int) ⊕ Int):=
 cond (decide (s0.2<(l.length:Int)))
 ((getI l s0.2).bind fun y1=>
 cond (decide (y1.trip=t))
 (some (.inl ((w64 (s0.1+y1.weight)),(w64 (s0.2+1)))))
 (some (.inl (s0.1,(w64 (s0.2+1))))))
 (some (.inr s0.1))
instance (l:List Zb) (t:Zm):Zo (Zd0 l t):=⟨fun s0=>(U 3 (.be 0 0 0::.un::vi s0.1::.un::.un::.sl (l.map Zd)::vi (l.length:Int)::vi s0.2::(U 13 []))),fun s0=>[some ⟨.of 104,2,[[vi t.leg,vi t.day]]⟩]⟩
def Zds (l:List Zb) (t:Zm):Option Int:=
 (Zc (Zd0 l t) NN (0,0)).bind (fun o0=>
 some o0)
instance (l:List Zb) (t:Zm):CT Tryz.prog (Zds l t):=⟨156,[.sl (l.map Zd),.ag (Zv t)],[],fun r=>vi r,fun r=>[],fun H=>by replace H:=H0 H; unfold Zds at H; exact Za Tryz.func156 rfl Tryz.ntmps156 Tryz.results156 fun Q hQ hQn=>wk3⟩
def Zai (l:List Zb) (t:Zm) (s0:Int × Int):Option ((Int × Int) ⊕ Int):=
 cond (decide (s0.2<(l.length:Int)))
 ((getI l s0.2).bind fun y1=>
 cond (decide (y1.trip=t))
 ((getI l s0.2).bind fun y2=>
 some (.inl ((w64 (s0.1+y2.weight)),(w64 (s0.2+1)))))
 (some (.inl (s0.1,(w64 (s0.2+1))))))
 (some (.inr s0.1))
instance (l:List Zb) (t:Zm):Zo (Zai l t):=⟨fun s0=>(.sl (l.map Zd)::.un::.un::.be 0 0 0::.un::vi s0.1::vi s0.2::(U 21 [])),fun s0=>[some ⟨.of 104,2,[[vi t.leg,vi t.day]]⟩]⟩
def ZbN (l:List Zb) (t:Zm):Option Int:=
 (Zc (Zai l t) NN (0,0)).bind (fun o0=>
 some o0)
instance (l:List Zb) (t:Zm):CT Tryz.prog (ZbN l t):=⟨138,[.sl (l.map Zd),.ag (Zv t)],[],fun r=>vi r,fun r=>[],fun H=>by replace H:=H0 H; unfold ZbN at H; exact Za Tryz.func138 rfl Tryz.ntmps138 Tryz.results138 fun Q hQ hQn=>wk3⟩
theorem Zs0 {l:List Int} (h:l.length≤1048576) (x:Int):ZeR l x=some (l.any fun y=>decide (y=x)):=by
 unfold ZeR
 rw [ZfX (xs:=l) (p:=fun y=>decide (y=x)) (r:=.inr true) (e:=.inl ()) (fun i hi=>?_) (by simp [Zeu]) (by unfold NN; omega)]
 ·cases l.any fun y=>decide (y=x) <;> rfl
 ·have hw:=Zq hi (by omega)
  have hg:getI l (i:Int)=some l[i]:=by rw [Zi]; exact List.getElem?_eq_getElem hi
  simp only [Zeu,decide_eq_true (show (i:Int)<l.length by omega),cond_true,hg,Option.bind_some,hw]
  cases decide (l[i]=x) <;> rfl
theorem ZgU {l:List Zm} (h:l.length≤1048576) (x:Zm):ZbT l x=some (l.any fun y=>decide (y=x)):=by
 unfold ZbT
 rw [ZfX (xs:=l) (p:=fun y=>decide (y=x)) (r:=.inr true) (e:=.inl ()) (fun i hi=>?_) (by simp [Zdu]) (by unfold NN; omega)]
 ·cases l.any fun y=>decide (y=x) <;> rfl
 ·have hw:=Zq hi (by omega)
  have hg:getI l (i:Int)=some l[i]:=by rw [Zi]; exact List.getElem?_eq_getElem hi
  simp only [Zdu,decide_eq_true (show (i:Int)<l.length by omega),cond_true,hg,Option.bind_some,hw]
  cases decide (l[i]=x) <;> rfl
theorem Ziv:@Zdn=@ZbT:=rfl
theorem ZnT {n:YNetwork} (h:n.off.length≤1048576) (x:Int):(Zc (ZdS n x) NN 0).bind (Zp (fun _=>some true) (fun r=>some r))=some (!(n.off.any fun y=>decide (y=x))):=by
 rw [ZfX (xs:=n.off) (p:=fun y=>decide (y=x)) (r:=.inr false) (e:=.inl ()) (fun i hi=>?_) (by simp [ZdS]) (by unfold NN; omega)]
 ·cases n.off.any fun y=>decide (y=x) <;> rfl
 ·have hw:=Zq hi (by omega)
  have hg:getI n.off (i:Int)=some n.off[i]:=by rw [Zi]; exact List.getElem?_eq_getElem hi
  simp only [ZdS,decide_eq_true (show (i:Int)<n.off.length by omega),cond_true,hg,Option.bind_some,hw]
  cases decide (n.off[i]=x) <;> rfl
def Zno (x:Int):Int:=IntKind.i64.wrap (BitVec.ofInt IntKind.i64.bits x &&& BitVec.ofInt IntKind.i64.bits 1).toNat
theorem Zpt (x:Int):Zno x=0∨Zno x=1:=by
 unfold Zno
 have h:(BitVec.ofInt IntKind.i64.bits x &&& BitVec.ofInt IntKind.i64.bits 1).toNat≤1:=by
  rw [BitVec.toNat_and]
  refine Nat.le_trans Nat.and_le_right ?_
  decide
 rw [show IntKind.i64.wrap ((BitVec.ofInt IntKind.i64.bits x &&& BitVec.ofInt IntKind.i64.bits 1).toNat:Int)=((BitVec.ofInt IntKind.i64.bits x &&& BitVec.ofInt IntKind.i64.bits 1).toNat:Int) from Zy (by omega)]
 omega
theorem ZgF {n:YNetwork} (h:Zax n) (leg day:Int):Ze9 n leg day=ZJ n leg day∧∃ b,ZJ n leg day=some b:=by
 have hl:=h.legs
 have hw:w64 ((n.legs.length:Int)-1)=n.legs.length-1:=Zy (by omega)
 unfold Ze9 ZJ
 rw [Zct,hw,ZcK,ZcK]
 simp only [Option.bind_some]
 by_cases h1:leg<0
 ·simp only [decide_eq_true h1,decide_eq_false (show ¬ 0≤leg by omega),cond_true,Bool.false_and,cond_false]
  exact ⟨trivial,_,rfl⟩
 by_cases h2:(n.legs.length:Int)≤leg
 ·simp only [decide_eq_false h1,decide_eq_true h2,decide_eq_false (show ¬ leg≤(n.legs.length:Int)-1 by omega),cond_true,Bool.and_false,cond_false]
  exact ⟨trivial,_,rfl⟩
 simp only [decide_eq_false h1,decide_eq_false h2,decide_eq_true (show 0≤leg by omega),decide_eq_true (show leg≤(n.legs.length:Int)-1 by omega),cond_true,Bool.and_true,cond_false]
 by_cases h3:0≤day∧day≤60
 ·simp only [decide_eq_true h3.1,decide_eq_true h3.2,Bool.and_true,Bool.not_true,cond_false,cond_true]
  have hg:getI n.legs leg=some (n.legs[leg.toNat]'(by omega)):=by
   unfold getI; rw [if_pos (by omega)]; exact List.getElem?_eq_getElem _
  rw [hg]
  simp only [Option.bind_some]
  have hm:0≤Int.tmod day 7:=Int.tmod_nonneg 7 h3.1
  rw [Ze5 (decide_eq_true hm)]
  simp only [Option.bind_some]
  rw [ZnT h.off,Zs0 h.off]
  generalize Int.fdiv _ _=q
  have hb:=Zpt q
  unfold Zno at hb
  rcases hb with hb | hb
  ·rw [hb]; exact ⟨rfl,_,rfl⟩
  ·rw [hb]; exact ⟨rfl,_,rfl⟩
 ·have:(decide (0≤day) && decide (day≤60))=false:=by rw [← Bool.decide_and]; exact decide_eq_false h3
  rw [this]
  exact ⟨rfl,_,rfl⟩
theorem Zqc {n:YNetwork} (h:Zax n) (leg day:Int):Zek n leg day=ZbO n leg day∧∃ b,ZbO n leg day=some b:=by
 obtain ⟨e,b,s⟩:=Zcu h
 obtain ⟨e2,b2,s2⟩:=ZgF h leg day
 unfold Zek ZbO
 rw [e,e2,s,s2]
 refine ⟨rfl,?_⟩
 cases b <;> exact ⟨_,rfl⟩
theorem ZfW {n:YNetwork} (h:Zax n) (t:Zm):ZL n t=ZN n t∧∃ b,ZN n t=some b:=by
 obtain ⟨e,b,s⟩:=Zqc h t.leg t.day
 unfold ZL ZN
 rw [e,s]
 exact ⟨rfl,_,rfl⟩
theorem Zk1:@Zds=@ZbN:=by
 funext l t
 unfold Zds ZbN
 have:Zd0 l t=Zai l t:=by
  funext s
  unfold Zd0 Zai
  cases hg:getI l s.2 with
  | none=>rfl
  | some y=>simp only [Option.bind_some]
 rw [this]
def ZG (a:Int) (b:Int):Option Int:=
 cond (decide (a<b))
 (some (-1))
 (cond (decide (b<a))
 (some 1)
 (some 0))
instance (a:Int) (b:Int):CT Tryz.prog (ZG a b):=⟨124,[vi a,vi b],[],fun r=>vi r,fun r=>[],fun H=>by replace H:=H0 H; unfold ZG at H; exact Za Tryz.func124 rfl Tryz.ntmps124 Tryz.results124 fun Q hQ hQn=>wk3⟩
def Zb7 (list:List Int) (s0:Int):Option (Int ⊕ (Unit ⊕ Int)):=
 cond (decide (s0<(list.length:Int)))
 ((getI list s0).bind fun y1=>
 cond (!decide (y1=0))
 (some (.inr (.inr y1)))
 (some (.inl (w64 (s0+1)))))
 (some (.inr (.inl ())))
instance (list:List Int):Zo (Zb7 list):=⟨fun s0=>(U 5 (.sl (list.map cInt)::vi (list.length:Int)::vi s0::(U 7 []))),fun s0=>[]⟩
def Zd9 (list:List Int):Option Int:=
 (Zc (Zb7 list) NN 0).bind (Zp (fun o0=>
 some 0) (fun r=>some r))
instance (list:List Int):CT Tryz.prog (Zd9 list):=⟨123,[.sl (list.map cInt)],[],fun r=>vi r,fun r=>[],fun H=>by replace H:=H0 H; unfold Zd9 at H; exact Za Tryz.func123 rfl Tryz.ntmps123 Tryz.results123 fun Q hQ hQn=>wk3⟩
def Zal (a:Zb) (b:Zb):Option Int:=
 (ZG a.trip.day b.trip.day).bind fun y1=>
 (ZG a.trip.leg b.trip.leg).bind fun y2=>
 (ZG a.thing b.thing).bind fun y3=>
 (Zd9 ([y1,y2,y3])).bind fun y4=>
 some y4
instance (a:Zb) (b:Zb):CT Tryz.prog (Zal a b):=⟨155,[.ag (Zd a),.ag (Zd b)],[],fun r=>vi r,fun r=>[],fun H=>by replace H:=H0 H; unfold Zal at H; exact Za Tryz.func155 rfl Tryz.ntmps155 Tryz.results155 fun Q hQ hQn=>wk3⟩
def Z6 (n:YNetwork) (l:List Zb) (s0:Int):Option (Int ⊕ (Unit ⊕ Bool)):=
 cond (decide (s0<(l.length:Int)))
 ((getI l s0).bind fun y2=>
 cond (decide (0<s0))
 ((getI l (w64 (s0-1))).bind fun y3=>
 (Zal y3 y2).bind fun y4=>
 cond (decide (0≤y4))
 (some (.inr (.inr false)))
 ((ZL n y2.trip).bind fun y5=>
 cond (!y5)
 (some (.inr (.inr false)))
 ((Ze y2.thing 1 9999).bind fun y6=>
 cond (!y6)
 (some (.inr (.inr false)))
 ((Ze y2.weight 1 1000000).bind fun y7=>
 cond (!y7)
 (some (.inr (.inr false)))
 ((Zds l y2.trip).bind fun y8=>
 (getI n.legs y2.trip.leg).bind fun y9=>
 cond (decide (y9.room<y8))
 (some (.inr (.inr false)))
 (some (.inl (w64 (s0+1)))))))))
 ((ZL n y2.trip).bind fun y10=>
 cond (!y10)
 (some (.inr (.inr false)))
 ((Ze y2.thing 1 9999).bind fun y11=>
 cond (!y11)
 (some (.inr (.inr false)))
 ((Ze y2.weight 1 1000000).bind fun y12=>
 cond (!y12)
 (some (.inr (.inr false)))
 ((Zds l y2.trip).bind fun y13=>
 (getI n.legs y2.trip.leg).bind fun y14=>
 cond (decide (y14.room<y13))
 (some (.inr (.inr false)))
 (some (.inl (w64 (s0+1)))))))))
 (some (.inr (.inl ())))
instance (n:YNetwork) (l:List Zb):Zo (Z6 n l):=⟨fun s0=>(.un::.sl (l.map Zd)::.be 0 0 0::(U 12 (.sl (l.map Zd)::vi (l.length:Int)::vi s0::(U 51 [])))),fun s0=>[some ⟨.of 33,3,[[.sl (n.legs.map cLeg),.sl (n.off.map cInt),vi n.change]]⟩]⟩
def Zbr (n:YNetwork) (l:List Zb):Option Bool:=
 (Zah n).bind fun y1=>
 cond (!y1)
 (some false)
 (cond (decide (120<(l.length:Int)))
 (some false)
 ((Zc (Z6 n l) NN 0).bind (Zp (fun o0=>
 some true) (fun r=>some r))))
instance (n:YNetwork) (l:List Zb):CT Tryz.prog (Zbr n l):=⟨113,[.ag (cNetwork n),.sl (l.map Zd)],[],fun r=>vb r,fun r=>[],fun H=>by replace H:=H0 H; unfold Zbr at H; exact Za Tryz.func113 rfl Tryz.ntmps113 Tryz.results113 fun Q hQ hQn=>wk3⟩
def Zdm (a:Zb) (b:Zb):Option Bool:=
 cond (!decide (a.trip.day=b.trip.day))
 (some (decide (a.trip.day<b.trip.day)))
 (cond (!decide (a.trip.leg=b.trip.leg))
 (some (decide (a.trip.leg<b.trip.leg)))
 (some (decide (a.thing<b.thing))))
instance (a:Zb) (b:Zb):CT Tryz.prog (Zdm a b):=⟨137,[.ag (Zd a),.ag (Zd b)],[],fun r=>vb r,fun r=>[],fun H=>by replace H:=H0 H; unfold Zdm at H; exact Za Tryz.func137 rfl Tryz.ntmps137 Tryz.results137 fun Q hQ hQn=>wk3⟩
def ZaF (n:YNetwork) (l:List Zb) (s0:Int):Option (Int ⊕ (Unit ⊕ Bool)):=
 cond (decide (s0<(l.length:Int)))
 ((getI l s0).bind fun y2=>
 (ZJ n y2.trip.leg y2.trip.day).bind fun y3=>
 cond (!y3)
 (some (.inr (.inr false)))
 ((Zl y2.thing 1 9999).bind fun y4=>
 cond (!y4)
 (some (.inr (.inr false)))
 ((Zl y2.weight 1 1000000).bind fun y5=>
 cond (!y5)
 (some (.inr (.inr false)))
 (cond (decide (0<s0))
 ((getI l (w64 (s0-1))).bind fun y6=>
 (Zdm y6 y2).bind fun y7=>
 cond (!y7)
 (some (.inr (.inr false)))
 (some (.inl (w64 (s0+1)))))
 (some (.inl (w64 (s0+1))))))))
 (some (.inr (.inl ())))
instance (n:YNetwork) (l:List Zb):Zo (ZaF n l):=⟨fun s0=>(.un::.sl (l.map Zd)::.be 0 0 0::.un::.un::vi s0::(U 80 [])),fun s0=>[some ⟨.of 33,3,[[.sl (n.legs.map cLeg),.sl (n.off.map cInt),vi n.change]]⟩]⟩
def ZaG (n:YNetwork) (l:List Zb) (s1:Int):Option (Int ⊕ (Unit ⊕ Bool)):=
 cond (decide (s1<(l.length:Int)))
 ((getI l s1).bind fun y8=>
 (ZbN l y8.trip).bind fun y9=>
 (getI l s1).bind fun y10=>
 (getI n.legs y10.trip.leg).bind fun y11=>
 cond (decide (y11.room<y9))
 (some (.inr (.inr false)))
 (some (.inl (w64 (s1+1)))))
 (some (.inr (.inl ())))
instance (n:YNetwork) (l:List Zb):Zo (ZaG n l):=⟨fun s1=>(.un::.sl (l.map Zd)::.be 0 0 0::(U 4 (vi s1::(U 78 [])))),fun s1=>[some ⟨.of 33,3,[[.sl (n.legs.map cLeg),.sl (n.off.map cInt),vi n.change]]⟩]⟩
def ZbG (n:YNetwork) (l:List Zb):Option Bool:=
 (Zx n).bind fun y1=>
 cond (!y1)
 (some false)
 (cond (decide (120<(l.length:Int)))
 (some false)
 ((Zc (ZaF n l) NN 0).bind (Zp (fun o0=>
 (Zc (ZaG n l) NN 0).bind (Zp (fun o1=>
 some true) (fun r=>some r))) (fun r=>some r))))
instance (n:YNetwork) (l:List Zb):CT Tryz.prog (ZbG n l):=⟨100,[.ag (cNetwork n),.sl (l.map Zd)],[],fun r=>vb r,fun r=>[],fun H=>by replace H:=H0 H; unfold ZbG at H; exact Za Tryz.func100 rfl Tryz.ntmps100 Tryz.results100 fun Q hQ hQn=>wk3⟩
def cmpI (a b:Int):Int:=if a<b then -1 else if b<a then 1 else 0
theorem ZrS (a b:Int):ZG a b=some (cmpI a b):=by
 unfold ZG cmpI
 by_cases h:a<b
 ·simp [h]
 ·by_cases h2:b<a <;> simp [h,h2]
theorem Zsb (x y z:Int):Zd9 [x,y,z]=some (if x≠0 then x else if y≠0 then y else z):=by
 obtain ⟨k,hk⟩:∃ k,NN=k+1+1+1+1:=⟨1152921504606846972,by unfold NN; omega⟩
 unfold Zd9
 rw [hk]
 have w0:w64 1=1:=Zy (by omega)
 have w1:w64 2=2:=Zy (by omega)
 have w2:w64 3=3:=Zy (by omega)
 by_cases hx:x=0
 ·by_cases hy:y=0
  ·by_cases hz:z=0
   ·simp [Zc,Zp,Zb7,getI,hx,hy,hz,w0,w1,w2]
   ·simp [Zc,Zp,Zb7,getI,hx,hy,hz,w0,w1,w2]
  ·simp [Zc,Zp,Zb7,getI,hx,hy,w0]
 ·simp [Zc,Zp,Zb7,getI,hx]
def befB (a b:Zb):Bool:=if a.trip.day≠b.trip.day then decide (a.trip.day<b.trip.day) else if a.trip.leg≠b.trip.leg then decide (a.trip.leg<b.trip.leg) else decide (a.thing<b.thing)
theorem ZqG (a b:Zb):Zdm a b=some (befB a b):=by
 unfold Zdm befB
 by_cases h1:a.trip.day=b.trip.day
 ·by_cases h2:a.trip.leg=b.trip.leg <;> simp [h1,h2]
 ·simp [h1]
theorem ZoK (a b:Zb):∃ v,Zal a b=some v∧decide (0≤v)=!befB a b:=by
 unfold Zal
 simp only [ZrS,Option.bind_some,Zsb]
 refine ⟨_,rfl,?_⟩
 unfold befB cmpI
 rcases Int.lt_trichotomy a.trip.day b.trip.day with h1 | h1 | h1
 ·simp [h1,show a.trip.day≠b.trip.day by omega]
 ·rcases Int.lt_trichotomy a.trip.leg b.trip.leg with h2 | h2 | h2
  ·simp [h1,h2,show a.trip.leg≠b.trip.leg by omega]
  ·rcases Int.lt_trichotomy a.thing b.thing with h3 | h3 | h3
   ·simp [h1,h2,h3]
   ·simp [h1,h2,h3]
   ·simp [h1,h2,h3,show ¬ a.thing<b.thing by omega]
  ·simp [h1,h2,show a.trip.leg≠b.trip.leg by omega,show ¬ a.trip.leg<b.trip.leg by omega]
 ·simp [h1,show a.trip.day≠b.trip.day by omega,show ¬ a.trip.day<b.trip.day by omega]
theorem Zix {l:List Zb} (h:l.length≤1048576) (t:Zm):∃ v,ZbN l t=some v:=by
 have hh:∃ o,Zc (Zai l t) NN (0,0)=some o:=by
  refine Zh3 (fun k s=>∃ i:Nat,i+k=l.length∧s.2=(i:Int)) ?_ NN l.length (0,0) ⟨0,by omega,rfl⟩ (by unfold NN; omega)
  rintro k ⟨a,s⟩ ⟨i,hi,hs⟩
  simp only at hs
  subst hs
  rcases Nat.lt_or_ge i l.length with hlt | hge
  ·have hw:=Zq hlt (by omega)
   have hg:getI l (i:Int)=some l[i]:=by rw [Zi]; exact List.getElem?_eq_getElem hlt
   cases hc:decide (l[i].trip=t) with
   | true=>
    refine ⟨_,by simp only [Zai,decide_eq_true (show (i:Int)<l.length by omega),cond_true,hg,Option.bind_some,hc,hw]; rfl,?_⟩
    rintro s' e; cases e; exact ⟨k-1,by omega,i+1,by omega,rfl⟩
   | false=>
    refine ⟨_,by simp only [Zai,decide_eq_true (show (i:Int)<l.length by omega),cond_true,cond_false,hg,Option.bind_some,hc,hw]; rfl,?_⟩
    rintro s' e; cases e; exact ⟨k-1,by omega,i+1,by omega,rfl⟩
  ·have:i=l.length:=by omega
   subst this
   refine ⟨_,by simp only [Zai,decide_eq_false (show ¬ ((l.length:Int)<l.length) by omega),cond_false]; rfl,?_⟩
   rintro s' e; cases e
 obtain ⟨o,ho⟩:=hh
 exact ⟨o,by unfold ZbN; rw [ho]; rfl⟩
theorem Zh6 {n:YNetwork} (h:Zax n) {leg day:Int} (hr:ZJ n leg day=some true):∃ y,getI n.legs leg=some y:=by
 have hl:=h.legs
 have hw:w64 ((n.legs.length:Int)-1)=n.legs.length-1:=Zy (by omega)
 unfold ZJ at hr
 rw [hw,ZcK] at hr
 simp only [Option.bind_some] at hr
 by_cases h1:0≤leg∧leg≤(n.legs.length:Int)-1
 ·exact ⟨n.legs[leg.toNat]'(by omega),by unfold getI; rw [if_pos h1.1]; exact List.getElem?_eq_getElem _⟩
 ·rw [← Bool.decide_and,decide_eq_false h1] at hr
  cases hr
def bk1 (n:YNetwork) (l:List Zb) (i:Nat):Bool:=match l[i]? with
 | none=>true
 | some y=>(ZJ n y.trip.leg y.trip.day).getD false && (decide (1≤y.thing) && decide (y.thing≤9999)) && (decide (1≤y.weight) && decide (y.weight≤1000000)) && (decide (i=0) || match l[i-1]? with
  | none=>true
  | some x=>befB x y)
def bk2 (n:YNetwork) (l:List Zb) (i:Nat):Bool:=match l[i]? with
 | none=>true
 | some y=>match getI n.legs y.trip.leg,ZbN l y.trip with
  | some g,some v=>!decide (g.room<v)
  | _,_=>false
def ZeV (n:YNetwork) (l:List Zb):Bool:=(Zx n).getD false && decide ((l.length:Int)≤120) && (List.range l.length).all fun i=>bk1 n l i && bk2 n l i
theorem Zmp {n:YNetwork} (h:Zax n) {l:List Zb} (hl:l.length≤1048576):ZbG n l=some (ZeV n l):=by
 obtain ⟨_,b,hb⟩:=Zcu h
 unfold ZbG ZeV
 rw [hb]
 simp only [Option.bind_some,Option.getD_some]
 cases b with
 | false=>rfl
 | true=>
  by_cases h120:120<(l.length:Int)
  ·simp [h120,show ¬ ((l.length:Int)≤120) by omega]
  simp only [Bool.not_true,cond_false,decide_eq_false h120,decide_eq_true (show (l.length:Int)≤120 by omega),Bool.true_and]
  have e0:Zc (ZaF n l) NN 0=some (if (List.range l.length).all (bk1 n l)=true then .inl () else .inr false):=by
   refine Zfx (fun i hi _=>?_) (fun _=>by simp [ZaF]) (by unfold NN; omega)
   have hw:=Zq hi (by omega)
   have hg:getI l (i:Int)=some l[i]:=by rw [Zi]; exact List.getElem?_eq_getElem hi
   obtain ⟨_,rb,hrb⟩:=ZgF h l[i].trip.leg l[i].trip.day
   simp only [ZaF,decide_eq_true (show (i:Int)<l.length by omega),cond_true,hg,Option.bind_some,hrb,ZcK,bk1,List.getElem?_eq_getElem hi,Option.getD_some]
   cases rb with
   | false=>simp
   | true=>
    cases decide (1≤l[i].thing) && decide (l[i].thing≤9999) with
    | false=>simp
    | true=>
     cases decide (1≤l[i].weight) && decide (l[i].weight≤1000000) with
     | false=>simp
     | true=>
      by_cases hi0:i=0
      ·subst hi0
       have hw':w64 1=1:=Zy (by omega)
       simp [hw']
      ·have hw2:w64 ((i:Int)-1)=((i-1:Nat):Int):=by rw [Zy (by omega)]; omega
       have hg2:getI l ((i-1:Nat):Int)=some l[i-1]:=by rw [Zi]; exact List.getElem?_eq_getElem (by omega)
       simp only [decide_eq_true (show 0<(i:Int) by omega),hw2,hg2,Option.bind_some,ZqG,hw,List.getElem?_eq_getElem (show i-1<l.length by omega),decide_eq_false hi0,Bool.not_true,cond_false,cond_true,Bool.true_and,Bool.false_or]
       cases befB l[i-1] l[i] <;> rfl
  rw [e0]
  by_cases hall:(List.range l.length).all (bk1 n l)=true
  ·rw [if_pos hall]
   have e1:Zc (ZaG n l) NN 0=some (if (List.range l.length).all (bk2 n l)=true then .inl () else .inr false):=by
    refine Zfx (fun i hi _=>?_) (fun _=>by simp [ZaG]) (by unfold NN; omega)
    have hw:=Zq hi (by omega)
    have hg:getI l (i:Int)=some l[i]:=by rw [Zi]; exact List.getElem?_eq_getElem hi
    obtain ⟨v,hv⟩:=Zix hl l[i].trip
    have hb1:=List.all_eq_true.1 hall i (List.mem_range.2 hi)
    obtain ⟨_,rb,hrb⟩:=ZgF h l[i].trip.leg l[i].trip.day
    have hrt:rb=true:=by
     simp only [bk1,List.getElem?_eq_getElem hi,hrb,Option.getD_some,Bool.and_eq_true] at hb1
     exact hb1.1.1.1
    subst hrt
    obtain ⟨g,hgl⟩:=Zh6 h hrb
    simp only [ZaG,decide_eq_true (show (i:Int)<l.length by omega),cond_true,hg,Option.bind_some,hv,hgl,bk2,List.getElem?_eq_getElem hi,hw]
    cases decide (g.room<v) <;> rfl
   simp only [Option.bind_some]
   rw [e1]
   have:(List.range l.length).all (fun i=>bk1 n l i && bk2 n l i)=(List.range l.length).all (bk2 n l):=by
    rw [Bool.eq_iff_iff,List.all_eq_true,List.all_eq_true]
    exact ⟨fun H i hi=>by have:=H i hi; simp only [Bool.and_eq_true] at this; exact this.2,fun H i hi=>by rw [List.all_eq_true.1 hall i hi,H i hi]; rfl⟩
   rw [this]
   cases (List.range l.length).all (bk2 n l) <;> rfl
  ·rw [if_neg hall]
   have:(List.range l.length).all (fun i=>bk1 n l i && bk2 n l i)=false:=by
    rw [Bool.eq_false_iff]
    intro H
    exact hall (List.all_eq_true.2 fun i hi=>by have:=List.all_eq_true.1 H i hi; simp only [Bool.and_eq_true] at this; exact this.1)
   rw [this]; rfl
theorem ZjY {n:YNetwork} (h:Zax n) (hn:Zx n=some true) (t:Zm):ZL n t=ZJ n t.leg t.day:=by
 rw [(ZfW h t).1]
 unfold ZN ZbO
 rw [hn]
 obtain ⟨_,b,hb⟩:=ZgF h t.leg t.day
 simp only [Option.bind_some,cond_true,hb]
theorem ZlW {n:YNetwork} (h:Zax n) {l:List Zb} (hl:l.length≤1048576):Zbr n l=some (ZeV n l):=by
 obtain ⟨en,b,hb⟩:=Zcu h
 unfold Zbr ZeV
 rw [en,hb]
 simp only [Option.bind_some,Option.getD_some]
 cases b with
 | false=>rfl
 | true=>
  by_cases h120:120<(l.length:Int)
  ·simp [h120,show ¬ ((l.length:Int)≤120) by omega]
  simp only [Bool.not_true,cond_false,decide_eq_false h120,decide_eq_true (show (l.length:Int)≤120 by omega),Bool.true_and]
  have e0:Zc (Z6 n l) NN 0=some (if (List.range l.length).all (fun i=>bk1 n l i && bk2 n l i)=true then .inl () else .inr false):=by
   refine Zfx (fun i hi _=>?_) (fun _=>by simp [Z6]) (by unfold NN; omega)
   have hw:=Zq hi (by omega)
   have hg:getI l (i:Int)=some l[i]:=by rw [Zi]; exact List.getElem?_eq_getElem hi
   obtain ⟨_,rb,hrb⟩:=ZgF h l[i].trip.leg l[i].trip.day
   have ht:=ZjY h hb l[i].trip
   rw [hrb] at ht
   obtain ⟨v,hv⟩:=Zix hl l[i].trip
   have hrest:∀ {X:Option (Int ⊕ (Unit ⊕ Bool))} {pre:Bool},pre=(decide (i=0) || match l[i-1]? with
    | none=>true
    | some x=>befB x l[i])→
    X=(cond (!pre) (some (.inr (.inr false))) ((some rb).bind fun y10=>cond (!y10) (some (.inr (.inr false))) ((Zl l[i].thing 1 9999).bind fun y11=>cond (!y11) (some (.inr (.inr false))) ((Zl l[i].weight 1 1000000).bind fun y12=>cond (!y12) (some (.inr (.inr false))) ((some v).bind fun y13=>(getI n.legs l[i].trip.leg).bind fun y14=>cond (decide (y14.room<y13)) (some (.inr (.inr false))) (some (.inl ((i+1:Nat):Int))))))))→
    X=some (if (bk1 n l i && bk2 n l i)=true then .inl ((i+1:Nat):Int) else .inr (.inr false)):=by
    rintro X pre hpre rfl
    simp only [bk1,bk2,List.getElem?_eq_getElem hi,hrb,hv,Option.getD_some,ZcK,Option.bind_some,← hpre]
    cases pre with
    | false=>simp
    | true=>
     cases rb with
     | false=>simp
     | true=>
      obtain ⟨g,hgl⟩:=Zh6 h hrb
      simp only [hgl,Option.bind_some]
      cases decide (1≤l[i].thing) && decide (l[i].thing≤9999) with
      | false=>simp
      | true=>
       cases decide (1≤l[i].weight) && decide (l[i].weight≤1000000) with
       | false=>simp
       | true=>cases decide (g.room<v) <;> simp
   by_cases hi0:i=0
   ·refine hrest (pre:=true) (by simp [hi0]) ?_
    simp only [Z6,decide_eq_true (show (i:Int)<l.length by omega),decide_eq_false (show ¬ 0<(i:Int) by omega),cond_true,cond_false,hg,Option.bind_some,ht,Zct,Zk1,hv,hw,Bool.not_true]
   ·have hw2:w64 ((i:Int)-1)=((i-1:Nat):Int):=by rw [Zy (by omega)]; omega
    have hg2:getI l ((i-1:Nat):Int)=some l[i-1]:=by rw [Zi]; exact List.getElem?_eq_getElem (by omega)
    obtain ⟨cv,hcv,hc0⟩:=ZoK l[i-1] l[i]
    refine hrest (pre:=befB l[i-1] l[i]) (by simp [hi0,List.getElem?_eq_getElem (show i-1<l.length by omega)]) ?_
    simp only [Z6,decide_eq_true (show (i:Int)<l.length by omega),decide_eq_true (show 0<(i:Int) by omega),cond_true,cond_false,hg,hw2,hg2,hcv,hc0,Option.bind_some,ht,Zct,Zk1,hv,hw]
  rw [e0]
  cases (List.range l.length).all (fun i=>bk1 n l i && bk2 n l i) <;> rfl
def Zes (n:YNetwork) (s0:Int × (List ByteArray)) (y2:YLeg) (s1:Int):Option (Int ⊕ Int):=
 cond (decide (s1<(s0.2.length:Int)))
 ((getI s0.2 s1).bind fun y3=>
 cond (sLt y3 y2.to_)
 (some (.inl (w64 (s1+1))))
 (some (.inr s1)))
 (some (.inr s1))
instance (n:YNetwork) (s0:Int × (List ByteArray)) (y2:YLeg):Zo (Zes n s0 y2):=⟨fun s1=>(.un::.be 0 0 0::.un::.ms 1::vi s0.1::vs y2.to_::vi s1::(U 65 [])),fun s1=>[some ⟨.of 33,3,[[.sl (n.legs.map cLeg),.sl (n.off.map cInt),vi n.change]]⟩,some ⟨.of 9,1,s0.2.map cStr⟩]⟩
def Zet (n:YNetwork) (s0:Int × (List ByteArray)) (y1:YLeg) (s2:Int):Option (Int ⊕ Int):=
 cond (decide (s2<(s0.2.length:Int)))
 ((getI s0.2 s2).bind fun y5=>
 cond (sLt y5 y1.from_)
 (some (.inl (w64 (s2+1))))
 (some (.inr s2)))
 (some (.inr s2))
instance (n:YNetwork) (s0:Int × (List ByteArray)) (y1:YLeg):Zo (Zet n s0 y1):=⟨fun s2=>(.un::.be 0 0 0::.un::.ms 1::vi s0.1::vs y1.from_::vi s2::(U 65 [])),fun s2=>[some ⟨.of 33,3,[[.sl (n.legs.map cLeg),.sl (n.off.map cInt),vi n.change]]⟩,some ⟨.of 9,1,s0.2.map cStr⟩]⟩
def ZaL (n:YNetwork) (s0:Int × (List ByteArray)):Option ((Int × (List ByteArray)) ⊕ (List ByteArray)):=
 cond (decide (s0.1<(w64 (2*(n.legs.length:Int)))))
 ((getI n.legs (IntKind.i64.wrap (Int.tdiv s0.1 2))).bind fun y1=>
 cond (decide ((Int.tmod s0.1 2)=1))
 ((getI n.legs (IntKind.i64.wrap (Int.tdiv s0.1 2))).bind fun y2=>
 (Zc (Zes n s0 y2) NN 0).bind (fun o1=>
 cond (decide (o1=(s0.2.length:Int)))
 ((chk (slOk 0 o1 s0.2.length)).bind fun _=>
 (chk (Zaj ((([]:List ByteArray):List ByteArray).length+((subL s0.2 0 o1):List ByteArray).length) 16)).bind fun _=>
 (chk (Zaj ((((([]:List ByteArray):List ByteArray)++(subL s0.2 0 o1)):List ByteArray).length+([y2.to_]:List ByteArray).length) 16)).bind fun _=>
 (chk (slOk o1 (s0.2.length:Int) s0.2.length)).bind fun _=>
 (chk (Zaj ((((((([]:List ByteArray):List ByteArray)++(subL s0.2 0 o1)):List ByteArray)++[y2.to_]):List ByteArray).length+((subL s0.2 o1 (s0.2.length:Int)):List ByteArray).length) 16)).bind fun _=>
 some (.inl ((w64 (s0.1+1)),((((((([]:List ByteArray):List ByteArray)++(subL s0.2 0 o1)):List ByteArray)++[y2.to_]):List ByteArray)++(subL s0.2 o1 (s0.2.length:Int))))))
 ((getI s0.2 o1).bind fun y4=>
 cond (!decide (y4=y2.to_))
 ((chk (slOk 0 o1 s0.2.length)).bind fun _=>
 (chk (Zaj ((([]:List ByteArray):List ByteArray).length+((subL s0.2 0 o1):List ByteArray).length) 16)).bind fun _=>
 (chk (Zaj ((((([]:List ByteArray):List ByteArray)++(subL s0.2 0 o1)):List ByteArray).length+([y2.to_]:List ByteArray).length) 16)).bind fun _=>
 (chk (slOk o1 (s0.2.length:Int) s0.2.length)).bind fun _=>
 (chk (Zaj ((((((([]:List ByteArray):List ByteArray)++(subL s0.2 0 o1)):List ByteArray)++[y2.to_]):List ByteArray).length+((subL s0.2 o1 (s0.2.length:Int)):List ByteArray).length) 16)).bind fun _=>
 some (.inl ((w64 (s0.1+1)),((((((([]:List ByteArray):List ByteArray)++(subL s0.2 0 o1)):List ByteArray)++[y2.to_]):List ByteArray)++(subL s0.2 o1 (s0.2.length:Int))))))
 (some (.inl ((w64 (s0.1+1)),s0.2))))))
 ((Zc (Zet n s0 y1) NN 0).bind (fun o2=>
 cond (decide (o2=(s0.2.length:Int)))
 ((chk (slOk 0 o2 s0.2.length)).bind fun _=>
 (chk (Zaj ((([]:List ByteArray):List ByteArray).length+((subL s0.2 0 o2):List ByteArray).length) 16)).bind fun _=>
 (chk (Zaj ((((([]:List ByteArray):List ByteArray)++(subL s0.2 0 o2)):List ByteArray).length+([y1.from_]:List ByteArray).length) 16)).bind fun _=>
 (chk (slOk o2 (s0.2.length:Int) s0.2.length)).bind fun _=>
 (chk (Zaj ((((((([]:List ByteArray):List ByteArray)++(subL s0.2 0 o2)):List ByteArray)++[y1.from_]):List ByteArray).length+((subL s0.2 o2 (s0.2.length:Int)):List ByteArray).length) 16)).bind fun _=>
 some (.inl ((w64 (s0.1+1)),((((((([]:List ByteArray):List ByteArray)++(subL s0.2 0 o2)):List ByteArray)++[y1.from_]):List ByteArray)++(subL s0.2 o2 (s0.2.length:Int))))))
 ((getI s0.2 o2).bind fun y6=>
 cond (!decide (y6=y1.from_))
 ((chk (slOk 0 o2 s0.2.length)).bind fun _=>
 (chk (Zaj ((([]:List ByteArray):List ByteArray).length+((subL s0.2 0 o2):List ByteArray).length) 16)).bind fun _=>
 (chk (Zaj ((((([]:List ByteArray):List ByteArray)++(subL s0.2 0 o2)):List ByteArray).length+([y1.from_]:List ByteArray).length) 16)).bind fun _=>
 (chk (slOk o2 (s0.2.length:Int) s0.2.length)).bind fun _=>
 (chk (Zaj ((((((([]:List ByteArray):List ByteArray)++(subL s0.2 0 o2)):List ByteArray)++[y1.from_]):List ByteArray).length+((subL s0.2 o2 (s0.2.length:Int)):List ByteArray).length) 16)).bind fun _=>
 some (.inl ((w64 (s0.1+1)),((((((([]:List ByteArray):List ByteArray)++(subL s0.2 0 o2)):List ByteArray)++[y1.from_]):List ByteArray)++(subL s0.2 o2 (s0.2.length:Int))))))
 (some (.inl ((w64 (s0.1+1)),s0.2)))))))
 (some (.inr s0.2))
instance (n:YNetwork):Zo (ZaL n):=⟨fun s0=>(.un::.be 0 0 0::.un::.ms 1::vi s0.1::(U 67 [])),fun s0=>[some ⟨.of 33,3,[[.sl (n.legs.map cLeg),.sl (n.off.map cInt),vi n.change]]⟩,some ⟨.of 9,1,s0.2.map cStr⟩]⟩
def ZW (n:YNetwork):Option (List ByteArray):=
 (Zc (ZaL n) NN (0,([]:List ByteArray))).bind (fun o0=>
 some o0)
instance (n:YNetwork):CT Tryz.prog (ZW n):=⟨141,[.ag (cNetwork n)],[],fun r=>.ms 0,fun r=>[some ⟨.of 9,1,r.map cStr⟩],fun H=>by replace H:=H0 H; unfold ZW at H; exact Za Tryz.func141 rfl Tryz.ntmps141 Tryz.results141 fun Q hQ hQn=>wk3⟩
theorem Zly {α:Type} {r:α→α→Prop} (irr:∀ a,¬ r a a) (asy:∀ a b,r a b→¬ r b a):∀ {l1 l2:List α},l1.Pairwise r→l2.Pairwise r→(∀ x,x∈l1↔x∈l2)→l1=l2
 | [],[],_,_,_=>rfl
 | [],b::l2,_,_,h=>absurd ((h b).2 (List.mem_cons_self ..)) (by simp)
 | a::l1,[],_,_,h=>absurd ((h a).1 (List.mem_cons_self ..)) (by simp)
 | a::l1,b::l2,h1,h2,h=>by
  rw [List.pairwise_cons] at h1 h2
  have hab:a=b:=by
   rcases List.mem_cons.1 ((h a).1 (List.mem_cons_self ..)) with e | e
   ·exact e
   ·rcases List.mem_cons.1 ((h b).2 (List.mem_cons_self ..)) with e' | e'
    ·exact e'.symm
    ·exact absurd (h1.1 b e') (asy _ _ (h2.1 a e))
  subst hab
  congr 1
  refine Zly irr asy h1.2 h2.2 fun x=>⟨fun hx=>?_,fun hx=>?_⟩
  ·rcases List.mem_cons.1 ((h x).1 (List.mem_cons_of_mem _ hx)) with e | e
   ·subst e; exact absurd (h1.1 x hx) (irr x)
   ·exact e
  ·rcases List.mem_cons.1 ((h x).2 (List.mem_cons_of_mem _ hx)) with e | e
   ·subst e; exact absurd (h2.1 x hx) (irr x)
   ·exact e
theorem ZiU (a b:ByteArray):sLt a b=true↔a.data.toList<b.data.toList:=by
 unfold sLt; rw [Go.Proofs.bytesLess_eq,ByteArray.toList_eq,ByteArray.toList_eq,decide_eq_true_iff]
theorem Zks {a b:ByteArray} (h:a.data.toList=b.data.toList):a=b:=by
 obtain ⟨⟨x⟩⟩:=a; obtain ⟨⟨y⟩⟩:=b; simpa using h
theorem Zqd (a:ByteArray):¬ sLt a a=true:=by rw [ZiU]; exact List.lt_irrefl _
theorem Zsk (a b:ByteArray) (h:sLt a b=true):¬ sLt b a=true:=by rw [ZiU] at *; exact List.lt_asymm h
theorem Zul {a b c:ByteArray} (h:sLt a b=true) (h':sLt b c=true):sLt a c=true:=by rw [ZiU] at *; exact List.lt_trans h h'
theorem Zqe {a b:ByteArray} (h:¬ sLt a b=true) (hn:a≠b):sLt b a=true:=by
 rw [ZiU] at *
 rcases List.le_total a.data.toList b.data.toList with e | e
 ·rcases (List.le_iff_lt_or_eq.1 e) with e' | e'
  ·exact absurd e' h
  ·exact absurd (Zks e') hn
 ·rcases (List.le_iff_lt_or_eq.1 e) with e' | e'
  ·exact e'
  ·exact absurd (Zks e'.symm) hn
def insS:List ByteArray→ByteArray→List ByteArray
 | [],p=>[p]
 | x::xs,p=>if sLt x p=true then x::insS xs p else if x=p then x::xs else p::x::xs
theorem ZjX {p y:ByteArray}:∀ {xs:List ByteArray},y∈insS xs p↔y=p∨y∈xs
 | []=>by simp [insS]
 | x::xs=>by
  unfold insS
  split
  ·rw [List.mem_cons,ZjX,List.mem_cons]; grind
  ·split
   ·rename_i h; subst h; simp
   ·simp
theorem Zit {p:ByteArray}:∀ {xs:List ByteArray},xs.Pairwise (fun a b=>sLt a b=true)→(insS xs p).Pairwise (fun a b=>sLt a b=true)
 | [],_=>by simp [insS]
 | x::xs,h=>by
  rw [List.pairwise_cons] at h
  unfold insS
  split
  ·rename_i h1
   rw [List.pairwise_cons]
   refine ⟨fun y hy=>?_,Zit h.2⟩
   rcases ZjX.1 hy with e | e
   ·rw [e]; exact h1
   ·exact h.1 y e
  ·rename_i h1
   split
   ·rw [List.pairwise_cons]; exact h
   ·rename_i h2
    have h3:=Zqe h1 h2
    rw [List.pairwise_cons,List.pairwise_cons]
    refine ⟨fun y hy=>?_,h⟩
    rcases List.mem_cons.1 hy with e | e
    ·rw [e]; exact h3
    ·exact Zul h3 (h.1 y e)
theorem ZjW {p:ByteArray}:∀ {xs:List ByteArray},(insS xs p).length≤xs.length+1
 | []=>by simp [insS]
 | x::xs=>by
  unfold insS
  split
  ·have:=ZjW (p:=p) (xs:=xs); simp; omega
  ·split <;> simp
theorem ZkR {y:ByteArray}:∀ {l acc:List ByteArray},y∈l.foldl insS acc↔y∈l∨y∈acc
 | [],acc=>by simp
 | p::l,acc=>by rw [List.foldl_cons,ZkR,ZjX,List.mem_cons]; grind
theorem ZhC:∀ {l acc:List ByteArray},acc.Pairwise (fun a b=>sLt a b=true)→(l.foldl insS acc).Pairwise (fun a b=>sLt a b=true)
 | [],acc,h=>h
 | p::l,acc,h=>ZhC (l:=l) (Zit h)
theorem ZkQ:∀ {l acc:List ByteArray},(l.foldl insS acc).length≤l.length+acc.length
 | [],acc=>by simp
 | p::l,acc=>by
  have h1:=ZkQ (l:=l) (acc:=insS acc p)
  have h2:=ZjW (p:=p) (xs:=acc)
  simp only [List.foldl_cons,List.length_cons]; omega
/-! The program's: a list without repeats,sorted. -/
theorem Zsa {y:ByteArray}:∀ {l acc:List ByteArray},y∈l.foldl dd acc↔y∈l∨y∈acc
 | [],acc=>by simp
 | p::l,acc=>by
  rw [List.foldl_cons,Zsa,List.mem_cons]
  unfold dd
  split
  ·rename_i h
   have h:=Zpk.1 h
   constructor
   ·grind
   ·rintro ((rfl | h') | h') <;> grind
  ·simp; grind
theorem Zm5:∀ {l acc:List ByteArray},acc.Nodup→(l.foldl dd acc).Nodup
 | [],acc,h=>h
 | p::l,acc,h=>by
  rw [List.foldl_cons]
  refine Zm5 ?_
  unfold dd
  split
  ·exact h
  ·rename_i h1
   rw [List.nodup_append]
   refine ⟨h,by simp,?_⟩
   intro a ha b hb
   simp at hb
   rintro rfl
   subst hb
   exact h1 (Zpk.2 ha)
theorem ZrH {y:ByteArray} {xs:List ByteArray}:y∈srtS xs↔y∈xs:=by
 unfold srtS
 rw [List.mem_map]
 constructor
 ·rintro ⟨l,hl,rfl⟩
  rw [List.mem_mergeSort,List.mem_map] at hl
  obtain ⟨b,hb,rfl⟩:=hl
  have:(⟨b.data.toList.toArray⟩:ByteArray)=b:=Zks (by simp)
  rw [this]; exact hb
 ·intro h
  exact ⟨y.data.toList,by rw [List.mem_mergeSort,List.mem_map]; exact ⟨y,h,rfl⟩,Zks (by simp)⟩
theorem Zms {xs:List ByteArray} (h:xs.Nodup):(srtS xs).Pairwise (fun a b=>sLt a b=true):=by
 unfold srtS
 rw [List.pairwise_map]
 have h1:((xs.map fun b:ByteArray=>b.data.toList).mergeSort fun x y=>decide (x≤y)).Pairwise (fun a b=>decide (a≤b)=true):=
  List.pairwise_mergeSort (fun a b c=>by simp only [decide_eq_true_iff]; exact List.le_trans) (fun a b=>by simp only [Bool.or_eq_true,decide_eq_true_iff]; exact List.le_total a b) _
 have h2:((xs.map fun b:ByteArray=>b.data.toList).mergeSort fun x y=>decide (x≤y)).Nodup:=by
  rw [(List.mergeSort_perm _ _).nodup_iff]
  unfold List.Nodup
  rw [List.pairwise_map]
  exact h.imp fun hne e=>hne (Zks e)
 refine (h1.and h2).imp ?_
 rintro a b ⟨h3,h4⟩
 rw [ZiU]
 rcases (List.le_iff_lt_or_eq.1 (of_decide_eq_true h3)) with e | e
 ·simpa using e
 ·exact absurd e h4
def ZbW (n:YNetwork):List ByteArray:=(Zdo n).foldl insS []
theorem Zis {n:YNetwork} (h:Zax n):ZV n=some (ZbW n):=by
 unfold ZV
 rw [if_pos ⟨h.legs,List.all_eq_true.2 fun l hl=>decide_eq_true (by have:=h.leg l hl; unfold Znm B60 at this; unfold maxLen; omega)⟩]
 congr 1
 exact Zly (r:=fun a b=>sLt a b=true) Zqd Zsk (Zms (Zm5 List.nodup_nil)) (ZhC List.Pairwise.nil) fun x=>by
  rw [ZrH,Zsa]; unfold ZbW; rw [ZkR]
theorem ZsZ {α:Type} {xs:List α} {p:α→Bool} {body:Int→Option (Int ⊕ Int)} (h1:∀ i (hi:i<xs.length),body (i:Int)=some (if p xs[i]=true then .inl ((i+1:Nat):Int) else .inr (i:Int))) (h2:body (xs.length:Int)=some (.inr (xs.length:Int))) (hN:xs.length<NN):
 Zc body NN 0=some ((xs.takeWhile p).length:Int):=by
 have key:∀ (ys:List α) (i N:Nat),xs.drop i=ys→i≤xs.length→ys.length<N→Zc body N (i:Int)=some ((i+(ys.takeWhile p).length:Nat):Int):=by
  intro ys
  induction ys with
  | nil=>
   intro i N hd hi hN
   cases N with
   | zero=>omega
   | succ N=>
    have:i=xs.length:=by have:=congrArg List.length hd; simp at this; omega
    subst this
    simp only [Zc,h2]
    rfl
  | cons y ys ih=>
   intro i N hd hi hN
   cases N with
   | zero=>simp at hN
   | succ N=>
    have hy:xs[i]?=some y:=by
     have:=congrArg (fun l=>l[0]?) hd
     simpa using this
    have hlt:i<xs.length:=(List.getElem?_eq_some_iff.1 hy).1
    have hyv:xs[i]=y:=(List.getElem?_eq_some_iff.1 hy).2
    have hd':xs.drop (i+1)=ys:=by
     have:=congrArg (List.drop 1) hd
     simpa [List.drop_drop] using this
    simp only [Zc,h1 i hlt,hyv]
    cases hp:p y with
    | true=>
     simp only [if_true]
     have:=ih (i+1) N hd' hlt (by simp at hN; omega)
     refine this.trans ?_
     rw [List.takeWhile_cons_of_pos hp]
     congr 2
     simp; omega
    | false=>
     simp only [Bool.false_eq_true,if_false]
     rw [List.takeWhile_cons_of_neg (by simp [hp])]
     rfl
 simpa using key xs 0 NN rfl (Nat.zero_le _) hN
theorem Zpl (p:ByteArray):∀ (xs:List ByteArray),insS xs p=
 if xs[(xs.takeWhile fun x=>sLt x p).length]?=some p then xs else xs.take (xs.takeWhile fun x=>sLt x p).length++[p]++xs.drop (xs.takeWhile fun x=>sLt x p).length
 | []=>by simp [insS]
 | x::xs=>by
  unfold insS
  cases h:sLt x p with
  | true=>
   simp only [if_true]
   rw [List.takeWhile_cons_of_pos (by exact h),Zpl p xs]
   simp only [List.length_cons,List.getElem?_cons_succ,List.take_succ_cons,List.drop_succ_cons]
   split <;> simp
  | false=>
   rw [List.takeWhile_cons_of_neg (by simp [h])]
   simp only [List.length_nil,List.getElem?_cons_zero,List.take_zero,List.drop_zero,Option.some.injEq,Bool.false_eq_true,if_false]
   split <;> simp
theorem ZnG {out:List ByteArray} {p:ByteArray} {i':Int} (hl:out.length≤4194304):
 (cond (decide (((out.takeWhile fun x=>sLt x p).length:Int)=(out.length:Int)))
  ((chk (slOk 0 ((out.takeWhile fun x=>sLt x p).length:Int) out.length)).bind fun _=>
  (chk (Zaj ((([]:List ByteArray):List ByteArray).length+((subL out 0 ((out.takeWhile fun x=>sLt x p).length:Int)):List ByteArray).length) 16)).bind fun _=>
  (chk (Zaj ((((([]:List ByteArray):List ByteArray)++(subL out 0 ((out.takeWhile fun x=>sLt x p).length:Int))):List ByteArray).length+([p]:List ByteArray).length) 16)).bind fun _=>
  (chk (slOk ((out.takeWhile fun x=>sLt x p).length:Int) (out.length:Int) out.length)).bind fun _=>
  (chk (Zaj ((((((([]:List ByteArray):List ByteArray)++(subL out 0 ((out.takeWhile fun x=>sLt x p).length:Int))):List ByteArray)++[p]):List ByteArray).length+((subL out ((out.takeWhile fun x=>sLt x p).length:Int) (out.length:Int)):List ByteArray).length) 16)).bind fun _=>
  (some (.inl (i',((((((([]:List ByteArray):List ByteArray)++(subL out 0 ((out.takeWhile fun x=>sLt x p).length:Int))):List ByteArray)++[p]):List ByteArray)++(subL out ((out.takeWhile fun x=>sLt x p).length:Int) (out.length:Int))))):Option ((Int × List ByteArray) ⊕ List ByteArray)))
  ((getI out ((out.takeWhile fun x=>sLt x p).length:Int)).bind fun y4=>
  cond (!decide (y4=p))
  ((chk (slOk 0 ((out.takeWhile fun x=>sLt x p).length:Int) out.length)).bind fun _=>
  (chk (Zaj ((([]:List ByteArray):List ByteArray).length+((subL out 0 ((out.takeWhile fun x=>sLt x p).length:Int)):List ByteArray).length) 16)).bind fun _=>
  (chk (Zaj ((((([]:List ByteArray):List ByteArray)++(subL out 0 ((out.takeWhile fun x=>sLt x p).length:Int))):List ByteArray).length+([p]:List ByteArray).length) 16)).bind fun _=>
  (chk (slOk ((out.takeWhile fun x=>sLt x p).length:Int) (out.length:Int) out.length)).bind fun _=>
  (chk (Zaj ((((((([]:List ByteArray):List ByteArray)++(subL out 0 ((out.takeWhile fun x=>sLt x p).length:Int))):List ByteArray)++[p]):List ByteArray).length+((subL out ((out.takeWhile fun x=>sLt x p).length:Int) (out.length:Int)):List ByteArray).length) 16)).bind fun _=>
  some (.inl (i',((((((([]:List ByteArray):List ByteArray)++(subL out 0 ((out.takeWhile fun x=>sLt x p).length:Int))):List ByteArray)++[p]):List ByteArray)++(subL out ((out.takeWhile fun x=>sLt x p).length:Int) (out.length:Int))))))
  (some (.inl (i',out)))))=some (.inl (i',insS out p)):=by
 have hk:(out.takeWhile fun x=>sLt x p).length≤out.length:=(List.takeWhile_sublist _).length_le
 rw [Zpl]
 generalize hkk:(out.takeWhile fun x=>sLt x p).length=k at *
 have e1:subL out 0 (k:Int)=out.take k:=by simp [subL]
 have e2:subL out (k:Int) (out.length:Int)=out.drop k:=by
  unfold subL
  rw [Int.toNat_natCast,Int.toNat_natCast,List.take_of_length_le (by simp)]
 have c1:chk (slOk 0 (k:Int) out.length)=some ():=Ze5 (by unfold slOk; rw [decide_eq_true_iff]; omega)
 have c2:chk (slOk (k:Int) (out.length:Int) out.length)=some ():=Ze5 (by unfold slOk; rw [decide_eq_true_iff]; omega)
 have ap:∀ n:Nat,n≤8388608→chk (Zaj n 16)=some ():=fun n hn=>Ze5 (by unfold Zaj; rw [decide_eq_true_iff]; omega)
 simp only [e1,e2,c1,c2,Option.bind_some,List.nil_append]
 rw [ap _ (by simp; omega),ap _ (by simp; omega),ap _ (by simp; omega)]
 simp only [Option.bind_some]
 by_cases hke:(k:Int)=out.length
 ·have hke':k=out.length:=by omega
  rw [decide_eq_true hke,cond_true,if_neg (by rw [hke']; simp)]
 ·rw [decide_eq_false hke,cond_false,Zi]
  have hlt:k<out.length:=by omega
  rw [List.getElem?_eq_getElem hlt]
  simp only [Option.bind_some]
  by_cases he:out[k]=p
  ·rw [decide_eq_true he,if_pos (by rw [he])]; rfl
  ·rw [decide_eq_false he,if_neg (by simpa using he)]; rfl
theorem Zpw {n:YNetwork} {i:Nat} (h:i<n.legs.length):(Zdo n)[2*i]?=some n.legs[i].from_∧(Zdo n)[2*i+1]?=some n.legs[i].to_:=by
 unfold Zdo
 have key:∀ (l:List YLeg) (i:Nat) (h:i<l.length),(l.flatMap fun x=>[x.from_,x.to_])[2*i]?=some l[i].from_∧(l.flatMap fun x=>[x.from_,x.to_])[2*i+1]?=some l[i].to_:=by
  intro l
  induction l with
  | nil=>intro i h; simp at h
  | cons a l ih=>
   intro i h
   cases i with
   | zero=>simp [List.flatMap_cons]
   | succ i=>
    have:=ih i (by simpa using h)
    simp only [List.flatMap_cons,List.getElem_cons_succ]
    rw [show 2*(i+1)=2*i+2 by omega,show 2*i+2+1=2*i+1+2 by omega]
    simpa using this
 exact key n.legs i h
theorem ZgY (n:YNetwork):(Zdo n).length=2*n.legs.length:=by
 unfold Zdo
 induction n.legs with
 | nil=>rfl
 | cons a l ih=>simp only [List.flatMap_cons,List.length_append,ih,List.length_cons,List.length_nil]; omega
theorem twL {out:List ByteArray} {p:ByteArray} (hl:out.length≤4194304) {body:Int→Option (Int ⊕ Int)} (hb:∀ i:Int,body i=cond (decide (i<(out.length:Int))) ((getI out i).bind fun y=>cond (sLt y p) (some (.inl (w64 (i+1)))) (some (.inr i))) (some (.inr i))):
 Zc body NN 0=some ((out.takeWhile fun x=>sLt x p).length:Int):=by
 refine ZsZ (fun i hi=>?_) ?_ (by unfold NN; omega)
 ·have hw:=Zq hi (by omega)
  have hg:getI out (i:Int)=some out[i]:=by rw [Zi]; exact List.getElem?_eq_getElem hi
  rw [hb,decide_eq_true (show (i:Int)<out.length by omega),cond_true,hg]
  simp only [Option.bind_some,hw]
  cases sLt out[i] p <;> rfl
 ·rw [hb,decide_eq_false (by omega)]; rfl
theorem Zoj {n:YNetwork} (h:n.legs.length≤1048576) {i:Nat} {p:ByteArray} (hp:(Zdo n)[i]?=some p) {out:List ByteArray} (ho:out.length≤4194304):
 ZaL n ((i:Int),out)=some (.inl (((i+1:Nat):Int),insS out p)):=by
 have hi:i<2*n.legs.length:=by rw [← ZgY]; exact (List.getElem?_eq_some_iff.1 hp).1
 have hw2:w64 (2*(n.legs.length:Int))=2*n.legs.length:=Zy (by omega)
 have hdiv:IntKind.i64.wrap (Int.tdiv (i:Int) 2)=((i / 2:Nat):Int):=by
  rw [show Int.tdiv (i:Int) 2=((i / 2:Nat):Int) from rfl]
  exact Zy (by omega)
 have hmod:Int.tmod (i:Int) 2=((i % 2:Nat):Int):=rfl
 have hw:w64 ((i:Int)+1)=((i+1:Nat):Int):=Zq hi (by omega)
 have hlt:i / 2<n.legs.length:=by omega
 have hg:getI n.legs ((i / 2:Nat):Int)=some n.legs[i / 2]:=by rw [Zi]; exact List.getElem?_eq_getElem hlt
 obtain ⟨n1,n2⟩:=Zpw hlt
 unfold ZaL
 simp only [hw2,hdiv,hmod,hw,hg,Option.bind_some]
 rw [decide_eq_true (show (i:Int)<2*(n.legs.length:Int) by omega),cond_true]
 rcases Nat.mod_two_eq_zero_or_one i with hm | hm
 ·rw [hm,decide_eq_false (show ¬ ((0:Nat):Int)=1 by omega),cond_false]
  have hp':p=n.legs[i / 2].from_:=by
   rw [show i=2*(i / 2) by omega,n1] at hp
   exact (Option.some.inj hp).symm
  rw [← hp']
  rw [twL ho (body:=Zet n ((i:Int),out) n.legs[i / 2]) (p:=p) (fun j=>by rw [hp']; rfl)]
  exact ZnG ho
 ·rw [hm,decide_eq_true (show ((1:Nat):Int)=1 by omega),cond_true]
  have hp':p=n.legs[i / 2].to_:=by
   rw [show i=2*(i / 2)+1 by omega] at hp
   rw [n2] at hp
   exact (Option.some.inj hp).symm
  rw [← hp']
  rw [twL ho (body:=Zes n ((i:Int),out) n.legs[i / 2]) (p:=p) (fun j=>by rw [hp']; rfl)]
  exact ZnG ho
theorem ZiX {n:YNetwork} (h:n.legs.length≤1048576):ZW n=some (ZbW n):=by
 have key:∀ (ps:List ByteArray) (i N:Nat) (out:List ByteArray),(Zdo n).drop i=ps→i≤(Zdo n).length→ps.length<N→out.length≤i→Zc (ZaL n) N ((i:Int),out)=some (ps.foldl insS out):=by
  have hnl:=ZgY n
  intro ps
  induction ps with
  | nil=>
   intro i N out hd hi hN ho
   cases N with
   | zero=>omega
   | succ N=>
    have:i=(Zdo n).length:=by have:=congrArg List.length hd; simp at this; omega
    subst this
    have hw2:w64 (2*(n.legs.length:Int))=2*n.legs.length:=Zy (by omega)
    simp only [Zc,ZaL,hw2]
    rw [decide_eq_false (by rw [hnl]; omega)]
    rfl
  | cons p ps ih=>
   intro i N out hd hi hN ho
   cases N with
   | zero=>simp at hN
   | succ N=>
    have hp:(Zdo n)[i]?=some p:=by
     have:=congrArg (fun l=>l[0]?) hd
     simpa using this
    have hlt:=(List.getElem?_eq_some_iff.1 hp).1
    have hd':(Zdo n).drop (i+1)=ps:=by
     have:=congrArg (List.drop 1) hd
     simpa [List.drop_drop] using this
    simp only [Zc,Zoj h hp (show out.length≤4194304 by omega)]
    exact ih (i+1) N (insS out p) hd' hlt (by simp at hN; omega) (by have:=ZjW (p:=p) (xs:=out); omega)
 have hnl:=ZgY n
 unfold ZW
 rw [show ((0:Int))=((0:Nat):Int) from rfl,key (Zdo n) 0 NN [] rfl (Nat.zero_le _) (by unfold NN; omega) (by simp)]
 rfl
theorem Zf3 {n:YNetwork} (h:Zax n):ZV n=ZW n∧ZW n=some (ZbW n):=⟨(Zis h).trans (ZiX h.legs).symm,ZiX h.legs⟩
theorem ZfK (n:YNetwork):(ZbW n).length≤2*n.legs.length:=by
 have:=ZkQ (l:=Zdo n) (acc:=[])
 rw [ZgY] at this
 simpa [ZbW] using this
def ZdR (w:Zf) (o:Zr):Option Bool:=
 cond (decide (0<o.gone))
 ((getI o.way (w64 (o.gone-1))).bind fun y1=>
 (Za8 w.network y1).bind fun y2=>
 cond (decide (w.now<y2))
 (some false)
 ((getI w.network.legs y1.leg).bind fun y3=>
 cond (decide (o.state=1))
 (cond (decide (o.place=y3.to_))
 (cond (!decide (y3.to_=o.to_))
 (cond (decide (o.ended=0))
 (cond (decide (o.gone=(o.way.length:Int)))
 (some true)
 ((getI o.way o.gone).bind fun y4=>
 (Zaa w.network y4).bind fun y5=>
 some (decide (w.now<y5))))
 (some false))
 (some false))
 (some false))
 (cond (decide (o.state=2))
 (cond (decide (o.place=⟨#[]⟩))
 (cond (decide (o.ended=0))
 (cond (decide (o.gone<(o.way.length:Int)))
 ((getI o.way o.gone).bind fun y6=>
 (Zaa w.network y6).bind fun y7=>
 cond (decide (y7≤w.now))
 ((getI o.way o.gone).bind fun y8=>
 (Za8 w.network y8).bind fun y9=>
 some (decide (w.now<y9)))
 (some false))
 (some false))
 (some false))
 (some false))
 (cond (decide (o.state=3))
 (cond (decide (o.gone=(o.way.length:Int)))
 (cond (decide (0<o.gone))
 (cond (decide (o.place=o.to_))
 (cond (decide (y3.to_=o.to_))
 ((getI o.way (w64 (o.gone-1))).bind fun y10=>
 (Za8 w.network y10).bind fun y11=>
 some (decide (o.ended=y11)))
 (some false))
 (some false))
 (some false))
 (some false))
 (some false)))))
 (cond (decide (o.state=1))
 (cond (decide (o.place=o.from_))
 (cond (!decide (o.from_=o.to_))
 (cond (decide (o.ended=0))
 (cond (decide (o.gone=(o.way.length:Int)))
 (some true)
 ((getI o.way o.gone).bind fun y12=>
 (Zaa w.network y12).bind fun y13=>
 some (decide (w.now<y13))))
 (some false))
 (some false))
 (some false))
 (cond (decide (o.state=2))
 (cond (decide (o.place=⟨#[]⟩))
 (cond (decide (o.ended=0))
 (cond (decide (o.gone<(o.way.length:Int)))
 ((getI o.way o.gone).bind fun y14=>
 (Zaa w.network y14).bind fun y15=>
 cond (decide (y15≤w.now))
 ((getI o.way o.gone).bind fun y16=>
 (Za8 w.network y16).bind fun y17=>
 some (decide (w.now<y17)))
 (some false))
 (some false))
 (some false))
 (some false))
 (cond (decide (o.state=3))
 (cond (decide (o.gone=(o.way.length:Int)))
 (cond (decide (0<o.gone))
 (cond (decide (o.place=o.to_))
 (cond (decide (o.from_=o.to_))
 ((getI o.way (w64 (o.gone-1))).bind fun y18=>
 (Za8 w.network y18).bind fun y19=>
 some (decide (o.ended=y19)))
 (some false))
 (some false))
 (some false))
 (some false))
 (some false))))
instance (w:Zf) (o:Zr):CT Tryz.prog (ZdR w o):=⟨165,[.ag (ZeG w),.ag (Zz o)],[],fun r=>vb r,fun r=>[],fun H=>by replace H:=H0 H; unfold ZdR at H; exact Za Tryz.func165 rfl Tryz.ntmps165 Tryz.results165 fun Q hQ hQn=>wk3⟩
end Go.Proofs.YtkcnllbmpbhndaaGreat
