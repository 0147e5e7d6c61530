/- A part of the proof of the statement in the last file of this claim: texts on the language of the program and on its functions. No condition. -/
import Derived.Test.YtmcdjilbkmhfoaaGreatCShutTrip9
import Derived.Test.YtmcdjilbkmhfoaaGreatCShutTrip12
namespace Go.Proofs.YtmcdjilbkmhfoaaGreat
set_option maxRecDepth 10000
open Go.RowKit
set_option linter.unusedVariables false
set_option linter.unusedSimpArgs false
set_option maxHeartbeats 4000000 in
set_option maxRecDepth 100000 in
theorem FnExactShutTrip_walk (x:YWorld) (t:YTrip) (ok:okWorld x) {n0 n1 n3 n4 n5 n7 n8:Value} (w:World) (hR:ZcT w (AllS w) x n0 n1 n3 n4 n5 n7 n8):
 Calls Tryz.prog 7 #[.agg #[n0,n1,.int .i64 x.network.change,n3,n4,n5,.int .i64 x.now,n7,n8,.int .i64 x.made],.agg #[.int .i64 t.leg,.int .i64 t.day]] w fun e w'=>e=.returned (.bool true)∧Up w w':=by
 rcases Zqh ok with hy | ⟨y,hy,hy0,ht⟩
 ·go_enter Tryz.func7,Tryz.ntmps7
  go_wp2_with fail
  generalize hwb:World.alloc (World.alloc w _) _=wb
  have hub:Up w wb:=by rw [← hwb]; (repeat (first | exact Up.rfl' _ | (refine Up.al _ ?_) | (refine Up.dr _ ?_) | (refine Up.dr1 ?_) | (refine Up.sc ?_ (by first | exact Nat.le_refl _ | (simp; done) | omega) _) | (refine Up.step (by assumption) ?_)))
  refine (Zkd hy (hR.up hub)).mono ?_
  rintro e w0 ⟨rfl,hb0⟩
  go_wp2_with fail
  go_ret
  exact ⟨rfl,Up.step hb0 hub⟩
 obtain ⟨g,b,hgi,hgs,hgq,hgm⟩:=ZxJ ht t
 go_enter Tryz.func7,Tryz.ntmps7
 go_wp2_with fail
 generalize hwb:World.alloc (World.alloc w _) _=wb
 have hub:Up w wb:=by rw [← hwb]; (repeat (first | exact Up.rfl' _ | (refine Up.al _ ?_) | (refine Up.dr _ ?_) | (refine Up.dr1 ?_) | (refine Up.sc ?_ (by first | exact Nat.le_refl _ | (simp; done) | omega) _) | (refine Up.step (by assumption) ?_)))
 have hbs:wb.heap.size=w.heap.size+2:=by rw [← hwb]; simp
 have A0:wb.cell? ⟨w.heap.size,0,none⟩=some (n0):=by rw [← hwb,cell_of_row _ _ _ _ _ _ ((heap_alloc_old _ _ (by simp)).trans (heap_alloc_new w _))]; rfl
 have A1:wb.cell? ⟨w.heap.size,1,none⟩=some (n1):=by rw [← hwb,cell_of_row _ _ _ _ _ _ ((heap_alloc_old _ _ (by simp)).trans (heap_alloc_new w _))]; rfl
 have A2:wb.cell? ⟨w.heap.size,2,none⟩=some (.int .i64 x.network.change):=by rw [← hwb,cell_of_row _ _ _ _ _ _ ((heap_alloc_old _ _ (by simp)).trans (heap_alloc_new w _))]; rfl
 have A3:wb.cell? ⟨w.heap.size,3,none⟩=some (n3):=by rw [← hwb,cell_of_row _ _ _ _ _ _ ((heap_alloc_old _ _ (by simp)).trans (heap_alloc_new w _))]; rfl
 have A4:wb.cell? ⟨w.heap.size,4,none⟩=some (n4):=by rw [← hwb,cell_of_row _ _ _ _ _ _ ((heap_alloc_old _ _ (by simp)).trans (heap_alloc_new w _))]; rfl
 have A5:wb.cell? ⟨w.heap.size,5,none⟩=some (n5):=by rw [← hwb,cell_of_row _ _ _ _ _ _ ((heap_alloc_old _ _ (by simp)).trans (heap_alloc_new w _))]; rfl
 have A6:wb.cell? ⟨w.heap.size,6,none⟩=some (.int .i64 x.now):=by rw [← hwb,cell_of_row _ _ _ _ _ _ ((heap_alloc_old _ _ (by simp)).trans (heap_alloc_new w _))]; rfl
 have A7:wb.cell? ⟨w.heap.size,7,none⟩=some (n7):=by rw [← hwb,cell_of_row _ _ _ _ _ _ ((heap_alloc_old _ _ (by simp)).trans (heap_alloc_new w _))]; rfl
 have A8:wb.cell? ⟨w.heap.size,8,none⟩=some (n8):=by rw [← hwb,cell_of_row _ _ _ _ _ _ ((heap_alloc_old _ _ (by simp)).trans (heap_alloc_new w _))]; rfl
 have A9:wb.cell? ⟨w.heap.size,9,none⟩=some (.int .i64 x.made):=by rw [← hwb,cell_of_row _ _ _ _ _ _ ((heap_alloc_old _ _ (by simp)).trans (heap_alloc_new w _))]; rfl
 have C0:wb.cell? ⟨w.heap.size+1,0,none⟩=some (.int .i64 t.leg):=by rw [← hwb,cell_of_row _ _ _ _ _ _ (Zc4 (by simp) _)]; rfl
 have C1:wb.cell? ⟨w.heap.size+1,1,none⟩=some (.int .i64 t.day):=by rw [← hwb,cell_of_row _ _ _ _ _ _ (Zc4 (by simp) _)]; rfl
 have hnl:w.heap.size<wb.heap.size:=by omega
 have HR:=hR.up hub
 clear hwb
 refine (Zkd hy HR).mono ?_
 rintro e w0 ⟨rfl,hV0⟩
 have sV0:wb.heap.size≤w0.heap.size:=hV0.size
 have hW0:Up w w0:=Up.step hV0 hub
 have a0_0:w0.cell? ⟨w.heap.size,0,none⟩=some (n0):=(hV0.cell (p:=⟨w.heap.size,0,none⟩) hnl).trans A0
 have a0_1:w0.cell? ⟨w.heap.size,1,none⟩=some (n1):=(hV0.cell (p:=⟨w.heap.size,1,none⟩) hnl).trans A1
 have a0_2:w0.cell? ⟨w.heap.size,2,none⟩=some (.int .i64 x.network.change):=(hV0.cell (p:=⟨w.heap.size,2,none⟩) hnl).trans A2
 have a0_3:w0.cell? ⟨w.heap.size,3,none⟩=some (n3):=(hV0.cell (p:=⟨w.heap.size,3,none⟩) hnl).trans A3
 have a0_4:w0.cell? ⟨w.heap.size,4,none⟩=some (n4):=(hV0.cell (p:=⟨w.heap.size,4,none⟩) hnl).trans A4
 have a0_5:w0.cell? ⟨w.heap.size,5,none⟩=some (n5):=(hV0.cell (p:=⟨w.heap.size,5,none⟩) hnl).trans A5
 have a0_6:w0.cell? ⟨w.heap.size,6,none⟩=some (.int .i64 x.now):=(hV0.cell (p:=⟨w.heap.size,6,none⟩) hnl).trans A6
 have a0_7:w0.cell? ⟨w.heap.size,7,none⟩=some (n7):=(hV0.cell (p:=⟨w.heap.size,7,none⟩) hnl).trans A7
 have a0_8:w0.cell? ⟨w.heap.size,8,none⟩=some (n8):=(hV0.cell (p:=⟨w.heap.size,8,none⟩) hnl).trans A8
 have a0_9:w0.cell? ⟨w.heap.size,9,none⟩=some (.int .i64 x.made):=(hV0.cell (p:=⟨w.heap.size,9,none⟩) hnl).trans A9
 have t0_0:w0.cell? ⟨w.heap.size+1,0,none⟩=some (.int .i64 t.leg):=ZaA hV0 C0
 have t0_1:w0.cell? ⟨w.heap.size+1,1,none⟩=some (.int .i64 t.day):=ZaA hV0 C1
 have keep0:∀ w',Up w0 w'→(w'.cell? ⟨w.heap.size,0,none⟩=some (n0)∧w'.cell? ⟨w.heap.size,1,none⟩=some (n1)∧w'.cell? ⟨w.heap.size,2,none⟩=some (.int .i64 x.network.change)∧w'.cell? ⟨w.heap.size,3,none⟩=some (n3)∧w'.cell? ⟨w.heap.size,4,none⟩=some (n4)∧w'.cell? ⟨w.heap.size,5,none⟩=some (n5)∧w'.cell? ⟨w.heap.size,6,none⟩=some (.int .i64 x.now)∧w'.cell? ⟨w.heap.size,7,none⟩=some (n7)∧w'.cell? ⟨w.heap.size,8,none⟩=some (n8)∧w'.cell? ⟨w.heap.size,9,none⟩=some (.int .i64 x.made)∧w'.cell? ⟨w.heap.size+1,0,none⟩=some (.int .i64 t.leg)∧w'.cell? ⟨w.heap.size+1,1,none⟩=some (.int .i64 t.day)):=fun w' hu=>⟨ZaA hu a0_0,ZaA hu a0_1,ZaA hu a0_2,ZaA hu a0_3,ZaA hu a0_4,ZaA hu a0_5,ZaA hu a0_6,ZaA hu a0_7,ZaA hu a0_8,ZaA hu a0_9,ZaA hu t0_0,ZaA hu t0_1⟩
 go_upto_region 5 with (fail)
 go_cut [6,7] from 21 to 28 (fun s6 s7 wx=>∃ (zb:Nat),∃ (S0:Option Addr) (s0_:Nat) (S1:Option Addr) (s1_:Nat) (S3:Option Addr) (s3_:Nat) (S4:Option Addr) (s4_:Nat) (S5:Option Addr) (s5_:Nat) (S7:Option Addr) (s7_:Nat) (S8:Option Addr) (s8_:Nat) ,s6=.pointer (some ⟨zb,0,none⟩)∧s7=.bool b∧Up wb wx∧wb.heap.size≤zb∧C10 wx zb (.slice S0 g.network.legs.length s0_) (.slice S1 g.network.off.length s1_) (.int .i64 g.network.change) (.slice S3 g.orders.length s3_) (.slice S4 g.bookings.length s4_) (.slice S5 g.closed.length s5_) (.int .i64 g.now) (.slice S7 g.scans.length s7_) (.slice S8 g.skip.length s8_) (.int .i64 g.made)∧ZcT wx (AllS wx) g (.slice S0 g.network.legs.length s0_) (.slice S1 g.network.off.length s1_) (.slice S3 g.orders.length s3_) (.slice S4 g.bookings.length s4_) (.slice S5 g.closed.length s5_) (.slice S7 g.scans.length s7_) (.slice S8 g.skip.length s8_))
 case first=>
  go_region_held3 (fun w'=>w'.cell? ⟨w.heap.size,0,none⟩=some (n0)∧w'.cell? ⟨w.heap.size,1,none⟩=some (n1)∧w'.cell? ⟨w.heap.size,2,none⟩=some (.int .i64 x.network.change)∧w'.cell? ⟨w.heap.size,3,none⟩=some (n3)∧w'.cell? ⟨w.heap.size,4,none⟩=some (n4)∧w'.cell? ⟨w.heap.size,5,none⟩=some (n5)∧w'.cell? ⟨w.heap.size,6,none⟩=some (.int .i64 x.now)∧w'.cell? ⟨w.heap.size,7,none⟩=some (n7)∧w'.cell? ⟨w.heap.size,8,none⟩=some (n8)∧w'.cell? ⟨w.heap.size,9,none⟩=some (.int .i64 x.made)∧w'.cell? ⟨w.heap.size+1,0,none⟩=some (.int .i64 t.leg)∧w'.cell? ⟨w.heap.size+1,1,none⟩=some (.int .i64 t.day))
   (first | ((with_reducible show World.cell? (World.setCell _ _ _) _=_∧_); exact keep0 _ (Up.wr (Wr.ten hz_ _ _ _ _ _ _ _ _ _ _) (show Up w0 w2 by (repeat (first | exact Up.rfl' _ | (refine Up.al _ ?_) | (refine Up.dr _ ?_) | (refine Up.dr1 ?_) | (refine Up.sc ?_ (by first | exact Nat.le_refl _ | (simp; done) | omega) _) | (refine Up.step (by assumption) ?_)))) (by first | omega | (simp only [Zxx,Zxy]; omega) | (simp only [Zxx,Zxy,Nat.le_refl])))) | exact keep0 _ (by (repeat (first | exact Up.rfl' _ | (refine Up.al _ ?_) | (refine Up.dr _ ?_) | (refine Up.dr1 ?_) | (refine Up.sc ?_ (by first | exact Nat.le_refl _ | (simp; done) | omega) _) | (refine Up.step (by assumption) ?_)))) | go_keep)
   (first
    | (go_at_call 17; refine (ZxH x ht hR (Up.step (by (repeat (first | exact Up.rfl' _ | (refine Up.al _ ?_) | (refine Up.dr _ ?_) | (refine Up.dr1 ?_) | (refine Up.sc ?_ (by first | exact Nat.le_refl _ | (simp; done) | omega) _) | (refine Up.step (by assumption) ?_)))) hW0)).mono ?_; rintro e w1 ⟨p0,p1,p3,p4,p5,p7,p8,rfl,hb1,hp1⟩; have s1_:w0.heap.size≤w1.heap.size:=(show Up w0 w1 by (repeat (first | exact Up.rfl' _ | (refine Up.al _ ?_) | (refine Up.dr _ ?_) | (refine Up.dr1 ?_) | (refine Up.sc ?_ (by first | exact Nat.le_refl _ | (simp; done) | omega) _) | (refine Up.step (by assumption) ?_)))).size; (first | have hz_:=Z10.new hb1 | have hz_:=Z10.newd hb1 | have hz_:=Z10.up hz_ hb1 | skip))
    | (go_at_call 42; refine (ZxA t _).mono ?_; rintro e wt ⟨rfl,hbt⟩; have st_:w0.heap.size≤wt.heap.size:=(show Up w0 wt by (repeat (first | exact Up.rfl' _ | (refine Up.al _ ?_) | (refine Up.dr _ ?_) | (refine Up.dr1 ?_) | (refine Up.sc ?_ (by first | exact Nat.le_refl _ | (simp; done) | omega) _) | (refine Up.step (by assumption) ?_)))).size; (first | have hz_:=Z10.new hbt | have hz_:=Z10.newd hbt | have hz_:=Z10.up hz_ hbt | skip))
    | (go_at_call 41; refine (CallM.worldR1N (CT.ok hgs) (hp1.up (by (repeat (first | exact Up.rfl' _ | (refine Up.al _ ?_) | (refine Up.dr _ ?_) | (refine Up.dr1 ?_) | (refine Up.sc ?_ (by first | exact Nat.le_refl _ | (simp; done) | omega) _) | (refine Up.step (by assumption) ?_))))).lt rfl (arg2 (hp1.up (by (repeat (first | exact Up.rfl' _ | (refine Up.al _ ?_) | (refine Up.dr _ ?_) | (refine Up.dr1 ?_) | (refine Up.sc ?_ (by first | exact Nat.le_refl _ | (simp; done) | omega) _) | (refine Up.step (by assumption) ?_))))).r.rep ZxB)).mono ?_; rintro e w2 ⟨S0,s0_,S1,s1_,S3,s3_,S4,s4_,S5,s5_,S7,s7_,S8,s8_,rfl,hb2,hs2⟩; have s2_:w0.heap.size≤w2.heap.size:=(show Up w0 w2 by (repeat (first | exact Up.rfl' _ | (refine Up.al _ ?_) | (refine Up.dr _ ?_) | (refine Up.dr1 ?_) | (refine Up.sc ?_ (by first | exact Nat.le_refl _ | (simp; done) | omega) _) | (refine Up.step (by assumption) ?_)))).size; (first | have hz_:=Z10.new hb2 | have hz_:=Z10.newd hb2 | have hz_:=Z10.up hz_ hb2 | skip); (try (obtain ⟨z0_,z1_,z2_,z3_,z4_,z5_,z6_,z7_,z8_,z9_⟩:=hz_.cells; have f0_:=hz_.frz 0; have f1_:=hz_.frz 1; have f2_:=hz_.frz 2; have f3_:=hz_.frz 3; have f4_:=hz_.frz 4; have f5_:=hz_.frz 5; have f6_:=hz_.frz 6; have f7_:=hz_.frz 7; have f8_:=hz_.frz 8; have f9_:=hz_.frz 9))))
  all_goals
   go_wp2_with fail
   go_meet
   clear hW0
   have r1_:=hb1.size
   have rt_:=hbt.size
   have r2_:=hb2.size
   simp only [Zxx,Zxy] at r1_ rt_ r2_
   refine ⟨_,S0,s0_,S1,s1_,S3,s3_,S4,s4_,S5,s5_,S7,s7_,S8,s8_,rfl,rfl,?_,?_,?_⟩
   ·first
     | ((with_reducible refine Up.wr (Wr.ten hz_ _ _ _ _ _ _ _ _ _ _) ?_ ?_); (show Up wb w2; (repeat (first | exact Up.rfl' _ | (refine Up.al _ ?_) | (refine Up.dr _ ?_) | (refine Up.dr1 ?_) | (refine Up.step (by assumption) ?_)))); first | omega | (simp only [Zxx,Zxy,Nat.le_refl]))
     | (repeat (first | exact Up.rfl' _ | (refine Up.al _ ?_) | (refine Up.dr _ ?_) | (refine Up.dr1 ?_) | (refine Up.step (by assumption) ?_)))
   ·first | omega | (simp only [Zxx,Zxy]; omega)
   ·first
     | with_reducible exact ZxK _ hs2 _ _ _
     | ((with_reducible refine ZxL (Wr.ten hz_ _ _ _ _ _ _ _ _ _ _) hz_.lt hs2 ?_); intro i hi; simp only [NewS,AllS,Zxx,Zxy] at hi ⊢; omega)
 case rest=>
 obtain ⟨zb,S0,s0_,S1,s1_,S3,s3_,S4,s4_,S5,s5_,S7,s7_,S8,s8_,rfl,rfl,hVz,hzb,hzc,hsz⟩:=hcut
 obtain ⟨wz,hwq_⟩:∃ q,q=wc:=⟨_,rfl⟩
 subst hwq_
 clear keep0 t0_0 t0_1
 clear a0_0 a0_1 a0_2 a0_3 a0_4 a0_5 a0_6 a0_7 a0_8 a0_9
 have Z0:wz.cell? ⟨zb,0,none⟩=some (.slice S0 g.network.legs.length s0_):=hzc.c0
 have Z1:wz.cell? ⟨zb,1,none⟩=some (.slice S1 g.network.off.length s1_):=hzc.c1
 have Z2:wz.cell? ⟨zb,2,none⟩=some (.int .i64 g.network.change):=hzc.c2
 have Z3:wz.cell? ⟨zb,3,none⟩=some (.slice S3 g.orders.length s3_):=hzc.c3
 have Z4:wz.cell? ⟨zb,4,none⟩=some (.slice S4 g.bookings.length s4_):=hzc.c4
 have Z5:wz.cell? ⟨zb,5,none⟩=some (.slice S5 g.closed.length s5_):=hzc.c5
 have Z6:wz.cell? ⟨zb,6,none⟩=some (.int .i64 g.now):=hzc.c6
 have Z7:wz.cell? ⟨zb,7,none⟩=some (.slice S7 g.scans.length s7_):=hzc.c7
 have Z8:wz.cell? ⟨zb,8,none⟩=some (.slice S8 g.skip.length s8_):=hzc.c8
 have Z9:wz.cell? ⟨zb,9,none⟩=some (.int .i64 g.made):=hzc.c9
 have hnz:zb<wz.heap.size:=hzc.lt
 clear hzc
 have az_0:wz.cell? ⟨w.heap.size,0,none⟩=some (n0):=(hVz.cell (p:=⟨w.heap.size,0,none⟩) hnl).trans A0
 have az_1:wz.cell? ⟨w.heap.size,1,none⟩=some (n1):=(hVz.cell (p:=⟨w.heap.size,1,none⟩) hnl).trans A1
 have az_2:wz.cell? ⟨w.heap.size,2,none⟩=some (.int .i64 x.network.change):=(hVz.cell (p:=⟨w.heap.size,2,none⟩) hnl).trans A2
 have az_3:wz.cell? ⟨w.heap.size,3,none⟩=some (n3):=(hVz.cell (p:=⟨w.heap.size,3,none⟩) hnl).trans A3
 have az_4:wz.cell? ⟨w.heap.size,4,none⟩=some (n4):=(hVz.cell (p:=⟨w.heap.size,4,none⟩) hnl).trans A4
 have az_5:wz.cell? ⟨w.heap.size,5,none⟩=some (n5):=(hVz.cell (p:=⟨w.heap.size,5,none⟩) hnl).trans A5
 have az_6:wz.cell? ⟨w.heap.size,6,none⟩=some (.int .i64 x.now):=(hVz.cell (p:=⟨w.heap.size,6,none⟩) hnl).trans A6
 have az_7:wz.cell? ⟨w.heap.size,7,none⟩=some (n7):=(hVz.cell (p:=⟨w.heap.size,7,none⟩) hnl).trans A7
 have az_8:wz.cell? ⟨w.heap.size,8,none⟩=some (n8):=(hVz.cell (p:=⟨w.heap.size,8,none⟩) hnl).trans A8
 have az_9:wz.cell? ⟨w.heap.size,9,none⟩=some (.int .i64 x.made):=(hVz.cell (p:=⟨w.heap.size,9,none⟩) hnl).trans A9
 go_wp2_with fail
 refine (Zgp x ht (HR.up hVz)).mono ?_
 rintro e w3 ⟨q0,q1,q3,q4,q5,q7,q8,rfl,hb3,hs3,hq3⟩
 have hV3:=Up.step hb3 hVz
 clear az_0 az_1 az_2 az_3 az_4 az_5 az_6 az_7 az_8 az_9
 obtain ⟨X0,x0_,e0⟩:=Zs hq3.r0
 obtain ⟨X1,x1_,e1⟩:=Zs hq3.r1
 obtain ⟨X3,x3_,e3⟩:=Zs hq3.r3
 obtain ⟨X4,x4_,e4⟩:=Zs hq3.r4
 obtain ⟨X5,x5_,e5⟩:=Zs hq3.r5
 obtain ⟨X7,x7_,e7⟩:=Zs hq3.r7
 obtain ⟨X8,x8_,e8⟩:=Zs hq3.r8
 rw [List.length_map] at e0 e1 e3 e4 e5 e7 e8
 subst e0 e1 e3 e4 e5 e7 e8
 go_upto_region 7 with (fail)
 generalize hwx:World.alloc w3 _=wx
 have hbx:Up w3 wx:=by rw [← hwx]; (repeat (first | exact Up.rfl' _ | (refine Up.al _ ?_) | (refine Up.dr _ ?_) | (refine Up.dr1 ?_) | (refine Up.sc ?_ (by first | exact Nat.le_refl _ | (simp; done) | omega) _) | (refine Up.step (by assumption) ?_)))
 have hxs:wx.heap.size=w3.heap.size+1:=by rw [← hwx]; simp
 have B0:wx.cell? ⟨w3.heap.size,0,none⟩=some (.slice X0 x.network.legs.length x0_):=by rw [← hwx,cell_of_row _ _ _ _ _ _ (heap_alloc_new w3 _)]; rfl
 have B1:wx.cell? ⟨w3.heap.size,1,none⟩=some (.slice X1 x.network.off.length x1_):=by rw [← hwx,cell_of_row _ _ _ _ _ _ (heap_alloc_new w3 _)]; rfl
 have B2:wx.cell? ⟨w3.heap.size,2,none⟩=some (.int .i64 x.network.change):=by rw [← hwx,cell_of_row _ _ _ _ _ _ (heap_alloc_new w3 _)]; rfl
 have B3:wx.cell? ⟨w3.heap.size,3,none⟩=some (.slice X3 x.orders.length x3_):=by rw [← hwx,cell_of_row _ _ _ _ _ _ (heap_alloc_new w3 _)]; rfl
 have B4:wx.cell? ⟨w3.heap.size,4,none⟩=some (.slice X4 x.bookings.length x4_):=by rw [← hwx,cell_of_row _ _ _ _ _ _ (heap_alloc_new w3 _)]; rfl
 have B5:wx.cell? ⟨w3.heap.size,5,none⟩=some (.slice X5 x.closed.length x5_):=by rw [← hwx,cell_of_row _ _ _ _ _ _ (heap_alloc_new w3 _)]; rfl
 have B6:wx.cell? ⟨w3.heap.size,6,none⟩=some (.int .i64 x.now):=by rw [← hwx,cell_of_row _ _ _ _ _ _ (heap_alloc_new w3 _)]; rfl
 have B7:wx.cell? ⟨w3.heap.size,7,none⟩=some (.slice X7 x.scans.length x7_):=by rw [← hwx,cell_of_row _ _ _ _ _ _ (heap_alloc_new w3 _)]; rfl
 have B8:wx.cell? ⟨w3.heap.size,8,none⟩=some (.slice X8 x.skip.length x8_):=by rw [← hwx,cell_of_row _ _ _ _ _ _ (heap_alloc_new w3 _)]; rfl
 have B9:wx.cell? ⟨w3.heap.size,9,none⟩=some (.int .i64 x.made):=by rw [← hwx,cell_of_row _ _ _ _ _ _ (heap_alloc_new w3 _)]; rfl
 clear hwx
 have hVx:=Up.step hbx hV3
 have hqx:=hq3.up hbx
 have hnx:w3.heap.size<wx.heap.size:=by omega
 clear hxs
 have tx_0:wx.cell? ⟨w.heap.size+1,0,none⟩=some (.int .i64 t.leg):=ZaA hVx C0
 have tx_1:wx.cell? ⟨w.heap.size+1,1,none⟩=some (.int .i64 t.day):=ZaA hVx C1
 have keepx:∀ w',Up wx w'→(w'.cell? ⟨w3.heap.size,0,none⟩=some (.slice X0 x.network.legs.length x0_)∧w'.cell? ⟨w3.heap.size,1,none⟩=some (.slice X1 x.network.off.length x1_)∧w'.cell? ⟨w3.heap.size,2,none⟩=some (.int .i64 x.network.change)∧w'.cell? ⟨w3.heap.size,3,none⟩=some (.slice X3 x.orders.length x3_)∧w'.cell? ⟨w3.heap.size,4,none⟩=some (.slice X4 x.bookings.length x4_)∧w'.cell? ⟨w3.heap.size,5,none⟩=some (.slice X5 x.closed.length x5_)∧w'.cell? ⟨w3.heap.size,6,none⟩=some (.int .i64 x.now)∧w'.cell? ⟨w3.heap.size,7,none⟩=some (.slice X7 x.scans.length x7_)∧w'.cell? ⟨w3.heap.size,8,none⟩=some (.slice X8 x.skip.length x8_)∧w'.cell? ⟨w3.heap.size,9,none⟩=some (.int .i64 x.made)∧w'.cell? ⟨w.heap.size+1,0,none⟩=some (.int .i64 t.leg)∧w'.cell? ⟨w.heap.size+1,1,none⟩=some (.int .i64 t.day)):=fun w' hu=>⟨ZaA hu B0,ZaA hu B1,ZaA hu B2,ZaA hu B3,ZaA hu B4,ZaA hu B5,ZaA hu B6,ZaA hu B7,ZaA hu B8,ZaA hu B9,ZaA hu tx_0,ZaA hu tx_1⟩
 go_cut [9,10] from 31 to 37 (fun s9 s10 wy=>∃ (gb:Nat) (us:Nat→Value) (W:Nat→Blk) (G0 G1 G3 G4 G5 G7 G8:Blk),∃ (Y0:Option Addr) (y0_:Nat) (Y1:Option Addr) (y1_:Nat) (Y3:Option Addr) (y3_:Nat) (Y4:Option Addr) (y4_:Nat) (Y5:Option Addr) (y5_:Nat) (Y7:Option Addr) (y7_:Nat) (Y8:Option Addr) (y8_:Nat) ,s9=.pointer (some ⟨gb,0,none⟩)∧s10=.bool b∧Up wx wy∧wx.heap.size≤gb∧C10 wy gb (.slice Y0 g.network.legs.length y0_) (.slice Y1 g.network.off.length y1_) (.int .i64 g.network.change) (.slice Y3 g.orders.length y3_) (.slice Y4 g.bookings.length y4_) (.slice Y5 g.closed.length y5_) (.int .i64 g.now) (.slice Y7 g.scans.length y7_) (.slice Y8 g.skip.length y8_) (.int .i64 g.made)∧OwnV wx wy g us W G0 G1 G3 G4 G5 G7 G8 (.slice Y0 g.network.legs.length y0_) (.slice Y1 g.network.off.length y1_) (.slice Y3 g.orders.length y3_) (.slice Y4 g.bookings.length y4_) (.slice Y5 g.closed.length y5_) (.slice Y7 g.scans.length y7_) (.slice Y8 g.skip.length y8_)∧¬ GB g.orders W G0 G1 G3 G4 G5 G7 G8 gb)
 case first=>
  go_region_held3 (fun w'=>w'.cell? ⟨w3.heap.size,0,none⟩=some (.slice X0 x.network.legs.length x0_)∧w'.cell? ⟨w3.heap.size,1,none⟩=some (.slice X1 x.network.off.length x1_)∧w'.cell? ⟨w3.heap.size,2,none⟩=some (.int .i64 x.network.change)∧w'.cell? ⟨w3.heap.size,3,none⟩=some (.slice X3 x.orders.length x3_)∧w'.cell? ⟨w3.heap.size,4,none⟩=some (.slice X4 x.bookings.length x4_)∧w'.cell? ⟨w3.heap.size,5,none⟩=some (.slice X5 x.closed.length x5_)∧w'.cell? ⟨w3.heap.size,6,none⟩=some (.int .i64 x.now)∧w'.cell? ⟨w3.heap.size,7,none⟩=some (.slice X7 x.scans.length x7_)∧w'.cell? ⟨w3.heap.size,8,none⟩=some (.slice X8 x.skip.length x8_)∧w'.cell? ⟨w3.heap.size,9,none⟩=some (.int .i64 x.made)∧w'.cell? ⟨w.heap.size+1,0,none⟩=some (.int .i64 t.leg)∧w'.cell? ⟨w.heap.size+1,1,none⟩=some (.int .i64 t.day))
   (first | ((with_reducible show World.cell? (World.setCell _ _ _) _=_∧_); exact keepx _ (Up.wr (Wr.ten hz_ _ _ _ _ _ _ _ _ _ _) (show Up wx w4 by (repeat (first | exact Up.rfl' _ | (refine Up.al _ ?_) | (refine Up.dr _ ?_) | (refine Up.dr1 ?_) | (refine Up.sc ?_ (by first | exact Nat.le_refl _ | (simp; done) | omega) _) | (refine Up.step (by assumption) ?_)))) (by first | omega | (simp only [Zxx,Zxy]; omega) | (simp only [Zxx,Zxy,Nat.le_refl])))) | exact keepx _ (by (repeat (first | exact Up.rfl' _ | (refine Up.al _ ?_) | (refine Up.dr _ ?_) | (refine Up.dr1 ?_) | (refine Up.sc ?_ (by first | exact Nat.le_refl _ | (simp; done) | omega) _) | (refine Up.step (by assumption) ?_)))) | go_keep)
   (first
    | (go_at_call 42; refine (ZxA t _).mono ?_; rintro e wt4 ⟨rfl,hbt⟩; have st_:wx.heap.size≤wt4.heap.size:=(show Up wx wt4 by (repeat (first | exact Up.rfl' _ | (refine Up.al _ ?_) | (refine Up.dr _ ?_) | (refine Up.dr1 ?_) | (refine Up.sc ?_ (by first | exact Nat.le_refl _ | (simp; done) | omega) _) | (refine Up.step (by assumption) ?_)))).size; (first | have hz_:=Z10.new hbt | have hz_:=Z10.newd hbt | have hz_:=Z10.up hz_ hbt | skip))
    | (go_at_call 43; refine (CallM.worldO1 (CT.ok hgi) rfl (arg2 (hqx.up (by (repeat (first | exact Up.rfl' _ | (refine Up.al _ ?_) | (refine Up.dr _ ?_) | (refine Up.dr1 ?_) | (refine Up.sc ?_ (by first | exact Nat.le_refl _ | (simp; done) | omega) _) | (refine Up.step (by assumption) ?_))))).rep ZxB)).mono ?_; rintro e w4 ⟨Y0,y0_,Y1,y1_,Y3,y3_,Y4,y4_,Y5,y5_,Y7,y7_,Y8,y8_,us,W,G0,G1,G3,G4,G5,G7,G8,rfl,hb4,ho4⟩; have s4_:wx.heap.size≤w4.heap.size:=(show Up wx w4 by (repeat (first | exact Up.rfl' _ | (refine Up.al _ ?_) | (refine Up.dr _ ?_) | (refine Up.dr1 ?_) | (refine Up.sc ?_ (by first | exact Nat.le_refl _ | (simp; done) | omega) _) | (refine Up.step (by assumption) ?_)))).size; (first | have hz_:=Z10.new hb4 | have hz_:=Z10.newd hb4 | have hz_:=Z10.up hz_ hb4 | skip); (try (obtain ⟨z0_,z1_,z2_,z3_,z4_,z5_,z6_,z7_,z8_,z9_⟩:=hz_.cells; have f0_:=hz_.frz 0; have f1_:=hz_.frz 1; have f2_:=hz_.frz 2; have f3_:=hz_.frz 3; have f4_:=hz_.frz 4; have f5_:=hz_.frz 5; have f6_:=hz_.frz 6; have f7_:=hz_.frz 7; have f8_:=hz_.frz 8; have f9_:=hz_.frz 9))))
  all_goals
   go_wp2_with fail
   go_meet
   have rt_:=hbt.size
   have r4_:=hb4.size
   simp only [Zxx,Zxy] at rt_ r4_
   refine ⟨_,us,W,G0,G1,G3,G4,G5,G7,G8,Y0,y0_,Y1,y1_,Y3,y3_,Y4,y4_,Y5,y5_,Y7,y7_,Y8,y8_,rfl,rfl,?_,?_,?_⟩
   ·first
     | ((with_reducible refine Up.wr (Wr.ten hz_ _ _ _ _ _ _ _ _ _ _) ?_ ?_); (show Up wx w4; (repeat (first | exact Up.rfl' _ | (refine Up.al _ ?_) | (refine Up.dr _ ?_) | (refine Up.dr1 ?_) | (refine Up.step (by assumption) ?_)))); first | omega | (simp only [Zxx,Zxy,Nat.le_refl]))
     | (repeat (first | exact Up.rfl' _ | (refine Up.al _ ?_) | (refine Up.dr _ ?_) | (refine Up.dr1 ?_) | (refine Up.step (by assumption) ?_)))
   ·first | omega | (simp only [Zxx,Zxy,Nat.le_refl]) | (simp only [Zxx,Zxy]; omega)
   ·first
     | ((with_reducible refine ZxE _ ho4 ?_ _ _ _); first | omega | (simp only [Zxx,Zxy]; omega) | (simp only [Zxx,Zxy,Nat.le_refl]))
     | ((with_reducible refine ZxF (Wr.ten hz_ _ _ _ _ _ _ _ _ _ _) hz_.lt ho4 ?_ (ho4.old ?_)); all_goals (first | omega | (simp only [Zxx,Zxy]; omega) | (simp only [Zxx,Zxy,Nat.le_refl])))
 case rest=>
 obtain ⟨gb,us,W,G0,G1,G3,G4,G5,G7,G8,Y0,y0_,Y1,y1_,Y3,y3_,Y4,y4_,Y5,y5_,Y7,y7_,Y8,y8_,rfl,rfl,hb4,hgb,hgc,hog,hgn⟩:=hcut
 obtain ⟨wg,hwq_⟩:∃ q,q=wc:=⟨_,rfl⟩
 subst hwq_
 clear keepx tx_0 tx_1
 have D0:wg.cell? ⟨gb,0,none⟩=some (.slice Y0 g.network.legs.length y0_):=hgc.c0
 have D1:wg.cell? ⟨gb,1,none⟩=some (.slice Y1 g.network.off.length y1_):=hgc.c1
 have D2:wg.cell? ⟨gb,2,none⟩=some (.int .i64 g.network.change):=hgc.c2
 have D3:wg.cell? ⟨gb,3,none⟩=some (.slice Y3 g.orders.length y3_):=hgc.c3
 have D4:wg.cell? ⟨gb,4,none⟩=some (.slice Y4 g.bookings.length y4_):=hgc.c4
 have D5:wg.cell? ⟨gb,5,none⟩=some (.slice Y5 g.closed.length y5_):=hgc.c5
 have D6:wg.cell? ⟨gb,6,none⟩=some (.int .i64 g.now):=hgc.c6
 have D7:wg.cell? ⟨gb,7,none⟩=some (.slice Y7 g.scans.length y7_):=hgc.c7
 have D8:wg.cell? ⟨gb,8,none⟩=some (.slice Y8 g.skip.length y8_):=hgc.c8
 have D9:wg.cell? ⟨gb,9,none⟩=some (.int .i64 g.made):=hgc.c9
 have hng:gb<wg.heap.size:=hgc.lt
 clear hgc
 have hVg:=Up.step hb4 hVx
 have hzg:Up wz wg:=Up.step hb4 (Up.step hbx hb3)
 have zg_0:wg.cell? ⟨zb,0,none⟩=some (.slice S0 g.network.legs.length s0_):=(hzg.cell (p:=⟨zb,0,none⟩) hnz).trans Z0
 have zg_1:wg.cell? ⟨zb,1,none⟩=some (.slice S1 g.network.off.length s1_):=(hzg.cell (p:=⟨zb,1,none⟩) hnz).trans Z1
 have zg_2:wg.cell? ⟨zb,2,none⟩=some (.int .i64 g.network.change):=(hzg.cell (p:=⟨zb,2,none⟩) hnz).trans Z2
 have zg_3:wg.cell? ⟨zb,3,none⟩=some (.slice S3 g.orders.length s3_):=(hzg.cell (p:=⟨zb,3,none⟩) hnz).trans Z3
 have zg_4:wg.cell? ⟨zb,4,none⟩=some (.slice S4 g.bookings.length s4_):=(hzg.cell (p:=⟨zb,4,none⟩) hnz).trans Z4
 have zg_5:wg.cell? ⟨zb,5,none⟩=some (.slice S5 g.closed.length s5_):=(hzg.cell (p:=⟨zb,5,none⟩) hnz).trans Z5
 have zg_6:wg.cell? ⟨zb,6,none⟩=some (.int .i64 g.now):=(hzg.cell (p:=⟨zb,6,none⟩) hnz).trans Z6
 have zg_7:wg.cell? ⟨zb,7,none⟩=some (.slice S7 g.scans.length s7_):=(hzg.cell (p:=⟨zb,7,none⟩) hnz).trans Z7
 have zg_8:wg.cell? ⟨zb,8,none⟩=some (.slice S8 g.skip.length s8_):=(hzg.cell (p:=⟨zb,8,none⟩) hnz).trans Z8
 have zg_9:wg.cell? ⟨zb,9,none⟩=some (.int .i64 g.made):=(hzg.cell (p:=⟨zb,9,none⟩) hnz).trans Z9
 go_wp2_with fail
 clear zg_0 zg_1 zg_2 zg_3 zg_4 zg_5 zg_6 zg_7 zg_8 zg_9
 refine (Zhp hgq hog.rep (hsz.up hzg)).mono ?_
 rintro e w5 ⟨rfl,hb5⟩
 have hV5:=Up.step hb5 hVg
 have a5_0:w5.cell? ⟨w.heap.size,0,none⟩=some (n0):=(hV5.cell (p:=⟨w.heap.size,0,none⟩) hnl).trans A0
 have a5_1:w5.cell? ⟨w.heap.size,1,none⟩=some (n1):=(hV5.cell (p:=⟨w.heap.size,1,none⟩) hnl).trans A1
 have a5_2:w5.cell? ⟨w.heap.size,2,none⟩=some (.int .i64 x.network.change):=(hV5.cell (p:=⟨w.heap.size,2,none⟩) hnl).trans A2
 have a5_3:w5.cell? ⟨w.heap.size,3,none⟩=some (n3):=(hV5.cell (p:=⟨w.heap.size,3,none⟩) hnl).trans A3
 have a5_4:w5.cell? ⟨w.heap.size,4,none⟩=some (n4):=(hV5.cell (p:=⟨w.heap.size,4,none⟩) hnl).trans A4
 have a5_5:w5.cell? ⟨w.heap.size,5,none⟩=some (n5):=(hV5.cell (p:=⟨w.heap.size,5,none⟩) hnl).trans A5
 have a5_6:w5.cell? ⟨w.heap.size,6,none⟩=some (.int .i64 x.now):=(hV5.cell (p:=⟨w.heap.size,6,none⟩) hnl).trans A6
 have a5_7:w5.cell? ⟨w.heap.size,7,none⟩=some (n7):=(hV5.cell (p:=⟨w.heap.size,7,none⟩) hnl).trans A7
 have a5_8:w5.cell? ⟨w.heap.size,8,none⟩=some (n8):=(hV5.cell (p:=⟨w.heap.size,8,none⟩) hnl).trans A8
 have a5_9:w5.cell? ⟨w.heap.size,9,none⟩=some (.int .i64 x.made):=(hV5.cell (p:=⟨w.heap.size,9,none⟩) hnl).trans A9
 have hx5:Up wx w5:=Up.step hb5 hb4
 have b5_0:w5.cell? ⟨w3.heap.size,0,none⟩=some (.slice X0 x.network.legs.length x0_):=(hx5.cell (p:=⟨w3.heap.size,0,none⟩) hnx).trans B0
 have b5_1:w5.cell? ⟨w3.heap.size,1,none⟩=some (.slice X1 x.network.off.length x1_):=(hx5.cell (p:=⟨w3.heap.size,1,none⟩) hnx).trans B1
 have b5_2:w5.cell? ⟨w3.heap.size,2,none⟩=some (.int .i64 x.network.change):=(hx5.cell (p:=⟨w3.heap.size,2,none⟩) hnx).trans B2
 have b5_3:w5.cell? ⟨w3.heap.size,3,none⟩=some (.slice X3 x.orders.length x3_):=(hx5.cell (p:=⟨w3.heap.size,3,none⟩) hnx).trans B3
 have b5_4:w5.cell? ⟨w3.heap.size,4,none⟩=some (.slice X4 x.bookings.length x4_):=(hx5.cell (p:=⟨w3.heap.size,4,none⟩) hnx).trans B4
 have b5_5:w5.cell? ⟨w3.heap.size,5,none⟩=some (.slice X5 x.closed.length x5_):=(hx5.cell (p:=⟨w3.heap.size,5,none⟩) hnx).trans B5
 have b5_6:w5.cell? ⟨w3.heap.size,6,none⟩=some (.int .i64 x.now):=(hx5.cell (p:=⟨w3.heap.size,6,none⟩) hnx).trans B6
 have b5_7:w5.cell? ⟨w3.heap.size,7,none⟩=some (.slice X7 x.scans.length x7_):=(hx5.cell (p:=⟨w3.heap.size,7,none⟩) hnx).trans B7
 have b5_8:w5.cell? ⟨w3.heap.size,8,none⟩=some (.slice X8 x.skip.length x8_):=(hx5.cell (p:=⟨w3.heap.size,8,none⟩) hnx).trans B8
 have b5_9:w5.cell? ⟨w3.heap.size,9,none⟩=some (.int .i64 x.made):=(hx5.cell (p:=⟨w3.heap.size,9,none⟩) hnx).trans B9
 have hq5:=hqx.up hx5
 go_wp2_with fail
 have keep_:∀ w',Up w5 w'→(w'.cell? ⟨w3.heap.size,0,none⟩=some (.slice X0 x.network.legs.length x0_)∧w'.cell? ⟨w3.heap.size,1,none⟩=some (.slice X1 x.network.off.length x1_)∧w'.cell? ⟨w3.heap.size,2,none⟩=some (.int .i64 x.network.change)∧w'.cell? ⟨w3.heap.size,3,none⟩=some (.slice X3 x.orders.length x3_)∧w'.cell? ⟨w3.heap.size,4,none⟩=some (.slice X4 x.bookings.length x4_)∧w'.cell? ⟨w3.heap.size,5,none⟩=some (.slice X5 x.closed.length x5_)∧w'.cell? ⟨w3.heap.size,6,none⟩=some (.int .i64 x.now)∧w'.cell? ⟨w3.heap.size,7,none⟩=some (.slice X7 x.scans.length x7_)∧w'.cell? ⟨w3.heap.size,8,none⟩=some (.slice X8 x.skip.length x8_)∧w'.cell? ⟨w3.heap.size,9,none⟩=some (.int .i64 x.made)∧w'.cell? ⟨w.heap.size,0,none⟩=some (n0)∧w'.cell? ⟨w.heap.size,1,none⟩=some (n1)∧w'.cell? ⟨w.heap.size,2,none⟩=some (.int .i64 x.network.change)∧w'.cell? ⟨w.heap.size,3,none⟩=some (n3)∧w'.cell? ⟨w.heap.size,4,none⟩=some (n4)∧w'.cell? ⟨w.heap.size,5,none⟩=some (n5)∧w'.cell? ⟨w.heap.size,6,none⟩=some (.int .i64 x.now)∧w'.cell? ⟨w.heap.size,7,none⟩=some (n7)∧w'.cell? ⟨w.heap.size,8,none⟩=some (n8)∧w'.cell? ⟨w.heap.size,9,none⟩=some (.int .i64 x.made)):=fun w' hu=>⟨ZaA hu b5_0,ZaA hu b5_1,ZaA hu b5_2,ZaA hu b5_3,ZaA hu b5_4,ZaA hu b5_5,ZaA hu b5_6,ZaA hu b5_7,ZaA hu b5_8,ZaA hu b5_9,ZaA hu a5_0,ZaA hu a5_1,ZaA hu a5_2,ZaA hu a5_3,ZaA hu a5_4,ZaA hu a5_5,ZaA hu a5_6,ZaA hu a5_7,ZaA hu a5_8,ZaA hu a5_9⟩
 go_region_held3 (fun w'=>w'.cell? ⟨w3.heap.size,0,none⟩=some (.slice X0 x.network.legs.length x0_)∧w'.cell? ⟨w3.heap.size,1,none⟩=some (.slice X1 x.network.off.length x1_)∧w'.cell? ⟨w3.heap.size,2,none⟩=some (.int .i64 x.network.change)∧w'.cell? ⟨w3.heap.size,3,none⟩=some (.slice X3 x.orders.length x3_)∧w'.cell? ⟨w3.heap.size,4,none⟩=some (.slice X4 x.bookings.length x4_)∧w'.cell? ⟨w3.heap.size,5,none⟩=some (.slice X5 x.closed.length x5_)∧w'.cell? ⟨w3.heap.size,6,none⟩=some (.int .i64 x.now)∧w'.cell? ⟨w3.heap.size,7,none⟩=some (.slice X7 x.scans.length x7_)∧w'.cell? ⟨w3.heap.size,8,none⟩=some (.slice X8 x.skip.length x8_)∧w'.cell? ⟨w3.heap.size,9,none⟩=some (.int .i64 x.made)∧w'.cell? ⟨w.heap.size,0,none⟩=some (n0)∧w'.cell? ⟨w.heap.size,1,none⟩=some (n1)∧w'.cell? ⟨w.heap.size,2,none⟩=some (.int .i64 x.network.change)∧w'.cell? ⟨w.heap.size,3,none⟩=some (n3)∧w'.cell? ⟨w.heap.size,4,none⟩=some (n4)∧w'.cell? ⟨w.heap.size,5,none⟩=some (n5)∧w'.cell? ⟨w.heap.size,6,none⟩=some (.int .i64 x.now)∧w'.cell? ⟨w.heap.size,7,none⟩=some (n7)∧w'.cell? ⟨w.heap.size,8,none⟩=some (n8)∧w'.cell? ⟨w.heap.size,9,none⟩=some (.int .i64 x.made))
  (first | exact keep_ _ (by (repeat (first | exact Up.rfl' _ | (refine Up.al _ ?_) | (refine Up.dr _ ?_) | (refine Up.dr1 ?_) | (refine Up.sc ?_ (by first | exact Nat.le_refl _ | (simp; done) | omega) _) | (refine Up.step (by assumption) ?_)))) | go_keep)
  (first
   | (go_at_call 17; refine (Zgp x ht (HR.up (Up.step (by (repeat (first | exact Up.rfl' _ | (refine Up.al _ ?_) | (refine Up.dr _ ?_) | (refine Up.dr1 ?_) | (refine Up.sc ?_ (by first | exact Nat.le_refl _ | (simp; done) | omega) _) | (refine Up.step (by assumption) ?_)))) hV5))).mono ?_; rintro e w6 ⟨r0,r1,r3,r4,r5,r7,r8,rfl,hb6,_,hr6⟩)
   | (go_at_call 19; refine (Znj ht (hq5.up (by (repeat (first | exact Up.rfl' _ | (refine Up.al _ ?_) | (refine Up.dr _ ?_) | (refine Up.dr1 ?_) | (refine Up.sc ?_ (by first | exact Nat.le_refl _ | (simp; done) | omega) _) | (refine Up.step (by assumption) ?_))))) (hr6.up (by (repeat (first | exact Up.rfl' _ | (refine Up.al _ ?_) | (refine Up.dr _ ?_) | (refine Up.dr1 ?_) | (refine Up.sc ?_ (by first | exact Nat.le_refl _ | (simp; done) | omega) _) | (refine Up.step (by assumption) ?_)))))).mono ?_; rintro e w7 ⟨rfl,hb7⟩))
 have h57:Up w5 w7:=by (repeat (first | exact Up.rfl' _ | (refine Up.al _ ?_) | (refine Up.dr _ ?_) | (refine Up.dr1 ?_) | (refine Up.sc ?_ (by first | exact Nat.le_refl _ | (simp; done) | omega) _) | (refine Up.step (by assumption) ?_)))
 have hV7:=Up.step h57 hV5
 have hg7:=Up.step h57 hb5
 have hx7:=Up.step h57 hx5
 have hz7:=Up.step hg7 hzg
 clear keep_
 clear a5_0 a5_1 a5_2 a5_3 a5_4 a5_5 a5_6 a5_7 a5_8 a5_9 b5_0 b5_1 b5_2 b5_3 b5_4 b5_5 b5_6 b5_7 b5_8 b5_9
 have b7_0:w7.cell? ⟨w3.heap.size,0,none⟩=some (.slice X0 x.network.legs.length x0_):=(hx7.cell (p:=⟨w3.heap.size,0,none⟩) hnx).trans B0
 have b7_1:w7.cell? ⟨w3.heap.size,1,none⟩=some (.slice X1 x.network.off.length x1_):=(hx7.cell (p:=⟨w3.heap.size,1,none⟩) hnx).trans B1
 have b7_2:w7.cell? ⟨w3.heap.size,2,none⟩=some (.int .i64 x.network.change):=(hx7.cell (p:=⟨w3.heap.size,2,none⟩) hnx).trans B2
 have b7_3:w7.cell? ⟨w3.heap.size,3,none⟩=some (.slice X3 x.orders.length x3_):=(hx7.cell (p:=⟨w3.heap.size,3,none⟩) hnx).trans B3
 have b7_4:w7.cell? ⟨w3.heap.size,4,none⟩=some (.slice X4 x.bookings.length x4_):=(hx7.cell (p:=⟨w3.heap.size,4,none⟩) hnx).trans B4
 have b7_5:w7.cell? ⟨w3.heap.size,5,none⟩=some (.slice X5 x.closed.length x5_):=(hx7.cell (p:=⟨w3.heap.size,5,none⟩) hnx).trans B5
 have b7_6:w7.cell? ⟨w3.heap.size,6,none⟩=some (.int .i64 x.now):=(hx7.cell (p:=⟨w3.heap.size,6,none⟩) hnx).trans B6
 have b7_7:w7.cell? ⟨w3.heap.size,7,none⟩=some (.slice X7 x.scans.length x7_):=(hx7.cell (p:=⟨w3.heap.size,7,none⟩) hnx).trans B7
 have b7_8:w7.cell? ⟨w3.heap.size,8,none⟩=some (.slice X8 x.skip.length x8_):=(hx7.cell (p:=⟨w3.heap.size,8,none⟩) hnx).trans B8
 have b7_9:w7.cell? ⟨w3.heap.size,9,none⟩=some (.int .i64 x.made):=(hx7.cell (p:=⟨w3.heap.size,9,none⟩) hnx).trans B9
 have hs7:=hs3.toD.up (Up.step hx7 hbx)
 go_wp2_with fail
 refine (ZjL _ _ _ _ _ _ _ _ _ _ _ hs7).mono ?_
 rintro e w8 ⟨kk,rfl,hk1,hk2,hm8⟩
 clear b7_0 b7_1 b7_2 b7_3 b7_4 b7_5 b7_6 b7_7 b7_8 b7_9
 have z3:=hb3.size; have z4:=hb4.size; have z5:=hbx.size
 have z2:=hVz.size
 have hV8:=hV7.mk' hm8 (fun q hq=>by omega)
 have hz8:=hz7.mk' hm8 (fun q hq=>by omega)
 have ho8:=(hog.up hg7).mk' hm8 (fun q hq=>by omega)
 have hkk:¬ kk<0:=by omega
 have d8_0:w8.cell? ⟨gb,0,none⟩=some (.slice Y0 g.network.legs.length y0_):=Zy hm8.upo ((hg7.cell (p:=⟨gb,0,none⟩) hng).trans D0) (fun hd=>by omega)
 have d8_1:w8.cell? ⟨gb,1,none⟩=some (.slice Y1 g.network.off.length y1_):=Zy hm8.upo ((hg7.cell (p:=⟨gb,1,none⟩) hng).trans D1) (fun hd=>by omega)
 have d8_2:w8.cell? ⟨gb,2,none⟩=some (.int .i64 g.network.change):=Zy hm8.upo ((hg7.cell (p:=⟨gb,2,none⟩) hng).trans D2) (fun hd=>by omega)
 have d8_3:w8.cell? ⟨gb,3,none⟩=some (.slice Y3 g.orders.length y3_):=Zy hm8.upo ((hg7.cell (p:=⟨gb,3,none⟩) hng).trans D3) (fun hd=>by omega)
 have d8_4:w8.cell? ⟨gb,4,none⟩=some (.slice Y4 g.bookings.length y4_):=Zy hm8.upo ((hg7.cell (p:=⟨gb,4,none⟩) hng).trans D4) (fun hd=>by omega)
 have d8_5:w8.cell? ⟨gb,5,none⟩=some (.slice Y5 g.closed.length y5_):=Zy hm8.upo ((hg7.cell (p:=⟨gb,5,none⟩) hng).trans D5) (fun hd=>by omega)
 have d8_6:w8.cell? ⟨gb,6,none⟩=some (.int .i64 g.now):=Zy hm8.upo ((hg7.cell (p:=⟨gb,6,none⟩) hng).trans D6) (fun hd=>by omega)
 have d8_7:w8.cell? ⟨gb,7,none⟩=some (.slice Y7 g.scans.length y7_):=Zy hm8.upo ((hg7.cell (p:=⟨gb,7,none⟩) hng).trans D7) (fun hd=>by omega)
 have d8_8:w8.cell? ⟨gb,8,none⟩=some (.slice Y8 g.skip.length y8_):=Zy hm8.upo ((hg7.cell (p:=⟨gb,8,none⟩) hng).trans D8) (fun hd=>by omega)
 have d8_9:w8.cell? ⟨gb,9,none⟩=some (.int .i64 g.made):=Zy hm8.upo ((hg7.cell (p:=⟨gb,9,none⟩) hng).trans D9) (fun hd=>by omega)
 have z8_0:w8.cell? ⟨zb,0,none⟩=some (.slice S0 g.network.legs.length s0_):=(hz8.cell (p:=⟨zb,0,none⟩) hnz).trans Z0
 have z8_1:w8.cell? ⟨zb,1,none⟩=some (.slice S1 g.network.off.length s1_):=(hz8.cell (p:=⟨zb,1,none⟩) hnz).trans Z1
 have z8_2:w8.cell? ⟨zb,2,none⟩=some (.int .i64 g.network.change):=(hz8.cell (p:=⟨zb,2,none⟩) hnz).trans Z2
 have z8_3:w8.cell? ⟨zb,3,none⟩=some (.slice S3 g.orders.length s3_):=(hz8.cell (p:=⟨zb,3,none⟩) hnz).trans Z3
 have z8_4:w8.cell? ⟨zb,4,none⟩=some (.slice S4 g.bookings.length s4_):=(hz8.cell (p:=⟨zb,4,none⟩) hnz).trans Z4
 have z8_5:w8.cell? ⟨zb,5,none⟩=some (.slice S5 g.closed.length s5_):=(hz8.cell (p:=⟨zb,5,none⟩) hnz).trans Z5
 have z8_6:w8.cell? ⟨zb,6,none⟩=some (.int .i64 g.now):=(hz8.cell (p:=⟨zb,6,none⟩) hnz).trans Z6
 have z8_7:w8.cell? ⟨zb,7,none⟩=some (.slice S7 g.scans.length s7_):=(hz8.cell (p:=⟨zb,7,none⟩) hnz).trans Z7
 have z8_8:w8.cell? ⟨zb,8,none⟩=some (.slice S8 g.skip.length s8_):=(hz8.cell (p:=⟨zb,8,none⟩) hnz).trans Z8
 have z8_9:w8.cell? ⟨zb,9,none⟩=some (.int .i64 g.made):=(hz8.cell (p:=⟨zb,9,none⟩) hnz).trans Z9
 go_wp2_with fail
 refine (Zhp hgq ho8.rep (hsz.up hz8)).mono ?_
 rintro e w9 ⟨rfl,hb9⟩
 have hV9:=Up.step hb9 hV8
 have hz9:=Up.step hb9 hz8
 have ho9:=ho8.up hb9
 have d9_0:w9.cell? ⟨gb,0,none⟩=some (.slice Y0 g.network.legs.length y0_):=ZaA hb9 d8_0
 have d9_1:w9.cell? ⟨gb,1,none⟩=some (.slice Y1 g.network.off.length y1_):=ZaA hb9 d8_1
 have d9_2:w9.cell? ⟨gb,2,none⟩=some (.int .i64 g.network.change):=ZaA hb9 d8_2
 have d9_3:w9.cell? ⟨gb,3,none⟩=some (.slice Y3 g.orders.length y3_):=ZaA hb9 d8_3
 have d9_4:w9.cell? ⟨gb,4,none⟩=some (.slice Y4 g.bookings.length y4_):=ZaA hb9 d8_4
 have d9_5:w9.cell? ⟨gb,5,none⟩=some (.slice Y5 g.closed.length y5_):=ZaA hb9 d8_5
 have d9_6:w9.cell? ⟨gb,6,none⟩=some (.int .i64 g.now):=ZaA hb9 d8_6
 have d9_7:w9.cell? ⟨gb,7,none⟩=some (.slice Y7 g.scans.length y7_):=ZaA hb9 d8_7
 have d9_8:w9.cell? ⟨gb,8,none⟩=some (.slice Y8 g.skip.length y8_):=ZaA hb9 d8_8
 have d9_9:w9.cell? ⟨gb,9,none⟩=some (.int .i64 g.made):=ZaA hb9 d8_9
 clear d8_0 d8_1 d8_2 d8_3 d8_4 d8_5 d8_6 d8_7 d8_8 d8_9 z8_0 z8_1 z8_2 z8_3 z8_4 z8_5 z8_6 z8_7 z8_8 z8_9
 go_wp2_with fail
 refine (OwnV.mark ho9 hgm _ _ _).mono ?_
 rintro e w10 ⟨rfl,hm10,hu10⟩
 have z6:=hVx.size; have z7:=hzg.size
 have hV10:=hV9.upo hu10 (fun q hq=>by have:=hq.1; omega)
 have hz10:=hz9.upo hu10 (fun q hq=>by have:=hq.1; omega)
 have d10_0:w10.cell? ⟨gb,0,none⟩=some (.slice Y0 g.network.legs.length y0_):=Zy hu10 d9_0 (fun hq=>hgn hq.2.2)
 have d10_1:w10.cell? ⟨gb,1,none⟩=some (.slice Y1 g.network.off.length y1_):=Zy hu10 d9_1 (fun hq=>hgn hq.2.2)
 have d10_2:w10.cell? ⟨gb,2,none⟩=some (.int .i64 g.network.change):=Zy hu10 d9_2 (fun hq=>hgn hq.2.2)
 have d10_3:w10.cell? ⟨gb,3,none⟩=some (.slice Y3 g.orders.length y3_):=Zy hu10 d9_3 (fun hq=>hgn hq.2.2)
 have d10_4:w10.cell? ⟨gb,4,none⟩=some (.slice Y4 g.bookings.length y4_):=Zy hu10 d9_4 (fun hq=>hgn hq.2.2)
 have d10_5:w10.cell? ⟨gb,5,none⟩=some (.slice Y5 g.closed.length y5_):=Zy hu10 d9_5 (fun hq=>hgn hq.2.2)
 have d10_6:w10.cell? ⟨gb,6,none⟩=some (.int .i64 g.now):=Zy hu10 d9_6 (fun hq=>hgn hq.2.2)
 have d10_7:w10.cell? ⟨gb,7,none⟩=some (.slice Y7 g.scans.length y7_):=Zy hu10 d9_7 (fun hq=>hgn hq.2.2)
 have d10_8:w10.cell? ⟨gb,8,none⟩=some (.slice Y8 g.skip.length y8_):=Zy hu10 d9_8 (fun hq=>hgn hq.2.2)
 have d10_9:w10.cell? ⟨gb,9,none⟩=some (.int .i64 g.made):=Zy hu10 d9_9 (fun hq=>hgn hq.2.2)
 clear d9_0 d9_1 d9_2 d9_3 d9_4 d9_5 d9_6 d9_7 d9_8 d9_9
 have hq0:¬ k6W g 1<0:=by have:=hgm.ks; omega
 go_wp2_with fail
 refine (Zhx hgm hm10).mono ?_
 rintro e w11 ⟨rfl,hb11⟩
 have hV11:=Up.step hb11 hV10
 have hz11:=Up.step hb11 hz10
 have a11_0:w11.cell? ⟨w.heap.size,0,none⟩=some (n0):=(hV11.cell (p:=⟨w.heap.size,0,none⟩) hnl).trans A0
 have a11_1:w11.cell? ⟨w.heap.size,1,none⟩=some (n1):=(hV11.cell (p:=⟨w.heap.size,1,none⟩) hnl).trans A1
 have a11_2:w11.cell? ⟨w.heap.size,2,none⟩=some (.int .i64 x.network.change):=(hV11.cell (p:=⟨w.heap.size,2,none⟩) hnl).trans A2
 have a11_3:w11.cell? ⟨w.heap.size,3,none⟩=some (n3):=(hV11.cell (p:=⟨w.heap.size,3,none⟩) hnl).trans A3
 have a11_4:w11.cell? ⟨w.heap.size,4,none⟩=some (n4):=(hV11.cell (p:=⟨w.heap.size,4,none⟩) hnl).trans A4
 have a11_5:w11.cell? ⟨w.heap.size,5,none⟩=some (n5):=(hV11.cell (p:=⟨w.heap.size,5,none⟩) hnl).trans A5
 have a11_6:w11.cell? ⟨w.heap.size,6,none⟩=some (.int .i64 x.now):=(hV11.cell (p:=⟨w.heap.size,6,none⟩) hnl).trans A6
 have a11_7:w11.cell? ⟨w.heap.size,7,none⟩=some (n7):=(hV11.cell (p:=⟨w.heap.size,7,none⟩) hnl).trans A7
 have a11_8:w11.cell? ⟨w.heap.size,8,none⟩=some (n8):=(hV11.cell (p:=⟨w.heap.size,8,none⟩) hnl).trans A8
 have a11_9:w11.cell? ⟨w.heap.size,9,none⟩=some (.int .i64 x.made):=(hV11.cell (p:=⟨w.heap.size,9,none⟩) hnl).trans A9
 have t11_0:w11.cell? ⟨w.heap.size+1,0,none⟩=some (.int .i64 t.leg):=ZaA hV11 C0
 have t11_1:w11.cell? ⟨w.heap.size+1,1,none⟩=some (.int .i64 t.day):=ZaA hV11 C1
 have keep1:∀ w',Up w11 w'→(w'.cell? ⟨w.heap.size,0,none⟩=some (n0)∧w'.cell? ⟨w.heap.size,1,none⟩=some (n1)∧w'.cell? ⟨w.heap.size,2,none⟩=some (.int .i64 x.network.change)∧w'.cell? ⟨w.heap.size,3,none⟩=some (n3)∧w'.cell? ⟨w.heap.size,4,none⟩=some (n4)∧w'.cell? ⟨w.heap.size,5,none⟩=some (n5)∧w'.cell? ⟨w.heap.size,6,none⟩=some (.int .i64 x.now)∧w'.cell? ⟨w.heap.size,7,none⟩=some (n7)∧w'.cell? ⟨w.heap.size,8,none⟩=some (n8)∧w'.cell? ⟨w.heap.size,9,none⟩=some (.int .i64 x.made)∧w'.cell? ⟨w.heap.size+1,0,none⟩=some (.int .i64 t.leg)∧w'.cell? ⟨w.heap.size+1,1,none⟩=some (.int .i64 t.day)):=fun w' hu=>⟨ZaA hu a11_0,ZaA hu a11_1,ZaA hu a11_2,ZaA hu a11_3,ZaA hu a11_4,ZaA hu a11_5,ZaA hu a11_6,ZaA hu a11_7,ZaA hu a11_8,ZaA hu a11_9,ZaA hu t11_0,ZaA hu t11_1⟩
 go_upto_region 24 with (fail)
 go_cut [14,15] from 79 to 86 (fun s14 s15 wh=>∃ (hb:Nat),∃ (R0:Option Addr) (r0_:Nat) (R1:Option Addr) (r1_:Nat) (R3:Option Addr) (r3_:Nat) (R4:Option Addr) (r4_:Nat) (R5:Option Addr) (r5_:Nat) (R7:Option Addr) (r7_:Nat) (R8:Option Addr) (r8_:Nat) ,s14=.pointer (some ⟨hb,0,none⟩)∧s15=.bool b∧Up w11 wh∧C10 wh hb (.slice R0 g.network.legs.length r0_) (.slice R1 g.network.off.length r1_) (.int .i64 g.network.change) (.slice R3 g.orders.length r3_) (.slice R4 g.bookings.length r4_) (.slice R5 g.closed.length r5_) (.int .i64 g.now) (.slice R7 g.scans.length r7_) (.slice R8 g.skip.length r8_) (.int .i64 g.made)∧ZcT wh (AllS wh) g (.slice R0 g.network.legs.length r0_) (.slice R1 g.network.off.length r1_) (.slice R3 g.orders.length r3_) (.slice R4 g.bookings.length r4_) (.slice R5 g.closed.length r5_) (.slice R7 g.scans.length r7_) (.slice R8 g.skip.length r8_))
 case first=>
  go_region_held3 (fun w'=>w'.cell? ⟨w.heap.size,0,none⟩=some (n0)∧w'.cell? ⟨w.heap.size,1,none⟩=some (n1)∧w'.cell? ⟨w.heap.size,2,none⟩=some (.int .i64 x.network.change)∧w'.cell? ⟨w.heap.size,3,none⟩=some (n3)∧w'.cell? ⟨w.heap.size,4,none⟩=some (n4)∧w'.cell? ⟨w.heap.size,5,none⟩=some (n5)∧w'.cell? ⟨w.heap.size,6,none⟩=some (.int .i64 x.now)∧w'.cell? ⟨w.heap.size,7,none⟩=some (n7)∧w'.cell? ⟨w.heap.size,8,none⟩=some (n8)∧w'.cell? ⟨w.heap.size,9,none⟩=some (.int .i64 x.made)∧w'.cell? ⟨w.heap.size+1,0,none⟩=some (.int .i64 t.leg)∧w'.cell? ⟨w.heap.size+1,1,none⟩=some (.int .i64 t.day))
   (first | ((with_reducible show World.cell? (World.setCell _ _ _) _=_∧_); exact keep1 _ (Up.wr (Wr.ten hz_ _ _ _ _ _ _ _ _ _ _) (show Up w11 w13 by (repeat (first | exact Up.rfl' _ | (refine Up.al _ ?_) | (refine Up.dr _ ?_) | (refine Up.dr1 ?_) | (refine Up.sc ?_ (by first | exact Nat.le_refl _ | (simp; done) | omega) _) | (refine Up.step (by assumption) ?_)))) (by first | omega | (simp only [Zxx,Zxy]; omega) | (simp only [Zxx,Zxy,Nat.le_refl])))) | exact keep1 _ (by (repeat (first | exact Up.rfl' _ | (refine Up.al _ ?_) | (refine Up.dr _ ?_) | (refine Up.dr1 ?_) | (refine Up.sc ?_ (by first | exact Nat.le_refl _ | (simp; done) | omega) _) | (refine Up.step (by assumption) ?_)))) | go_keep)
   (first
    | (go_at_call 17; refine (Zgp x ht (HR.up (Up.step (by (repeat (first | exact Up.rfl' _ | (refine Up.al _ ?_) | (refine Up.dr _ ?_) | (refine Up.dr1 ?_) | (refine Up.sc ?_ (by first | exact Nat.le_refl _ | (simp; done) | omega) _) | (refine Up.step (by assumption) ?_)))) hV11))).mono ?_; rintro e w12 ⟨t0,t1,t3,t4,t5,t7,t8,rfl,hb12,_,hp12⟩; have s1_:w11.heap.size≤w12.heap.size:=(show Up w11 w12 by (repeat (first | exact Up.rfl' _ | (refine Up.al _ ?_) | (refine Up.dr _ ?_) | (refine Up.dr1 ?_) | (refine Up.sc ?_ (by first | exact Nat.le_refl _ | (simp; done) | omega) _) | (refine Up.step (by assumption) ?_)))).size; (first | have hz_:=Z10.new hb12 | have hz_:=Z10.newd hb12 | have hz_:=Z10.up hz_ hb12 | skip))
    | (go_at_call 42; refine (ZxA t _).mono ?_; rintro e wt ⟨rfl,hbt⟩; have st_:w11.heap.size≤wt.heap.size:=(show Up w11 wt by (repeat (first | exact Up.rfl' _ | (refine Up.al _ ?_) | (refine Up.dr _ ?_) | (refine Up.dr1 ?_) | (refine Up.sc ?_ (by first | exact Nat.le_refl _ | (simp; done) | omega) _) | (refine Up.step (by assumption) ?_)))).size; (first | have hz_:=Z10.new hbt | have hz_:=Z10.newd hbt | have hz_:=Z10.up hz_ hbt | skip))
    | (go_at_call 43; refine (CallM.worldO1 (CT.ok hgi) rfl (arg2 (hp12.up (by (repeat (first | exact Up.rfl' _ | (refine Up.al _ ?_) | (refine Up.dr _ ?_) | (refine Up.dr1 ?_) | (refine Up.sc ?_ (by first | exact Nat.le_refl _ | (simp; done) | omega) _) | (refine Up.step (by assumption) ?_))))).rep ZxB)).mono ?_; rintro e w13 ⟨R0,r0_,R1,r1_,R3,r3_,R4,r4_,R5,r5_,R7,r7_,R8,r8_,us2,W2,H0,H1,H3,H4,H5,H7,H8,rfl,hb13,ho13⟩; have s2_:w11.heap.size≤w13.heap.size:=(show Up w11 w13 by (repeat (first | exact Up.rfl' _ | (refine Up.al _ ?_) | (refine Up.dr _ ?_) | (refine Up.dr1 ?_) | (refine Up.sc ?_ (by first | exact Nat.le_refl _ | (simp; done) | omega) _) | (refine Up.step (by assumption) ?_)))).size; (first | have hz_:=Z10.new hb13 | have hz_:=Z10.newd hb13 | have hz_:=Z10.up hz_ hb13 | skip); (try (obtain ⟨z0_,z1_,z2_,z3_,z4_,z5_,z6_,z7_,z8_,z9_⟩:=hz_.cells; have f0_:=hz_.frz 0; have f1_:=hz_.frz 1; have f2_:=hz_.frz 2; have f3_:=hz_.frz 3; have f4_:=hz_.frz 4; have f5_:=hz_.frz 5; have f6_:=hz_.frz 6; have f7_:=hz_.frz 7; have f8_:=hz_.frz 8; have f9_:=hz_.frz 9))))
  all_goals
   go_wp2_with fail
   go_meet
   have q1_:=hb12.size
   have qt_:=hbt.size
   have q2_:=hb13.size
   simp only [Zxx,Zxy] at q1_ qt_ q2_
   refine ⟨_,R0,r0_,R1,r1_,R3,r3_,R4,r4_,R5,r5_,R7,r7_,R8,r8_,rfl,rfl,?_,?_⟩
   ·first
     | ((with_reducible refine Up.wr (Wr.ten hz_ _ _ _ _ _ _ _ _ _ _) ?_ ?_); (show Up w11 w13; (repeat (first | exact Up.rfl' _ | (refine Up.al _ ?_) | (refine Up.dr _ ?_) | (refine Up.dr1 ?_) | (refine Up.step (by assumption) ?_)))); first | omega | (simp only [Zxx,Zxy,Nat.le_refl]))
     | (repeat (first | exact Up.rfl' _ | (refine Up.al _ ?_) | (refine Up.dr _ ?_) | (refine Up.dr1 ?_) | (refine Up.step (by assumption) ?_)))
   ·first
     | (have h_:=ZxE 41 ho13 (Nat.le_refl _) (.int .i64 g.network.change) (.int .i64 g.now) (.int .i64 g.made); with_reducible exact ⟨h_.1,h_.2.1.rep⟩)
     | (have h_:=ZxF (Wr.ten hz_ (.slice R0 g.network.legs.length r0_) (.slice R1 g.network.off.length r1_) (.int .i64 g.network.change) (.slice R3 g.orders.length r3_) (.slice R4 g.bookings.length r4_) (.slice R5 g.closed.length r5_) (.int .i64 g.now) (.slice R7 g.scans.length r7_) (.slice R8 g.skip.length r8_) (.int .i64 g.made)) hz_.lt ho13 (Nat.le_refl _) (ho13.old (by first | omega | (simp only [Zxx,Zxy]; omega))); with_reducible exact ⟨h_.1,h_.2.1.rep⟩)
 case rest=>
 obtain ⟨hb,R0,r0_,R1,r1_,R3,r3_,R4,r4_,R5,r5_,R7,r7_,R8,r8_,rfl,rfl,hb13,hhc,hhr⟩:=hcut
 obtain ⟨wh,hwq_⟩:∃ q,q=wc:=⟨_,rfl⟩
 subst hwq_
 clear keep1 t11_0 t11_1
 clear a11_0 a11_1 a11_2 a11_3 a11_4 a11_5 a11_6 a11_7 a11_8 a11_9
 have hz13:=Up.step hb13 hz11
 have hV13:=Up.step hb13 hV11
 have h13_0:wh.cell? ⟨hb,0,none⟩=some (.slice R0 g.network.legs.length r0_):=hhc.c0
 have h13_1:wh.cell? ⟨hb,1,none⟩=some (.slice R1 g.network.off.length r1_):=hhc.c1
 have h13_2:wh.cell? ⟨hb,2,none⟩=some (.int .i64 g.network.change):=hhc.c2
 have h13_3:wh.cell? ⟨hb,3,none⟩=some (.slice R3 g.orders.length r3_):=hhc.c3
 have h13_4:wh.cell? ⟨hb,4,none⟩=some (.slice R4 g.bookings.length r4_):=hhc.c4
 have h13_5:wh.cell? ⟨hb,5,none⟩=some (.slice R5 g.closed.length r5_):=hhc.c5
 have h13_6:wh.cell? ⟨hb,6,none⟩=some (.int .i64 g.now):=hhc.c6
 have h13_7:wh.cell? ⟨hb,7,none⟩=some (.slice R7 g.scans.length r7_):=hhc.c7
 have h13_8:wh.cell? ⟨hb,8,none⟩=some (.slice R8 g.skip.length r8_):=hhc.c8
 have h13_9:wh.cell? ⟨hb,9,none⟩=some (.int .i64 g.made):=hhc.c9
 have z13_0:wh.cell? ⟨zb,0,none⟩=some (.slice S0 g.network.legs.length s0_):=(hz13.cell (p:=⟨zb,0,none⟩) hnz).trans Z0
 have z13_1:wh.cell? ⟨zb,1,none⟩=some (.slice S1 g.network.off.length s1_):=(hz13.cell (p:=⟨zb,1,none⟩) hnz).trans Z1
 have z13_2:wh.cell? ⟨zb,2,none⟩=some (.int .i64 g.network.change):=(hz13.cell (p:=⟨zb,2,none⟩) hnz).trans Z2
 have z13_3:wh.cell? ⟨zb,3,none⟩=some (.slice S3 g.orders.length s3_):=(hz13.cell (p:=⟨zb,3,none⟩) hnz).trans Z3
 have z13_4:wh.cell? ⟨zb,4,none⟩=some (.slice S4 g.bookings.length s4_):=(hz13.cell (p:=⟨zb,4,none⟩) hnz).trans Z4
 have z13_5:wh.cell? ⟨zb,5,none⟩=some (.slice S5 g.closed.length s5_):=(hz13.cell (p:=⟨zb,5,none⟩) hnz).trans Z5
 have z13_6:wh.cell? ⟨zb,6,none⟩=some (.int .i64 g.now):=(hz13.cell (p:=⟨zb,6,none⟩) hnz).trans Z6
 have z13_7:wh.cell? ⟨zb,7,none⟩=some (.slice S7 g.scans.length s7_):=(hz13.cell (p:=⟨zb,7,none⟩) hnz).trans Z7
 have z13_8:wh.cell? ⟨zb,8,none⟩=some (.slice S8 g.skip.length s8_):=(hz13.cell (p:=⟨zb,8,none⟩) hnz).trans Z8
 have z13_9:wh.cell? ⟨zb,9,none⟩=some (.int .i64 g.made):=(hz13.cell (p:=⟨zb,9,none⟩) hnz).trans Z9
 go_wp2_with fail
 clear z13_0 z13_1 z13_2 z13_3 z13_4 z13_5 z13_6 z13_7 z13_8 z13_9 h13_0 h13_1 h13_2 h13_3 h13_4 h13_5 h13_6 h13_7 h13_8 h13_9
 refine (Zhp hgq hhr (hsz.up hz13)).mono ?_
 rintro e w14 ⟨rfl,hb14⟩
 have h14:Up w10 w14:=Up.step hb14 (Up.step hb13 hb11)
 have d14_0:w14.cell? ⟨gb,0,none⟩=some (.slice Y0 g.network.legs.length y0_):=ZaA h14 d10_0
 have d14_1:w14.cell? ⟨gb,1,none⟩=some (.slice Y1 g.network.off.length y1_):=ZaA h14 d10_1
 have d14_2:w14.cell? ⟨gb,2,none⟩=some (.int .i64 g.network.change):=ZaA h14 d10_2
 have d14_3:w14.cell? ⟨gb,3,none⟩=some (.slice Y3 g.orders.length y3_):=ZaA h14 d10_3
 have d14_4:w14.cell? ⟨gb,4,none⟩=some (.slice Y4 g.bookings.length y4_):=ZaA h14 d10_4
 have d14_5:w14.cell? ⟨gb,5,none⟩=some (.slice Y5 g.closed.length y5_):=ZaA h14 d10_5
 have d14_6:w14.cell? ⟨gb,6,none⟩=some (.int .i64 g.now):=ZaA h14 d10_6
 have d14_7:w14.cell? ⟨gb,7,none⟩=some (.slice Y7 g.scans.length y7_):=ZaA h14 d10_7
 have d14_8:w14.cell? ⟨gb,8,none⟩=some (.slice Y8 g.skip.length y8_):=ZaA h14 d10_8
 have d14_9:w14.cell? ⟨gb,9,none⟩=some (.int .i64 g.made):=ZaA h14 d10_9
 clear d10_0 d10_1 d10_2 d10_3 d10_4 d10_5 d10_6 d10_7 d10_8 d10_9
 go_wp2_with fail
 refine (Zhx hgm (hm10.up h14)).mono ?_
 rintro e w15 ⟨rfl,hb15⟩
 go_wp2_with fail
 go_ret
 exact ⟨rfl,Up.step (Up.step hb15 (Up.step hb14 hV13)) hub⟩
end Go.Proofs.YtmcdjilbkmhfoaaGreat
