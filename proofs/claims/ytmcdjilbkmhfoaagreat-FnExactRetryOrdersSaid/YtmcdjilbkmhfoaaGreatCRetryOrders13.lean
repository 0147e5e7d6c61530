/- A part of the proof of the statement in the last file of this claim: texts on the language of the program and on its functions. No condition. -/
import Derived.Test.YtmcdjilbkmhfoaaGreatCRetryOrders9
import Derived.Test.YtmcdjilbkmhfoaaGreatCRetryOrders12
set_option linter.unusedVariables false
set_option linter.unusedSimpArgs false
namespace Go.Proofs.YtmcdjilbkmhfoaaGreat
set_option maxRecDepth 10000
open Go.RowKit
set_option linter.unusedVariables false
set_option linter.unusedSimpArgs false
set_option maxHeartbeats 4000000 in
set_option maxRecDepth 100000 in
theorem FnExactRetryOrders_walk (x:YWorld)  (ok:okWorld x)  {u0 u1 u3 u4 u5 u7 u8:Value} (w:World) (hR:ZcT w (AllS w) x u0 u1 u3 u4 u5 u7 u8):
 Calls Tryz.prog 8 #[.agg #[u0,u1,.int .i64 x.network.change,u3,u4,u5,.int .i64 x.now,u7,u8,.int .i64 x.made]] w fun e w'=>e=.returned (.bool true)∧Up w w':=by
 rcases Zqh ok with hy | ⟨y,hy,hy0,ht⟩
 ·go_enter Tryz.func8,Tryz.ntmps8
  go_wp2_with fail
  generalize hwb:World.alloc w _=wb
  have hub:Up w wb:=by rw [← hwb]; (repeat (first | exact Up.rfl' _ | (refine Up.al _ ?_) | (refine Up.dr _ ?_) | (refine Up.dr1 ?_) | (refine Up.sc ?_ (by first | exact Nat.le_refl _ | (simp; done) | omega) _) | (refine Up.step (by assumption) ?_)))
  refine (Zkd hy (hR.up hub)).mono ?_
  rintro e w0 ⟨rfl,hb0⟩
  go_wp2_with fail
  go_ret
  exact ⟨rfl,Up.step hb0 hub⟩
 obtain ⟨g,n,hgi,hgs,hgq,hgm⟩:=Zpc ht
 go_enter Tryz.func8,Tryz.ntmps8
 go_wp2_with fail
 generalize hwb:World.alloc w _=wb
 have hub:Up w wb:=by rw [← hwb]; (repeat (first | exact Up.rfl' _ | (refine Up.al _ ?_) | (refine Up.dr _ ?_) | (refine Up.dr1 ?_) | (refine Up.sc ?_ (by first | exact Nat.le_refl _ | (simp; done) | omega) _) | (refine Up.step (by assumption) ?_)))
 have hbs:wb.heap.size=w.heap.size+1:=by rw [← hwb]; simp
 have A0:wb.cell? ⟨w.heap.size,0,none⟩=some (u0):=by rw [← hwb,cell_of_row _ _ _ _ _ _ (heap_alloc_new w _)]; rfl
 have A1:wb.cell? ⟨w.heap.size,1,none⟩=some (u1):=by rw [← hwb,cell_of_row _ _ _ _ _ _ (heap_alloc_new w _)]; rfl
 have A2:wb.cell? ⟨w.heap.size,2,none⟩=some (.int .i64 x.network.change):=by rw [← hwb,cell_of_row _ _ _ _ _ _ (heap_alloc_new w _)]; rfl
 have A3:wb.cell? ⟨w.heap.size,3,none⟩=some (u3):=by rw [← hwb,cell_of_row _ _ _ _ _ _ (heap_alloc_new w _)]; rfl
 have A4:wb.cell? ⟨w.heap.size,4,none⟩=some (u4):=by rw [← hwb,cell_of_row _ _ _ _ _ _ (heap_alloc_new w _)]; rfl
 have A5:wb.cell? ⟨w.heap.size,5,none⟩=some (u5):=by rw [← hwb,cell_of_row _ _ _ _ _ _ (heap_alloc_new w _)]; rfl
 have A6:wb.cell? ⟨w.heap.size,6,none⟩=some (.int .i64 x.now):=by rw [← hwb,cell_of_row _ _ _ _ _ _ (heap_alloc_new w _)]; rfl
 have A7:wb.cell? ⟨w.heap.size,7,none⟩=some (u7):=by rw [← hwb,cell_of_row _ _ _ _ _ _ (heap_alloc_new w _)]; rfl
 have A8:wb.cell? ⟨w.heap.size,8,none⟩=some (u8):=by rw [← hwb,cell_of_row _ _ _ _ _ _ (heap_alloc_new w _)]; rfl
 have A9:wb.cell? ⟨w.heap.size,9,none⟩=some (.int .i64 x.made):=by rw [← hwb,cell_of_row _ _ _ _ _ _ (heap_alloc_new w _)]; rfl
 have hnl:w.heap.size<wb.heap.size:=by omega
 have HR:=hR.up hub
 clear hwb
 refine (Zkd hy HR).mono ?_
 rintro e w0 ⟨rfl,hV0⟩
 have a0_0:w0.cell? ⟨w.heap.size,0,none⟩=some (u0):=(hV0.cell (p:=⟨w.heap.size,0,none⟩) hnl).trans A0
 have a0_1:w0.cell? ⟨w.heap.size,1,none⟩=some (u1):=(hV0.cell (p:=⟨w.heap.size,1,none⟩) hnl).trans A1
 have a0_2:w0.cell? ⟨w.heap.size,2,none⟩=some (.int .i64 x.network.change):=(hV0.cell (p:=⟨w.heap.size,2,none⟩) hnl).trans A2
 have a0_3:w0.cell? ⟨w.heap.size,3,none⟩=some (u3):=(hV0.cell (p:=⟨w.heap.size,3,none⟩) hnl).trans A3
 have a0_4:w0.cell? ⟨w.heap.size,4,none⟩=some (u4):=(hV0.cell (p:=⟨w.heap.size,4,none⟩) hnl).trans A4
 have a0_5:w0.cell? ⟨w.heap.size,5,none⟩=some (u5):=(hV0.cell (p:=⟨w.heap.size,5,none⟩) hnl).trans A5
 have a0_6:w0.cell? ⟨w.heap.size,6,none⟩=some (.int .i64 x.now):=(hV0.cell (p:=⟨w.heap.size,6,none⟩) hnl).trans A6
 have a0_7:w0.cell? ⟨w.heap.size,7,none⟩=some (u7):=(hV0.cell (p:=⟨w.heap.size,7,none⟩) hnl).trans A7
 have a0_8:w0.cell? ⟨w.heap.size,8,none⟩=some (u8):=(hV0.cell (p:=⟨w.heap.size,8,none⟩) hnl).trans A8
 have a0_9:w0.cell? ⟨w.heap.size,9,none⟩=some (.int .i64 x.made):=(hV0.cell (p:=⟨w.heap.size,9,none⟩) hnl).trans A9
 go_wp2_with fail
 refine (Zgp x ht (HR.up hV0)).mono ?_
 rintro e w1 ⟨p0,p1,p3,p4,p5,p7,p8,rfl,hb1,_,hp1⟩
 have hV1:=Up.step hb1 hV0
 clear a0_0 a0_1 a0_2 a0_3 a0_4 a0_5 a0_6 a0_7 a0_8 a0_9
 go_wp2_with fail
 refine (CallM.worldR1 (CT.ok hgs) rfl (argE hp1.rep)).mono ?_
 rintro e w2 ⟨S0,s0_,S1,s1_,S3,s3_,S4,s4_,S5,s5_,S7,s7_,S8,s8_,rfl,hb2,hs2⟩
 have hV2:=Up.step hb2 hV1
 have a2_0:w2.cell? ⟨w.heap.size,0,none⟩=some (u0):=(hV2.cell (p:=⟨w.heap.size,0,none⟩) hnl).trans A0
 have a2_1:w2.cell? ⟨w.heap.size,1,none⟩=some (u1):=(hV2.cell (p:=⟨w.heap.size,1,none⟩) hnl).trans A1
 have a2_2:w2.cell? ⟨w.heap.size,2,none⟩=some (.int .i64 x.network.change):=(hV2.cell (p:=⟨w.heap.size,2,none⟩) hnl).trans A2
 have a2_3:w2.cell? ⟨w.heap.size,3,none⟩=some (u3):=(hV2.cell (p:=⟨w.heap.size,3,none⟩) hnl).trans A3
 have a2_4:w2.cell? ⟨w.heap.size,4,none⟩=some (u4):=(hV2.cell (p:=⟨w.heap.size,4,none⟩) hnl).trans A4
 have a2_5:w2.cell? ⟨w.heap.size,5,none⟩=some (u5):=(hV2.cell (p:=⟨w.heap.size,5,none⟩) hnl).trans A5
 have a2_6:w2.cell? ⟨w.heap.size,6,none⟩=some (.int .i64 x.now):=(hV2.cell (p:=⟨w.heap.size,6,none⟩) hnl).trans A6
 have a2_7:w2.cell? ⟨w.heap.size,7,none⟩=some (u7):=(hV2.cell (p:=⟨w.heap.size,7,none⟩) hnl).trans A7
 have a2_8:w2.cell? ⟨w.heap.size,8,none⟩=some (u8):=(hV2.cell (p:=⟨w.heap.size,8,none⟩) hnl).trans A8
 have a2_9:w2.cell? ⟨w.heap.size,9,none⟩=some (.int .i64 x.made):=(hV2.cell (p:=⟨w.heap.size,9,none⟩) hnl).trans A9
 have hl2:w.heap.size<w2.heap.size:=by have:=hV2.size; omega
 have hn2:¬ w.heap.size=w2.heap.size:=by omega
 go_wp2_with fail
 clear a2_0 a2_1 a2_2 a2_3 a2_4 a2_5 a2_6 a2_7 a2_8 a2_9
 generalize hwz:World.alloc w2 _=wz
 have hbz:Up w2 wz:=by rw [← hwz]; (repeat (first | exact Up.rfl' _ | (refine Up.al _ ?_) | (refine Up.dr _ ?_) | (refine Up.dr1 ?_) | (refine Up.sc ?_ (by first | exact Nat.le_refl _ | (simp; done) | omega) _) | (refine Up.step (by assumption) ?_)))
 have hzs:wz.heap.size=w2.heap.size+1:=by rw [← hwz]; simp
 have Z0:wz.cell? ⟨w2.heap.size,0,none⟩=some (.slice S0 g.network.legs.length s0_):=by rw [← hwz,cell_of_row _ _ _ _ _ _ (heap_alloc_new w2 _)]; rfl
 have Z1:wz.cell? ⟨w2.heap.size,1,none⟩=some (.slice S1 g.network.off.length s1_):=by rw [← hwz,cell_of_row _ _ _ _ _ _ (heap_alloc_new w2 _)]; rfl
 have Z2:wz.cell? ⟨w2.heap.size,2,none⟩=some (.int .i64 g.network.change):=by rw [← hwz,cell_of_row _ _ _ _ _ _ (heap_alloc_new w2 _)]; rfl
 have Z3:wz.cell? ⟨w2.heap.size,3,none⟩=some (.slice S3 g.orders.length s3_):=by rw [← hwz,cell_of_row _ _ _ _ _ _ (heap_alloc_new w2 _)]; rfl
 have Z4:wz.cell? ⟨w2.heap.size,4,none⟩=some (.slice S4 g.bookings.length s4_):=by rw [← hwz,cell_of_row _ _ _ _ _ _ (heap_alloc_new w2 _)]; rfl
 have Z5:wz.cell? ⟨w2.heap.size,5,none⟩=some (.slice S5 g.closed.length s5_):=by rw [← hwz,cell_of_row _ _ _ _ _ _ (heap_alloc_new w2 _)]; rfl
 have Z6:wz.cell? ⟨w2.heap.size,6,none⟩=some (.int .i64 g.now):=by rw [← hwz,cell_of_row _ _ _ _ _ _ (heap_alloc_new w2 _)]; rfl
 have Z7:wz.cell? ⟨w2.heap.size,7,none⟩=some (.slice S7 g.scans.length s7_):=by rw [← hwz,cell_of_row _ _ _ _ _ _ (heap_alloc_new w2 _)]; rfl
 have Z8:wz.cell? ⟨w2.heap.size,8,none⟩=some (.slice S8 g.skip.length s8_):=by rw [← hwz,cell_of_row _ _ _ _ _ _ (heap_alloc_new w2 _)]; rfl
 have Z9:wz.cell? ⟨w2.heap.size,9,none⟩=some (.int .i64 g.made):=by rw [← hwz,cell_of_row _ _ _ _ _ _ (heap_alloc_new w2 _)]; rfl
 clear hwz
 have hVz:=Up.step hbz hV2
 have hnz:w2.heap.size<wz.heap.size:=by omega
 have hsz:=hs2.up hbz
 refine (Zgp x ht (HR.up hVz)).mono ?_
 rintro e w3 ⟨q0,q1,q3,q4,q5,q7,q8,rfl,hb3,hs3,hq3⟩
 have hV3:=Up.step hb3 hVz
 obtain ⟨X0,x0_,e0⟩:=Zs hq3.r0
 obtain ⟨X1,x1_,e1⟩:=Zs hq3.r1
 obtain ⟨X3,x3_,e3⟩:=Zs hq3.r3
 obtain ⟨X4,x4_,e4⟩:=Zs hq3.r4
 obtain ⟨X5,x5_,e5⟩:=Zs hq3.r5
 obtain ⟨X7,x7_,e7⟩:=Zs hq3.r7
 obtain ⟨X8,x8_,e8⟩:=Zs hq3.r8
 rw [List.length_map] at e0 e1 e3 e4 e5 e7 e8
 subst e0 e1 e3 e4 e5 e7 e8
 go_wp2_with fail
 generalize hwx:World.alloc w3 _=wx
 have hbx:Up w3 wx:=by rw [← hwx]; (repeat (first | exact Up.rfl' _ | (refine Up.al _ ?_) | (refine Up.dr _ ?_) | (refine Up.dr1 ?_) | (refine Up.sc ?_ (by first | exact Nat.le_refl _ | (simp; done) | omega) _) | (refine Up.step (by assumption) ?_)))
 have hxs:wx.heap.size=w3.heap.size+1:=by rw [← hwx]; simp
 have B0:wx.cell? ⟨w3.heap.size,0,none⟩=some (.slice X0 x.network.legs.length x0_):=by rw [← hwx,cell_of_row _ _ _ _ _ _ (heap_alloc_new w3 _)]; rfl
 have B1:wx.cell? ⟨w3.heap.size,1,none⟩=some (.slice X1 x.network.off.length x1_):=by rw [← hwx,cell_of_row _ _ _ _ _ _ (heap_alloc_new w3 _)]; rfl
 have B2:wx.cell? ⟨w3.heap.size,2,none⟩=some (.int .i64 x.network.change):=by rw [← hwx,cell_of_row _ _ _ _ _ _ (heap_alloc_new w3 _)]; rfl
 have B3:wx.cell? ⟨w3.heap.size,3,none⟩=some (.slice X3 x.orders.length x3_):=by rw [← hwx,cell_of_row _ _ _ _ _ _ (heap_alloc_new w3 _)]; rfl
 have B4:wx.cell? ⟨w3.heap.size,4,none⟩=some (.slice X4 x.bookings.length x4_):=by rw [← hwx,cell_of_row _ _ _ _ _ _ (heap_alloc_new w3 _)]; rfl
 have B5:wx.cell? ⟨w3.heap.size,5,none⟩=some (.slice X5 x.closed.length x5_):=by rw [← hwx,cell_of_row _ _ _ _ _ _ (heap_alloc_new w3 _)]; rfl
 have B6:wx.cell? ⟨w3.heap.size,6,none⟩=some (.int .i64 x.now):=by rw [← hwx,cell_of_row _ _ _ _ _ _ (heap_alloc_new w3 _)]; rfl
 have B7:wx.cell? ⟨w3.heap.size,7,none⟩=some (.slice X7 x.scans.length x7_):=by rw [← hwx,cell_of_row _ _ _ _ _ _ (heap_alloc_new w3 _)]; rfl
 have B8:wx.cell? ⟨w3.heap.size,8,none⟩=some (.slice X8 x.skip.length x8_):=by rw [← hwx,cell_of_row _ _ _ _ _ _ (heap_alloc_new w3 _)]; rfl
 have B9:wx.cell? ⟨w3.heap.size,9,none⟩=some (.int .i64 x.made):=by rw [← hwx,cell_of_row _ _ _ _ _ _ (heap_alloc_new w3 _)]; rfl
 clear hwx
 have hVx:=Up.step hbx hV3
 have hqx:=hq3.up hbx
 have hnx:w3.heap.size<wx.heap.size:=by omega
 refine (CallM.worldO1 (CT.ok hgi) rfl (argE hqx.rep)).mono ?_
 rintro e w4 ⟨Y0,y0_,Y1,y1_,Y3,y3_,Y4,y4_,Y5,y5_,Y7,y7_,Y8,y8_,us,W,G0,G1,G3,G4,G5,G7,G8,rfl,hb4,ho4⟩
 have hV4:=Up.step hb4 hVx
 have hz4:Up wz w4:=Up.step hb4 (Up.step hbx hb3)
 have z4_0:w4.cell? ⟨w2.heap.size,0,none⟩=some (.slice S0 g.network.legs.length s0_):=(hz4.cell (p:=⟨w2.heap.size,0,none⟩) hnz).trans Z0
 have z4_1:w4.cell? ⟨w2.heap.size,1,none⟩=some (.slice S1 g.network.off.length s1_):=(hz4.cell (p:=⟨w2.heap.size,1,none⟩) hnz).trans Z1
 have z4_2:w4.cell? ⟨w2.heap.size,2,none⟩=some (.int .i64 g.network.change):=(hz4.cell (p:=⟨w2.heap.size,2,none⟩) hnz).trans Z2
 have z4_3:w4.cell? ⟨w2.heap.size,3,none⟩=some (.slice S3 g.orders.length s3_):=(hz4.cell (p:=⟨w2.heap.size,3,none⟩) hnz).trans Z3
 have z4_4:w4.cell? ⟨w2.heap.size,4,none⟩=some (.slice S4 g.bookings.length s4_):=(hz4.cell (p:=⟨w2.heap.size,4,none⟩) hnz).trans Z4
 have z4_5:w4.cell? ⟨w2.heap.size,5,none⟩=some (.slice S5 g.closed.length s5_):=(hz4.cell (p:=⟨w2.heap.size,5,none⟩) hnz).trans Z5
 have z4_6:w4.cell? ⟨w2.heap.size,6,none⟩=some (.int .i64 g.now):=(hz4.cell (p:=⟨w2.heap.size,6,none⟩) hnz).trans Z6
 have z4_7:w4.cell? ⟨w2.heap.size,7,none⟩=some (.slice S7 g.scans.length s7_):=(hz4.cell (p:=⟨w2.heap.size,7,none⟩) hnz).trans Z7
 have z4_8:w4.cell? ⟨w2.heap.size,8,none⟩=some (.slice S8 g.skip.length s8_):=(hz4.cell (p:=⟨w2.heap.size,8,none⟩) hnz).trans Z8
 have z4_9:w4.cell? ⟨w2.heap.size,9,none⟩=some (.int .i64 g.made):=(hz4.cell (p:=⟨w2.heap.size,9,none⟩) hnz).trans Z9
 have hl4:w2.heap.size<w4.heap.size:=by have:=hz4.size; omega
 have hn4:¬ w2.heap.size=w4.heap.size:=by omega
 go_wp2_with fail
 clear z4_0 z4_1 z4_2 z4_3 z4_4 z4_5 z4_6 z4_7 z4_8 z4_9
 generalize hwg:World.alloc w4 _=wg
 have hbg:Up w4 wg:=by rw [← hwg]; (repeat (first | exact Up.rfl' _ | (refine Up.al _ ?_) | (refine Up.dr _ ?_) | (refine Up.dr1 ?_) | (refine Up.sc ?_ (by first | exact Nat.le_refl _ | (simp; done) | omega) _) | (refine Up.step (by assumption) ?_)))
 have hgs_:wg.heap.size=w4.heap.size+1:=by rw [← hwg]; simp
 have D0:wg.cell? ⟨w4.heap.size,0,none⟩=some (.slice Y0 g.network.legs.length y0_):=by rw [← hwg,cell_of_row _ _ _ _ _ _ (heap_alloc_new w4 _)]; rfl
 have D1:wg.cell? ⟨w4.heap.size,1,none⟩=some (.slice Y1 g.network.off.length y1_):=by rw [← hwg,cell_of_row _ _ _ _ _ _ (heap_alloc_new w4 _)]; rfl
 have D2:wg.cell? ⟨w4.heap.size,2,none⟩=some (.int .i64 g.network.change):=by rw [← hwg,cell_of_row _ _ _ _ _ _ (heap_alloc_new w4 _)]; rfl
 have D3:wg.cell? ⟨w4.heap.size,3,none⟩=some (.slice Y3 g.orders.length y3_):=by rw [← hwg,cell_of_row _ _ _ _ _ _ (heap_alloc_new w4 _)]; rfl
 have D4:wg.cell? ⟨w4.heap.size,4,none⟩=some (.slice Y4 g.bookings.length y4_):=by rw [← hwg,cell_of_row _ _ _ _ _ _ (heap_alloc_new w4 _)]; rfl
 have D5:wg.cell? ⟨w4.heap.size,5,none⟩=some (.slice Y5 g.closed.length y5_):=by rw [← hwg,cell_of_row _ _ _ _ _ _ (heap_alloc_new w4 _)]; rfl
 have D6:wg.cell? ⟨w4.heap.size,6,none⟩=some (.int .i64 g.now):=by rw [← hwg,cell_of_row _ _ _ _ _ _ (heap_alloc_new w4 _)]; rfl
 have D7:wg.cell? ⟨w4.heap.size,7,none⟩=some (.slice Y7 g.scans.length y7_):=by rw [← hwg,cell_of_row _ _ _ _ _ _ (heap_alloc_new w4 _)]; rfl
 have D8:wg.cell? ⟨w4.heap.size,8,none⟩=some (.slice Y8 g.skip.length y8_):=by rw [← hwg,cell_of_row _ _ _ _ _ _ (heap_alloc_new w4 _)]; rfl
 have D9:wg.cell? ⟨w4.heap.size,9,none⟩=some (.int .i64 g.made):=by rw [← hwg,cell_of_row _ _ _ _ _ _ (heap_alloc_new w4 _)]; rfl
 clear hwg
 have hVg:=Up.step hbg hV4
 have hog:=ho4.up hbg
 have hng:w4.heap.size<wg.heap.size:=by omega
 have hzg:Up wz wg:=Up.step hbg (Up.step hb4 (Up.step hbx hb3))
 refine (Zhp hgq hog.rep (hsz.up hzg)).mono ?_
 rintro e w5 ⟨rfl,hb5⟩
 have hV5:=Up.step hb5 hVg
 have a5_0:w5.cell? ⟨w.heap.size,0,none⟩=some (u0):=(hV5.cell (p:=⟨w.heap.size,0,none⟩) hnl).trans A0
 have a5_1:w5.cell? ⟨w.heap.size,1,none⟩=some (u1):=(hV5.cell (p:=⟨w.heap.size,1,none⟩) hnl).trans A1
 have a5_2:w5.cell? ⟨w.heap.size,2,none⟩=some (.int .i64 x.network.change):=(hV5.cell (p:=⟨w.heap.size,2,none⟩) hnl).trans A2
 have a5_3:w5.cell? ⟨w.heap.size,3,none⟩=some (u3):=(hV5.cell (p:=⟨w.heap.size,3,none⟩) hnl).trans A3
 have a5_4:w5.cell? ⟨w.heap.size,4,none⟩=some (u4):=(hV5.cell (p:=⟨w.heap.size,4,none⟩) hnl).trans A4
 have a5_5:w5.cell? ⟨w.heap.size,5,none⟩=some (u5):=(hV5.cell (p:=⟨w.heap.size,5,none⟩) hnl).trans A5
 have a5_6:w5.cell? ⟨w.heap.size,6,none⟩=some (.int .i64 x.now):=(hV5.cell (p:=⟨w.heap.size,6,none⟩) hnl).trans A6
 have a5_7:w5.cell? ⟨w.heap.size,7,none⟩=some (u7):=(hV5.cell (p:=⟨w.heap.size,7,none⟩) hnl).trans A7
 have a5_8:w5.cell? ⟨w.heap.size,8,none⟩=some (u8):=(hV5.cell (p:=⟨w.heap.size,8,none⟩) hnl).trans A8
 have a5_9:w5.cell? ⟨w.heap.size,9,none⟩=some (.int .i64 x.made):=(hV5.cell (p:=⟨w.heap.size,9,none⟩) hnl).trans A9
 have hx5:Up wx w5:=Up.step hb5 (Up.step hbg hb4)
 have b5_0:w5.cell? ⟨w3.heap.size,0,none⟩=some (.slice X0 x.network.legs.length x0_):=(hx5.cell (p:=⟨w3.heap.size,0,none⟩) hnx).trans B0
 have b5_1:w5.cell? ⟨w3.heap.size,1,none⟩=some (.slice X1 x.network.off.length x1_):=(hx5.cell (p:=⟨w3.heap.size,1,none⟩) hnx).trans B1
 have b5_2:w5.cell? ⟨w3.heap.size,2,none⟩=some (.int .i64 x.network.change):=(hx5.cell (p:=⟨w3.heap.size,2,none⟩) hnx).trans B2
 have b5_3:w5.cell? ⟨w3.heap.size,3,none⟩=some (.slice X3 x.orders.length x3_):=(hx5.cell (p:=⟨w3.heap.size,3,none⟩) hnx).trans B3
 have b5_4:w5.cell? ⟨w3.heap.size,4,none⟩=some (.slice X4 x.bookings.length x4_):=(hx5.cell (p:=⟨w3.heap.size,4,none⟩) hnx).trans B4
 have b5_5:w5.cell? ⟨w3.heap.size,5,none⟩=some (.slice X5 x.closed.length x5_):=(hx5.cell (p:=⟨w3.heap.size,5,none⟩) hnx).trans B5
 have b5_6:w5.cell? ⟨w3.heap.size,6,none⟩=some (.int .i64 x.now):=(hx5.cell (p:=⟨w3.heap.size,6,none⟩) hnx).trans B6
 have b5_7:w5.cell? ⟨w3.heap.size,7,none⟩=some (.slice X7 x.scans.length x7_):=(hx5.cell (p:=⟨w3.heap.size,7,none⟩) hnx).trans B7
 have b5_8:w5.cell? ⟨w3.heap.size,8,none⟩=some (.slice X8 x.skip.length x8_):=(hx5.cell (p:=⟨w3.heap.size,8,none⟩) hnx).trans B8
 have b5_9:w5.cell? ⟨w3.heap.size,9,none⟩=some (.int .i64 x.made):=(hx5.cell (p:=⟨w3.heap.size,9,none⟩) hnx).trans B9
 have hq5:=hqx.up hx5
 go_wp2_with fail
 have keep_:∀ w',Up w5 w'→(w'.cell? ⟨w3.heap.size,0,none⟩=some (.slice X0 x.network.legs.length x0_)∧w'.cell? ⟨w3.heap.size,1,none⟩=some (.slice X1 x.network.off.length x1_)∧w'.cell? ⟨w3.heap.size,2,none⟩=some (.int .i64 x.network.change)∧w'.cell? ⟨w3.heap.size,3,none⟩=some (.slice X3 x.orders.length x3_)∧w'.cell? ⟨w3.heap.size,4,none⟩=some (.slice X4 x.bookings.length x4_)∧w'.cell? ⟨w3.heap.size,5,none⟩=some (.slice X5 x.closed.length x5_)∧w'.cell? ⟨w3.heap.size,6,none⟩=some (.int .i64 x.now)∧w'.cell? ⟨w3.heap.size,7,none⟩=some (.slice X7 x.scans.length x7_)∧w'.cell? ⟨w3.heap.size,8,none⟩=some (.slice X8 x.skip.length x8_)∧w'.cell? ⟨w3.heap.size,9,none⟩=some (.int .i64 x.made)∧w'.cell? ⟨w.heap.size,0,none⟩=some (u0)∧w'.cell? ⟨w.heap.size,1,none⟩=some (u1)∧w'.cell? ⟨w.heap.size,2,none⟩=some (.int .i64 x.network.change)∧w'.cell? ⟨w.heap.size,3,none⟩=some (u3)∧w'.cell? ⟨w.heap.size,4,none⟩=some (u4)∧w'.cell? ⟨w.heap.size,5,none⟩=some (u5)∧w'.cell? ⟨w.heap.size,6,none⟩=some (.int .i64 x.now)∧w'.cell? ⟨w.heap.size,7,none⟩=some (u7)∧w'.cell? ⟨w.heap.size,8,none⟩=some (u8)∧w'.cell? ⟨w.heap.size,9,none⟩=some (.int .i64 x.made)):=fun w' hu=>⟨ZaA hu b5_0,ZaA hu b5_1,ZaA hu b5_2,ZaA hu b5_3,ZaA hu b5_4,ZaA hu b5_5,ZaA hu b5_6,ZaA hu b5_7,ZaA hu b5_8,ZaA hu b5_9,ZaA hu a5_0,ZaA hu a5_1,ZaA hu a5_2,ZaA hu a5_3,ZaA hu a5_4,ZaA hu a5_5,ZaA hu a5_6,ZaA hu a5_7,ZaA hu a5_8,ZaA hu a5_9⟩
 go_region_held3 (fun w'=>w'.cell? ⟨w3.heap.size,0,none⟩=some (.slice X0 x.network.legs.length x0_)∧w'.cell? ⟨w3.heap.size,1,none⟩=some (.slice X1 x.network.off.length x1_)∧w'.cell? ⟨w3.heap.size,2,none⟩=some (.int .i64 x.network.change)∧w'.cell? ⟨w3.heap.size,3,none⟩=some (.slice X3 x.orders.length x3_)∧w'.cell? ⟨w3.heap.size,4,none⟩=some (.slice X4 x.bookings.length x4_)∧w'.cell? ⟨w3.heap.size,5,none⟩=some (.slice X5 x.closed.length x5_)∧w'.cell? ⟨w3.heap.size,6,none⟩=some (.int .i64 x.now)∧w'.cell? ⟨w3.heap.size,7,none⟩=some (.slice X7 x.scans.length x7_)∧w'.cell? ⟨w3.heap.size,8,none⟩=some (.slice X8 x.skip.length x8_)∧w'.cell? ⟨w3.heap.size,9,none⟩=some (.int .i64 x.made)∧w'.cell? ⟨w.heap.size,0,none⟩=some (u0)∧w'.cell? ⟨w.heap.size,1,none⟩=some (u1)∧w'.cell? ⟨w.heap.size,2,none⟩=some (.int .i64 x.network.change)∧w'.cell? ⟨w.heap.size,3,none⟩=some (u3)∧w'.cell? ⟨w.heap.size,4,none⟩=some (u4)∧w'.cell? ⟨w.heap.size,5,none⟩=some (u5)∧w'.cell? ⟨w.heap.size,6,none⟩=some (.int .i64 x.now)∧w'.cell? ⟨w.heap.size,7,none⟩=some (u7)∧w'.cell? ⟨w.heap.size,8,none⟩=some (u8)∧w'.cell? ⟨w.heap.size,9,none⟩=some (.int .i64 x.made))
  (first | exact keep_ _ (by (repeat (first | exact Up.rfl' _ | (refine Up.al _ ?_) | (refine Up.dr _ ?_) | (refine Up.dr1 ?_) | (refine Up.sc ?_ (by first | exact Nat.le_refl _ | (simp; done) | omega) _) | (refine Up.step (by assumption) ?_)))) | go_keep)
  (first
   | (go_at_call 17; refine (Zgp x ht (HR.up (Up.step (by (repeat (first | exact Up.rfl' _ | (refine Up.al _ ?_) | (refine Up.dr _ ?_) | (refine Up.dr1 ?_) | (refine Up.sc ?_ (by first | exact Nat.le_refl _ | (simp; done) | omega) _) | (refine Up.step (by assumption) ?_)))) hV5))).mono ?_; rintro e w6 ⟨r0,r1,r3,r4,r5,r7,r8,rfl,hb6,_,hr6⟩)
   | (go_at_call 19; refine (Znj ht (hq5.up (by (repeat (first | exact Up.rfl' _ | (refine Up.al _ ?_) | (refine Up.dr _ ?_) | (refine Up.dr1 ?_) | (refine Up.sc ?_ (by first | exact Nat.le_refl _ | (simp; done) | omega) _) | (refine Up.step (by assumption) ?_))))) (hr6.up (by (repeat (first | exact Up.rfl' _ | (refine Up.al _ ?_) | (refine Up.dr _ ?_) | (refine Up.dr1 ?_) | (refine Up.sc ?_ (by first | exact Nat.le_refl _ | (simp; done) | omega) _) | (refine Up.step (by assumption) ?_)))))).mono ?_; rintro e w7 ⟨rfl,hb7⟩))
 have h57:Up w5 w7:=by (repeat (first | exact Up.rfl' _ | (refine Up.al _ ?_) | (refine Up.dr _ ?_) | (refine Up.dr1 ?_) | (refine Up.sc ?_ (by first | exact Nat.le_refl _ | (simp; done) | omega) _) | (refine Up.step (by assumption) ?_)))
 have hV7:=Up.step h57 hV5
 have hg7:=Up.step h57 hb5
 have hx7:=Up.step h57 hx5
 have hz7:=Up.step hg7 hzg
 clear keep_
 clear a5_0 a5_1 a5_2 a5_3 a5_4 a5_5 a5_6 a5_7 a5_8 a5_9 b5_0 b5_1 b5_2 b5_3 b5_4 b5_5 b5_6 b5_7 b5_8 b5_9
 have b7_0:w7.cell? ⟨w3.heap.size,0,none⟩=some (.slice X0 x.network.legs.length x0_):=(hx7.cell (p:=⟨w3.heap.size,0,none⟩) hnx).trans B0
 have b7_1:w7.cell? ⟨w3.heap.size,1,none⟩=some (.slice X1 x.network.off.length x1_):=(hx7.cell (p:=⟨w3.heap.size,1,none⟩) hnx).trans B1
 have b7_2:w7.cell? ⟨w3.heap.size,2,none⟩=some (.int .i64 x.network.change):=(hx7.cell (p:=⟨w3.heap.size,2,none⟩) hnx).trans B2
 have b7_3:w7.cell? ⟨w3.heap.size,3,none⟩=some (.slice X3 x.orders.length x3_):=(hx7.cell (p:=⟨w3.heap.size,3,none⟩) hnx).trans B3
 have b7_4:w7.cell? ⟨w3.heap.size,4,none⟩=some (.slice X4 x.bookings.length x4_):=(hx7.cell (p:=⟨w3.heap.size,4,none⟩) hnx).trans B4
 have b7_5:w7.cell? ⟨w3.heap.size,5,none⟩=some (.slice X5 x.closed.length x5_):=(hx7.cell (p:=⟨w3.heap.size,5,none⟩) hnx).trans B5
 have b7_6:w7.cell? ⟨w3.heap.size,6,none⟩=some (.int .i64 x.now):=(hx7.cell (p:=⟨w3.heap.size,6,none⟩) hnx).trans B6
 have b7_7:w7.cell? ⟨w3.heap.size,7,none⟩=some (.slice X7 x.scans.length x7_):=(hx7.cell (p:=⟨w3.heap.size,7,none⟩) hnx).trans B7
 have b7_8:w7.cell? ⟨w3.heap.size,8,none⟩=some (.slice X8 x.skip.length x8_):=(hx7.cell (p:=⟨w3.heap.size,8,none⟩) hnx).trans B8
 have b7_9:w7.cell? ⟨w3.heap.size,9,none⟩=some (.int .i64 x.made):=(hx7.cell (p:=⟨w3.heap.size,9,none⟩) hnx).trans B9
 have hs7:=hs3.toD.up (Up.step hx7 hbx)
 go_wp2_with fail
 refine (ZjL _ _ _ _ _ _ _ _ _ _ _ hs7).mono ?_
 rintro e w8 ⟨kk,rfl,hk1,hk2,hm8⟩
 clear b7_0 b7_1 b7_2 b7_3 b7_4 b7_5 b7_6 b7_7 b7_8 b7_9
 have z3:=hb3.size; have z4:=hb4.size; have z5:=hbx.size
 have z2:=hVz.size
 have hV8:=hV7.mk' hm8 (fun q hq=>by omega)
 have hz8:=hz7.mk' hm8 (fun q hq=>by omega)
 have ho8:=(hog.up hg7).mk' hm8 (fun q hq=>by omega)
 have hkk:¬ kk<0:=by omega
 have d8_0:w8.cell? ⟨w4.heap.size,0,none⟩=some (.slice Y0 g.network.legs.length y0_):=Zy hm8.upo ((hg7.cell (p:=⟨w4.heap.size,0,none⟩) hng).trans D0) (fun hd=>by omega)
 have d8_1:w8.cell? ⟨w4.heap.size,1,none⟩=some (.slice Y1 g.network.off.length y1_):=Zy hm8.upo ((hg7.cell (p:=⟨w4.heap.size,1,none⟩) hng).trans D1) (fun hd=>by omega)
 have d8_2:w8.cell? ⟨w4.heap.size,2,none⟩=some (.int .i64 g.network.change):=Zy hm8.upo ((hg7.cell (p:=⟨w4.heap.size,2,none⟩) hng).trans D2) (fun hd=>by omega)
 have d8_3:w8.cell? ⟨w4.heap.size,3,none⟩=some (.slice Y3 g.orders.length y3_):=Zy hm8.upo ((hg7.cell (p:=⟨w4.heap.size,3,none⟩) hng).trans D3) (fun hd=>by omega)
 have d8_4:w8.cell? ⟨w4.heap.size,4,none⟩=some (.slice Y4 g.bookings.length y4_):=Zy hm8.upo ((hg7.cell (p:=⟨w4.heap.size,4,none⟩) hng).trans D4) (fun hd=>by omega)
 have d8_5:w8.cell? ⟨w4.heap.size,5,none⟩=some (.slice Y5 g.closed.length y5_):=Zy hm8.upo ((hg7.cell (p:=⟨w4.heap.size,5,none⟩) hng).trans D5) (fun hd=>by omega)
 have d8_6:w8.cell? ⟨w4.heap.size,6,none⟩=some (.int .i64 g.now):=Zy hm8.upo ((hg7.cell (p:=⟨w4.heap.size,6,none⟩) hng).trans D6) (fun hd=>by omega)
 have d8_7:w8.cell? ⟨w4.heap.size,7,none⟩=some (.slice Y7 g.scans.length y7_):=Zy hm8.upo ((hg7.cell (p:=⟨w4.heap.size,7,none⟩) hng).trans D7) (fun hd=>by omega)
 have d8_8:w8.cell? ⟨w4.heap.size,8,none⟩=some (.slice Y8 g.skip.length y8_):=Zy hm8.upo ((hg7.cell (p:=⟨w4.heap.size,8,none⟩) hng).trans D8) (fun hd=>by omega)
 have d8_9:w8.cell? ⟨w4.heap.size,9,none⟩=some (.int .i64 g.made):=Zy hm8.upo ((hg7.cell (p:=⟨w4.heap.size,9,none⟩) hng).trans D9) (fun hd=>by omega)
 have z8_0:w8.cell? ⟨w2.heap.size,0,none⟩=some (.slice S0 g.network.legs.length s0_):=(hz8.cell (p:=⟨w2.heap.size,0,none⟩) hnz).trans Z0
 have z8_1:w8.cell? ⟨w2.heap.size,1,none⟩=some (.slice S1 g.network.off.length s1_):=(hz8.cell (p:=⟨w2.heap.size,1,none⟩) hnz).trans Z1
 have z8_2:w8.cell? ⟨w2.heap.size,2,none⟩=some (.int .i64 g.network.change):=(hz8.cell (p:=⟨w2.heap.size,2,none⟩) hnz).trans Z2
 have z8_3:w8.cell? ⟨w2.heap.size,3,none⟩=some (.slice S3 g.orders.length s3_):=(hz8.cell (p:=⟨w2.heap.size,3,none⟩) hnz).trans Z3
 have z8_4:w8.cell? ⟨w2.heap.size,4,none⟩=some (.slice S4 g.bookings.length s4_):=(hz8.cell (p:=⟨w2.heap.size,4,none⟩) hnz).trans Z4
 have z8_5:w8.cell? ⟨w2.heap.size,5,none⟩=some (.slice S5 g.closed.length s5_):=(hz8.cell (p:=⟨w2.heap.size,5,none⟩) hnz).trans Z5
 have z8_6:w8.cell? ⟨w2.heap.size,6,none⟩=some (.int .i64 g.now):=(hz8.cell (p:=⟨w2.heap.size,6,none⟩) hnz).trans Z6
 have z8_7:w8.cell? ⟨w2.heap.size,7,none⟩=some (.slice S7 g.scans.length s7_):=(hz8.cell (p:=⟨w2.heap.size,7,none⟩) hnz).trans Z7
 have z8_8:w8.cell? ⟨w2.heap.size,8,none⟩=some (.slice S8 g.skip.length s8_):=(hz8.cell (p:=⟨w2.heap.size,8,none⟩) hnz).trans Z8
 have z8_9:w8.cell? ⟨w2.heap.size,9,none⟩=some (.int .i64 g.made):=(hz8.cell (p:=⟨w2.heap.size,9,none⟩) hnz).trans Z9
 go_wp2_with fail
 refine (Zhp hgq ho8.rep (hsz.up hz8)).mono ?_
 rintro e w9 ⟨rfl,hb9⟩
 have hV9:=Up.step hb9 hV8
 have hz9:=Up.step hb9 hz8
 have ho9:=ho8.up hb9
 have d9_0:w9.cell? ⟨w4.heap.size,0,none⟩=some (.slice Y0 g.network.legs.length y0_):=ZaA hb9 d8_0
 have d9_1:w9.cell? ⟨w4.heap.size,1,none⟩=some (.slice Y1 g.network.off.length y1_):=ZaA hb9 d8_1
 have d9_2:w9.cell? ⟨w4.heap.size,2,none⟩=some (.int .i64 g.network.change):=ZaA hb9 d8_2
 have d9_3:w9.cell? ⟨w4.heap.size,3,none⟩=some (.slice Y3 g.orders.length y3_):=ZaA hb9 d8_3
 have d9_4:w9.cell? ⟨w4.heap.size,4,none⟩=some (.slice Y4 g.bookings.length y4_):=ZaA hb9 d8_4
 have d9_5:w9.cell? ⟨w4.heap.size,5,none⟩=some (.slice Y5 g.closed.length y5_):=ZaA hb9 d8_5
 have d9_6:w9.cell? ⟨w4.heap.size,6,none⟩=some (.int .i64 g.now):=ZaA hb9 d8_6
 have d9_7:w9.cell? ⟨w4.heap.size,7,none⟩=some (.slice Y7 g.scans.length y7_):=ZaA hb9 d8_7
 have d9_8:w9.cell? ⟨w4.heap.size,8,none⟩=some (.slice Y8 g.skip.length y8_):=ZaA hb9 d8_8
 have d9_9:w9.cell? ⟨w4.heap.size,9,none⟩=some (.int .i64 g.made):=ZaA hb9 d8_9
 clear d8_0 d8_1 d8_2 d8_3 d8_4 d8_5 d8_6 d8_7 d8_8 d8_9 z8_0 z8_1 z8_2 z8_3 z8_4 z8_5 z8_6 z8_7 z8_8 z8_9
 go_wp2_with fail
 refine (OwnV.mark ho9 hgm _ _ _).mono ?_
 rintro e w10 ⟨rfl,hm10,hu10⟩
 have z6:=hVx.size; have z7:=hz4.size; have z8:=hbx.size; have z9:=hb3.size
 have hV10:=hV9.upo hu10 (fun q hq=>by have:=hq.1; omega)
 have hz10:=hz9.upo hu10 (fun q hq=>by have:=hq.1; omega)
 have d10_0:w10.cell? ⟨w4.heap.size,0,none⟩=some (.slice Y0 g.network.legs.length y0_):=Zy hu10 d9_0 (fun hq=>by have:=ho4.gw.lt hq.2.2; omega)
 have d10_1:w10.cell? ⟨w4.heap.size,1,none⟩=some (.slice Y1 g.network.off.length y1_):=Zy hu10 d9_1 (fun hq=>by have:=ho4.gw.lt hq.2.2; omega)
 have d10_2:w10.cell? ⟨w4.heap.size,2,none⟩=some (.int .i64 g.network.change):=Zy hu10 d9_2 (fun hq=>by have:=ho4.gw.lt hq.2.2; omega)
 have d10_3:w10.cell? ⟨w4.heap.size,3,none⟩=some (.slice Y3 g.orders.length y3_):=Zy hu10 d9_3 (fun hq=>by have:=ho4.gw.lt hq.2.2; omega)
 have d10_4:w10.cell? ⟨w4.heap.size,4,none⟩=some (.slice Y4 g.bookings.length y4_):=Zy hu10 d9_4 (fun hq=>by have:=ho4.gw.lt hq.2.2; omega)
 have d10_5:w10.cell? ⟨w4.heap.size,5,none⟩=some (.slice Y5 g.closed.length y5_):=Zy hu10 d9_5 (fun hq=>by have:=ho4.gw.lt hq.2.2; omega)
 have d10_6:w10.cell? ⟨w4.heap.size,6,none⟩=some (.int .i64 g.now):=Zy hu10 d9_6 (fun hq=>by have:=ho4.gw.lt hq.2.2; omega)
 have d10_7:w10.cell? ⟨w4.heap.size,7,none⟩=some (.slice Y7 g.scans.length y7_):=Zy hu10 d9_7 (fun hq=>by have:=ho4.gw.lt hq.2.2; omega)
 have d10_8:w10.cell? ⟨w4.heap.size,8,none⟩=some (.slice Y8 g.skip.length y8_):=Zy hu10 d9_8 (fun hq=>by have:=ho4.gw.lt hq.2.2; omega)
 have d10_9:w10.cell? ⟨w4.heap.size,9,none⟩=some (.int .i64 g.made):=Zy hu10 d9_9 (fun hq=>by have:=ho4.gw.lt hq.2.2; omega)
 clear d9_0 d9_1 d9_2 d9_3 d9_4 d9_5 d9_6 d9_7 d9_8 d9_9
 have hq0:¬ k6W g 1<0:=by have:=hgm.ks; omega
 go_wp2_with fail
 refine (Zhx hgm hm10).mono ?_
 rintro e w11 ⟨rfl,hb11⟩
 have hV11:=Up.step hb11 hV10
 have hz11:=Up.step hb11 hz10
 have a11_0:w11.cell? ⟨w.heap.size,0,none⟩=some (u0):=(hV11.cell (p:=⟨w.heap.size,0,none⟩) hnl).trans A0
 have a11_1:w11.cell? ⟨w.heap.size,1,none⟩=some (u1):=(hV11.cell (p:=⟨w.heap.size,1,none⟩) hnl).trans A1
 have a11_2:w11.cell? ⟨w.heap.size,2,none⟩=some (.int .i64 x.network.change):=(hV11.cell (p:=⟨w.heap.size,2,none⟩) hnl).trans A2
 have a11_3:w11.cell? ⟨w.heap.size,3,none⟩=some (u3):=(hV11.cell (p:=⟨w.heap.size,3,none⟩) hnl).trans A3
 have a11_4:w11.cell? ⟨w.heap.size,4,none⟩=some (u4):=(hV11.cell (p:=⟨w.heap.size,4,none⟩) hnl).trans A4
 have a11_5:w11.cell? ⟨w.heap.size,5,none⟩=some (u5):=(hV11.cell (p:=⟨w.heap.size,5,none⟩) hnl).trans A5
 have a11_6:w11.cell? ⟨w.heap.size,6,none⟩=some (.int .i64 x.now):=(hV11.cell (p:=⟨w.heap.size,6,none⟩) hnl).trans A6
 have a11_7:w11.cell? ⟨w.heap.size,7,none⟩=some (u7):=(hV11.cell (p:=⟨w.heap.size,7,none⟩) hnl).trans A7
 have a11_8:w11.cell? ⟨w.heap.size,8,none⟩=some (u8):=(hV11.cell (p:=⟨w.heap.size,8,none⟩) hnl).trans A8
 have a11_9:w11.cell? ⟨w.heap.size,9,none⟩=some (.int .i64 x.made):=(hV11.cell (p:=⟨w.heap.size,9,none⟩) hnl).trans A9
 go_wp2_with fail
 refine (Zgp x ht (HR.up hV11)).mono ?_
 rintro e w12 ⟨t0,t1,t3,t4,t5,t7,t8,rfl,hb12,_,hp12⟩
 clear a11_0 a11_1 a11_2 a11_3 a11_4 a11_5 a11_6 a11_7 a11_8 a11_9
 go_wp2_with fail
 refine (CallM.worldO1 (CT.ok hgi) rfl (argE hp12.rep)).mono ?_
 rintro e w13 ⟨R0,r0_,R1,r1_,R3,r3_,R4,r4_,R5,r5_,R7,r7_,R8,r8_,us2,W2,H0,H1,H3,H4,H5,H7,H8,rfl,hb13,ho13⟩
 have hz13:=Up.step hb13 (Up.step hb12 hz11)
 have hV13:=Up.step hb13 (Up.step hb12 hV11)
 have z13_0:w13.cell? ⟨w2.heap.size,0,none⟩=some (.slice S0 g.network.legs.length s0_):=(hz13.cell (p:=⟨w2.heap.size,0,none⟩) hnz).trans Z0
 have z13_1:w13.cell? ⟨w2.heap.size,1,none⟩=some (.slice S1 g.network.off.length s1_):=(hz13.cell (p:=⟨w2.heap.size,1,none⟩) hnz).trans Z1
 have z13_2:w13.cell? ⟨w2.heap.size,2,none⟩=some (.int .i64 g.network.change):=(hz13.cell (p:=⟨w2.heap.size,2,none⟩) hnz).trans Z2
 have z13_3:w13.cell? ⟨w2.heap.size,3,none⟩=some (.slice S3 g.orders.length s3_):=(hz13.cell (p:=⟨w2.heap.size,3,none⟩) hnz).trans Z3
 have z13_4:w13.cell? ⟨w2.heap.size,4,none⟩=some (.slice S4 g.bookings.length s4_):=(hz13.cell (p:=⟨w2.heap.size,4,none⟩) hnz).trans Z4
 have z13_5:w13.cell? ⟨w2.heap.size,5,none⟩=some (.slice S5 g.closed.length s5_):=(hz13.cell (p:=⟨w2.heap.size,5,none⟩) hnz).trans Z5
 have z13_6:w13.cell? ⟨w2.heap.size,6,none⟩=some (.int .i64 g.now):=(hz13.cell (p:=⟨w2.heap.size,6,none⟩) hnz).trans Z6
 have z13_7:w13.cell? ⟨w2.heap.size,7,none⟩=some (.slice S7 g.scans.length s7_):=(hz13.cell (p:=⟨w2.heap.size,7,none⟩) hnz).trans Z7
 have z13_8:w13.cell? ⟨w2.heap.size,8,none⟩=some (.slice S8 g.skip.length s8_):=(hz13.cell (p:=⟨w2.heap.size,8,none⟩) hnz).trans Z8
 have z13_9:w13.cell? ⟨w2.heap.size,9,none⟩=some (.int .i64 g.made):=(hz13.cell (p:=⟨w2.heap.size,9,none⟩) hnz).trans Z9
 have hl13:w2.heap.size<w13.heap.size:=by have:=hz13.size; omega
 have hn13:¬ w2.heap.size=w13.heap.size:=by omega
 go_wp2_with fail
 clear z13_0 z13_1 z13_2 z13_3 z13_4 z13_5 z13_6 z13_7 z13_8 z13_9
 generalize hwh:World.alloc w13 _=wh
 have hbh:Up w13 wh:=by rw [← hwh]; (repeat (first | exact Up.rfl' _ | (refine Up.al _ ?_) | (refine Up.dr _ ?_) | (refine Up.dr1 ?_) | (refine Up.sc ?_ (by first | exact Nat.le_refl _ | (simp; done) | omega) _) | (refine Up.step (by assumption) ?_)))
 clear hwh
 refine (Zhp hgq (ho13.rep.up hbh) (hsz.up (Up.step hbh hz13))).mono ?_
 rintro e w14 ⟨rfl,hb14⟩
 have h14:Up w10 w14:=Up.step hb14 (Up.step hbh (Up.step hb13 (Up.step hb12 hb11)))
 have d14_0:w14.cell? ⟨w4.heap.size,0,none⟩=some (.slice Y0 g.network.legs.length y0_):=ZaA h14 d10_0
 have d14_1:w14.cell? ⟨w4.heap.size,1,none⟩=some (.slice Y1 g.network.off.length y1_):=ZaA h14 d10_1
 have d14_2:w14.cell? ⟨w4.heap.size,2,none⟩=some (.int .i64 g.network.change):=ZaA h14 d10_2
 have d14_3:w14.cell? ⟨w4.heap.size,3,none⟩=some (.slice Y3 g.orders.length y3_):=ZaA h14 d10_3
 have d14_4:w14.cell? ⟨w4.heap.size,4,none⟩=some (.slice Y4 g.bookings.length y4_):=ZaA h14 d10_4
 have d14_5:w14.cell? ⟨w4.heap.size,5,none⟩=some (.slice Y5 g.closed.length y5_):=ZaA h14 d10_5
 have d14_6:w14.cell? ⟨w4.heap.size,6,none⟩=some (.int .i64 g.now):=ZaA h14 d10_6
 have d14_7:w14.cell? ⟨w4.heap.size,7,none⟩=some (.slice Y7 g.scans.length y7_):=ZaA h14 d10_7
 have d14_8:w14.cell? ⟨w4.heap.size,8,none⟩=some (.slice Y8 g.skip.length y8_):=ZaA h14 d10_8
 have d14_9:w14.cell? ⟨w4.heap.size,9,none⟩=some (.int .i64 g.made):=ZaA h14 d10_9
 clear d10_0 d10_1 d10_2 d10_3 d10_4 d10_5 d10_6 d10_7 d10_8 d10_9
 go_wp2_with fail
 refine (Zhx hgm (hm10.up h14)).mono ?_
 rintro e w15 ⟨rfl,hb15⟩
 go_wp2_with fail
 go_ret
 exact ⟨rfl,Up.step (Up.step hb15 (Up.step hb14 (Up.step hbh hV13))) hub⟩
end Go.Proofs.YtmcdjilbkmhfoaaGreat
