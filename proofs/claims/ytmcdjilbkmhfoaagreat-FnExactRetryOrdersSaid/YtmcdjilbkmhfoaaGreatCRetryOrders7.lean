/- A part of the proof of the statement in the last file of this claim: texts on the language of the program and on its functions. No condition. -/
import Derived.Test.YtmcdjilbkmhfoaaGreatCRetryOrders6
import Derived.Test.YtmcdjilbkmhfoaaGreatCRetryOrders5
import Derived.Test.YtmcdjilbkmhfoaaGreatCRetryOrders4
import Derived.Test.YtmcdjilbkmhfoaaGreatCRetryOrders3
import Derived.Maps.OwnSet
import Derived.StringKeys
import Derived.Deep.AppendLies
import Derived.Shelf.Small.Bits
import Derived.Shelf.Small.Strs
import Derived.Shelf.Strconv.Itoa0
import Derived.Shelf.Sort.Plain
import Derived.Ground.GgsProg
import Derived.Shelf.GgSortFunc.Insertion
import Derived.Shelf.GgSortFunc.InsertionK
import Derived.Shelf.GgSortFunc.Tiny
import Derived.Shelf.GgSortFunc.Compose
import Derived.Ground.GgtProg
import Derived.Shelf.GgSortMore.Stable
import Derived.Shelf.Slices.In.SortNone
import Derived.Shelf.Slices.In.SortNone2
import Derived.Test.YtmcdjilbkmhfoaaGreatProg
import Derived.Sort.OwnSorted
set_option linter.unusedVariables false
set_option linter.unusedSimpArgs false
namespace Go.Proofs.YtmcdjilbkmhfoaaGreat
set_option maxRecDepth 10000
open Go.RowKit
set_option linter.unusedVariables false
set_option linter.unusedSimpArgs false
abbrev SX (S:Nat→Prop) (m:Nat) (a:World):Nat→Prop:=fun b=>S b∨(m≤b∧b<a.heap.size)
section
variable {S:Nat→Prop} {m:Nat} {a b w w':World} {p:PV} {x:Value}
theorem RepC.sx_wr {g:Nat} {T:TypeId} {cs:Array Value} (h:RepC a (SX S m a) p x) (k:Wr g T a b cs) (hg:g<m) (hS:∀ b,S b→b<g):RepC b (SX S m b) p x:=by
 have h2:=h.wr k (by
  rintro q (h | h)
  ·have:=hS q h; omega
  ·omega)
 exact h2.ext (fun q hq=>hq.imp id fun h=>⟨h.1,by rw [k.size]; exact h.2⟩) (fun _ _ _=>rfl)
theorem RepC.sx_up (h:RepC a (SX S m a) p x) (k:Up a b) (hS:∀ b,S b→b<a.heap.size):RepC b (SX S m b) p x:=
 h.ext (fun q hq=>hq.imp id fun h=>⟨h.1,Nat.lt_of_lt_of_le h.2 k.size⟩) (fun q o hq=>k.cell (p:=⟨q,o,none⟩) (by
  rcases hq with h | h
  ·exact hS q h
  ·exact h.2))
theorem RepC.sx_new (h:RepC w' (NewS S w w') p x) (hm:m≤w.heap.size):RepC w' (SX S m w') p x:=
 h.ext (fun q hq=>hq.imp id fun h=>⟨Nat.le_trans hm h.1,h.2⟩) (fun _ _ _=>rfl)
theorem RepC.sx_out (h:RepC w' (SX S m w') p x) (hm:w.heap.size≤m):RepC w' (NewS S w w') p x:=
 h.ext (fun q hq=>hq.imp id fun h=>⟨Nat.le_trans hm h.1,h.2⟩) (fun _ _ _=>rfl)
end
theorem OrdS.wr {g:Nat} {T:TypeId} {w1 w2:World} {cs cs0:Array Value} {B:Nat} {v:Value} {ms:List Nat} (h:OrdS w1 B v ms) (hk:Wr g T w1 w2 cs) (h0:w1.heap[g]?=some (.cells cs0 T (0,0))) (hT:62≠T) (hT2:55≠T):OrdS w2 B v ms:=by
 rcases h with h | ⟨b,c,cs',h1,h2,h3,h4,h5⟩
 ·exact .inl h
 ·refine .inr ⟨b,c,cs',h1,h2,(hk.oth b ?_).trans h3,h4,fun j m hj=>?_⟩
  ·rintro rfl
   rw [h3] at h0
   simp at h0
   exact hT h0.2
  ·obtain ⟨u,u1,u2⟩:=h5 j m hj
   exact ⟨u,u1,u2.wr hk h0 hT2⟩
theorem OrdS.form {w:World} {B:Nat} {v:Value} {ms:List Nat} (h:OrdS w B v ms):∃ A c,v=.slice A ms.length c:=by
 rcases h with ⟨c,rfl,rfl⟩ | ⟨g,c,cs,rfl,_⟩
 ·exact ⟨none,c,rfl⟩
 ·exact ⟨_,c,rfl⟩
set_option maxHeartbeats 1000000 in
set_option maxRecDepth 100000 in
theorem Zk2 (n:YNetwork) (hn:n.legs.length≤1048576∧n.off.length≤1048576) (hleg:∀ x∈n.legs,totLeg x≤1048576) {S:Nat→Prop} {u0 u1:Value} {w:World} (hS:∀ b,S b→b<w.heap.size) (hr0:RepC w S (.sl (n.legs.map cLeg)) u0) (hr1:RepC w S (.sl (n.off.map cInt)) u1):
 Calls Tryz.prog 74 #[.agg #[u0,u1,.int .i64 n.change]] w fun e w'=>∃ v0 v1,e=.returned (.agg #[v0,v1,.int .i64 n.change])∧Up w w'∧(Zak w' w.heap.size 67 6 v0 n.legs.length∧RepC w' (NewS S w w') (.sl (n.legs.map cLeg)) v0)∧(Zak w' w.heap.size 3 1 v1 n.off.length∧RepC w' (NewS S w w') (.sl (n.off.map cInt)) v1):=by
 obtain ⟨A0,c0,e0⟩:=Zs hr0
 obtain ⟨A1,c1,e1⟩:=Zs hr1
 rw [List.length_map] at e0 e1
 subst e0 e1
 replace hr0:=Lib.hid hr0
 replace hr1:=Lib.hid hr1
 have hleg:=hleg
 go_enter Tryz.func74,Tryz.ntmps74
 go_wp2_with fail
 generalize hwb:World.alloc (World.alloc (World.alloc w _) _) _=w0
 have hA0:w0.heap[w.heap.size]?=some (.cells #[.slice A0 n.legs.length c0,.slice A1 n.off.length c1,.int .i64 n.change] 25 (0,0)):=by rw [← hwb]; exact ZbM (ZbM (heap_alloc_new w _))
 have hP0:w0.heap[w.heap.size+1]?=some (.cells #[.slice none 0 0,.slice none 0 0,.int .i64 0] 35 (0,0)):=by rw [← hwb]; exact ZbM (Zc4 (by simp) _)
 have hO0:w0.heap[w.heap.size+1+1]?=some (.cells #[.slice none 0 0,.slice none 0 0,.int .i64 0] 35 (0,0)):=by rw [← hwb]; exact Zc4 (by simp) _
 have hU0:Up w w0:=by rw [← hwb]; (repeat (first | exact Up.rfl' _ | (refine Up.al _ ?_) | (refine Up.dr _ ?_) | (refine Up.dr1 ?_) | (refine Up.sc ?_ (by first | exact Nat.le_refl _ | (simp; done) | omega) _) | (refine Up.step (by assumption) ?_)))
 have hsz:w0.heap.size=w.heap.size+3:=by rw [← hwb]; simp
 clear hwb
 have hZ0:w.heap.size+3≤w0.heap.size:=by omega
 have hS1:∀ b,S b→b<w.heap.size+1+1:=fun b h=>by have:=hS b h; omega
 have kw0:=Wr.start hO0
 have hUW0:=Up.wr kw0 hU0 (by omega)
 have hAW0:=(kw0.oth (w.heap.size) (by omega)).trans hA0
 have hPW0:=(kw0.oth (w.heap.size+1) (by omega)).trans hP0
 have hSW0:∀ b,S b→b<(_:World).heap.size:=fun b h=>Nat.lt_of_lt_of_le (hS b h) hUW0.size
 have hcsz0:=kw0.size
 refine (Zpr n.legs (fun x hx=>Zqe x (hleg x hx)) hn.1 (S:=S) hSW0 ((hr0.out).ext (fun _ h=>h) (fun b q h=>hUW0.cell (p:=⟨b,q,none⟩) (hS b h)))).mono ?_
 rintro e w1 ⟨v0,rfl,hu1,hs0_,hr0_⟩
 obtain ⟨X0,d0,rfl⟩:=hs0_.form
 have hU1:=Up.step hu1 hUW0
 have hZ1:w.heap.size+3≤w1.heap.size:=by have h_:=hu1.size; rw [hcsz0] at h_; omega
 have hA1:=(hu1.block _ (Array.getElem?_eq_some_iff.1 hAW0).1).trans hAW0
 have hP1:=(hu1.block _ (Array.getElem?_eq_some_iff.1 hPW0).1).trans hPW0
 have hO1:=(hu1.block _ (Array.getElem?_eq_some_iff.1 kw0.row).1).trans kw0.row
 try simp only [List.setIfInBounds_toArray,List.set_cons_zero,List.set_cons_succ] at hO1
 have s0:=hs0_.more (B:=w.heap.size) (by rw [hcsz0]; omega)
 have r0:=(hr0_).sx_new (m:=w.heap.size+1+1+1) (by rw [hcsz0]; omega)
 have a1_1:w1.cell? ⟨w.heap.size,1,none⟩=some (.slice A1 n.off.length c1):=by rw [cell_of_row _ _ _ _ _ _ hA1]; rfl
 have o0_1:w1.cell? ⟨w.heap.size+1+1,0,none⟩=some (.slice none 0 0):=by rw [cell_of_row _ _ _ _ _ _ hO1]; rfl
 have f0_1:w1.frozen? ⟨w.heap.size+1+1,0,none⟩=false:=frozen_of_row _ _ _ _ _ hO1
 have H_hA1:=Lib.hid hA1
 have H_hP1:=Lib.hid hP1
 have H_hO1:=Lib.hid hO1
 have H_hU1:=Lib.hid hU1
 have H_hu1:=Lib.hid hu1
 have H_s0:=Lib.hid s0
 have H_r0:=Lib.hid r0
 clear hA1 hP1 hO1 hU1 hu1 kw0 hUW0 hAW0 hPW0 hSW0 hcsz0 s0 r0 hA0 hP0 hO0 hU0 hs0_ hr0_
 go_wp2_with fail
 have hA1:=H_hA1.out
 have hP1:=H_hP1.out
 have hO1:=H_hO1.out
 have hU1:=H_hU1.out
 have s0:=H_s0.out; have r0:=H_r0.out
 clear a1_1 o0_1 f0_1
 have kw1:=(Wr.start hO1).set 0 (.slice X0 n.legs.length d0)
 have hUW1:=Up.wr kw1 hU1 (by omega)
 have hAW1:=(kw1.oth (w.heap.size) (by omega)).trans hA1
 have hPW1:=(kw1.oth (w.heap.size+1) (by omega)).trans hP1
 have hSW1:∀ b,S b→b<(_:World).heap.size:=fun b h=>Nat.lt_of_lt_of_le (hS b h) hUW1.size
 have t0:=s0.wr kw1 hO1 (by decide)
 have q0:=r0.sx_wr kw1 (by omega) hS1
 have hcsz1:=kw1.size
 refine (Zl5 n.off hn.2 (S:=S) hSW1 ((hr1.out).ext (fun _ h=>h) (fun b q h=>hUW1.cell (p:=⟨b,q,none⟩) (hS b h)))).mono ?_
 rintro e w2 ⟨v1,rfl,hu2,hs1_,hr1_⟩
 obtain ⟨X1,d1,rfl⟩:=hs1_.form
 have hU2:=Up.step hu2 hUW1
 have hZ2:w.heap.size+3≤w2.heap.size:=by have h_:=hu2.size; rw [hcsz1] at h_; omega
 have hA2:=(hu2.block _ (Array.getElem?_eq_some_iff.1 hAW1).1).trans hAW1
 have hP2:=(hu2.block _ (Array.getElem?_eq_some_iff.1 hPW1).1).trans hPW1
 have hO2:=(hu2.block _ (Array.getElem?_eq_some_iff.1 kw1.row).1).trans kw1.row
 try simp only [List.setIfInBounds_toArray,List.set_cons_zero,List.set_cons_succ] at hO2
 have s0:=t0.up hu2
 have r0:=q0.sx_up hu2 hSW1
 have s1:=hs1_.more (B:=w.heap.size) (by rw [hcsz1]; omega)
 have r1:=(hr1_).sx_new (m:=w.heap.size+1+1+1) (by rw [hcsz1]; omega)
 have a2_2:w2.cell? ⟨w.heap.size,2,none⟩=some (.int .i64 n.change):=by rw [cell_of_row _ _ _ _ _ _ hA2]; rfl
 have o0_2:w2.cell? ⟨w.heap.size+1+1,0,none⟩=some (.slice X0 n.legs.length d0):=by rw [cell_of_row _ _ _ _ _ _ hO2]; rfl
 have p0_2:w2.cell? ⟨w.heap.size+1,0,none⟩=some (.slice none 0 0):=by rw [cell_of_row _ _ _ _ _ _ hP2]; rfl
 have g0_2:w2.frozen? ⟨w.heap.size+1,0,none⟩=false:=frozen_of_row _ _ _ _ _ hP2
 have o1_2:w2.cell? ⟨w.heap.size+1+1,1,none⟩=some (.slice none 0 0):=by rw [cell_of_row _ _ _ _ _ _ hO2]; rfl
 have f1_2:w2.frozen? ⟨w.heap.size+1+1,1,none⟩=false:=frozen_of_row _ _ _ _ _ hO2
 have p1_2:w2.cell? ⟨w.heap.size+1,1,none⟩=some (.slice none 0 0):=by rw [cell_of_row _ _ _ _ _ _ hP2]; rfl
 have g1_2:w2.frozen? ⟨w.heap.size+1,1,none⟩=false:=frozen_of_row _ _ _ _ _ hP2
 have o2_2:w2.cell? ⟨w.heap.size+1+1,2,none⟩=some (.int .i64 0):=by rw [cell_of_row _ _ _ _ _ _ hO2]; rfl
 have f2_2:w2.frozen? ⟨w.heap.size+1+1,2,none⟩=false:=frozen_of_row _ _ _ _ _ hO2
 have p2_2:w2.cell? ⟨w.heap.size+1,2,none⟩=some (.int .i64 0):=by rw [cell_of_row _ _ _ _ _ _ hP2]; rfl
 have g2_2:w2.frozen? ⟨w.heap.size+1,2,none⟩=false:=frozen_of_row _ _ _ _ _ hP2
 have H_hA2:=Lib.hid hA2
 have H_hP2:=Lib.hid hP2
 have H_hO2:=Lib.hid hO2
 have H_hU2:=Lib.hid hU2
 have H_hu2:=Lib.hid hu2
 have H_s0:=Lib.hid s0
 have H_r0:=Lib.hid r0
 have H_s1:=Lib.hid s1
 have H_r1:=Lib.hid r1
 clear hA2 hP2 hO2 hU2 hu2 kw1 hUW1 hAW1 hPW1 hSW1 hcsz1 s0 s1 r0 r1 t0 q0 hA1 hP1 hO1 hU1 hs1_ hr1_
 go_wp2_with fail
 have hA2:=H_hA2.out
 have hP2:=H_hP2.out
 have hO2:=H_hO2.out
 have hU2:=H_hU2.out
 have s0:=H_s0.out; have r0:=H_r0.out
 have s1:=H_s1.out; have r1:=H_r1.out
 have kw:=((Wr.start hO2).set 1 (.slice X1 n.off.length d1)).set 2 (.int .i64 n.change)
 have hP:=(kw.oth (w.heap.size+1) (by omega)).trans hP2
 have kz:=(((Wr.start hP).set 0 (.slice X0 n.legs.length d0)).set 1 (.slice X1 n.off.length d1)).set 2 (.int .i64 n.change)
 have hUz:=Up.wr kz (Up.wr kw hU2 (by omega)) (by omega)
 have z0:=(s0.wr kw hO2 (by decide)).wr kz hP (by decide)
 have y0:=((r0.sx_wr kw (by omega) hS1).sx_wr kz (by omega) (fun b h=>by have:=hS b h; omega)).sx_out (w:=w) (by omega)
 have z1:=(s1.wr kw hO2 (by decide)).wr kz hP (by decide)
 have y1:=((r1.sx_wr kw (by omega) hS1).sx_wr kz (by omega) (fun b h=>by have:=hS b h; omega)).sx_out (w:=w) (by omega)
 have hrow:=kz.row
 simp only [List.setIfInBounds_toArray,List.set_cons_zero,List.set_cons_succ] at hrow
 refine bodyPost_ret (v:=.agg #[.slice X0 n.legs.length d0,.slice X1 n.off.length d1,.int .i64 n.change]) (results_cell_row Tryz.results74 _ _ (w.heap.size+1) 35 _ (0,0) _ rfl hrow Tryz.underlying35 rfl (by kernel_rfl)) rfl ?_
 exact ⟨_,_,rfl,hUz,⟨z0,y0⟩,⟨z1,y1⟩⟩
theorem ZqY {l:List YOrder}:(l.map fun o=>o.way.length).sum≤(l.map totOrder).sum:=by
 induction l with
 | nil=>simp
 | cons o l ih=>
  have h3:totOrder o=o.from_.size+o.to_.size+o.way.length+o.place.size:=rfl
  simp only [List.map_cons,List.sum_cons]
  omega
set_option maxHeartbeats 1000000 in
set_option maxRecDepth 100000 in
theorem Zot (x:YWorld) (hn:x.network.legs.length≤1048576∧x.network.off.length≤1048576) (hleg:∀ y∈x.network.legs,totLeg y≤1048576) (hl:x.orders.length≤1048576∧x.bookings.length≤1048576∧x.closed.length≤1048576∧x.scans.length≤1048576∧x.skip.length≤1048576) (hway:∀ o∈x.orders,o.way.length≤1048576) (hscan:∀ y∈x.scans,totScan y≤1048576)
 {S:Nat→Prop} {u0 u1 u3 u4 u5 u7 u8:Value} {w:World} (hS:∀ b,S b→b<w.heap.size) (hr0:RepC w S (.sl (x.network.legs.map cLeg)) u0) (hr1:RepC w S (.sl (x.network.off.map cInt)) u1) (hr3:RepC w S (.sl (x.orders.map cOrder)) u3) (hr4:RepC w S (.sl (x.bookings.map cBooking)) u4) (hr5:RepC w S (.sl (x.closed.map cTrip)) u5) (hr7:RepC w S (.sl (x.scans.map cScan)) u7) (hr8:RepC w S (.sl (x.skip.map cInt)) u8):
 Calls Tryz.prog 17 #[.agg #[u0,u1,.int .i64 x.network.change,u3,u4,u5,.int .i64 x.now,u7,u8,.int .i64 x.made]] w fun e w'=>∃ v0 v1 v3 v4 v5 v7 v8,e=.returned (.agg #[v0,v1,.int .i64 x.network.change,v3,v4,v5,.int .i64 x.now,v7,v8,.int .i64 x.made])∧Up w w'∧(Zak w' w.heap.size 67 6 v0 x.network.legs.length∧RepC w' (NewS S w w') (.sl (x.network.legs.map cLeg)) v0)∧(Zak w' w.heap.size 3 1 v1 x.network.off.length∧RepC w' (NewS S w w') (.sl (x.network.off.map cInt)) v1)∧(OrdS w' w.heap.size v3 (x.orders.map fun o=>o.way.length)∧RepC w' (NewS S w w') (.sl (x.orders.map cOrder)) v3)∧(Zak w' w.heap.size 135 4 v4 x.bookings.length∧RepC w' (NewS S w w') (.sl (x.bookings.map cBooking)) v4)∧(Zak w' w.heap.size 55 2 v5 x.closed.length∧RepC w' (NewS S w w') (.sl (x.closed.map cTrip)) v5)∧(Zak w' w.heap.size 130 6 v7 x.scans.length∧RepC w' (NewS S w w') (.sl (x.scans.map cScan)) v7)∧(Zak w' w.heap.size 3 1 v8 x.skip.length∧RepC w' (NewS S w w') (.sl (x.skip.map cInt)) v8):=by
 obtain ⟨A0,c0,e0⟩:=Zs hr0
 obtain ⟨A1,c1,e1⟩:=Zs hr1
 obtain ⟨A3,c3,e3⟩:=Zs hr3
 obtain ⟨A4,c4,e4⟩:=Zs hr4
 obtain ⟨A5,c5,e5⟩:=Zs hr5
 obtain ⟨A7,c7,e7⟩:=Zs hr7
 obtain ⟨A8,c8,e8⟩:=Zs hr8
 rw [List.length_map] at e0 e1 e3 e4 e5 e7 e8
 subst e0 e1 e3 e4 e5 e7 e8
 replace hr0:=Lib.hid hr0
 replace hr1:=Lib.hid hr1
 replace hr3:=Lib.hid hr3
 replace hr4:=Lib.hid hr4
 replace hr5:=Lib.hid hr5
 replace hr7:=Lib.hid hr7
 replace hr8:=Lib.hid hr8
 go_enter Tryz.func17,Tryz.ntmps17
 go_wp2_with fail
 generalize hwb:World.alloc (World.alloc (World.alloc w _) _) _=w0
 have hA0:w0.heap[w.heap.size]?=some (.cells #[.slice A0 x.network.legs.length c0,.slice A1 x.network.off.length c1,.int .i64 x.network.change,.slice A3 x.orders.length c3,.slice A4 x.bookings.length c4,.slice A5 x.closed.length c5,.int .i64 x.now,.slice A7 x.scans.length c7,.slice A8 x.skip.length c8,.int .i64 x.made] 31 (0,0)):=by rw [← hwb]; exact ZbM (ZbM (heap_alloc_new w _))
 have hP0:w0.heap[w.heap.size+1]?=some (.cells #[.slice none 0 0,.slice none 0 0,.int .i64 0,.slice none 0 0,.slice none 0 0,.slice none 0 0,.int .i64 0,.slice none 0 0,.slice none 0 0,.int .i64 0] 41 (0,0)):=by rw [← hwb]; exact ZbM (Zc4 (by simp) _)
 have hO0:w0.heap[w.heap.size+1+1]?=some (.cells #[.slice none 0 0,.slice none 0 0,.int .i64 0,.slice none 0 0,.slice none 0 0,.slice none 0 0,.int .i64 0,.slice none 0 0,.slice none 0 0,.int .i64 0] 41 (0,0)):=by rw [← hwb]; exact Zc4 (by simp) _
 have hU0:Up w w0:=by rw [← hwb]; (repeat (first | exact Up.rfl' _ | (refine Up.al _ ?_) | (refine Up.dr _ ?_) | (refine Up.dr1 ?_) | (refine Up.sc ?_ (by first | exact Nat.le_refl _ | (simp; done) | omega) _) | (refine Up.step (by assumption) ?_)))
 have hsz:w0.heap.size=w.heap.size+3:=by rw [← hwb]; simp
 clear hwb
 have hZ0:w.heap.size+3≤w0.heap.size:=by omega
 have hS1:∀ b,S b→b<w.heap.size+1+1:=fun b h=>by have:=hS b h; omega
 have kw0:=Wr.start hO0
 have hUW0:=Up.wr kw0 hU0 (by omega)
 have hAW0:=(kw0.oth (w.heap.size) (by omega)).trans hA0
 have hPW0:=(kw0.oth (w.heap.size+1) (by omega)).trans hP0
 have hSW0:∀ b,S b→b<(_:World).heap.size:=fun b h=>Nat.lt_of_lt_of_le (hS b h) hUW0.size
 have hcsz0:=kw0.size
 refine (Zk2 x.network hn hleg (S:=S) hSW0 ((hr0.out).ext (fun _ h=>h) (fun b q h=>hUW0.cell (p:=⟨b,q,none⟩) (hS b h))) ((hr1.out).ext (fun _ h=>h) (fun b q h=>hUW0.cell (p:=⟨b,q,none⟩) (hS b h)))).mono ?_
 rintro e w1 ⟨v0,v1,rfl,hu1,⟨hs0_,hr0_⟩,⟨hs1_,hr1_⟩⟩
 obtain ⟨X0,d0,rfl⟩:=hs0_.form
 obtain ⟨X1,d1,rfl⟩:=hs1_.form
 have hU1:=Up.step hu1 hUW0
 have hZ1:w.heap.size+3≤w1.heap.size:=by have h_:=hu1.size; rw [hcsz0] at h_; omega
 have hA1:=(hu1.block _ (Array.getElem?_eq_some_iff.1 hAW0).1).trans hAW0
 have hP1:=(hu1.block _ (Array.getElem?_eq_some_iff.1 hPW0).1).trans hPW0
 have hO1:=(hu1.block _ (Array.getElem?_eq_some_iff.1 kw0.row).1).trans kw0.row
 try simp only [List.setIfInBounds_toArray,List.set_cons_zero,List.set_cons_succ] at hO1
 have s0:=hs0_.more (B:=w.heap.size) (by rw [hcsz0]; omega)
 have r0:=(hr0_).sx_new (m:=w.heap.size+1+1+1) (by rw [hcsz0]; omega)
 have s1:=hs1_.more (B:=w.heap.size) (by rw [hcsz0]; omega)
 have r1:=(hr1_).sx_new (m:=w.heap.size+1+1+1) (by rw [hcsz0]; omega)
 have a3_1:w1.cell? ⟨w.heap.size,3,none⟩=some (.slice A3 x.orders.length c3):=by rw [cell_of_row _ _ _ _ _ _ hA1]; rfl
 have o0_1:w1.cell? ⟨w.heap.size+1+1,0,none⟩=some (.slice none 0 0):=by rw [cell_of_row _ _ _ _ _ _ hO1]; rfl
 have f0_1:w1.frozen? ⟨w.heap.size+1+1,0,none⟩=false:=frozen_of_row _ _ _ _ _ hO1
 have o1_1:w1.cell? ⟨w.heap.size+1+1,1,none⟩=some (.slice none 0 0):=by rw [cell_of_row _ _ _ _ _ _ hO1]; rfl
 have f1_1:w1.frozen? ⟨w.heap.size+1+1,1,none⟩=false:=frozen_of_row _ _ _ _ _ hO1
 have o2_1:w1.cell? ⟨w.heap.size+1+1,2,none⟩=some (.int .i64 0):=by rw [cell_of_row _ _ _ _ _ _ hO1]; rfl
 have f2_1:w1.frozen? ⟨w.heap.size+1+1,2,none⟩=false:=frozen_of_row _ _ _ _ _ hO1
 have H_hA1:=Lib.hid hA1
 have H_hP1:=Lib.hid hP1
 have H_hO1:=Lib.hid hO1
 have H_hU1:=Lib.hid hU1
 have H_hu1:=Lib.hid hu1
 have H_s0:=Lib.hid s0
 have H_r0:=Lib.hid r0
 have H_s1:=Lib.hid s1
 have H_r1:=Lib.hid r1
 clear hA1 hP1 hO1 hU1 hu1 kw0 hUW0 hAW0 hPW0 hSW0 hcsz0 s0 s1 r0 r1 hA0 hP0 hO0 hU0 hs0_ hr0_ hs1_ hr1_
 go_wp2_with fail
 have hA1:=H_hA1.out
 have hP1:=H_hP1.out
 have hO1:=H_hO1.out
 have hU1:=H_hU1.out
 have s0:=H_s0.out; have r0:=H_r0.out
 have s1:=H_s1.out; have r1:=H_r1.out
 clear a3_1 o0_1 o1_1 o2_1 f0_1 f1_1 f2_1
 have kw1:=(((Wr.start hO1).set 0 (.slice X0 x.network.legs.length d0)).set 1 (.slice X1 x.network.off.length d1)).set 2 (.int .i64 x.network.change)
 have hUW1:=Up.wr kw1 hU1 (by omega)
 have hAW1:=(kw1.oth (w.heap.size) (by omega)).trans hA1
 have hPW1:=(kw1.oth (w.heap.size+1) (by omega)).trans hP1
 have hSW1:∀ b,S b→b<(_:World).heap.size:=fun b h=>Nat.lt_of_lt_of_le (hS b h) hUW1.size
 have t0:=s0.wr kw1 hO1 (by decide)
 have q0:=r0.sx_wr kw1 (by omega) hS1
 have t1:=s1.wr kw1 hO1 (by decide)
 have q1:=r1.sx_wr kw1 (by omega) hS1
 have hcsz1:=kw1.size
 refine (ZmI x.orders hl.1 hway (S:=S) hSW1 ((hr3.out).ext (fun _ h=>h) (fun b q h=>hUW1.cell (p:=⟨b,q,none⟩) (hS b h)))).mono ?_
 rintro e w2 ⟨v3,rfl,hu2,hs3_,hr3_⟩
 obtain ⟨X3,d3,e3⟩:=hs3_.form
 rw [List.length_map] at e3
 subst e3
 have hU2:=Up.step hu2 hUW1
 have hZ2:w.heap.size+3≤w2.heap.size:=by have h_:=hu2.size; rw [hcsz1] at h_; omega
 have hA2:=(hu2.block _ (Array.getElem?_eq_some_iff.1 hAW1).1).trans hAW1
 have hP2:=(hu2.block _ (Array.getElem?_eq_some_iff.1 hPW1).1).trans hPW1
 have hO2:=(hu2.block _ (Array.getElem?_eq_some_iff.1 kw1.row).1).trans kw1.row
 try simp only [List.setIfInBounds_toArray,List.set_cons_zero,List.set_cons_succ] at hO2
 have s0:=t0.up hu2
 have r0:=q0.sx_up hu2 hSW1
 have s1:=t1.up hu2
 have r1:=q1.sx_up hu2 hSW1
 have s3:=hs3_.more (B':=w.heap.size) (by rw [hcsz1]; omega)
 have r3:=(hr3_).sx_new (m:=w.heap.size+1+1+1) (by rw [hcsz1]; omega)
 have a4_2:w2.cell? ⟨w.heap.size,4,none⟩=some (.slice A4 x.bookings.length c4):=by rw [cell_of_row _ _ _ _ _ _ hA2]; rfl
 have o3_2:w2.cell? ⟨w.heap.size+1+1,3,none⟩=some (.slice none 0 0):=by rw [cell_of_row _ _ _ _ _ _ hO2]; rfl
 have f3_2:w2.frozen? ⟨w.heap.size+1+1,3,none⟩=false:=frozen_of_row _ _ _ _ _ hO2
 have H_hA2:=Lib.hid hA2
 have H_hP2:=Lib.hid hP2
 have H_hO2:=Lib.hid hO2
 have H_hU2:=Lib.hid hU2
 have H_hu2:=Lib.hid hu2
 have H_s0:=Lib.hid s0
 have H_r0:=Lib.hid r0
 have H_s1:=Lib.hid s1
 have H_r1:=Lib.hid r1
 have H_s3:=Lib.hid s3
 have H_r3:=Lib.hid r3
 clear hA2 hP2 hO2 hU2 hu2 kw1 hUW1 hAW1 hPW1 hSW1 hcsz1 s0 s1 s3 r0 r1 r3 t0 t1 q0 q1 hA1 hP1 hO1 hU1 hs3_ hr3_
 go_wp2_with fail
 have hA2:=H_hA2.out
 have hP2:=H_hP2.out
 have hO2:=H_hO2.out
 have hU2:=H_hU2.out
 have s0:=H_s0.out; have r0:=H_r0.out
 have s1:=H_s1.out; have r1:=H_r1.out
 have s3:=H_s3.out; have r3:=H_r3.out
 clear a4_2 o3_2 f3_2
 have kw2:=(Wr.start hO2).set 3 (.slice X3 x.orders.length d3)
 have hUW2:=Up.wr kw2 hU2 (by omega)
 have hAW2:=(kw2.oth (w.heap.size) (by omega)).trans hA2
 have hPW2:=(kw2.oth (w.heap.size+1) (by omega)).trans hP2
 have hSW2:∀ b,S b→b<(_:World).heap.size:=fun b h=>Nat.lt_of_lt_of_le (hS b h) hUW2.size
 have t0:=s0.wr kw2 hO2 (by decide)
 have q0:=r0.sx_wr kw2 (by omega) hS1
 have t1:=s1.wr kw2 hO2 (by decide)
 have q1:=r1.sx_wr kw2 (by omega) hS1
 have t3:=s3.wr kw2 hO2 (by decide) (by decide)
 have q3:=r3.sx_wr kw2 (by omega) hS1
 have hcsz2:=kw2.size
 refine (Zke x.bookings (fun y _=>Zks y) hl.2.1 (S:=S) hSW2 ((hr4.out).ext (fun _ h=>h) (fun b q h=>hUW2.cell (p:=⟨b,q,none⟩) (hS b h)))).mono ?_
 rintro e w3 ⟨v4,rfl,hu3,hs4_,hr4_⟩
 obtain ⟨X4,d4,rfl⟩:=hs4_.form
 have hU3:=Up.step hu3 hUW2
 have hZ3:w.heap.size+3≤w3.heap.size:=by have h_:=hu3.size; rw [hcsz2] at h_; omega
 have hA3:=(hu3.block _ (Array.getElem?_eq_some_iff.1 hAW2).1).trans hAW2
 have hP3:=(hu3.block _ (Array.getElem?_eq_some_iff.1 hPW2).1).trans hPW2
 have hO3:=(hu3.block _ (Array.getElem?_eq_some_iff.1 kw2.row).1).trans kw2.row
 try simp only [List.setIfInBounds_toArray,List.set_cons_zero,List.set_cons_succ] at hO3
 have s0:=t0.up hu3
 have r0:=q0.sx_up hu3 hSW2
 have s1:=t1.up hu3
 have r1:=q1.sx_up hu3 hSW2
 have s3:=t3.up hu3
 have r3:=q3.sx_up hu3 hSW2
 have s4:=hs4_.more (B:=w.heap.size) (by rw [hcsz2]; omega)
 have r4:=(hr4_).sx_new (m:=w.heap.size+1+1+1) (by rw [hcsz2]; omega)
 have a5_3:w3.cell? ⟨w.heap.size,5,none⟩=some (.slice A5 x.closed.length c5):=by rw [cell_of_row _ _ _ _ _ _ hA3]; rfl
 have o4_3:w3.cell? ⟨w.heap.size+1+1,4,none⟩=some (.slice none 0 0):=by rw [cell_of_row _ _ _ _ _ _ hO3]; rfl
 have f4_3:w3.frozen? ⟨w.heap.size+1+1,4,none⟩=false:=frozen_of_row _ _ _ _ _ hO3
 have H_hA3:=Lib.hid hA3
 have H_hP3:=Lib.hid hP3
 have H_hO3:=Lib.hid hO3
 have H_hU3:=Lib.hid hU3
 have H_hu3:=Lib.hid hu3
 have H_s0:=Lib.hid s0
 have H_r0:=Lib.hid r0
 have H_s1:=Lib.hid s1
 have H_r1:=Lib.hid r1
 have H_s3:=Lib.hid s3
 have H_r3:=Lib.hid r3
 have H_s4:=Lib.hid s4
 have H_r4:=Lib.hid r4
 clear hA3 hP3 hO3 hU3 hu3 kw2 hUW2 hAW2 hPW2 hSW2 hcsz2 s0 s1 s3 s4 r0 r1 r3 r4 t0 t1 t3 q0 q1 q3 hA2 hP2 hO2 hU2 hs4_ hr4_
 go_wp2_with fail
 have hA3:=H_hA3.out
 have hP3:=H_hP3.out
 have hO3:=H_hO3.out
 have hU3:=H_hU3.out
 have s0:=H_s0.out; have r0:=H_r0.out
 have s1:=H_s1.out; have r1:=H_r1.out
 have s3:=H_s3.out; have r3:=H_r3.out
 have s4:=H_s4.out; have r4:=H_r4.out
 clear a5_3 o4_3 f4_3
 have kw3:=(Wr.start hO3).set 4 (.slice X4 x.bookings.length d4)
 have hUW3:=Up.wr kw3 hU3 (by omega)
 have hAW3:=(kw3.oth (w.heap.size) (by omega)).trans hA3
 have hPW3:=(kw3.oth (w.heap.size+1) (by omega)).trans hP3
 have hSW3:∀ b,S b→b<(_:World).heap.size:=fun b h=>Nat.lt_of_lt_of_le (hS b h) hUW3.size
 have t0:=s0.wr kw3 hO3 (by decide)
 have q0:=r0.sx_wr kw3 (by omega) hS1
 have t1:=s1.wr kw3 hO3 (by decide)
 have q1:=r1.sx_wr kw3 (by omega) hS1
 have t3:=s3.wr kw3 hO3 (by decide) (by decide)
 have q3:=r3.sx_wr kw3 (by omega) hS1
 have t4:=s4.wr kw3 hO3 (by decide)
 have q4:=r4.sx_wr kw3 (by omega) hS1
 have hcsz3:=kw3.size
 refine (Zkf x.closed (fun y _=>Zg2 y) hl.2.2.1 (S:=S) hSW3 ((hr5.out).ext (fun _ h=>h) (fun b q h=>hUW3.cell (p:=⟨b,q,none⟩) (hS b h)))).mono ?_
 rintro e w4 ⟨v5,rfl,hu4,hs5_,hr5_⟩
 obtain ⟨X5,d5,rfl⟩:=hs5_.form
 have hU4:=Up.step hu4 hUW3
 have hZ4:w.heap.size+3≤w4.heap.size:=by have h_:=hu4.size; rw [hcsz3] at h_; omega
 have hA4:=(hu4.block _ (Array.getElem?_eq_some_iff.1 hAW3).1).trans hAW3
 have hP4:=(hu4.block _ (Array.getElem?_eq_some_iff.1 hPW3).1).trans hPW3
 have hO4:=(hu4.block _ (Array.getElem?_eq_some_iff.1 kw3.row).1).trans kw3.row
 try simp only [List.setIfInBounds_toArray,List.set_cons_zero,List.set_cons_succ] at hO4
 have s0:=t0.up hu4
 have r0:=q0.sx_up hu4 hSW3
 have s1:=t1.up hu4
 have r1:=q1.sx_up hu4 hSW3
 have s3:=t3.up hu4
 have r3:=q3.sx_up hu4 hSW3
 have s4:=t4.up hu4
 have r4:=q4.sx_up hu4 hSW3
 have s5:=hs5_.more (B:=w.heap.size) (by rw [hcsz3]; omega)
 have r5:=(hr5_).sx_new (m:=w.heap.size+1+1+1) (by rw [hcsz3]; omega)
 have a6_4:w4.cell? ⟨w.heap.size,6,none⟩=some (.int .i64 x.now):=by rw [cell_of_row _ _ _ _ _ _ hA4]; rfl
 have a7_4:w4.cell? ⟨w.heap.size,7,none⟩=some (.slice A7 x.scans.length c7):=by rw [cell_of_row _ _ _ _ _ _ hA4]; rfl
 have o5_4:w4.cell? ⟨w.heap.size+1+1,5,none⟩=some (.slice none 0 0):=by rw [cell_of_row _ _ _ _ _ _ hO4]; rfl
 have f5_4:w4.frozen? ⟨w.heap.size+1+1,5,none⟩=false:=frozen_of_row _ _ _ _ _ hO4
 have o6_4:w4.cell? ⟨w.heap.size+1+1,6,none⟩=some (.int .i64 0):=by rw [cell_of_row _ _ _ _ _ _ hO4]; rfl
 have f6_4:w4.frozen? ⟨w.heap.size+1+1,6,none⟩=false:=frozen_of_row _ _ _ _ _ hO4
 have H_hA4:=Lib.hid hA4
 have H_hP4:=Lib.hid hP4
 have H_hO4:=Lib.hid hO4
 have H_hU4:=Lib.hid hU4
 have H_hu4:=Lib.hid hu4
 have H_s0:=Lib.hid s0
 have H_r0:=Lib.hid r0
 have H_s1:=Lib.hid s1
 have H_r1:=Lib.hid r1
 have H_s3:=Lib.hid s3
 have H_r3:=Lib.hid r3
 have H_s4:=Lib.hid s4
 have H_r4:=Lib.hid r4
 have H_s5:=Lib.hid s5
 have H_r5:=Lib.hid r5
 clear hA4 hP4 hO4 hU4 hu4 kw3 hUW3 hAW3 hPW3 hSW3 hcsz3 s0 s1 s3 s4 s5 r0 r1 r3 r4 r5 t0 t1 t3 t4 q0 q1 q3 q4 hA3 hP3 hO3 hU3 hs5_ hr5_
 go_wp2_with fail
 have hA4:=H_hA4.out
 have hP4:=H_hP4.out
 have hO4:=H_hO4.out
 have hU4:=H_hU4.out
 have s0:=H_s0.out; have r0:=H_r0.out
 have s1:=H_s1.out; have r1:=H_r1.out
 have s3:=H_s3.out; have r3:=H_r3.out
 have s4:=H_s4.out; have r4:=H_r4.out
 have s5:=H_s5.out; have r5:=H_r5.out
 clear a6_4 a7_4 o5_4 o6_4 f5_4 f6_4
 have kw4:=((Wr.start hO4).set 5 (.slice X5 x.closed.length d5)).set 6 (.int .i64 x.now)
 have hUW4:=Up.wr kw4 hU4 (by omega)
 have hAW4:=(kw4.oth (w.heap.size) (by omega)).trans hA4
 have hPW4:=(kw4.oth (w.heap.size+1) (by omega)).trans hP4
 have hSW4:∀ b,S b→b<(_:World).heap.size:=fun b h=>Nat.lt_of_lt_of_le (hS b h) hUW4.size
 have t0:=s0.wr kw4 hO4 (by decide)
 have q0:=r0.sx_wr kw4 (by omega) hS1
 have t1:=s1.wr kw4 hO4 (by decide)
 have q1:=r1.sx_wr kw4 (by omega) hS1
 have t3:=s3.wr kw4 hO4 (by decide) (by decide)
 have q3:=r3.sx_wr kw4 (by omega) hS1
 have t4:=s4.wr kw4 hO4 (by decide)
 have q4:=r4.sx_wr kw4 (by omega) hS1
 have t5:=s5.wr kw4 hO4 (by decide)
 have q5:=r5.sx_wr kw4 (by omega) hS1
 have hcsz4:=kw4.size
 refine (Zos x.scans (fun y hy=>ZoJ y (hscan y hy)) hl.2.2.2.1 (S:=S) hSW4 ((hr7.out).ext (fun _ h=>h) (fun b q h=>hUW4.cell (p:=⟨b,q,none⟩) (hS b h)))).mono ?_
 rintro e w5 ⟨v7,rfl,hu5,hs7_,hr7_⟩
 obtain ⟨X7,d7,rfl⟩:=hs7_.form
 have hU5:=Up.step hu5 hUW4
 have hZ5:w.heap.size+3≤w5.heap.size:=by have h_:=hu5.size; rw [hcsz4] at h_; omega
 have hA5:=(hu5.block _ (Array.getElem?_eq_some_iff.1 hAW4).1).trans hAW4
 have hP5:=(hu5.block _ (Array.getElem?_eq_some_iff.1 hPW4).1).trans hPW4
 have hO5:=(hu5.block _ (Array.getElem?_eq_some_iff.1 kw4.row).1).trans kw4.row
 try simp only [List.setIfInBounds_toArray,List.set_cons_zero,List.set_cons_succ] at hO5
 have s0:=t0.up hu5
 have r0:=q0.sx_up hu5 hSW4
 have s1:=t1.up hu5
 have r1:=q1.sx_up hu5 hSW4
 have s3:=t3.up hu5
 have r3:=q3.sx_up hu5 hSW4
 have s4:=t4.up hu5
 have r4:=q4.sx_up hu5 hSW4
 have s5:=t5.up hu5
 have r5:=q5.sx_up hu5 hSW4
 have s7:=hs7_.more (B:=w.heap.size) (by rw [hcsz4]; omega)
 have r7:=(hr7_).sx_new (m:=w.heap.size+1+1+1) (by rw [hcsz4]; omega)
 have a8_5:w5.cell? ⟨w.heap.size,8,none⟩=some (.slice A8 x.skip.length c8):=by rw [cell_of_row _ _ _ _ _ _ hA5]; rfl
 have o7_5:w5.cell? ⟨w.heap.size+1+1,7,none⟩=some (.slice none 0 0):=by rw [cell_of_row _ _ _ _ _ _ hO5]; rfl
 have f7_5:w5.frozen? ⟨w.heap.size+1+1,7,none⟩=false:=frozen_of_row _ _ _ _ _ hO5
 have H_hA5:=Lib.hid hA5
 have H_hP5:=Lib.hid hP5
 have H_hO5:=Lib.hid hO5
 have H_hU5:=Lib.hid hU5
 have H_hu5:=Lib.hid hu5
 have H_s0:=Lib.hid s0
 have H_r0:=Lib.hid r0
 have H_s1:=Lib.hid s1
 have H_r1:=Lib.hid r1
 have H_s3:=Lib.hid s3
 have H_r3:=Lib.hid r3
 have H_s4:=Lib.hid s4
 have H_r4:=Lib.hid r4
 have H_s5:=Lib.hid s5
 have H_r5:=Lib.hid r5
 have H_s7:=Lib.hid s7
 have H_r7:=Lib.hid r7
 clear hA5 hP5 hO5 hU5 hu5 kw4 hUW4 hAW4 hPW4 hSW4 hcsz4 s0 s1 s3 s4 s5 s7 r0 r1 r3 r4 r5 r7 t0 t1 t3 t4 t5 q0 q1 q3 q4 q5 hA4 hP4 hO4 hU4 hs7_ hr7_
 go_wp2_with fail
 have hA5:=H_hA5.out
 have hP5:=H_hP5.out
 have hO5:=H_hO5.out
 have hU5:=H_hU5.out
 have s0:=H_s0.out; have r0:=H_r0.out
 have s1:=H_s1.out; have r1:=H_r1.out
 have s3:=H_s3.out; have r3:=H_r3.out
 have s4:=H_s4.out; have r4:=H_r4.out
 have s5:=H_s5.out; have r5:=H_r5.out
 have s7:=H_s7.out; have r7:=H_r7.out
 clear a8_5 o7_5 f7_5
 have kw5:=(Wr.start hO5).set 7 (.slice X7 x.scans.length d7)
 have hUW5:=Up.wr kw5 hU5 (by omega)
 have hAW5:=(kw5.oth (w.heap.size) (by omega)).trans hA5
 have hPW5:=(kw5.oth (w.heap.size+1) (by omega)).trans hP5
 have hSW5:∀ b,S b→b<(_:World).heap.size:=fun b h=>Nat.lt_of_lt_of_le (hS b h) hUW5.size
 have t0:=s0.wr kw5 hO5 (by decide)
 have q0:=r0.sx_wr kw5 (by omega) hS1
 have t1:=s1.wr kw5 hO5 (by decide)
 have q1:=r1.sx_wr kw5 (by omega) hS1
 have t3:=s3.wr kw5 hO5 (by decide) (by decide)
 have q3:=r3.sx_wr kw5 (by omega) hS1
 have t4:=s4.wr kw5 hO5 (by decide)
 have q4:=r4.sx_wr kw5 (by omega) hS1
 have t5:=s5.wr kw5 hO5 (by decide)
 have q5:=r5.sx_wr kw5 (by omega) hS1
 have t7:=s7.wr kw5 hO5 (by decide)
 have q7:=r7.sx_wr kw5 (by omega) hS1
 have hcsz5:=kw5.size
 refine (Zl5 x.skip hl.2.2.2.2 (S:=S) hSW5 ((hr8.out).ext (fun _ h=>h) (fun b q h=>hUW5.cell (p:=⟨b,q,none⟩) (hS b h)))).mono ?_
 rintro e w6 ⟨v8,rfl,hu6,hs8_,hr8_⟩
 obtain ⟨X8,d8,rfl⟩:=hs8_.form
 have hU6:=Up.step hu6 hUW5
 have hZ6:w.heap.size+3≤w6.heap.size:=by have h_:=hu6.size; rw [hcsz5] at h_; omega
 have hA6:=(hu6.block _ (Array.getElem?_eq_some_iff.1 hAW5).1).trans hAW5
 have hP6:=(hu6.block _ (Array.getElem?_eq_some_iff.1 hPW5).1).trans hPW5
 have hO6:=(hu6.block _ (Array.getElem?_eq_some_iff.1 kw5.row).1).trans kw5.row
 try simp only [List.setIfInBounds_toArray,List.set_cons_zero,List.set_cons_succ] at hO6
 have s0:=t0.up hu6
 have r0:=q0.sx_up hu6 hSW5
 have s1:=t1.up hu6
 have r1:=q1.sx_up hu6 hSW5
 have s3:=t3.up hu6
 have r3:=q3.sx_up hu6 hSW5
 have s4:=t4.up hu6
 have r4:=q4.sx_up hu6 hSW5
 have s5:=t5.up hu6
 have r5:=q5.sx_up hu6 hSW5
 have s7:=t7.up hu6
 have r7:=q7.sx_up hu6 hSW5
 have s8:=hs8_.more (B:=w.heap.size) (by rw [hcsz5]; omega)
 have r8:=(hr8_).sx_new (m:=w.heap.size+1+1+1) (by rw [hcsz5]; omega)
 have a9_6:w6.cell? ⟨w.heap.size,9,none⟩=some (.int .i64 x.made):=by rw [cell_of_row _ _ _ _ _ _ hA6]; rfl
 have o0_6:w6.cell? ⟨w.heap.size+1+1,0,none⟩=some (.slice X0 x.network.legs.length d0):=by rw [cell_of_row _ _ _ _ _ _ hO6]; rfl
 have p0_6:w6.cell? ⟨w.heap.size+1,0,none⟩=some (.slice none 0 0):=by rw [cell_of_row _ _ _ _ _ _ hP6]; rfl
 have g0_6:w6.frozen? ⟨w.heap.size+1,0,none⟩=false:=frozen_of_row _ _ _ _ _ hP6
 have o1_6:w6.cell? ⟨w.heap.size+1+1,1,none⟩=some (.slice X1 x.network.off.length d1):=by rw [cell_of_row _ _ _ _ _ _ hO6]; rfl
 have p1_6:w6.cell? ⟨w.heap.size+1,1,none⟩=some (.slice none 0 0):=by rw [cell_of_row _ _ _ _ _ _ hP6]; rfl
 have g1_6:w6.frozen? ⟨w.heap.size+1,1,none⟩=false:=frozen_of_row _ _ _ _ _ hP6
 have o2_6:w6.cell? ⟨w.heap.size+1+1,2,none⟩=some (.int .i64 x.network.change):=by rw [cell_of_row _ _ _ _ _ _ hO6]; rfl
 have p2_6:w6.cell? ⟨w.heap.size+1,2,none⟩=some (.int .i64 0):=by rw [cell_of_row _ _ _ _ _ _ hP6]; rfl
 have g2_6:w6.frozen? ⟨w.heap.size+1,2,none⟩=false:=frozen_of_row _ _ _ _ _ hP6
 have o3_6:w6.cell? ⟨w.heap.size+1+1,3,none⟩=some (.slice X3 x.orders.length d3):=by rw [cell_of_row _ _ _ _ _ _ hO6]; rfl
 have p3_6:w6.cell? ⟨w.heap.size+1,3,none⟩=some (.slice none 0 0):=by rw [cell_of_row _ _ _ _ _ _ hP6]; rfl
 have g3_6:w6.frozen? ⟨w.heap.size+1,3,none⟩=false:=frozen_of_row _ _ _ _ _ hP6
 have o4_6:w6.cell? ⟨w.heap.size+1+1,4,none⟩=some (.slice X4 x.bookings.length d4):=by rw [cell_of_row _ _ _ _ _ _ hO6]; rfl
 have p4_6:w6.cell? ⟨w.heap.size+1,4,none⟩=some (.slice none 0 0):=by rw [cell_of_row _ _ _ _ _ _ hP6]; rfl
 have g4_6:w6.frozen? ⟨w.heap.size+1,4,none⟩=false:=frozen_of_row _ _ _ _ _ hP6
 have o5_6:w6.cell? ⟨w.heap.size+1+1,5,none⟩=some (.slice X5 x.closed.length d5):=by rw [cell_of_row _ _ _ _ _ _ hO6]; rfl
 have p5_6:w6.cell? ⟨w.heap.size+1,5,none⟩=some (.slice none 0 0):=by rw [cell_of_row _ _ _ _ _ _ hP6]; rfl
 have g5_6:w6.frozen? ⟨w.heap.size+1,5,none⟩=false:=frozen_of_row _ _ _ _ _ hP6
 have o6_6:w6.cell? ⟨w.heap.size+1+1,6,none⟩=some (.int .i64 x.now):=by rw [cell_of_row _ _ _ _ _ _ hO6]; rfl
 have p6_6:w6.cell? ⟨w.heap.size+1,6,none⟩=some (.int .i64 0):=by rw [cell_of_row _ _ _ _ _ _ hP6]; rfl
 have g6_6:w6.frozen? ⟨w.heap.size+1,6,none⟩=false:=frozen_of_row _ _ _ _ _ hP6
 have o7_6:w6.cell? ⟨w.heap.size+1+1,7,none⟩=some (.slice X7 x.scans.length d7):=by rw [cell_of_row _ _ _ _ _ _ hO6]; rfl
 have p7_6:w6.cell? ⟨w.heap.size+1,7,none⟩=some (.slice none 0 0):=by rw [cell_of_row _ _ _ _ _ _ hP6]; rfl
 have g7_6:w6.frozen? ⟨w.heap.size+1,7,none⟩=false:=frozen_of_row _ _ _ _ _ hP6
 have o8_6:w6.cell? ⟨w.heap.size+1+1,8,none⟩=some (.slice none 0 0):=by rw [cell_of_row _ _ _ _ _ _ hO6]; rfl
 have f8_6:w6.frozen? ⟨w.heap.size+1+1,8,none⟩=false:=frozen_of_row _ _ _ _ _ hO6
 have p8_6:w6.cell? ⟨w.heap.size+1,8,none⟩=some (.slice none 0 0):=by rw [cell_of_row _ _ _ _ _ _ hP6]; rfl
 have g8_6:w6.frozen? ⟨w.heap.size+1,8,none⟩=false:=frozen_of_row _ _ _ _ _ hP6
 have o9_6:w6.cell? ⟨w.heap.size+1+1,9,none⟩=some (.int .i64 0):=by rw [cell_of_row _ _ _ _ _ _ hO6]; rfl
 have f9_6:w6.frozen? ⟨w.heap.size+1+1,9,none⟩=false:=frozen_of_row _ _ _ _ _ hO6
 have p9_6:w6.cell? ⟨w.heap.size+1,9,none⟩=some (.int .i64 0):=by rw [cell_of_row _ _ _ _ _ _ hP6]; rfl
 have g9_6:w6.frozen? ⟨w.heap.size+1,9,none⟩=false:=frozen_of_row _ _ _ _ _ hP6
 have H_hA6:=Lib.hid hA6
 have H_hP6:=Lib.hid hP6
 have H_hO6:=Lib.hid hO6
 have H_hU6:=Lib.hid hU6
 have H_hu6:=Lib.hid hu6
 have H_s0:=Lib.hid s0
 have H_r0:=Lib.hid r0
 have H_s1:=Lib.hid s1
 have H_r1:=Lib.hid r1
 have H_s3:=Lib.hid s3
 have H_r3:=Lib.hid r3
 have H_s4:=Lib.hid s4
 have H_r4:=Lib.hid r4
 have H_s5:=Lib.hid s5
 have H_r5:=Lib.hid r5
 have H_s7:=Lib.hid s7
 have H_r7:=Lib.hid r7
 have H_s8:=Lib.hid s8
 have H_r8:=Lib.hid r8
 clear hA6 hP6 hO6 hU6 hu6 kw5 hUW5 hAW5 hPW5 hSW5 hcsz5 s0 s1 s3 s4 s5 s7 s8 r0 r1 r3 r4 r5 r7 r8 t0 t1 t3 t4 t5 t7 q0 q1 q3 q4 q5 q7 hA5 hP5 hO5 hU5 hs8_ hr8_
 go_wp2_with fail
 have hA6:=H_hA6.out
 have hP6:=H_hP6.out
 have hO6:=H_hO6.out
 have hU6:=H_hU6.out
 have s0:=H_s0.out; have r0:=H_r0.out
 have s1:=H_s1.out; have r1:=H_r1.out
 have s3:=H_s3.out; have r3:=H_r3.out
 have s4:=H_s4.out; have r4:=H_r4.out
 have s5:=H_s5.out; have r5:=H_r5.out
 have s7:=H_s7.out; have r7:=H_r7.out
 have s8:=H_s8.out; have r8:=H_r8.out
 have kw:=((Wr.start hO6).set 8 (.slice X8 x.skip.length d8)).set 9 (.int .i64 x.made)
 have hP:=(kw.oth (w.heap.size+1) (by omega)).trans hP6
 have kz:=((((((((((Wr.start hP).set 0 (.slice X0 x.network.legs.length d0)).set 1 (.slice X1 x.network.off.length d1)).set 2 (.int .i64 x.network.change)).set 3 (.slice X3 x.orders.length d3)).set 4 (.slice X4 x.bookings.length d4)).set 5 (.slice X5 x.closed.length d5)).set 6 (.int .i64 x.now)).set 7 (.slice X7 x.scans.length d7)).set 8 (.slice X8 x.skip.length d8)).set 9 (.int .i64 x.made)
 have hUz:=Up.wr kz (Up.wr kw hU6 (by omega)) (by omega)
 have z0:=(s0.wr kw hO6 (by decide)).wr kz hP (by decide)
 have y0:=((r0.sx_wr kw (by omega) hS1).sx_wr kz (by omega) (fun b h=>by have:=hS b h; omega)).sx_out (w:=w) (by omega)
 have z1:=(s1.wr kw hO6 (by decide)).wr kz hP (by decide)
 have y1:=((r1.sx_wr kw (by omega) hS1).sx_wr kz (by omega) (fun b h=>by have:=hS b h; omega)).sx_out (w:=w) (by omega)
 have z3:=(s3.wr kw hO6 (by decide) (by decide)).wr kz hP (by decide) (by decide)
 have y3:=((r3.sx_wr kw (by omega) hS1).sx_wr kz (by omega) (fun b h=>by have:=hS b h; omega)).sx_out (w:=w) (by omega)
 have z4:=(s4.wr kw hO6 (by decide)).wr kz hP (by decide)
 have y4:=((r4.sx_wr kw (by omega) hS1).sx_wr kz (by omega) (fun b h=>by have:=hS b h; omega)).sx_out (w:=w) (by omega)
 have z5:=(s5.wr kw hO6 (by decide)).wr kz hP (by decide)
 have y5:=((r5.sx_wr kw (by omega) hS1).sx_wr kz (by omega) (fun b h=>by have:=hS b h; omega)).sx_out (w:=w) (by omega)
 have z7:=(s7.wr kw hO6 (by decide)).wr kz hP (by decide)
 have y7:=((r7.sx_wr kw (by omega) hS1).sx_wr kz (by omega) (fun b h=>by have:=hS b h; omega)).sx_out (w:=w) (by omega)
 have z8:=(s8.wr kw hO6 (by decide)).wr kz hP (by decide)
 have y8:=((r8.sx_wr kw (by omega) hS1).sx_wr kz (by omega) (fun b h=>by have:=hS b h; omega)).sx_out (w:=w) (by omega)
 have hrow:=kz.row
 simp only [List.setIfInBounds_toArray,List.set_cons_zero,List.set_cons_succ] at hrow
 refine bodyPost_ret (v:=.agg #[.slice X0 x.network.legs.length d0,.slice X1 x.network.off.length d1,.int .i64 x.network.change,.slice X3 x.orders.length d3,.slice X4 x.bookings.length d4,.slice X5 x.closed.length d5,.int .i64 x.now,.slice X7 x.scans.length d7,.slice X8 x.skip.length d8,.int .i64 x.made]) (results_cell_row Tryz.results17 _ _ (w.heap.size+1) 41 _ (0,0) _ rfl hrow Tryz.underlying41 rfl (by kernel_rfl)) rfl ?_
 exact ⟨_,_,_,_,_,_,_,rfl,hUz,⟨z0,y0⟩,⟨z1,y1⟩,⟨z3,y3⟩,⟨z4,y4⟩,⟨z5,y5⟩,⟨z7,y7⟩,⟨z8,y8⟩⟩
set_option maxHeartbeats 16000000
def Zz (s:ByteArray) (s0:Int):Option (Int ⊕ (Unit ⊕ Bool)):=
 cond (decide (s0<(s.size:Int)))
 ((getB s s0).bind fun y1=>
 cond (decide (y1<65))
 (some (.inr (.inr false)))
 ((getB s s0).bind fun y2=>
 cond (decide (90<y2))
 (some (.inr (.inr false)))
 (some (.inl (w64 (s0+1))))))
 (some (.inr (.inl ())))
instance (s:ByteArray):LoopE (Zz s):=⟨fun s0=>(vs s::.un::.un::vi s0::(U 19 [])),fun s0=>[]⟩
def Zbu (s:ByteArray):Option Bool:=
 (iterF (Zz s) NN 0).bind (selim (fun o0=>
 some (decide ((s.size:Int)=3))) (fun r=>some r))
instance (s:ByteArray):CT Tryz.prog (Zbu s):=⟨251,[vs s],[],fun r=>vb r,fun r=>[],fun H=>by replace H:=H0 H; unfold Zbu at H; exact callM_of Tryz.func251 rfl Tryz.ntmps251 Tryz.results251 fun Q hQ hQn=>wk3⟩
def Zo (x:Int) (least:Int) (most:Int):Option Bool:=
 cond (decide (least≤x))
 (some (decide (x≤most)))
 (some false)
instance (x:Int) (least:Int) (most:Int):CT Tryz.prog (Zo x least most):=⟨71,[vi x,vi least,vi most],[],fun r=>vb r,fun r=>[],fun H=>by replace H:=H0 H; unfold Zo at H; exact callM_of Tryz.func71 rfl Tryz.ntmps71 Tryz.results71 fun Q hQ hQn=>wk3⟩
def Zc9 (s:ByteArray) (s0:Int):Option (Int ⊕ (Unit ⊕ Bool)):=
 cond (decide (s0<3))
 ((getB s s0).bind fun y1=>
 (Zo (IntKind.i64.wrap y1) 65 90).bind fun y2=>
 cond (!y2)
 (some (.inr (.inr false)))
 (some (.inl (w64 (s0+1)))))
 (some (.inr (.inl ())))
instance (s:ByteArray):LoopE (Zc9 s):=⟨fun s0=>(vs s::.un::.un::vi s0::(U 13 [])),fun s0=>[]⟩
def ZaE (s:ByteArray):Option Bool:=
 cond (!decide ((s.size:Int)=3))
 (some false)
 ((iterF (Zc9 s) NN 0).bind (selim (fun o0=>
 some true) (fun r=>some r)))
instance (s:ByteArray):CT Tryz.prog (ZaE s):=⟨257,[vs s],[],fun r=>vb r,fun r=>[],fun H=>by replace H:=H0 H; unfold ZaE at H; exact callM_of Tryz.func257 rfl Tryz.ntmps257 Tryz.results257 fun Q hQ hQn=>wk3⟩
def Zj (n:Int) (low:Int) (high:Int):Option Bool:=
 cond (decide (low≤n))
 (some (decide (n≤high)))
 (some false)
instance (n:Int) (low:Int) (high:Int):CT Tryz.prog (Zj n low high):=⟨81,[vi n,vi low,vi high],[],fun r=>vb r,fun r=>[],fun H=>by replace H:=H0 H; unfold Zj at H; exact callM_of Tryz.func81 rfl Tryz.ntmps81 Tryz.results81 fun Q hQ hQn=>wk3⟩
theorem Zpv (n l h:Int):Zj n l h=some (decide (l≤n) && decide (n≤h)):=by
 unfold Zj; cases decide (l≤n) <;> rfl
theorem ZcU (n l h:Int):Zo n l h=some (decide (l≤n) && decide (n≤h)):=by
 unfold Zo; cases decide (l≤n) <;> rfl
theorem ZdU:@Zj=@Zo:=by funext n l h; rw [Zpv,ZcU]
theorem Zqk {s:ByteArray} {i c:Int} (h:getB s i=some c):0≤c∧c≤255:=by
 unfold getB at h
 split at h
 ·cases h
  unfold byteAt
  cases hb:s[i.toNat]? with
  | none=>simp
  | some b=>
   have:=b.toNat_lt
   simp only [Option.map_some,Option.getD_some]
   omega
 ·cases h
theorem ZnX {s:ByteArray} (hs:s.size=3):Zz s=Zc9 s:=by
 funext i
 unfold Zz Zc9
 rw [hs]
 cases hi:decide (i<3) with
 | false=>simp [hi]
 | true=>
  simp only [show ((3:Nat):Int)=3 from rfl,hi,cond_true]
  cases hg:getB s i with
  | none=>rfl
  | some y=>
   obtain ⟨h0,h1⟩:=Zqk hg
   simp only [Option.bind_some,hg]
   rw [show IntKind.i64.wrap y=y from Zc (by omega),ZcU]
   simp only [Option.bind_some]
   by_cases h2:y<65
   ·simp [h2,show ¬ (65≤y) by omega]
   ·by_cases h3:90<y
    ·simp [h2,h3,show ¬ (y≤90) by omega]
    ·simp [h2,h3,show 65≤y by omega,show y≤90 by omega]
theorem Znq {s:ByteArray} {i:Nat} (h:i<s.size):∃ c,getB s (i:Int)=some c:=by
 unfold getB; exact ⟨_,if_pos ⟨by omega,by omega⟩⟩
theorem ZkP {s:ByteArray} (hs:s.size≤1152921504606846000):∀ (k i N:Nat),i+k=s.size→k<N→∃ o,iterF (Zz s) N (i:Int)=some o∧(o=.inl ()∨o=.inr false):=by
 intro k
 induction k with
 | zero=>
  intro i N hi hk
  cases N with
  | zero=>omega
  | succ N=>exact ⟨.inl (),by simp [iterF,Zz,show ¬ ((i:Int)<s.size) by omega],.inl rfl⟩
 | succ k ih=>
  intro i N hi hk
  cases N with
  | zero=>omega
  | succ N=>
   obtain ⟨c,hc⟩:=Znq (s:=s) (i:=i) (by omega)
   have hw:=Zt (i:=i) (n:=s.size) (by omega) (by omega)
   by_cases h2:c<65
   ·exact ⟨.inr false,by simp [iterF,Zz,show (i:Int)<s.size by omega,hc,h2],.inr rfl⟩
   ·by_cases h3:90<c
    ·exact ⟨.inr false,by simp [iterF,Zz,show (i:Int)<s.size by omega,hc,h2,h3],.inr rfl⟩
    ·obtain ⟨o,ho,hoo⟩:=ih (i+1) N (by omega) (by omega)
     refine ⟨o,?_,hoo⟩
     simp only [iterF,Zz,decide_eq_true (show (i:Int)<s.size by omega),cond_true,hc,Option.bind_some,decide_eq_false h2,decide_eq_false h3,cond_false,hw]
     exact ho
theorem Zfq {s:ByteArray} (hs:s.size≤1152921504606846000):Zbu s=ZaE s∧∃ b,ZaE s=some b:=by
 obtain ⟨o,ho,hoo⟩:=ZkP hs s.size 0 NN (by omega) (by unfold NN; omega)
 have ho':iterF (Zz s) NN 0=some o:=ho
 by_cases h3:s.size=3
 ·have e:ZaE s=(iterF (Zz s) NN 0).bind (selim (fun _=>some true) (fun r=>some r)):=by
   unfold ZaE; rw [ZnX h3,h3]; rfl
  have e2:Zbu s=(iterF (Zz s) NN 0).bind (selim (fun _=>some (decide ((s.size:Int)=3))) (fun r=>some r)):=rfl
  rw [e,e2,ho',h3]
  rcases hoo with rfl | rfl
  ·exact ⟨rfl,_,rfl⟩
  ·exact ⟨rfl,_,rfl⟩
 ·have e:ZaE s=some false:=by unfold ZaE; rw [decide_eq_false (by omega)]; rfl
  have e2:Zbu s=some false:=by
   unfold Zbu; rw [ho']
   rcases hoo with rfl | rfl
   ·show some _=some _; rw [decide_eq_false (by omega)]
   ·rfl
  exact ⟨by rw [e,e2],_,e⟩
def B60:Nat:=1152921504606846000
def Zeb (l:YLeg):Option Bool:=
 (Zbu l.from_).bind fun y1=>
 cond y1
 ((Zbu l.to_).bind fun y2=>
 cond y2
 (cond (!decide (l.from_=l.to_))
 ((Zj l.start 0 1439).bind fun y3=>
 cond y3
 ((Zj l.takes 1 4320).bind fun y4=>
 cond y4
 ((Zj l.days 1 127).bind fun y5=>
 cond y5
 ((Zj l.room 0 1000000).bind fun y6=>
 some y6)
 (some false))
 (some false))
 (some false))
 (some false))
 (some false))
 (some false)
instance (l:YLeg):CT Tryz.prog (Zeb l):=⟨215,[.ag (cLeg l)],[],fun r=>vb r,fun r=>[],fun H=>by replace H:=H0 H; unfold Zeb at H; exact callM_of Tryz.func215 rfl Tryz.ntmps215 Tryz.results215 fun Q hQ hQn=>wk3⟩
def Zcu (n:YNetwork) (s0:Int):Option (Int ⊕ (Unit ⊕ Bool)):=
 cond (decide (s0<(n.legs.length:Int)))
 ((getI n.legs s0).bind fun y1=>
 (Zeb y1).bind fun y2=>
 cond (!y2)
 (some (.inr (.inr false)))
 (some (.inl (w64 (s0+1)))))
 (some (.inr (.inl ())))
instance (n:YNetwork):LoopE (Zcu n):=⟨fun s0=>(.un::.be 0 0 0::(U 6 (.sl (n.legs.map cLeg)::vi (n.legs.length:Int)::vi s0::(U 48 [])))),fun s0=>[some ⟨.of 35,3,[[.sl (n.legs.map cLeg),.sl (n.off.map cInt),vi n.change]]⟩]⟩
def Zcv (n:YNetwork) (s1:Int):Option (Int ⊕ (Unit ⊕ Bool)):=
 cond (decide (s1<(n.off.length:Int)))
 ((getI n.off s1).bind fun y3=>
 (Zj y3 0 60).bind fun y4=>
 cond (!y4)
 (some (.inr (.inr false)))
 (cond (decide (0<s1))
 ((getI n.off (w64 (s1-1))).bind fun y5=>
 cond (decide (y3≤y5))
 (some (.inr (.inr false)))
 (some (.inl (w64 (s1+1)))))
 (some (.inl (w64 (s1+1))))))
 (some (.inr (.inl ())))
instance (n:YNetwork):LoopE (Zcv n):=⟨fun s1=>(.un::.be 0 0 0::(U 17 (.sl (n.off.map cInt)::vi (n.off.length:Int)::vi s1::(U 37 [])))),fun s1=>[some ⟨.of 35,3,[[.sl (n.legs.map cLeg),.sl (n.off.map cInt),vi n.change]]⟩]⟩
def Zas (n:YNetwork):Option Bool:=
 (iterF (Zcu n) NN 0).bind (selim (fun o0=>
 (iterF (Zcv n) NN 0).bind (selim (fun o1=>
 cond (decide ((n.legs.length:Int)≤20))
 (cond (decide ((n.off.length:Int)≤10))
 ((Zj n.change 0 240).bind fun y6=>
 some y6)
 (some false))
 (some false)) (fun r=>some r))) (fun r=>some r))
instance (n:YNetwork):CT Tryz.prog (Zas n):=⟨150,[.ag (cNetwork n)],[],fun r=>vb r,fun r=>[],fun H=>by replace H:=H0 H; unfold Zas at H; exact callM_of Tryz.func150 rfl Tryz.ntmps150 Tryz.results150 fun Q hQ hQn=>wk3⟩
def ZaN (l:YLeg):Option Bool:=
 (ZaE l.from_).bind fun y1=>
 cond y1
 ((ZaE l.to_).bind fun y2=>
 cond y2
 (cond (!decide (l.from_=l.to_))
 ((Zo l.start 0 1439).bind fun y3=>
 cond y3
 ((Zo l.takes 1 4320).bind fun y4=>
 cond y4
 ((Zo l.days 1 127).bind fun y5=>
 cond y5
 ((Zo l.room 0 1000000).bind fun y6=>
 some y6)
 (some false))
 (some false))
 (some false))
 (some false))
 (some false))
 (some false)
instance (l:YLeg):CT Tryz.prog (ZaN l):=⟨232,[.ag (cLeg l)],[],fun r=>vb r,fun r=>[],fun H=>by replace H:=H0 H; unfold ZaN at H; exact callM_of Tryz.func232 rfl Tryz.ntmps232 Tryz.results232 fun Q hQ hQn=>wk3⟩
def Zm (n:YNetwork) (s0:Int):Option (Int ⊕ (Unit ⊕ Bool)):=
 cond (decide (s0<(n.legs.length:Int)))
 ((getI n.legs s0).bind fun y1=>
 (ZaN y1).bind fun y2=>
 cond (!y2)
 (some (.inr (.inr false)))
 (some (.inl (w64 (s0+1)))))
 (some (.inr (.inl ())))
instance (n:YNetwork):LoopE (Zm n):=⟨fun s0=>(.un::.be 0 0 0::.un::vi s0::(U 62 [])),fun s0=>[some ⟨.of 35,3,[[.sl (n.legs.map cLeg),.sl (n.off.map cInt),vi n.change]]⟩]⟩
def Zn (n:YNetwork) (s1:Int):Option (Int ⊕ (Unit ⊕ Bool)):=
 cond (decide (s1<(n.off.length:Int)))
 ((getI n.off s1).bind fun y3=>
 (Zo y3 0 60).bind fun y4=>
 cond (!y4)
 (some (.inr (.inr false)))
 (cond (decide (0<s1))
 ((getI n.off (w64 (s1-1))).bind fun y5=>
 (getI n.off s1).bind fun y6=>
 cond (decide (y6≤y5))
 (some (.inr (.inr false)))
 (some (.inl (w64 (s1+1)))))
 (some (.inl (w64 (s1+1))))))
 (some (.inr (.inl ())))
instance (n:YNetwork):LoopE (Zn n):=⟨fun s1=>(.un::.be 0 0 0::.un::.un::vi s1::(U 61 [])),fun s1=>[some ⟨.of 35,3,[[.sl (n.legs.map cLeg),.sl (n.off.map cInt),vi n.change]]⟩]⟩
def Zb (n:YNetwork):Option Bool:=
 (iterF (Zm n) NN 0).bind (selim (fun o0=>
 (iterF (Zn n) NN 0).bind (selim (fun o1=>
 cond (decide ((n.legs.length:Int)≤20))
 (cond (decide ((n.off.length:Int)≤10))
 ((Zo n.change 0 240).bind fun y7=>
 some y7)
 (some false))
 (some false)) (fun r=>some r))) (fun r=>some r))
instance (n:YNetwork):CT Tryz.prog (Zb n):=⟨181,[.ag (cNetwork n)],[],fun r=>vb r,fun r=>[],fun H=>by replace H:=H0 H; unfold Zb at H; exact callM_of Tryz.func181 rfl Tryz.ntmps181 Tryz.results181 fun Q hQ hQn=>wk3⟩
def Zah (n:YNetwork) (t:YTrip):Option Int:=
 (getI n.legs t.leg).bind fun y1=>
 some (w64 ((w64 (t.day*1440))+y1.start))
instance (n:YNetwork) (t:YTrip):CT Tryz.prog (Zah n t):=⟨125,[.ag (cNetwork n),.ag (cTrip t)],[],fun r=>vi r,fun r=>[],fun H=>by replace H:=H0 H; unfold Zah at H; exact callM_of Tryz.func125 rfl Tryz.ntmps125 Tryz.results125 fun Q hQ hQn=>wk3⟩
def ZF (n:YNetwork) (t:YTrip):Option Int:=
 (Zah n t).bind fun y1=>
 (getI n.legs t.leg).bind fun y2=>
 some (w64 (y1+y2.takes))
instance (n:YNetwork) (t:YTrip):CT Tryz.prog (ZF n t):=⟨121,[.ag (cNetwork n),.ag (cTrip t)],[],fun r=>vi r,fun r=>[],fun H=>by replace H:=H0 H; unfold ZF at H; exact callM_of Tryz.func121 rfl Tryz.ntmps121 Tryz.results121 fun Q hQ hQn=>wk3⟩
def Zg (n:YNetwork) (t:YTrip):Option Int:=
 (getI n.legs t.leg).bind fun y1=>
 some (w64 ((w64 (t.day*1440))+y1.start))
instance (n:YNetwork) (t:YTrip):CT Tryz.prog (Zg n t):=⟨119,[.ag (cNetwork n),.ag (cTrip t)],[],fun r=>vi r,fun r=>[],fun H=>by replace H:=H0 H; unfold Zg at H; exact callM_of Tryz.func119 rfl Tryz.ntmps119 Tryz.results119 fun Q hQ hQn=>wk3⟩
def Ze (n:YNetwork) (t:YTrip):Option Int:=
 (Zg n t).bind fun y1=>
 (getI n.legs t.leg).bind fun y2=>
 some (w64 (y1+y2.takes))
instance (n:YNetwork) (t:YTrip):CT Tryz.prog (Ze n t):=⟨164,[.ag (cNetwork n),.ag (cTrip t)],[],fun r=>vi r,fun r=>[],fun H=>by replace H:=H0 H; unfold Ze at H; exact callM_of Tryz.func164 rfl Tryz.ntmps164 Tryz.results164 fun Q hQ hQn=>wk3⟩
theorem Zgm:@Zah=@Zg:=rfl
theorem Zgx:@ZF=@Ze:=rfl
def ZjF (l:YLeg):Prop:=l.from_.size≤B60∧l.to_.size≤B60
theorem Zg7 {l:YLeg} (h:ZjF l):Zeb l=ZaN l∧∃ b,ZaN l=some b:=by
 obtain ⟨e1,b1,s1⟩:=Zfq (s:=l.from_) h.1
 obtain ⟨e2,b2,s2⟩:=Zfq (s:=l.to_) h.2
 constructor
 ·unfold Zeb ZaN; rw [e1,e2,ZdU]
 ·unfold ZaN
  rw [s1,s2]
  simp only [Option.bind_some,ZcU]
  cases b1 <;> cases b2 <;> cases (decide (l.from_=l.to_)) <;> cases (decide (0≤l.start) && decide (l.start≤1439)) <;> cases (decide (1≤l.takes) && decide (l.takes≤4320)) <;> cases (decide (1≤l.days) && decide (l.days≤127)) <;> exact ⟨_,rfl⟩
structure ZZ (n:YNetwork):Prop where
 legs:n.legs.length≤1048576
 off:n.off.length≤1048576
 leg:∀ l∈n.legs,ZjF l
theorem Zg6 {α:Type} {xs:List α} {i:Int} {x:α} (h:getI xs i=some x):x∈xs:=List.mem_of_getElem? (getI_some h).2
theorem Zo2 {n:YNetwork} (h:ZZ n):Zcu n=Zm n:=by
 funext i
 unfold Zcu Zm
 cases hg:getI n.legs i with
 | none=>rfl
 | some y=>simp only [Option.bind_some,(Zg7 (h.leg y (Zg6 hg))).1]
theorem Zo3 {n:YNetwork}:Zcv n=Zn n:=by
 funext i
 unfold Zcv Zn
 rw [ZdU]
 cases hg:getI n.off i with
 | none=>rfl
 | some y=>simp only [Option.bind_some]
theorem Zsa {n:YNetwork} (h:ZZ n):∃ o,iterF (Zm n) NN 0=some o:=by
 refine ZlC (n:=n.legs.length) (by have:=h.legs; unfold NN; omega) (fun i hi=>?_) ⟨_,by simp [Zm]; rfl⟩
 have hw:=Zt hi (by have:=h.legs; omega)
 have hg:getI n.legs (i:Int)=some n.legs[i]:=by rw [Zd]; exact List.getElem?_eq_getElem hi
 obtain ⟨b,hb⟩:=(Zg7 (h.leg _ (List.getElem_mem hi))).2
 cases b with
 | true=>exact ZqO (by simp only [Zm,decide_eq_true (show (i:Int)<n.legs.length by omega),cond_true,hg,Option.bind_some,hb,hw,Bool.not_true,cond_false])
 | false=>exact Zol (by simp only [Zm,decide_eq_true (show (i:Int)<n.legs.length by omega),cond_true,hg,Option.bind_some,hb,Bool.not_false,cond_true]; rfl)
theorem Zsb {n:YNetwork} (h:ZZ n):∃ o,iterF (Zn n) NN 0=some o:=by
 refine ZlC (n:=n.off.length) (by have:=h.off; unfold NN; omega) (fun i hi=>?_) ⟨_,by simp [Zn]; rfl⟩
 have hw:=Zt hi (by have:=h.off; omega)
 have hg:getI n.off (i:Int)=some n.off[i]:=by rw [Zd]; exact List.getElem?_eq_getElem hi
 have hd:=decide_eq_true (show (i:Int)<n.off.length by omega)
 cases hb:decide (0≤n.off[i]) && decide (n.off[i]≤60) with
 | false=>exact Zol (by simp only [Zn,hd,cond_true,hg,Option.bind_some,ZcU,hb,Bool.not_false]; rfl)
 | true=>
  by_cases h0:0<(i:Int)
  ·have hw2:w64 ((i:Int)-1)=((i-1:Nat):Int):=by rw [Zc (by have:=h.off; omega)]; omega
   have hg2:getI n.off ((i-1:Nat):Int)=some n.off[i-1]:=by rw [Zd]; exact List.getElem?_eq_getElem (by omega)
   cases hc:decide (n.off[i]≤n.off[i-1]) with
   | true=>exact Zol (by simp only [Zn,hd,cond_true,hg,Option.bind_some,ZcU,hb,Bool.not_true,cond_false,decide_eq_true h0,hw2,hg2,hc]; rfl)
   | false=>exact ZqO (by simp only [Zn,hd,cond_true,hg,Option.bind_some,ZcU,hb,Bool.not_true,cond_false,decide_eq_true h0,hw2,hg2,hc,hw])
  ·exact ZqO (by simp only [Zn,hd,cond_true,hg,Option.bind_some,ZcU,hb,Bool.not_true,cond_false,decide_eq_false h0,hw])
theorem Zcr {n:YNetwork} (h:ZZ n):Zas n=Zb n∧∃ b,Zb n=some b:=by
 constructor
 ·unfold Zas Zb; rw [Zo2 h,Zo3,ZdU]
 ·obtain ⟨o0,h0⟩:=Zsa h
  obtain ⟨o1,h1⟩:=Zsb h
  unfold Zb
  rw [h0,h1]
  simp only [Option.bind_some,ZcU]
  rcases o0 with o0 | o0
  ·rcases o1 with o1 | o1
   ·simp only [selim]
    cases decide ((n.legs.length:Int)≤20) <;> cases decide ((n.off.length:Int)≤10) <;> exact ⟨_,rfl⟩
   ·exact ⟨_,rfl⟩
  ·exact ⟨_,rfl⟩
def Zdl (n:YNetwork) (day:Int) (s0:Int):Option (Int ⊕ (Unit ⊕ Bool)):=
 cond (decide (s0<(n.off.length:Int)))
 ((getI n.off s0).bind fun y3=>
 cond (decide (y3=day))
 (some (.inr (.inr false)))
 (some (.inl (w64 (s0+1)))))
 (some (.inr (.inl ())))
instance (n:YNetwork) (day:Int):LoopE (Zdl n day):=⟨fun s0=>(.un::.un::vi day::(U 34 (.sl (n.off.map cInt)::vi (n.off.length:Int)::vi s0::(U 7 [])))),fun s0=>[]⟩
def Zdy (n:YNetwork) (leg:Int) (day:Int):Option Bool:=
 cond (decide (leg<0))
 (some false)
 (cond (decide ((n.legs.length:Int)≤leg))
 (some false)
 ((Zj day 0 60).bind fun y1=>
 cond (!y1)
 (some false)
 ((getI n.legs leg).bind fun y2=>
 (chk (decide (0≤(Int.tmod day 7)))).bind fun _=>
 cond (decide ((IntKind.i64.wrap (BitVec.ofInt IntKind.i64.bits (Int.fdiv y2.days (2 ^ (min (Int.toNat (Int.tmod day 7)) IntKind.i64.bits))) &&& BitVec.ofInt IntKind.i64.bits 1).toNat)=0))
 (some false)
 ((iterF (Zdl n day) NN 0).bind (selim (fun o0=>
 some true) (fun r=>some r))))))
instance (n:YNetwork) (leg:Int) (day:Int):CT Tryz.prog (Zdy n leg day):=⟨157,[.ag (cNetwork n),vi leg,vi day],[],fun r=>vb r,fun r=>[],fun H=>by replace H:=H0 H; unfold Zdy at H; exact callM_of Tryz.func157 rfl Tryz.ntmps157 Tryz.results157 fun Q hQ hQn=>wk3⟩
def ZdK (n:YNetwork) (leg:Int) (day:Int):Option Bool:=
 (Zas n).bind fun y1=>
 cond y1
 ((Zdy n leg day).bind fun y2=>
 some y2)
 (some false)
instance (n:YNetwork) (leg:Int) (day:Int):CT Tryz.prog (ZdK n leg day):=⟨193,[.ag (cNetwork n),vi leg,vi day],[],fun r=>vb r,fun r=>[],fun H=>by replace H:=H0 H; unfold ZdK at H; exact callM_of Tryz.func193 rfl Tryz.ntmps193 Tryz.results193 fun Q hQ hQn=>wk3⟩
def ZW (n:YNetwork) (t:YTrip):Option Bool:=
 (ZdK n t.leg t.day).bind fun y1=>
 some y1
instance (n:YNetwork) (t:YTrip):CT Tryz.prog (ZW n t):=⟨124,[.ag (cNetwork n),.ag (cTrip t)],[],fun r=>vb r,fun r=>[],fun H=>by replace H:=H0 H; unfold ZW at H; exact callM_of Tryz.func124 rfl Tryz.ntmps124 Tryz.results124 fun Q hQ hQn=>wk3⟩
def ZdR (l:List Int) (x:Int) (s0:Int):Option (Int ⊕ (Unit ⊕ Bool)):=
 cond (decide (s0<(l.length:Int)))
 ((getI l s0).bind fun y1=>
 cond (decide (y1=x))
 (some (.inr (.inr true)))
 (some (.inl (w64 (s0+1)))))
 (some (.inr (.inl ())))
instance (l:List Int) (x:Int):LoopE (ZdR l x):=⟨fun s0=>(.sl (l.map cInt)::vi x::(U 3 (vi s0::(U 12 [])))),fun s0=>[]⟩
def Zee (l:List Int) (x:Int):Option Bool:=
 (iterF (ZdR l x) NN 0).bind (selim (fun o0=>
 some false) (fun r=>some r))
instance (l:List Int) (x:Int):CT Tryz.prog (Zee l x):=⟨184,[.sl (l.map cInt),vi x],[],fun r=>vb r,fun r=>[],fun H=>by replace H:=H0 H; unfold Zee at H; exact callM_of Tryz.func184 rfl Tryz.ntmps184 Tryz.results184 fun Q hQ hQn=>wk3⟩
def Zw (n:YNetwork) (leg:Int) (day:Int):Option Bool:=
 (Zo leg 0 (w64 ((n.legs.length:Int)-1))).bind fun y1=>
 cond y1
 ((Zo day 0 60).bind fun y2=>
 cond y2
 ((getI n.legs leg).bind fun y3=>
 (chk (decide (0≤(Int.tmod day 7)))).bind fun _=>
 cond (decide ((IntKind.i64.wrap (BitVec.ofInt IntKind.i64.bits (Int.fdiv y3.days (2 ^ (min (Int.toNat (Int.tmod day 7)) IntKind.i64.bits))) &&& BitVec.ofInt IntKind.i64.bits 1).toNat)=1))
 ((Zee n.off day).bind fun y4=>
 some (!y4))
 (some false))
 (some false))
 (some false)
instance (n:YNetwork) (leg:Int) (day:Int):CT Tryz.prog (Zw n leg day):=⟨108,[.ag (cNetwork n),vi leg,vi day],[],fun r=>vb r,fun r=>[],fun H=>by replace H:=H0 H; unfold Zw at H; exact callM_of Tryz.func108 rfl Tryz.ntmps108 Tryz.results108 fun Q hQ hQn=>wk3⟩
def ZbV (n:YNetwork) (leg:Int) (day:Int):Option Bool:=
 (Zb n).bind fun y1=>
 cond y1
 ((Zw n leg day).bind fun y2=>
 some y2)
 (some false)
instance (n:YNetwork) (leg:Int) (day:Int):CT Tryz.prog (ZbV n leg day):=⟨118,[.ag (cNetwork n),vi leg,vi day],[],fun r=>vb r,fun r=>[],fun H=>by replace H:=H0 H; unfold ZbV at H; exact callM_of Tryz.func118 rfl Tryz.ntmps118 Tryz.results118 fun Q hQ hQn=>wk3⟩
def ZM (n:YNetwork) (t:YTrip):Option Bool:=
 (ZbV n t.leg t.day).bind fun y1=>
 some y1
instance (n:YNetwork) (t:YTrip):CT Tryz.prog (ZM n t):=⟨31,[.ag (cNetwork n),.ag (cTrip t)],[],fun r=>vb r,fun r=>[],fun H=>by replace H:=H0 H; unfold ZM at H; exact callM_of Tryz.func31 rfl Tryz.ntmps31 Tryz.results31 fun Q hQ hQn=>wk3⟩
def Zc5 (l:List YTrip) (t:YTrip) (s0:Int):Option (Int ⊕ (Unit ⊕ Bool)):=
 cond (decide (s0<(l.length:Int)))
 ((getI l s0).bind fun y1=>
 cond (decide (y1=t))
 (some (.inr (.inr true)))
 (some (.inl (w64 (s0+1)))))
 (some (.inr (.inl ())))
instance (l:List YTrip) (t:YTrip):LoopE (Zc5 l t):=⟨fun s0=>(U 3 (.be 0 0 0::(U 3 (.sl (l.map cTrip)::vi (l.length:Int)::vi s0::(U 7 []))))),fun s0=>[some ⟨.of 55,2,[[vi t.leg,vi t.day]]⟩]⟩
def ZaC (l:List YTrip) (t:YTrip):Option Bool:=
 (iterF (Zc5 l t) NN 0).bind (selim (fun o0=>
 some false) (fun r=>some r))
instance (l:List YTrip) (t:YTrip):CT Tryz.prog (ZaC l t):=⟨126,[.sl (l.map cTrip),.ag (cTrip t)],[],fun r=>vb r,fun r=>[],fun H=>by replace H:=H0 H; unfold ZaC at H; exact callM_of Tryz.func126 rfl Tryz.ntmps126 Tryz.results126 fun Q hQ hQn=>wk3⟩
def ZeE (l:List YTrip) (t:YTrip) (s0:Int):Option (Int ⊕ (Unit ⊕ Bool)):=
 cond (decide (s0<(l.length:Int)))
 ((getI l s0).bind fun y1=>
 cond (decide (y1=t))
 (some (.inr (.inr true)))
 (some (.inl (w64 (s0+1)))))
 (some (.inr (.inl ())))
instance (l:List YTrip) (t:YTrip):LoopE (ZeE l t):=⟨fun s0=>(.sl (l.map cTrip)::.un::.un::.be 0 0 0::.un::vi s0::(U 12 [])),fun s0=>[some ⟨.of 55,2,[[vi t.leg,vi t.day]]⟩]⟩
def Zar (l:List YTrip) (t:YTrip):Option Bool:=
 (iterF (ZeE l t) NN 0).bind (selim (fun o0=>
 some false) (fun r=>some r))
instance (l:List YTrip) (t:YTrip):CT Tryz.prog (Zar l t):=⟨109,[.sl (l.map cTrip),.ag (cTrip t)],[],fun r=>vb r,fun r=>[],fun H=>by replace H:=H0 H; unfold Zar at H; exact callM_of Tryz.func109 rfl Tryz.ntmps109 Tryz.results109 fun Q hQ hQn=>wk3⟩
def Zdu (l:List YBooking) (t:YTrip) (s0:Int × Int):Option ((Int × Int) ⊕ Int):=
 cond (decide (s0.2<(l.length:Int)))
 ((getI l s0.2).bind fun y1=>
 cond (decide (y1.trip=t))
 (some (.inl ((w64 (s0.1+y1.weight)),(w64 (s0.2+1)))))
 (some (.inl (s0.1,(w64 (s0.2+1))))))
 (some (.inr s0.1))
instance (l:List YBooking) (t:YTrip):LoopE (Zdu l t):=⟨fun s0=>(U 3 (.be 0 0 0::.un::vi s0.1::.un::.un::.sl (l.map cBooking)::vi (l.length:Int)::vi s0.2::(U 13 []))),fun s0=>[some ⟨.of 55,2,[[vi t.leg,vi t.day]]⟩]⟩
def Zcw (l:List YBooking) (t:YTrip):Option Int:=
 (iterF (Zdu l t) NN (0,0)).bind (fun o0=>
 some o0)
instance (l:List YBooking) (t:YTrip):CT Tryz.prog (Zcw l t):=⟨36,[.sl (l.map cBooking),.ag (cTrip t)],[],fun r=>vi r,fun r=>[],fun H=>by replace H:=H0 H; unfold Zcw at H; exact callM_of Tryz.func36 rfl Tryz.ntmps36 Tryz.results36 fun Q hQ hQn=>wk3⟩
def ZI (l:List YBooking) (t:YTrip) (s0:Int × Int):Option ((Int × Int) ⊕ Int):=
 cond (decide (s0.2<(l.length:Int)))
 ((getI l s0.2).bind fun y1=>
 cond (decide (y1.trip=t))
 ((getI l s0.2).bind fun y2=>
 some (.inl ((w64 (s0.1+y2.weight)),(w64 (s0.2+1)))))
 (some (.inl (s0.1,(w64 (s0.2+1))))))
 (some (.inr s0.1))
instance (l:List YBooking) (t:YTrip):LoopE (ZI l t):=⟨fun s0=>(.sl (l.map cBooking)::.un::.un::.be 0 0 0::.un::vi s0.1::vi s0.2::(U 21 [])),fun s0=>[some ⟨.of 55,2,[[vi t.leg,vi t.day]]⟩]⟩
def ZN (l:List YBooking) (t:YTrip):Option Int:=
 (iterF (ZI l t) NN (0,0)).bind (fun o0=>
 some o0)
instance (l:List YBooking) (t:YTrip):CT Tryz.prog (ZN l t):=⟨183,[.sl (l.map cBooking),.ag (cTrip t)],[],fun r=>vi r,fun r=>[],fun H=>by replace H:=H0 H; unfold ZN at H; exact callM_of Tryz.func183 rfl Tryz.ntmps183 Tryz.results183 fun Q hQ hQn=>wk3⟩
theorem Zqq {l:List Int} (h:l.length≤1048576) (x:Int):Zee l x=some (l.any fun y=>decide (y=x)):=by
 unfold Zee
 rw [Zf7 (xs:=l) (p:=fun y=>decide (y=x)) (r:=.inr true) (e:=.inl ()) (fun i hi=>?_) (by simp [ZdR]) (by unfold NN; omega)]
 ·cases l.any fun y=>decide (y=x) <;> rfl
 ·have hw:=Zt hi (by omega)
  have hg:getI l (i:Int)=some l[i]:=by rw [Zd]; exact List.getElem?_eq_getElem hi
  simp only [ZdR,decide_eq_true (show (i:Int)<l.length by omega),cond_true,hg,Option.bind_some,hw]
  cases decide (l[i]=x) <;> rfl
theorem Zea {l:List YTrip} (h:l.length≤1048576) (x:YTrip):ZaC l x=some (l.any fun y=>decide (y=x)):=by
 unfold ZaC
 rw [Zf7 (xs:=l) (p:=fun y=>decide (y=x)) (r:=.inr true) (e:=.inl ()) (fun i hi=>?_) (by simp [Zc5]) (by unfold NN; omega)]
 ·cases l.any fun y=>decide (y=x) <;> rfl
 ·have hw:=Zt hi (by omega)
  have hg:getI l (i:Int)=some l[i]:=by rw [Zd]; exact List.getElem?_eq_getElem hi
  simp only [Zc5,decide_eq_true (show (i:Int)<l.length by omega),cond_true,hg,Option.bind_some,hw]
  cases decide (l[i]=x) <;> rfl
theorem Zd0:@Zar=@ZaC:=rfl
theorem Zmj {n:YNetwork} (h:n.off.length≤1048576) (x:Int):(iterF (Zdl n x) NN 0).bind (selim (fun _=>some true) (fun r=>some r))=some (!(n.off.any fun y=>decide (y=x))):=by
 rw [Zf7 (xs:=n.off) (p:=fun y=>decide (y=x)) (r:=.inr false) (e:=.inl ()) (fun i hi=>?_) (by simp [Zdl]) (by unfold NN; omega)]
 ·cases n.off.any fun y=>decide (y=x) <;> rfl
 ·have hw:=Zt hi (by omega)
  have hg:getI n.off (i:Int)=some n.off[i]:=by rw [Zd]; exact List.getElem?_eq_getElem hi
  simp only [Zdl,decide_eq_true (show (i:Int)<n.off.length by omega),cond_true,hg,Option.bind_some,hw]
  cases decide (n.off[i]=x) <;> rfl
def ZlF (x:Int):Int:=IntKind.i64.wrap (BitVec.ofInt IntKind.i64.bits x &&& BitVec.ofInt IntKind.i64.bits 1).toNat
theorem ZnE (x:Int):ZlF x=0∨ZlF x=1:=by
 unfold ZlF
 have h:(BitVec.ofInt IntKind.i64.bits x &&& BitVec.ofInt IntKind.i64.bits 1).toNat≤1:=by
  rw [BitVec.toNat_and]
  refine Nat.le_trans Nat.and_le_right ?_
  decide
 rw [show IntKind.i64.wrap ((BitVec.ofInt IntKind.i64.bits x &&& BitVec.ofInt IntKind.i64.bits 1).toNat:Int)=((BitVec.ofInt IntKind.i64.bits x &&& BitVec.ofInt IntKind.i64.bits 1).toNat:Int) from Zc (by omega)]
 omega
theorem ZeJ {n:YNetwork} (h:ZZ n) (leg day:Int):Zdy n leg day=Zw n leg day∧∃ b,Zw n leg day=some b:=by
 have hl:=h.legs
 have hw:w64 ((n.legs.length:Int)-1)=n.legs.length-1:=Zc (by omega)
 unfold Zdy Zw
 rw [ZdU,hw,ZcU,ZcU]
 simp only [Option.bind_some]
 by_cases h1:leg<0
 ·simp only [decide_eq_true h1,decide_eq_false (show ¬ 0≤leg by omega),cond_true,Bool.false_and,cond_false]
  exact ⟨trivial,_,rfl⟩
 by_cases h2:(n.legs.length:Int)≤leg
 ·simp only [decide_eq_false h1,decide_eq_true h2,decide_eq_false (show ¬ leg≤(n.legs.length:Int)-1 by omega),cond_true,Bool.and_false,cond_false]
  exact ⟨trivial,_,rfl⟩
 simp only [decide_eq_false h1,decide_eq_false h2,decide_eq_true (show 0≤leg by omega),decide_eq_true (show leg≤(n.legs.length:Int)-1 by omega),cond_true,Bool.and_true,cond_false]
 by_cases h3:0≤day∧day≤60
 ·simp only [decide_eq_true h3.1,decide_eq_true h3.2,Bool.and_true,Bool.not_true,cond_false,cond_true]
  have hg:getI n.legs leg=some (n.legs[leg.toNat]'(by omega)):=by
   unfold getI; rw [if_pos (by omega)]; exact List.getElem?_eq_getElem _
  rw [hg]
  simp only [Option.bind_some]
  have hm:0≤Int.tmod day 7:=Int.tmod_nonneg 7 h3.1
  rw [Zfw (decide_eq_true hm)]
  simp only [Option.bind_some]
  rw [Zmj h.off,Zqq h.off]
  generalize Int.fdiv _ _=q
  have hb:=ZnE q
  unfold ZlF at hb
  rcases hb with hb | hb
  ·rw [hb]; exact ⟨rfl,_,rfl⟩
  ·rw [hb]; exact ⟨rfl,_,rfl⟩
 ·have:(decide (0≤day) && decide (day≤60))=false:=by rw [← Bool.decide_and]; exact decide_eq_false h3
  rw [this]
  exact ⟨rfl,_,rfl⟩
theorem Zod {n:YNetwork} (h:ZZ n) (leg day:Int):ZdK n leg day=ZbV n leg day∧∃ b,ZbV n leg day=some b:=by
 obtain ⟨e,b,s⟩:=Zcr h
 obtain ⟨e2,b2,s2⟩:=ZeJ h leg day
 unfold ZdK ZbV
 rw [e,e2,s,s2]
 refine ⟨rfl,?_⟩
 cases b <;> exact ⟨_,rfl⟩
theorem ZeL {n:YNetwork} (h:ZZ n) (t:YTrip):ZW n t=ZM n t∧∃ b,ZM n t=some b:=by
 obtain ⟨e,b,s⟩:=Zod h t.leg t.day
 unfold ZW ZM
 rw [e,s]
 exact ⟨rfl,_,rfl⟩
theorem ZhD:@Zcw=@ZN:=by
 funext l t
 unfold Zcw ZN
 have:Zdu l t=ZI l t:=by
  funext s
  unfold Zdu ZI
  cases hg:getI l s.2 with
  | none=>rfl
  | some y=>simp only [Option.bind_some]
 rw [this]
def ZaH (a:Int) (b:Int):Option Int:=
 cond (decide (a<b))
 (some (-1))
 (cond (decide (b<a))
 (some 1)
 (some 0))
instance (a:Int) (b:Int):CT Tryz.prog (ZaH a b):=⟨244,[vi a,vi b],[],fun r=>vi r,fun r=>[],fun H=>by replace H:=H0 H; unfold ZaH at H; exact callM_of Tryz.func244 rfl Tryz.ntmps244 Tryz.results244 fun Q hQ hQn=>wk3⟩
def Zcb (list:List Int) (s0:Int):Option (Int ⊕ (Unit ⊕ Int)):=
 cond (decide (s0<(list.length:Int)))
 ((getI list s0).bind fun y1=>
 cond (!decide (y1=0))
 (some (.inr (.inr y1)))
 (some (.inl (w64 (s0+1)))))
 (some (.inr (.inl ())))
instance (list:List Int):LoopE (Zcb list):=⟨fun s0=>(U 5 (.sl (list.map cInt)::vi (list.length:Int)::vi s0::(U 7 []))),fun s0=>[]⟩
def Zed (list:List Int):Option Int:=
 (iterF (Zcb list) NN 0).bind (selim (fun o0=>
 some 0) (fun r=>some r))
instance (list:List Int):CT Tryz.prog (Zed list):=⟨243,[.sl (list.map cInt)],[],fun r=>vi r,fun r=>[],fun H=>by replace H:=H0 H; unfold Zed at H; exact callM_of Tryz.func243 rfl Tryz.ntmps243 Tryz.results243 fun Q hQ hQn=>wk3⟩
def Zao (a:YBooking) (b:YBooking):Option Int:=
 (ZaH a.trip.day b.trip.day).bind fun y1=>
 (ZaH a.trip.leg b.trip.leg).bind fun y2=>
 (ZaH a.thing b.thing).bind fun y3=>
 (Zed ([y1,y2,y3])).bind fun y4=>
 some y4
instance (a:YBooking) (b:YBooking):CT Tryz.prog (Zao a b):=⟨202,[.ag (cBooking a),.ag (cBooking b)],[],fun r=>vi r,fun r=>[],fun H=>by replace H:=H0 H; unfold Zao at H; exact callM_of Tryz.func202 rfl Tryz.ntmps202 Tryz.results202 fun Q hQ hQn=>wk3⟩
def Zau (n:YNetwork) (l:List YBooking) (s0:Int):Option (Int ⊕ (Unit ⊕ Bool)):=
 cond (decide (s0<(l.length:Int)))
 ((getI l s0).bind fun y2=>
 cond (decide (0<s0))
 ((getI l (w64 (s0-1))).bind fun y3=>
 (Zao y3 y2).bind fun y4=>
 cond (decide (0≤y4))
 (some (.inr (.inr false)))
 ((ZW n y2.trip).bind fun y5=>
 cond (!y5)
 (some (.inr (.inr false)))
 ((Zj y2.thing 1 9999).bind fun y6=>
 cond (!y6)
 (some (.inr (.inr false)))
 ((Zj y2.weight 1 1000000).bind fun y7=>
 cond (!y7)
 (some (.inr (.inr false)))
 ((Zcw l y2.trip).bind fun y8=>
 (getI n.legs y2.trip.leg).bind fun y9=>
 cond (decide (y9.room<y8))
 (some (.inr (.inr false)))
 (some (.inl (w64 (s0+1)))))))))
 ((ZW n y2.trip).bind fun y10=>
 cond (!y10)
 (some (.inr (.inr false)))
 ((Zj y2.thing 1 9999).bind fun y11=>
 cond (!y11)
 (some (.inr (.inr false)))
 ((Zj y2.weight 1 1000000).bind fun y12=>
 cond (!y12)
 (some (.inr (.inr false)))
 ((Zcw l y2.trip).bind fun y13=>
 (getI n.legs y2.trip.leg).bind fun y14=>
 cond (decide (y14.room<y13))
 (some (.inr (.inr false)))
 (some (.inl (w64 (s0+1)))))))))
 (some (.inr (.inl ())))
instance (n:YNetwork) (l:List YBooking):LoopE (Zau n l):=⟨fun s0=>(.un::.sl (l.map cBooking)::.be 0 0 0::(U 12 (.sl (l.map cBooking)::vi (l.length:Int)::vi s0::(U 51 [])))),fun s0=>[some ⟨.of 35,3,[[.sl (n.legs.map cLeg),.sl (n.off.map cInt),vi n.change]]⟩]⟩
def Za5 (n:YNetwork) (l:List YBooking):Option Bool:=
 (Zas n).bind fun y1=>
 cond (!y1)
 (some false)
 (cond (decide (120<(l.length:Int)))
 (some false)
 ((iterF (Zau n l) NN 0).bind (selim (fun o0=>
 some true) (fun r=>some r))))
instance (n:YNetwork) (l:List YBooking):CT Tryz.prog (Za5 n l):=⟨139,[.ag (cNetwork n),.sl (l.map cBooking)],[],fun r=>vb r,fun r=>[],fun H=>by replace H:=H0 H; unfold Za5 at H; exact callM_of Tryz.func139 rfl Tryz.ntmps139 Tryz.results139 fun Q hQ hQn=>wk3⟩
def Zcq (a:YBooking) (b:YBooking):Option Bool:=
 cond (!decide (a.trip.day=b.trip.day))
 (some (decide (a.trip.day<b.trip.day)))
 (cond (!decide (a.trip.leg=b.trip.leg))
 (some (decide (a.trip.leg<b.trip.leg)))
 (some (decide (a.thing<b.thing))))
instance (a:YBooking) (b:YBooking):CT Tryz.prog (Zcq a b):=⟨182,[.ag (cBooking a),.ag (cBooking b)],[],fun r=>vb r,fun r=>[],fun H=>by replace H:=H0 H; unfold Zcq at H; exact callM_of Tryz.func182 rfl Tryz.ntmps182 Tryz.results182 fun Q hQ hQn=>wk3⟩
def Za3 (n:YNetwork) (l:List YBooking) (s0:Int):Option (Int ⊕ (Unit ⊕ Bool)):=
 cond (decide (s0<(l.length:Int)))
 ((getI l s0).bind fun y2=>
 (Zw n y2.trip.leg y2.trip.day).bind fun y3=>
 cond (!y3)
 (some (.inr (.inr false)))
 ((Zo y2.thing 1 9999).bind fun y4=>
 cond (!y4)
 (some (.inr (.inr false)))
 ((Zo y2.weight 1 1000000).bind fun y5=>
 cond (!y5)
 (some (.inr (.inr false)))
 (cond (decide (0<s0))
 ((getI l (w64 (s0-1))).bind fun y6=>
 (Zcq y6 y2).bind fun y7=>
 cond (!y7)
 (some (.inr (.inr false)))
 (some (.inl (w64 (s0+1)))))
 (some (.inl (w64 (s0+1))))))))
 (some (.inr (.inl ())))
instance (n:YNetwork) (l:List YBooking):LoopE (Za3 n l):=⟨fun s0=>(.un::.sl (l.map cBooking)::.be 0 0 0::.un::.un::vi s0::(U 80 [])),fun s0=>[some ⟨.of 35,3,[[.sl (n.legs.map cLeg),.sl (n.off.map cInt),vi n.change]]⟩]⟩
def Za4 (n:YNetwork) (l:List YBooking) (s1:Int):Option (Int ⊕ (Unit ⊕ Bool)):=
 cond (decide (s1<(l.length:Int)))
 ((getI l s1).bind fun y8=>
 (ZN l y8.trip).bind fun y9=>
 (getI l s1).bind fun y10=>
 (getI n.legs y10.trip.leg).bind fun y11=>
 cond (decide (y11.room<y9))
 (some (.inr (.inr false)))
 (some (.inl (w64 (s1+1)))))
 (some (.inr (.inl ())))
instance (n:YNetwork) (l:List YBooking):LoopE (Za4 n l):=⟨fun s1=>(.un::.sl (l.map cBooking)::.be 0 0 0::(U 4 (vi s1::(U 78 [])))),fun s1=>[some ⟨.of 35,3,[[.sl (n.legs.map cLeg),.sl (n.off.map cInt),vi n.change]]⟩]⟩
def ZX (n:YNetwork) (l:List YBooking):Option Bool:=
 (Zb n).bind fun y1=>
 cond (!y1)
 (some false)
 (cond (decide (120<(l.length:Int)))
 (some false)
 ((iterF (Za3 n l) NN 0).bind (selim (fun o0=>
 (iterF (Za4 n l) NN 0).bind (selim (fun o1=>
 some true) (fun r=>some r))) (fun r=>some r))))
instance (n:YNetwork) (l:List YBooking):CT Tryz.prog (ZX n l):=⟨107,[.ag (cNetwork n),.sl (l.map cBooking)],[],fun r=>vb r,fun r=>[],fun H=>by replace H:=H0 H; unfold ZX at H; exact callM_of Tryz.func107 rfl Tryz.ntmps107 Tryz.results107 fun Q hQ hQn=>wk3⟩
def cmpI (a b:Int):Int:=if a<b then -1 else if b<a then 1 else 0
theorem Zre (a b:Int):ZaH a b=some (cmpI a b):=by
 unfold ZaH cmpI
 by_cases h:a<b
 ·simp [h]
 ·by_cases h2:b<a <;> simp [h,h2]
theorem Zrh (x y z:Int):Zed [x,y,z]=some (if x≠0 then x else if y≠0 then y else z):=by
 obtain ⟨k,hk⟩:∃ k,NN=k+1+1+1+1:=⟨1152921504606846972,by unfold NN; omega⟩
 unfold Zed
 rw [hk]
 have w0:w64 1=1:=Zc (by omega)
 have w1:w64 2=2:=Zc (by omega)
 have w2:w64 3=3:=Zc (by omega)
 by_cases hx:x=0
 ·by_cases hy:y=0
  ·by_cases hz:z=0
   ·simp [iterF,selim,Zcb,getI,hx,hy,hz,w0,w1,w2]
   ·simp [iterF,selim,Zcb,getI,hx,hy,hz,w0,w1,w2]
  ·simp [iterF,selim,Zcb,getI,hx,hy,w0]
 ·simp [iterF,selim,Zcb,getI,hx]
def befB (a b:YBooking):Bool:=if a.trip.day≠b.trip.day then decide (a.trip.day<b.trip.day) else if a.trip.leg≠b.trip.leg then decide (a.trip.leg<b.trip.leg) else decide (a.thing<b.thing)
theorem Zld (a b:YBooking):Zcq a b=some (befB a b):=by
 unfold Zcq befB
 by_cases h1:a.trip.day=b.trip.day
 ·by_cases h2:a.trip.leg=b.trip.leg <;> simp [h1,h2]
 ·simp [h1]
theorem Zjh (a b:YBooking):∃ v,Zao a b=some v∧decide (0≤v)=!befB a b:=by
 unfold Zao
 simp only [Zre,Option.bind_some,Zrh]
 refine ⟨_,rfl,?_⟩
 unfold befB cmpI
 rcases Int.lt_trichotomy a.trip.day b.trip.day with h1 | h1 | h1
 ·simp [h1,show a.trip.day≠b.trip.day by omega]
 ·rcases Int.lt_trichotomy a.trip.leg b.trip.leg with h2 | h2 | h2
  ·simp [h1,h2,show a.trip.leg≠b.trip.leg by omega]
  ·rcases Int.lt_trichotomy a.thing b.thing with h3 | h3 | h3
   ·simp [h1,h2,h3]
   ·simp [h1,h2,h3]
   ·simp [h1,h2,h3,show ¬ a.thing<b.thing by omega]
  ·simp [h1,h2,show a.trip.leg≠b.trip.leg by omega,show ¬ a.trip.leg<b.trip.leg by omega]
 ·simp [h1,show a.trip.day≠b.trip.day by omega,show ¬ a.trip.day<b.trip.day by omega]
theorem ZeW {l:List YBooking} (h:l.length≤1048576) (t:YTrip):∃ v,ZN l t=some v:=by
 have hh:∃ o,iterF (ZI l t) NN (0,0)=some o:=by
  refine Zg9 (fun k s=>∃ i:Nat,i+k=l.length∧s.2=(i:Int)) ?_ NN l.length (0,0) ⟨0,by omega,rfl⟩ (by unfold NN; omega)
  rintro k ⟨a,s⟩ ⟨i,hi,hs⟩
  simp only at hs
  subst hs
  rcases Nat.lt_or_ge i l.length with hlt | hge
  ·have hw:=Zt hlt (by omega)
   have hg:getI l (i:Int)=some l[i]:=by rw [Zd]; exact List.getElem?_eq_getElem hlt
   cases hc:decide (l[i].trip=t) with
   | true=>
    refine ⟨_,by simp only [ZI,decide_eq_true (show (i:Int)<l.length by omega),cond_true,hg,Option.bind_some,hc,hw]; rfl,?_⟩
    rintro s' e; cases e; exact ⟨k-1,by omega,i+1,by omega,rfl⟩
   | false=>
    refine ⟨_,by simp only [ZI,decide_eq_true (show (i:Int)<l.length by omega),cond_true,cond_false,hg,Option.bind_some,hc,hw]; rfl,?_⟩
    rintro s' e; cases e; exact ⟨k-1,by omega,i+1,by omega,rfl⟩
  ·have:i=l.length:=by omega
   subst this
   refine ⟨_,by simp only [ZI,decide_eq_false (show ¬ ((l.length:Int)<l.length) by omega),cond_false]; rfl,?_⟩
   rintro s' e; cases e
 obtain ⟨o,ho⟩:=hh
 exact ⟨o,by unfold ZN; rw [ho]; rfl⟩
theorem Zhc {n:YNetwork} (h:ZZ n) {leg day:Int} (hr:Zw n leg day=some true):∃ y,getI n.legs leg=some y:=by
 have hl:=h.legs
 have hw:w64 ((n.legs.length:Int)-1)=n.legs.length-1:=Zc (by omega)
 unfold Zw at hr
 rw [hw,ZcU] at hr
 simp only [Option.bind_some] at hr
 by_cases h1:0≤leg∧leg≤(n.legs.length:Int)-1
 ·exact ⟨n.legs[leg.toNat]'(by omega),by unfold getI; rw [if_pos h1.1]; exact List.getElem?_eq_getElem _⟩
 ·rw [← Bool.decide_and,decide_eq_false h1] at hr
  cases hr
def bk1 (n:YNetwork) (l:List YBooking) (i:Nat):Bool:=match l[i]? with
 | none=>true
 | some y=>(Zw n y.trip.leg y.trip.day).getD false && (decide (1≤y.thing) && decide (y.thing≤9999)) && (decide (1≤y.weight) && decide (y.weight≤1000000)) && (decide (i=0) || match l[i-1]? with
  | none=>true
  | some x=>befB x y)
def bk2 (n:YNetwork) (l:List YBooking) (i:Nat):Bool:=match l[i]? with
 | none=>true
 | some y=>match getI n.legs y.trip.leg,ZN l y.trip with
  | some g,some v=>!decide (g.room<v)
  | _,_=>false
def Zr (n:YNetwork) (l:List YBooking):Bool:=(Zb n).getD false && decide ((l.length:Int)≤120) && (List.range l.length).all fun i=>bk1 n l i && bk2 n l i
theorem Zb2 {n:YNetwork} (h:ZZ n) {l:List YBooking} (hl:l.length≤1048576):ZX n l=some (Zr n l):=by
 obtain ⟨_,b,hb⟩:=Zcr h
 unfold ZX Zr
 rw [hb]
 simp only [Option.bind_some,Option.getD_some]
 cases b with
 | false=>rfl
 | true=>
  by_cases h120:120<(l.length:Int)
  ·simp [h120,show ¬ ((l.length:Int)≤120) by omega]
  simp only [Bool.not_true,cond_false,decide_eq_false h120,decide_eq_true (show (l.length:Int)≤120 by omega),Bool.true_and]
  have e0:iterF (Za3 n l) NN 0=some (if (List.range l.length).all (bk1 n l)=true then .inl () else .inr false):=by
   refine Zfr (fun i hi _=>?_) (fun _=>by simp [Za3]) (by unfold NN; omega)
   have hw:=Zt hi (by omega)
   have hg:getI l (i:Int)=some l[i]:=by rw [Zd]; exact List.getElem?_eq_getElem hi
   obtain ⟨_,rb,hrb⟩:=ZeJ h l[i].trip.leg l[i].trip.day
   simp only [Za3,decide_eq_true (show (i:Int)<l.length by omega),cond_true,hg,Option.bind_some,hrb,ZcU,bk1,List.getElem?_eq_getElem hi,Option.getD_some]
   cases rb with
   | false=>simp
   | true=>
    cases decide (1≤l[i].thing) && decide (l[i].thing≤9999) with
    | false=>simp
    | true=>
     cases decide (1≤l[i].weight) && decide (l[i].weight≤1000000) with
     | false=>simp
     | true=>
      by_cases hi0:i=0
      ·subst hi0
       have hw':w64 1=1:=Zc (by omega)
       simp [hw']
      ·have hw2:w64 ((i:Int)-1)=((i-1:Nat):Int):=by rw [Zc (by omega)]; omega
       have hg2:getI l ((i-1:Nat):Int)=some l[i-1]:=by rw [Zd]; exact List.getElem?_eq_getElem (by omega)
       simp only [decide_eq_true (show 0<(i:Int) by omega),hw2,hg2,Option.bind_some,Zld,hw,List.getElem?_eq_getElem (show i-1<l.length by omega),decide_eq_false hi0,Bool.not_true,cond_false,cond_true,Bool.true_and,Bool.false_or]
       cases befB l[i-1] l[i] <;> rfl
  rw [e0]
  by_cases hall:(List.range l.length).all (bk1 n l)=true
  ·rw [if_pos hall]
   have e1:iterF (Za4 n l) NN 0=some (if (List.range l.length).all (bk2 n l)=true then .inl () else .inr false):=by
    refine Zfr (fun i hi _=>?_) (fun _=>by simp [Za4]) (by unfold NN; omega)
    have hw:=Zt hi (by omega)
    have hg:getI l (i:Int)=some l[i]:=by rw [Zd]; exact List.getElem?_eq_getElem hi
    obtain ⟨v,hv⟩:=ZeW hl l[i].trip
    have hb1:=List.all_eq_true.1 hall i (List.mem_range.2 hi)
    obtain ⟨_,rb,hrb⟩:=ZeJ h l[i].trip.leg l[i].trip.day
    have hrt:rb=true:=by
     simp only [bk1,List.getElem?_eq_getElem hi,hrb,Option.getD_some,Bool.and_eq_true] at hb1
     exact hb1.1.1.1
    subst hrt
    obtain ⟨g,hgl⟩:=Zhc h hrb
    simp only [Za4,decide_eq_true (show (i:Int)<l.length by omega),cond_true,hg,Option.bind_some,hv,hgl,bk2,List.getElem?_eq_getElem hi,hw]
    cases decide (g.room<v) <;> rfl
   simp only [Option.bind_some]
   rw [e1]
   have:(List.range l.length).all (fun i=>bk1 n l i && bk2 n l i)=(List.range l.length).all (bk2 n l):=by
    rw [Bool.eq_iff_iff,List.all_eq_true,List.all_eq_true]
    exact ⟨fun H i hi=>by have:=H i hi; simp only [Bool.and_eq_true] at this; exact this.2,fun H i hi=>by rw [List.all_eq_true.1 hall i hi,H i hi]; rfl⟩
   rw [this]
   cases (List.range l.length).all (bk2 n l) <;> rfl
  ·rw [if_neg hall]
   have:(List.range l.length).all (fun i=>bk1 n l i && bk2 n l i)=false:=by
    rw [Bool.eq_false_iff]
    intro H
    exact hall (List.all_eq_true.2 fun i hi=>by have:=List.all_eq_true.1 H i hi; simp only [Bool.and_eq_true] at this; exact this.1)
   rw [this]; rfl
theorem Zg8 {n:YNetwork} (h:ZZ n) (hn:Zb n=some true) (t:YTrip):ZW n t=Zw n t.leg t.day:=by
 rw [(ZeL h t).1]
 unfold ZM ZbV
 rw [hn]
 obtain ⟨_,b,hb⟩:=ZeJ h t.leg t.day
 simp only [Option.bind_some,cond_true,hb]
theorem ZfM {n:YNetwork} (h:ZZ n) {l:List YBooking} (hl:l.length≤1048576):Za5 n l=some (Zr n l):=by
 obtain ⟨en,b,hb⟩:=Zcr h
 unfold Za5 Zr
 rw [en,hb]
 simp only [Option.bind_some,Option.getD_some]
 cases b with
 | false=>rfl
 | true=>
  by_cases h120:120<(l.length:Int)
  ·simp [h120,show ¬ ((l.length:Int)≤120) by omega]
  simp only [Bool.not_true,cond_false,decide_eq_false h120,decide_eq_true (show (l.length:Int)≤120 by omega),Bool.true_and]
  have e0:iterF (Zau n l) NN 0=some (if (List.range l.length).all (fun i=>bk1 n l i && bk2 n l i)=true then .inl () else .inr false):=by
   refine Zfr (fun i hi _=>?_) (fun _=>by simp [Zau]) (by unfold NN; omega)
   have hw:=Zt hi (by omega)
   have hg:getI l (i:Int)=some l[i]:=by rw [Zd]; exact List.getElem?_eq_getElem hi
   obtain ⟨_,rb,hrb⟩:=ZeJ h l[i].trip.leg l[i].trip.day
   have ht:=Zg8 h hb l[i].trip
   rw [hrb] at ht
   obtain ⟨v,hv⟩:=ZeW hl l[i].trip
   have hrest:∀ {X:Option (Int ⊕ (Unit ⊕ Bool))} {pre:Bool},pre=(decide (i=0) || match l[i-1]? with
    | none=>true
    | some x=>befB x l[i])→
    X=(cond (!pre) (some (.inr (.inr false))) ((some rb).bind fun y10=>cond (!y10) (some (.inr (.inr false))) ((Zo l[i].thing 1 9999).bind fun y11=>cond (!y11) (some (.inr (.inr false))) ((Zo l[i].weight 1 1000000).bind fun y12=>cond (!y12) (some (.inr (.inr false))) ((some v).bind fun y13=>(getI n.legs l[i].trip.leg).bind fun y14=>cond (decide (y14.room<y13)) (some (.inr (.inr false))) (some (.inl ((i+1:Nat):Int))))))))→
    X=some (if (bk1 n l i && bk2 n l i)=true then .inl ((i+1:Nat):Int) else .inr (.inr false)):=by
    rintro X pre hpre rfl
    simp only [bk1,bk2,List.getElem?_eq_getElem hi,hrb,hv,Option.getD_some,ZcU,Option.bind_some,← hpre]
    cases pre with
    | false=>simp
    | true=>
     cases rb with
     | false=>simp
     | true=>
      obtain ⟨g,hgl⟩:=Zhc h hrb
      simp only [hgl,Option.bind_some]
      cases decide (1≤l[i].thing) && decide (l[i].thing≤9999) with
      | false=>simp
      | true=>
       cases decide (1≤l[i].weight) && decide (l[i].weight≤1000000) with
       | false=>simp
       | true=>cases decide (g.room<v) <;> simp
   by_cases hi0:i=0
   ·refine hrest (pre:=true) (by simp [hi0]) ?_
    simp only [Zau,decide_eq_true (show (i:Int)<l.length by omega),decide_eq_false (show ¬ 0<(i:Int) by omega),cond_true,cond_false,hg,Option.bind_some,ht,ZdU,ZhD,hv,hw,Bool.not_true]
   ·have hw2:w64 ((i:Int)-1)=((i-1:Nat):Int):=by rw [Zc (by omega)]; omega
    have hg2:getI l ((i-1:Nat):Int)=some l[i-1]:=by rw [Zd]; exact List.getElem?_eq_getElem (by omega)
    obtain ⟨cv,hcv,hc0⟩:=Zjh l[i-1] l[i]
    refine hrest (pre:=befB l[i-1] l[i]) (by simp [hi0,List.getElem?_eq_getElem (show i-1<l.length by omega)]) ?_
    simp only [Zau,decide_eq_true (show (i:Int)<l.length by omega),decide_eq_true (show 0<(i:Int) by omega),cond_true,cond_false,hg,hw2,hg2,hcv,hc0,Option.bind_some,ht,ZdU,ZhD,hv,hw]
  rw [e0]
  cases (List.range l.length).all (fun i=>bk1 n l i && bk2 n l i) <;> rfl
def Zdk (w:YWorld) (o:YOrder):Option Bool:=
 cond (decide (0<o.gone))
 ((getI o.way (w64 (o.gone-1))).bind fun y1=>
 (ZF w.network y1).bind fun y2=>
 cond (decide (w.now<y2))
 (some false)
 ((getI w.network.legs y1.leg).bind fun y3=>
 cond (decide (o.state=1))
 (cond (decide (o.place=y3.to_))
 (cond (!decide (y3.to_=o.to_))
 (cond (decide (o.ended=0))
 (cond (decide (o.gone=(o.way.length:Int)))
 (some true)
 ((getI o.way o.gone).bind fun y4=>
 (Zah w.network y4).bind fun y5=>
 some (decide (w.now<y5))))
 (some false))
 (some false))
 (some false))
 (cond (decide (o.state=2))
 (cond (decide (o.place=⟨#[]⟩))
 (cond (decide (o.ended=0))
 (cond (decide (o.gone<(o.way.length:Int)))
 ((getI o.way o.gone).bind fun y6=>
 (Zah w.network y6).bind fun y7=>
 cond (decide (y7≤w.now))
 ((getI o.way o.gone).bind fun y8=>
 (ZF w.network y8).bind fun y9=>
 some (decide (w.now<y9)))
 (some false))
 (some false))
 (some false))
 (some false))
 (cond (decide (o.state=3))
 (cond (decide (o.gone=(o.way.length:Int)))
 (cond (decide (0<o.gone))
 (cond (decide (o.place=o.to_))
 (cond (decide (y3.to_=o.to_))
 ((getI o.way (w64 (o.gone-1))).bind fun y10=>
 (ZF w.network y10).bind fun y11=>
 some (decide (o.ended=y11)))
 (some false))
 (some false))
 (some false))
 (some false))
 (some false)))))
 (cond (decide (o.state=1))
 (cond (decide (o.place=o.from_))
 (cond (!decide (o.from_=o.to_))
 (cond (decide (o.ended=0))
 (cond (decide (o.gone=(o.way.length:Int)))
 (some true)
 ((getI o.way o.gone).bind fun y12=>
 (Zah w.network y12).bind fun y13=>
 some (decide (w.now<y13))))
 (some false))
 (some false))
 (some false))
 (cond (decide (o.state=2))
 (cond (decide (o.place=⟨#[]⟩))
 (cond (decide (o.ended=0))
 (cond (decide (o.gone<(o.way.length:Int)))
 ((getI o.way o.gone).bind fun y14=>
 (Zah w.network y14).bind fun y15=>
 cond (decide (y15≤w.now))
 ((getI o.way o.gone).bind fun y16=>
 (ZF w.network y16).bind fun y17=>
 some (decide (w.now<y17)))
 (some false))
 (some false))
 (some false))
 (some false))
 (cond (decide (o.state=3))
 (cond (decide (o.gone=(o.way.length:Int)))
 (cond (decide (0<o.gone))
 (cond (decide (o.place=o.to_))
 (cond (decide (o.from_=o.to_))
 ((getI o.way (w64 (o.gone-1))).bind fun y18=>
 (ZF w.network y18).bind fun y19=>
 some (decide (o.ended=y19)))
 (some false))
 (some false))
 (some false))
 (some false))
 (some false))))
instance (w:YWorld) (o:YOrder):CT Tryz.prog (Zdk w o):=⟨209,[.ag (cWorld w),.ag (cOrder o)],[],fun r=>vb r,fun r=>[],fun H=>by replace H:=H0 H; unfold Zdk at H; exact callM_of Tryz.func209 rfl Tryz.ntmps209 Tryz.results209 fun Q hQ hQn=>wk3⟩
def Zl (n:YNetwork) (x:YOrder) (now:Int):Option Bool:=
 cond (decide (0<x.gone))
 ((getI x.way (w64 (x.gone-1))).bind fun y1=>
 (getI n.legs y1.leg).bind fun y2=>
 (getI x.way (w64 (x.gone-1))).bind fun y3=>
 (Ze n y3).bind fun y4=>
 cond (decide (now<y4))
 (some false)
 (cond (decide (x.state=1))
 (cond (decide (x.place=y2.to_))
 (cond (!decide (y2.to_=x.to_))
 (cond (decide (x.ended=0))
 (cond (decide (x.gone=(x.way.length:Int)))
 (some true)
 ((getI x.way x.gone).bind fun y5=>
 (Zg n y5).bind fun y6=>
 some (decide (now<y6))))
 (some false))
 (some false))
 (some false))
 (cond (decide (x.state=2))
 (cond (decide (x.place=⟨#[]⟩))
 (cond (decide (x.ended=0))
 (cond (decide (x.gone<(x.way.length:Int)))
 ((getI x.way x.gone).bind fun y7=>
 (Zg n y7).bind fun y8=>
 cond (decide (y8≤now))
 ((getI x.way x.gone).bind fun y9=>
 (Ze n y9).bind fun y10=>
 some (decide (now<y10)))
 (some false))
 (some false))
 (some false))
 (some false))
 (cond (decide (x.state=3))
 (cond (decide (x.place=x.to_))
 (cond (decide (y2.to_=x.to_))
 (cond (decide (x.gone=(x.way.length:Int)))
 (cond (decide (0<x.gone))
 ((getI x.way (w64 (x.gone-1))).bind fun y11=>
 (Ze n y11).bind fun y12=>
 some (decide (x.ended=y12)))
 (some false))
 (some false))
 (some false))
 (some false))
 (some false)))))
 (cond (decide (x.state=1))
 (cond (decide (x.place=x.from_))
 (cond (!decide (x.from_=x.to_))
 (cond (decide (x.ended=0))
 (cond (decide (x.gone=(x.way.length:Int)))
 (some true)
 ((getI x.way x.gone).bind fun y13=>
 (Zg n y13).bind fun y14=>
 some (decide (now<y14))))
 (some false))
 (some false))
 (some false))
 (cond (decide (x.state=2))
 (cond (decide (x.place=⟨#[]⟩))
 (cond (decide (x.ended=0))
 (cond (decide (x.gone<(x.way.length:Int)))
 ((getI x.way x.gone).bind fun y15=>
 (Zg n y15).bind fun y16=>
 cond (decide (y16≤now))
 ((getI x.way x.gone).bind fun y17=>
 (Ze n y17).bind fun y18=>
 some (decide (now<y18)))
 (some false))
 (some false))
 (some false))
 (some false))
 (cond (decide (x.state=3))
 (cond (decide (x.place=x.to_))
 (cond (decide (x.from_=x.to_))
 (cond (decide (x.gone=(x.way.length:Int)))
 (cond (decide (0<x.gone))
 ((getI x.way (w64 (x.gone-1))).bind fun y19=>
 (Ze n y19).bind fun y20=>
 some (decide (x.ended=y20)))
 (some false))
 (some false))
 (some false))
 (some false))
 (some false))))
instance (n:YNetwork) (x:YOrder) (now:Int):CT Tryz.prog (Zl n x now):=⟨188,[.ag (cNetwork n),.ag (cOrder x),vi now],[],fun r=>vb r,fun r=>[],fun H=>by replace H:=H0 H; unfold Zl at H; exact callM_of Tryz.func188 rfl Tryz.ntmps188 Tryz.results188 fun Q hQ hQn=>wk3⟩
def Zbq (o:YOrder):Option Int:=
 cond (decide (o.state=2))
 (some (if (o.way.length:Int)<(w64 (o.gone+1)) then (o.way.length:Int) else (w64 (o.gone+1))))
 (some o.gone)
instance (o:YOrder):CT Tryz.prog (Zbq o):=⟨127,[.ag (cOrder o)],[],fun r=>vi r,fun r=>[],fun H=>by replace H:=H0 H; unfold Zbq at H; exact callM_of Tryz.func127 rfl Tryz.ntmps127 Tryz.results127 fun Q hQ hQn=>wk3⟩
def ZcV (w:YWorld) (o:YOrder):Option ByteArray:=
 cond (decide (o.state=2))
 ((getI o.way o.gone).bind fun y1=>
 (getI w.network.legs y1.leg).bind fun y2=>
 some y2.to_)
 (some o.place)
instance (w:YWorld) (o:YOrder):CT Tryz.prog (ZcV w o):=⟨189,[.ag (cWorld w),.ag (cOrder o)],[],fun r=>vs r,fun r=>[],fun H=>by replace H:=H0 H; unfold ZcV at H; exact callM_of Tryz.func189 rfl Tryz.ntmps189 Tryz.results189 fun Q hQ hQn=>wk3⟩
def Zag (w:YWorld) (o:YOrder):Option Bool:=
 cond (!decide (o.state=3))
 ((Zbq o).bind fun y1=>
 cond (decide (y1=(o.way.length:Int)))
 ((ZcV w o).bind fun y2=>
 some (!decide (y2=o.to_)))
 (some false))
 (some false)
instance (w:YWorld) (o:YOrder):CT Tryz.prog (Zag w o):=⟨120,[.ag (cWorld w),.ag (cOrder o)],[],fun r=>vb r,fun r=>[],fun H=>by replace H:=H0 H; unfold Zag at H; exact callM_of Tryz.func120 rfl Tryz.ntmps120 Tryz.results120 fun Q hQ hQn=>wk3⟩
def ZaO (x:YOrder):Option Int:=
 cond (decide (x.state=2))
 (some (w64 (x.gone+1)))
 (some x.gone)
instance (x:YOrder):CT Tryz.prog (ZaO x):=⟨122,[.ag (cOrder x)],[],fun r=>vi r,fun r=>[],fun H=>by replace H:=H0 H; unfold ZaO at H; exact callM_of Tryz.func122 rfl Tryz.ntmps122 Tryz.results122 fun Q hQ hQn=>wk3⟩
def Zae (n:YNetwork) (x:YOrder):Option ByteArray:=
 cond (decide (x.state=2))
 ((getI x.way x.gone).bind fun y1=>
 (getI n.legs y1.leg).bind fun y2=>
 some y2.to_)
 (some x.place)
instance (n:YNetwork) (x:YOrder):CT Tryz.prog (Zae n x):=⟨192,[.ag (cNetwork n),.ag (cOrder x)],[],fun r=>vs r,fun r=>[],fun H=>by replace H:=H0 H; unfold Zae at H; exact callM_of Tryz.func192 rfl Tryz.ntmps192 Tryz.results192 fun Q hQ hQn=>wk3⟩
def Zbb (w:YWorld) (i:Int):Option Bool:=
 (getI w.orders i).bind fun y1=>
 cond (!decide (y1.state=3))
 ((ZaO y1).bind fun y2=>
 cond (decide (y2=(y1.way.length:Int)))
 ((Zae w.network y1).bind fun y3=>
 some (!decide (y3=y1.to_)))
 (some false))
 (some false)
instance (w:YWorld) (i:Int):CT Tryz.prog (Zbb w i):=⟨194,[.ag (cWorld w),vi i],[],fun r=>vb r,fun r=>[],fun H=>by replace H:=H0 H; unfold Zbb at H; exact callM_of Tryz.func194 rfl Tryz.ntmps194 Tryz.results194 fun Q hQ hQn=>wk3⟩
def ZeO (places:List ByteArray) (s:ByteArray) (s0:Int):Option (Int ⊕ (Unit ⊕ Int)):=
 cond (decide (s0<(places.length:Int)))
 ((getI places s0).bind fun y1=>
 cond (decide (y1=s))
 (some (.inr (.inr s0)))
 (some (.inl (w64 (s0+1)))))
 (some (.inr (.inl ())))
instance (places:List ByteArray) (s:ByteArray):LoopE (ZeO places s):=⟨fun s0=>(.un::vs s::(U 5 (.sl (places.map cStr)::vi (places.length:Int)::vi s0::(U 9 [])))),fun s0=>[]⟩
def Zk (places:List ByteArray) (s:ByteArray):Option Int:=
 (iterF (ZeO places s) NN 0).bind (selim (fun o0=>
 some (-1)) (fun r=>some r))
instance (places:List ByteArray) (s:ByteArray):CT Tryz.prog (Zk places s):=⟨205,[.sl (places.map cStr),vs s],[],fun r=>vi r,fun r=>[],fun H=>by replace H:=H0 H; unfold Zk at H; exact callM_of Tryz.func205 rfl Tryz.ntmps205 Tryz.results205 fun Q hQ hQn=>wk3⟩
def Zda (l:List ByteArray) (p:ByteArray) (s0:Int):Option (Int ⊕ (Unit ⊕ Int)):=
 cond (decide (s0<(l.length:Int)))
 ((getI l s0).bind fun y1=>
 cond (decide (y1=p))
 (some (.inr (.inr s0)))
 (some (.inl (w64 (s0+1)))))
 (some (.inr (.inl ())))
instance (l:List ByteArray) (p:ByteArray):LoopE (Zda l p):=⟨fun s0=>(.sl (l.map cStr)::vs p::(U 3 (vi s0::(U 13 [])))),fun s0=>[]⟩
def Zp (l:List ByteArray) (p:ByteArray):Option Int:=
 (iterF (Zda l p) NN 0).bind (selim (fun o0=>
 some (-1)) (fun r=>some r))
instance (l:List ByteArray) (p:ByteArray):CT Tryz.prog (Zp l p):=⟨185,[.sl (l.map cStr),vs p],[],fun r=>vi r,fun r=>[],fun H=>by replace H:=H0 H; unfold Zp at H; exact callM_of Tryz.func185 rfl Tryz.ntmps185 Tryz.results185 fun Q hQ hQn=>wk3⟩
theorem Zdd:@Zk=@Zp:=rfl
theorem Znr (w:YWorld) (o:YOrder):ZcV w o=Zae w.network o:=rfl
theorem Zng {n:YNetwork} {t:YTrip} (h:getI n.legs t.leg=none):Ze n t=none:=by
 unfold Ze Zg; rw [h]; rfl
theorem ZdF {n:YNetwork} {t:YTrip} {y:YLeg} (h:getI n.legs t.leg=some y):∃ v,Ze n t=some v:=by
 unfold Ze Zg; rw [h]; exact ⟨_,rfl⟩
theorem Zpl (w:YWorld) (o:YOrder):Zdk w o=Zl w.network o w.now:=by
 unfold Zdk Zl
 rw [Zgx,Zgm]
 cases decide (0<o.gone) with
 | false=>
  simp only [cond_false]
  cases decide (o.state=1) <;> cases decide (o.state=2) <;> cases decide (o.state=3) <;> try rfl
  all_goals cases decide (o.gone=(o.way.length:Int)) <;> cases decide (o.place=o.to_) <;> cases decide (o.from_=o.to_) <;> rfl
 | true=>
  simp only [cond_true]
  cases hg:getI o.way (w64 (o.gone-1)) with
  | none=>rfl
  | some y1=>
   simp only [Option.bind_some,hg]
   cases hl:getI w.network.legs y1.leg with
   | none=>rw [Zng hl]; rfl
   | some y2=>
    obtain ⟨v,hv⟩:=ZdF hl
    simp only [hv,Option.bind_some]
    cases decide (w.now<v) <;> try rfl
    simp only [cond_false]
    cases decide (o.state=1) <;> cases decide (o.state=2) <;> cases decide (o.state=3) <;> try rfl
    all_goals cases decide (o.gone=(o.way.length:Int)) <;> cases decide (o.place=o.to_) <;> cases decide (y2.to_=o.to_) <;> rfl
end Go.Proofs.YtmcdjilbkmhfoaaGreat
namespace Go.Proofs.YtmcdjilbkmhfoaaGreat
set_option maxRecDepth 10000
open Go.RowKit Go.Maps Go.WideMaps
set_option linter.unusedVariables false
set_option linter.unusedSimpArgs false
instance:Enc ByteArray where
 cells x:=[.string x]
 k:=1
 len _:=rfl
 pos:=by decide
 one:=by simp [Value.oneCell']
theorem Zjr (ls:List ByteArray):flat ls=ls.map Value.string:=by
 induction ls with
 | nil=>rfl
 | cons x xs ih=>rw [Zf3,ih]; rfl
def inL (S:List ByteArray) (s:ByteArray):Bool:=S.any fun y=>decide (y=s)
theorem Znt {S:List ByteArray} {s:ByteArray}:inL S s=true↔s∈S:=by simp [inL]
theorem ZlA (S:List ByteArray) (s s':ByteArray):inL (S++[s]) s'=(inL S s' || decide (s=s')):=by simp [inL]
def dd (out:List ByteArray) (s:ByteArray):List ByteArray:=if inL out s=true then out else out++[s]
def Zc2 (n:YNetwork):List ByteArray:=n.legs.flatMap fun l=>[l.from_,l.to_]
theorem ZbI {w w':World} {row:Option Nat} (h:w.grownBy w' row) {b o:Nat} (hb:b<w.heap.size) (hne:some b≠row):w'.cell? ⟨b,o,none⟩=w.cell? ⟨b,o,none⟩:=by simp [World.cell?,h.block b hb hne]
theorem Rd.oneAt {α:Type} [Enc α] (w:World) (T:TypeId) (x:α) (H:Nat) (hH:w.heap.size=H):Rd (w.alloc (.cells (Enc.cells x).toArray T)) (H+1) (some ⟨H,0,none⟩) [x]:=by
 subst hH
 exact Rd.one w T x _ (Nat.lt_succ_self _)
theorem Zgt {w:World} {b o:Nat} {u:Value} {ob:Obj} (h:w.cell? ⟨b,o,none⟩=some u):(w.alloc ob).cell? ⟨b,o,none⟩=some u:=
 ((Up.al ob (Up.rfl' w)).cell (p:=⟨b,o,none⟩) (World.block_lt_of_cell? _ _ h)).trans h
def SetM (P:Program) (k e:TypeId) (w:World) (b n:Nat) (S:List ByteArray):Prop:=
 ∃ D:DataW Unit,w.ownsMap P k (plainElem P e) b n D∧IsMap D∧∀ s:ByteArray,D.atKey (.string s.data.toList) (.lit (.bool false))=.lit (.bool (inL S s))
section
variable {P:Program} {k e:TypeId} {w:World} {b n:Nat} {S:List ByteArray}
theorem SetM.made (w:World):SetM P k e (w.alloc (.map #[] 0)) w.heap.size 0 []:=
 ⟨_,World.ownsMap_made w P k _,isMap_empty,fun s=>by simp [DataW.atKey,inL]⟩
theorem SetM.kept {w':World} {row:Option Nat} (h:SetM P k e w b n S) (hg:w.grownBy w' row) (hne:some b≠row):SetM P k e w' b n S:=by
 obtain ⟨D,h1,h2⟩:=h; exact ⟨D,h1.kept hg hne,h2⟩
theorem SetM.alloc (h:SetM P k e w b n S) (o:Obj):SetM P k e (w.alloc o) b n S:=by
 obtain ⟨D,h1,h2⟩:=h; exact ⟨D,h1.alloc o,h2⟩
theorem SetM.setCell (h:SetM P k e w b n S) {a:Addr} (ha:b≠a.block) (u:Value):SetM P k e (w.setCell a u) b n S:=by
 obtain ⟨D,h1,h2⟩:=h; exact ⟨D,h1.setCell ha u,h2⟩
theorem SetM.mono (h:SetM P k e w b n S) {n':Nat} (hn:n≤n'):SetM P k e w b n' S:=by
 obtain ⟨D,h1,h2⟩:=h; exact ⟨D,h1.mono hn,h2⟩
theorem SetM.lt (h:SetM P k e w b n S):b<w.heap.size:=by obtain ⟨D,h1,_⟩:=h; exact h1.lt
theorem Zqs {a b:Bool} (h:(DataW.lit (.bool a):DataW Unit)=.lit (.bool b)):a=b:=by simpa using h
theorem ZoE (he:P.underlying e=some .bool) {v:Value} {z:DataW Unit × List MemPlace} (h:plainElem P e v=some z):∃ c,v=.bool c∧z=(.lit (.bool c),[]):=by
 unfold plainElem at h
 rw [he] at h
 cases v <;> simp at h
 exact ⟨_,rfl,h.symm⟩
theorem Zf (w:World) {ops:Array Oper} {rest:List Oper} {o:Oper} {a:Act} {Q:Exit→Act→World→Prop}
 (hg:o.guard=none) (m x:Operand) (t:TypeId) (hop:o.op=Op.lookup t m x false)
 (k e:TypeId) (hk:P.underlying k=some .string) (ht:P.underlying t=some (.map k e)) (he:P.underlying e=some .bool) (hz:∀ w,(zeroValue e).run P w=.ok (.bool false) w) (b n:Nat) (S:List ByteArray)
 (hm:a.eval m=.map (some b)) (hown:SetM P k e w b n S) (s:ByteArray) (hx:a.eval x=.string s) (hs:s.size≤maxLen) (c:Bool) (hc:inL S s=c)
 (hK:wpList P ops Q rest (a.put o.dst (.bool c)) w):
 wpList P ops Q (o::rest) a w:=by
 refine wpList_plain hg fun K' hK'=>?_
 subst hc
 obtain ⟨D,h1,h2,h3⟩:=hown
 obtain ⟨v,ps,hrun,hv⟩:=h1.lookup (string_keyed hk) ht (hz w) (plainElem_bool he false) (keyOf_string_mk hk hs)
 obtain ⟨c,rfl,hc⟩:=ZoE he hv
 simp only [Prod.mk.injEq] at hc
 have hcc:c=inL S s:=Zqs (hc.1.symm.trans (h3 s))
 subst hcc
 unfold Oper.wp
 simp [execOp,hop,hm,hx,hrun,Result.andThen]
 exact hK' _ _ hK
theorem ZC (w:World) {ops:Array Oper} {rest:List Oper} {o:Oper} {a:Act} {Q:Exit→Act→World→Prop}
 (hg:o.guard=none) (m x v:Operand) (t:TypeId) (hop:o.op=Op.mapUpdate t m x v)
 (k e:TypeId) (hk:P.underlying k=some .string) (ht:P.underlying t=some (.map k e)) (he:P.underlying e=some .bool) (b n:Nat) (S:List ByteArray)
 (hm:a.eval m=.map (some b)) (hown:SetM P k e w b n S) (hn:n<maxLen) (s:ByteArray) (hx:a.eval x=.string s) (hv:a.eval v=.bool true) (hs:s.size≤maxLen)
 (hK:∀ w',SetM P k e w' b (n+1) (S++[s])→w.grownBy w' (some b)→wpList P ops Q rest (a.put o.dst undef) w'):
 wpList P ops Q (o::rest) a w:=by
 refine wpList_plain hg fun K' hK'=>?_
 obtain ⟨D,h1,h2,h3⟩:=hown
 obtain ⟨w',hrun,r1,r2⟩:=h1.update (string_keyed hk) ht hn (keyOf_string_mk hk hs) (plainElem_bool (H:=Unit) he true)
 unfold Oper.wp
 simp [execOp,hop,hm,hx,hv,hrun,Result.andThen]
 refine hK' _ _ (hK w' ⟨_,r1,h2.put _ _,fun s'=>?_⟩ r2)
 by_cases e:s'=s
 ·subst e
  rw [atKey_put_same h2 (by simp [WideAt.IsKeyLit])]
  rw [ZlA]; simp
 ·rw [atKey_put_other (by intro h; simp at h; exact e (by obtain ⟨⟨x⟩⟩:=s'; obtain ⟨⟨y⟩⟩:=s; simpa using h)),h3 s',ZlA,decide_eq_false (fun h=>e h.symm),Bool.or_false]
end
end Go.Proofs.YtmcdjilbkmhfoaaGreat
namespace Go.Proofs
open Go.Shelf
def Tryz.lays192_ren:Go.Shelf.Ren:=⟨fun | 192=>206 | 190=>246 | 125=>271 | 258=>270 | 128=>283 | 129=>284 | 302=>274 | 303=>275 | 304=>276 | 305=>277 | 306=>278 | 307=>279 | 308=>280 | 309=>281 | 310=>282 | 333=>287 | 329=>288 | 330=>289 | 334=>290 | 335=>291 | 336=>292 | 344=>293 | n=>n,fun | 31=>81 | 0=>0 | 9=>9 | 3=>3 | 46=>230 | 51=>271 | 53=>273 | 4=>4 | 183=>263 | 182=>262 | 131=>268 | 5=>5 | 218=>274 | 222=>278 | 228=>280 | 229=>281 | n=>n,fun | n=>n⟩
theorem Tryz.lays192:Go.Proofs.Lays.n192 Tryz.prog Tryz.lays192_ren:={
 mixed:=by kernel_rfl
 f125:=Tryz.func271.trans (congrArg some (by kernel_rfl))
 f128:=Tryz.func283.trans (congrArg some (by kernel_rfl))
 f129:=Tryz.func284.trans (congrArg some (by kernel_rfl))
 f190:=Tryz.func246.trans (congrArg some (by kernel_rfl))
 f192:=Tryz.func206.trans (congrArg some (by kernel_rfl))
 f258:=Tryz.func270.trans (congrArg some (by kernel_rfl))
 f302:=Tryz.func274.trans (congrArg some (by kernel_rfl))
 f303:=Tryz.func275.trans (congrArg some (by kernel_rfl))
 f304:=Tryz.func276.trans (congrArg some (by kernel_rfl))
 f305:=Tryz.func277.trans (congrArg some (by kernel_rfl))
 f306:=Tryz.func278.trans (congrArg some (by kernel_rfl))
 f307:=Tryz.func279.trans (congrArg some (by kernel_rfl))
 f308:=Tryz.func280.trans (congrArg some (by kernel_rfl))
 f309:=Tryz.func281.trans (congrArg some (by kernel_rfl))
 f310:=Tryz.func282.trans (congrArg some (by kernel_rfl))
 f329:=Tryz.func288.trans (congrArg some (by kernel_rfl))
 f330:=Tryz.func289.trans (congrArg some (by kernel_rfl))
 f333:=Tryz.func287.trans (congrArg some (by kernel_rfl))
 f334:=Tryz.func290.trans (congrArg some (by kernel_rfl))
 f335:=Tryz.func291.trans (congrArg some (by kernel_rfl))
 f336:=Tryz.func292.trans (congrArg some (by kernel_rfl))
 f344:=Tryz.func293.trans (congrArg some (by kernel_rfl))
 t0:=Tryz.underlying0
 a0:=Tryz.isAgg0
 z0:=Tryz.sizeOf0
 v0:=Tryz.zeroValue0
 t3:=Tryz.underlying3
 a3:=Tryz.isAgg3
 z3:=Tryz.sizeOf3
 v3:=Tryz.zeroValue3
 t4:=Tryz.underlying4
 a4:=Tryz.isAgg4
 z4:=Tryz.sizeOf4
 v4:=Tryz.zeroValue4
 t5:=Tryz.underlying5
 a5:=Tryz.isAgg5
 z5:=Tryz.sizeOf5
 v5:=Tryz.zeroValue5
 t9:=Tryz.underlying9
 a9:=Tryz.isAgg9
 z9:=Tryz.sizeOf9
 v9:=Tryz.zeroValue9
 t31:=Tryz.underlying81
 a31:=Tryz.isAgg81
 z31:=Tryz.sizeOf81
 v31:=Tryz.zeroValue81
 t46:=Tryz.underlying230
 a46:=Tryz.isAgg230
 z46:=Tryz.sizeOf230
 v46:=Tryz.zeroValue230
 t51:=Tryz.underlying271
 a51:=Tryz.isAgg271
 z51:=Tryz.sizeOf271
 v51:=Tryz.zeroValue271
 t53:=Tryz.underlying273
 a53:=Tryz.isAgg273
 z53:=Tryz.sizeOf273
 v53:=Tryz.zeroValue273
 t131:=Tryz.underlying268
 a131:=Tryz.isAgg268
 z131:=Tryz.sizeOf268
 v131:=Tryz.zeroValue268
 t182:=Tryz.underlying262
 a182:=Tryz.isAgg262
 z182:=Tryz.sizeOf262
 v182:=Tryz.zeroValue262
 t183:=Tryz.underlying263
 a183:=Tryz.isAgg263
 z183:=Tryz.sizeOf263
 v183:=Tryz.zeroValue263
 t218:=Tryz.underlying274
 a218:=Tryz.isAgg274
 z218:=Tryz.sizeOf274
 v218:=Tryz.zeroValue274
 t222:=Tryz.underlying278
 a222:=Tryz.isAgg278
 z222:=Tryz.sizeOf278
 v222:=Tryz.zeroValue278
 t228:=Tryz.underlying280
 a228:=Tryz.isAgg280
 z228:=Tryz.sizeOf280
 v228:=Tryz.zeroValue280
 t229:=Tryz.underlying281
 a229:=Tryz.isAgg281
 z229:=Tryz.sizeOf281
 v229:=Tryz.zeroValue281 }
open Go.Sort Go.RowKit in
theorem Tryz.sort_Strings (blk off cap:Nat) (ss:List (List UInt8)) (w:World) (hH:Holds encStr w blk off ss.toArray) (hblk:blk<w.heap.size) (hsz:ss.length<4611686018427387904):
 Calls Tryz.prog 206 #[.slice (some ⟨blk,off,none⟩) ss.length cap] w fun e w'=>
  e=.returned (.tuple #[])∧∃ n os,w'=grow (putRow encStr (Sort.ahead w n) blk off (ss.mergeSort fun x y=>decide (x≤y)).toArray) os:=Any.sort_Strings Tryz.lays192 blk off cap ss w hH hblk hsz
def Tryz.laysGt8_ren:Go.Shelf.Ren:=⟨fun | 8=>200 | 13=>239 | 14=>240 | 16=>242 | 15=>241 | 29=>268 | 30=>269 | 42=>273 | 49=>286 | n=>n,fun | 20=>20 | 26=>206 | 36=>239 | 0=>0 | 38=>241 | 42=>245 | 3=>3 | 4=>4 | 47=>230 | 17=>17 | 33=>236 | 34=>237 | 89=>296 | 12=>12 | 56=>271 | 82=>289 | 5=>5 | 83=>290 | 84=>291 | 85=>292 | 86=>293 | 87=>294 | n=>n,fun | n=>n⟩
theorem Tryz.laysGt8:Go.Proofs.LaysGt.n8 Tryz.prog Tryz.laysGt8_ren:={
 mixed:=by kernel_rfl
 f8:=Tryz.func200.trans (congrArg some (by kernel_rfl))
 f13:=Tryz.func239.trans (congrArg some (by kernel_rfl))
 f14:=Tryz.func240.trans (congrArg some (by kernel_rfl))
 f15:=Tryz.func241.trans (congrArg some (by kernel_rfl))
 f16:=Tryz.func242.trans (congrArg some (by kernel_rfl))
 f29:=Tryz.func268.trans (congrArg some (by kernel_rfl))
 f30:=Tryz.func269.trans (congrArg some (by kernel_rfl))
 f42:=Tryz.func273.trans (congrArg some (by kernel_rfl))
 f49:=Tryz.func286.trans (congrArg some (by kernel_rfl))
 t0:=Tryz.underlying0
 a0:=Tryz.isAgg0
 z0:=Tryz.sizeOf0
 v0:=Tryz.zeroValue0
 i0:=by kernel_rfl
 t3:=Tryz.underlying3
 a3:=Tryz.isAgg3
 z3:=Tryz.sizeOf3
 v3:=Tryz.zeroValue3
 i3:=by kernel_rfl
 t4:=Tryz.underlying4
 a4:=Tryz.isAgg4
 z4:=Tryz.sizeOf4
 v4:=Tryz.zeroValue4
 i4:=by kernel_rfl
 t5:=Tryz.underlying5
 a5:=Tryz.isAgg5
 z5:=Tryz.sizeOf5
 v5:=Tryz.zeroValue5
 i5:=by kernel_rfl
 t12:=Tryz.underlying12
 a12:=Tryz.isAgg12
 z12:=Tryz.sizeOf12
 v12:=Tryz.zeroValue12
 i12:=by kernel_rfl
 t17:=Tryz.underlying17
 a17:=Tryz.isAgg17
 z17:=Tryz.sizeOf17
 v17:=Tryz.zeroValue17
 i17:=by kernel_rfl
 t20:=Tryz.underlying20
 a20:=Tryz.isAgg20
 z20:=Tryz.sizeOf20
 v20:=Tryz.zeroValue20
 i20:=by kernel_rfl
 t26:=Tryz.underlying206
 a26:=Tryz.isAgg206
 z26:=Tryz.sizeOf206
 v26:=Tryz.zeroValue206
 i26:=by kernel_rfl
 t33:=Tryz.underlying236
 a33:=Tryz.isAgg236
 z33:=Tryz.sizeOf236
 v33:=Tryz.zeroValue236
 i33:=by kernel_rfl
 t34:=Tryz.underlying237
 a34:=Tryz.isAgg237
 z34:=Tryz.sizeOf237
 v34:=Tryz.zeroValue237
 i34:=by kernel_rfl
 t36:=Tryz.underlying239
 a36:=Tryz.isAgg239
 z36:=Tryz.sizeOf239
 v36:=Tryz.zeroValue239
 i36:=by kernel_rfl
 t38:=Tryz.underlying241
 a38:=Tryz.isAgg241
 z38:=Tryz.sizeOf241
 v38:=Tryz.zeroValue241
 i38:=by kernel_rfl
 t42:=Tryz.underlying245
 a42:=Tryz.isAgg245
 z42:=Tryz.sizeOf245
 v42:=Tryz.zeroValue245
 i42:=by kernel_rfl
 t47:=Tryz.underlying230
 a47:=Tryz.isAgg230
 z47:=Tryz.sizeOf230
 v47:=Tryz.zeroValue230
 i47:=by kernel_rfl
 t56:=Tryz.underlying271
 a56:=Tryz.isAgg271
 z56:=Tryz.sizeOf271
 v56:=Tryz.zeroValue271
 i56:=by kernel_rfl
 t82:=Tryz.underlying289
 a82:=Tryz.isAgg289
 z82:=Tryz.sizeOf289
 v82:=Tryz.zeroValue289
 i82:=by kernel_rfl
 t83:=Tryz.underlying290
 a83:=Tryz.isAgg290
 z83:=Tryz.sizeOf290
 v83:=Tryz.zeroValue290
 i83:=by kernel_rfl
 t84:=Tryz.underlying291
 a84:=Tryz.isAgg291
 z84:=Tryz.sizeOf291
 v84:=Tryz.zeroValue291
 i84:=by kernel_rfl
 t85:=Tryz.underlying292
 a85:=Tryz.isAgg292
 z85:=Tryz.sizeOf292
 v85:=Tryz.zeroValue292
 i85:=by kernel_rfl
 t86:=Tryz.underlying293
 a86:=Tryz.isAgg293
 z86:=Tryz.sizeOf293
 v86:=Tryz.zeroValue293
 i86:=by kernel_rfl
 t87:=Tryz.underlying294
 a87:=Tryz.isAgg294
 z87:=Tryz.sizeOf294
 v87:=Tryz.zeroValue294
 i87:=by kernel_rfl
 t89:=Tryz.underlying296
 a89:=Tryz.isAgg296
 z89:=Tryz.sizeOf296
 v89:=Tryz.zeroValue296
 i89:=by kernel_rfl }
end Go.Proofs
namespace Go.Proofs.YtmcdjilbkmhfoaaGreat
set_option maxRecDepth 10000
open Go.RowKit
set_option linter.unusedVariables false
set_option linter.unusedSimpArgs false
def srtS (xs:List ByteArray):List ByteArray:=((xs.map fun b:ByteArray=>b.data.toList).mergeSort fun x y=>decide (x≤y)).map fun l=>⟨l.toArray⟩
theorem Zl3 (xs:List ByteArray):(srtS xs).length=xs.length:=by simp [srtS]
end Go.Proofs.YtmcdjilbkmhfoaaGreat
